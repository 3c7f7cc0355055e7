/- TX: a range over a function: from frame to frame, in the machine. -/
import Derived.Test.YtmekflfjaflmkaaHTxc
import Derived.RangeFuncRecord
import Derived.RangeFuncIn
import Derived.RangeFuncLeaves
import Derived.Test.YtmekflfjaflmkaaProg
import Derived.Below
import Derived.Shelf.RegionOpenPlain
import Derived.Test.YtmekflfjaflmkaaHTxa
set_option linter.unusedSimpArgs false
set_option linter.unusedVariables false
set_option linter.unusedSectionVars false
open Option.some renaming injEq → Q0
open Option renaming bind_eq_some_iff → Q1, map_eq_some_iff → Q2, getD_some → Qp, isSome_iff_exists → Xp, isSome_none → XA
open Prod.mk renaming injEq → Q3
open List renaming getElem?_eq_some_iff → Q4, length_append → Q5, getElem?_append_left → Q7, mem_cons → Q8, replicate → Q9, mem_map → Qb, getElem?_append_right → Qd, mem_append → Qe, getElem?_drop → Qf, getElem?_take → Qj, map_cons → Qk, length_take → Qn, mem_of_getElem? → Qq, mem_of_mem_take → Qr, getElem?_set_ne → Qs, length_cons → Qt, size_toArray → Qv, getElem?_set_self → Qw, getElem?_set → Qy, take_append_drop → Qz, length_map → QA, mem_iff_getElem? → QB, replicate_succ → QC, mem_filter → QE, mem_singleton → QH, range → QJ, getElem?_eq_getElem → QK, getElem?_take_of_lt → QM, getElem?_cons_zero → QN, ext_getElem? → QP, mem_or_eq_of_mem_set → QQ, nodup_cons → QU, flatten_cons → QX, zipWith_append → QY, take_of_length_le → X1, map_congr_left → X2, not_mem_nil → X3, eq_nil_of_length_eq_zero → X4, getElem_mem → X5, all_cons → X6, length_eq_zero_iff → X7, getElem?_append → X8, getElem?_eq_none → X9, map_append → Xb, nodup_append → Xc, map_nil → Xd, take_append_of_le_length → Xe, mem_range → Xf, zipWith_cons_cons → Xg, getElem?_map → Xh, getElem?_zipWith → Xj, length_drop → Xk, mem_of_mem_drop → Xn, filter_cons → Xq, filter_eq_self → Xr, flatten_append → Xt, length_zipWith → Xu, length_nil → Xv, mem_cons_self → Xw, append_assoc → Xx, set_append_right → Xz, range_succ → XE, take_zero → XF
open Bool renaming and_eq_true → Q6, false_eq_true → Qh, not_eq_true' → QV, not_eq_true → Xs
open Nat renaming le_refl → Qa, add_assoc → Qg, zero_add → Qm, add_mul → Qu, mul_le_mul → QD, add_zero → QL, one_mul → QS, min_eq_left → QW, add_right_cancel_iff → Xy, le_succ_of_le → XC
open Array renaming toList_filter → QZ, length_toList → X0, getElem?_eq_some_iff → Xa
open Int renaming toNat_natCast → XD
namespace Go.Sx
variable {P:Program}
end Go.Sx
namespace Go.Sx
open Go.RowKit
variable {P:Program}
def d7m(E E':Nat->Prop)(w w':World):Prop:=∀i,E' i->(E i\/w.heap.size<=i)/\∃o,w'.heap[i]?=some o
def d5c(E:Nat->Prop)(w w':World):Prop:=w.heap.size<=w'.heap.size/\∀i,E i->w'.heap[i]?=w.heap[i]?
structure Yielder (P:Program)(L:Nat)(ys:List (List Value))(s:Hp)(J:Nat->(Nat->Prop)->World->Prop):Prop where
 sub:∀k E w,J k E w->Sub s w
 stab:∀k E E' w w',J k E w->Grows E w w'->d7m E E' w w'->J k E' w'
 call:∀k E w args,ys[k]?=some args->J k E w->∃r:Loop,w.heap[L]?=some (.loop r)/\args.length=r.params.size /\
  a4F P (r.fn,some L) (fun e w'=>d5c E w w'/\e=.returned (.bool true)/\J (k+1) E w')
   [.code r.assign,.beginRound,.code r.body] {tmps:=(r.params.zip args.toArray).foldl (fun tmps (t,a)=>tmps.setIfInBounds t a) r.tmps,defers:=[]} w
def yv(L:Nat):Value:=.func (.yield L) #[] #[]
abbrev Inv:=List Int->List Bool->List Value->MS->Hp->Prop
section
variable (P)(f:FuncId)(Q:Value->Hp->MS->Prop)(body:Code)(w0:World)(s0:Hp)(m0:MS)(Ds:List Nat)
abbrev d7t (g:Cfg)(ρ:Env)(s:Hp):Prop:=b6b P (f,none) (Ret Q s0 m0 w0) body w0 s0 (Xm (a0V m0) Ds) g ρ s
end
section
variable {c:Ctx}{f:FuncId}{fn:FnC}{Q:Value->Hp->MS->Prop}{w0:World}{s0:Hp}{m0:MS}{Ds:List Nat}
end
end Go.Sx
namespace Go.Sx
open Go.RowKit
variable {P:Program}
def d6U(w:World)(B:Nat):World:={w with heap:=w.heap.extract 0 B}
def d7j(ρ:Env)(β:Nat->Nat)(H:List Blk):Nat->Prop:=fun i=>∃k b,H[k]?=some b/\act ρ b/\β k=i
def XB(w:World)(B:Nat)(E:Nat->Prop):Fx:={K:=fun x=>B<=x.1/\¬E x.1/\w.heap[x.1]?=some x.2,sz:=w.heap.size}
structure RelI (s:Hp)(B:Nat)(ρ:Env)(β:Nat->Nat)(g:Cfg)(a:Act)(w:World):Prop where
 sz:B<=w.heap.size
 lo:∀b o u,s b o=some u->b<B
 m:ρ.m=[]
 k:ρ.k=0
 rel:Rel (d6U w B) s (XB w B (d7j ρ β g.H)) ρ s β g a w
section
variable (P:Program)(F:FuncId)(body:Code)(s:Hp)(B:Nat)(R:Ending->World->Prop)
end
section
variable {c:Ctx}{F:FuncId}{fn:FnC}{s:Hp}{B:Nat}{R:Ending->World->Prop}{J:(Nat->Prop)->World->Prop}{Q:Value->Hp->MS->Prop}
end
section
variable {P:Program}{F:FuncId}{fn:FnC}{s:Hp}{B:Nat}{R:Ending->World->Prop}
end
end Go.Sx
namespace Go.Sx
open Go.RowKit
def QF(σ0:List MO)(m0:MS)(r:PV)(σ:List MO):Value->Hp->MS->Prop:=fun v s m=>Le2 σ0 m0 σ m/\Rep s (inf σ m) r v/\a0D s (inf σ m) σ m/\Coh σ m
def CtP(P:Program)(f:Nat)(F:List PV->List MO->Option (PV×List MO)):Prop :=
 ∀ayq σ r σ',F ayq σ=some (r,σ')->(∀args w,(callFunc f args).run P w=.ok (.enter f args) w) /\
  ∀s m vs,a0D s (inf σ m) σ m->Coh σ m->Reps s (inf σ m) ayq vs->Ct P f vs s m (QF σ m r σ')
structure At (e:Env)(ni nb nv:Nat)(is:List Int)(bs:List Bool)(vs:List Value):Prop where
 i:∀j z,is[j]?=some z->e.i[ni+j]?=some z
 b:∀j z,bs[j]?=some z->e.b[nb+j]?=some z
 v:∀j z,vs[j]?=some z->e.v[nv+j]?=some z
theorem At.push{ρ:Env}{ni nb nv:Nat}(h1:ρ.i.length=ni)(h2:ρ.b.length=nb)(h3:ρ.v.length=nv)(is:List Int)(bs:List Bool)(vs:List Value):At (ρ.push is bs vs) ni nb nv is bs vs:=by
 subst h1 h2 h3;refine⟨fun j z h=>?_,fun j z h=>?_,fun j z h=>?_⟩<;>simp only[Env.push]<;>rw[Qd (by omega)]<;>simpa using h
theorem At.split{e:Env}{ni nb nv:Nat}{is is':List Int}{bs bs':List Bool}{vs vs':List Value}(h:At e ni nb nv (is++is') (bs++bs') (vs++vs')) :
  At e ni nb nv is bs vs/\At e (ni+is.length) (nb+bs.length) (nv+vs.length) is' bs' vs':=by
 refine⟨⟨fun j z k=>h.i j z ?_,fun j z k=>h.b j z ?_,fun j z k=>h.v j z ?_⟩,⟨fun j z k=>?_,fun j z k=>?_,fun j z k=>?_⟩⟩
 ·rw[Q7 (Q4.1 k).1];exact k
 ·rw[Q7 (Q4.1 k).1];exact k
 ·rw[Q7 (Q4.1 k).1];exact k
 ·rw[Qg];exact h.i _ z (by rw[Qd (by omega)];simpa using k)
 ·rw[Qg];exact h.b _ z (by rw[Qd (by omega)];simpa using k)
 ·rw[Qg];exact h.v _ z (by rw[Qd (by omega)];simpa using k)
theorem c0e{α:Type}{l:List α}{n:Nat}{d z:α}(h:l[n]?=some z):l.getD n d=z:=by simp[List.getD_eq_getElem?_getD,h]
abbrev a9f (s:Hp)(B:Inf)(r:List Int×List Bool×List PV)(vvs:List Value):Prop:=Reps s B r.2.2 vvs/\∀p∈r.2.2,p.one=true
theorem a9f.fine{s:Hp}{B:Inf}{r:List Int×List Bool×List PV}{vvs:List Value}(h:a9f s B r vvs):vvs.all a3B=true:=by
 rw[List.all_eq_true];intro x hx;obtain⟨i,hi⟩:=QB.1 hx;have hl:=h.1.length;have hlt:=(Q4.1 hi).1;obtain⟨v,h1,h2⟩:=h.1.get (QK (l:=r.2.2) (i:=i) (by omega));rw[hi] at h1;simp only[Q0] at h1;subst h1;exact h2.fine (h.2 _ (X5 _))
section
variable {s:Hp}{B:Inf}
theorem a8V:∀(ks:List Kd) (l:List PV) {r} (xs:List Value),a0c ks l=some r->Reps s B l xs->∃vvs,a9f s B r vvs/\∀ni nb nv,
  (a0M ks ni nb nv).2=(ni+r.1.length,nb+r.2.1.length,nv+vvs.length)/\∀(e:Env) (β:Nat->Nat),At e ni nb nv r.1 r.2.1 vvs->SV.dens e β (a0M ks ni nb nv).1=xs
 | [],[],r,xs,h,k=>by
  simp only[a0c,Q0] at h;subst h;simp only[Reps] at k;subst k;exact⟨[],⟨rfl,by simp⟩,fun ni nb nv=>⟨by simp[a0M],fun e β _=>rfl⟩⟩
 | .int kd::ks,p::l,r,xs,h,k=>by
  cases p<;>simp only[a0c,reduceCtorEq] at h
  rename_i kd' z;split at h
  case isFalse=>cases h
  rename_i hk;subst hk;simp only[Q2] at h;obtain⟨r',h1,rfl⟩:=h;simp only[Reps] at k;obtain⟨v,xs',rfl,hv,k⟩:=k;simp only[Rep] at hv;subst hv;obtain⟨vvs,b1,b2⟩:=a8V ks l xs' h1 k;refine⟨vvs,b1,fun ni nb nv=>?_⟩;obtain⟨c1,c2⟩:=b2 (ni+1) nb nv;refine⟨by simp only[a0M,c1,Qt];congr 1;omega,fun e β ha=>?_⟩;simp only[a0M,SV.dens,SV.den,IE.den];have h0:=ha.i 0 z rfl;rw[QL] at h0;rw[c0e h0,c2 e β ⟨fun j y hj=>by have:=ha.i (j+1) y (by simpa using hj);rw[show ni+(j+1)=ni+1+j by omega] at this;exact this,ha.b,ha.v⟩]
 | .bool::ks,p::l,r,xs,h,k=>by
  cases p<;>simp only[a0c,reduceCtorEq] at h
  rename_i z;simp only[Q2] at h;obtain⟨r',h1,rfl⟩:=h;simp only[Reps] at k;obtain⟨v,xs',rfl,hv,k⟩:=k;simp only[Rep] at hv;subst hv;obtain⟨vvs,b1,b2⟩:=a8V ks l xs' h1 k;refine⟨vvs,b1,fun ni nb nv=>?_⟩;obtain⟨c1,c2⟩:=b2 ni (nb+1) nv;refine⟨by simp only[a0M,c1,Qt,Q3,true_and,and_true];omega,fun e β ha=>?_⟩;simp only[a0M,SV.dens,SV.den,BE.den];have h0:=ha.b 0 z rfl;rw[QL] at h0;rw[c0e h0,c2 e β ⟨ha.i,fun j y hj=>by have:=ha.b (j+1) y (by simpa using hj);rw[show nb+(j+1)=nb+1+j by omega] at this;exact this,ha.v⟩]
 | .val::ks,p::l,r,xs,h,k=>by
  simp only[a0c] at h;split at h
  case isFalse=>cases h
  rename_i hone;simp only[Q2] at h;obtain⟨r',h1,rfl⟩:=h;simp only[Reps] at k;obtain⟨v,xs',rfl,hv,k⟩:=k;obtain⟨vvs,b1,b2⟩:=a8V ks l xs' h1 k;refine⟨v::vvs,⟨⟨v,vvs,rfl,hv,b1.1⟩,fun q hq=>?_⟩,fun ni nb nv=>?_⟩
  ·rcases Q8.1 hq with rfl|hq
   ·exact hone
   ·exact b1.2 q hq
  obtain⟨c1,c2⟩:=b2 ni nb (nv+1);refine⟨by simp only[a0M,c1,Qt,Q3,true_and];omega,fun e β ha=>?_⟩;simp only[a0M,SV.dens,SV.den];have h0:=ha.v 0 v rfl;rw[QL] at h0;rw[c0e h0,c2 e β ⟨ha.i,ha.b,fun j y hj=>by have:=ha.v (j+1) y (by simpa using hj);rw[show nv+(j+1)=nv+1+j by omega] at this;exact this⟩]
 | [],_::_,r,xs,h,_=>by simp[a0c] at h
 | .int _::_,[],r,xs,h,_=>by simp[a0c] at h
 | .bool::_,[],r,xs,h,_=>by simp[a0c] at h
 | .val::_,[],r,xs,h,_=>by simp[a0c] at h
theorem b8f{sh:Sh}{p:PV} {r}{x:Value}(h:a0g sh p=some r)(k:Rep s B p x):∃vvs,a9f s B r vvs/\∀ni nb nv,
  (a0X [sh] ni nb nv).2=(ni+r.1.length,nb+r.2.1.length,nv+vvs.length)/\∀(e:Env) (β:Nat->Nat),At e ni nb nv r.1 r.2.1 vvs->SV.dens e β (a0X [sh] ni nb nv).1=[x]:=by
 cases sh with
 | one kd =>
  simp only[a0g] at h;obtain⟨vvs,b1,b2⟩:=a8V [kd] [p] [x] h ⟨x,[],rfl,k,rfl⟩;refine⟨vvs,b1,fun ni nb nv=>?_⟩;obtain⟨c1,c2⟩:=b2 ni nb nv;refine⟨by simp only[a0X];exact c1,fun e β ha=>?_⟩;simp only[a0X,List.append_nil];exact c2 e β ha
 | agg ks =>
  cases p<;>simp only[a0g,reduceCtorEq] at h
  rename_i l;simp only[Rep] at k;obtain⟨xs,rfl,k⟩:=k;obtain⟨vvs,b1,b2⟩:=a8V ks l xs h k;refine⟨vvs,b1,fun ni nb nv=>?_⟩;obtain⟨c1,c2⟩:=b2 ni nb nv;refine⟨by simp only[a0X];exact c1,fun e β ha=>?_⟩;simp only[a0X,SV.dens,SV.den,c2 e β ha]
theorem c6U(sh:Sh)(shs:List Sh)(a b c:Nat):a0X (sh::shs) a b c =
  ((a0X [sh] a b c).1++(a0X shs (a0X [sh] a b c).2.1 (a0X [sh] a b c).2.2.1 (a0X [sh] a b c).2.2.2).1,(a0X shs (a0X [sh] a b c).2.1 (a0X [sh] a b c).2.2.1 (a0X [sh] a b c).2.2.2).2):=by
 cases sh<;>simp[a0X]
theorem c6w(e:Env)(β:Nat->Nat)(l m:List SV):SV.dens e β (l++m)=SV.dens e β l++SV.dens e β m:=by simp[SV.dens_map]
theorem a9f.append{r r':List Int×List Bool×List PV}{v v':List Value}(h:a9f s B r v)(h':a9f s B r' v'):a9f s B (r.1++r'.1,r.2.1++r'.2.1,r.2.2++r'.2.2) (v++v') :=
 ⟨h.1.append h'.1,fun p hp=>(Qe.1 hp).elim (h.2 p) (h'.2 p)⟩
theorem b9h:∀(shs:List Sh) (l:List PV) {r} (xs:List Value),a1h shs l=some r->Reps s B l xs->∃vvs,a9f s B r vvs/\∀ni nb nv,
  (a0X shs ni nb nv).2=(ni+r.1.length,nb+r.2.1.length,nv+vvs.length)/\∀(e:Env) (β:Nat->Nat),At e ni nb nv r.1 r.2.1 vvs->SV.dens e β (a0X shs ni nb nv).1=xs
 | [],[],r,xs,h,k=>by
  simp only[a1h,Q0] at h;subst h;simp only[Reps] at k;subst k;exact⟨[],⟨rfl,by simp⟩,fun ni nb nv=>⟨by simp[a0X],fun e β _=>rfl⟩⟩
 | sh::shs,p::l,r,xs,h,k=>by
  simp only[a1h,Q1,Q2] at h;obtain⟨a,h1,r',h2,rfl⟩:=h;simp only[Reps] at k;obtain⟨x,xs',rfl,k1,k2⟩:=k;obtain⟨v1,b1,b2⟩:=b8f h1 k1;obtain⟨v2,d1,d2⟩:=b9h shs l xs' h2 k2;refine⟨v1++v2,b1.append d1,fun ni nb nv=>?_⟩;obtain⟨c1,c2⟩:=b2 ni nb nv;obtain⟨e1,e2⟩:=d2 (ni+a.1.length) (nb+a.2.1.length) (nv+v1.length);rw[c6U];simp only[c1,Q5];refine⟨by rw[e1];simp only[Qg],fun e β ha=>?_⟩;obtain⟨ha1,ha2⟩:=ha.split;rw[c6w,c2 e β ha1,e2 e β ha2];rfl
 | [],_::_,r,xs,h,_=>by simp[a1h] at h
 | _::_,[],r,xs,h,_=>by simp[a1h] at h
theorem b9K{shs:List Sh}{l:List PV} {r}{x:Value}(hne:∀sh,shs≠[sh])(h:a1h shs l=some r)(k:Rep s B (.tup l) x):∃vvs,a9f s B r vvs/\∀ni nb nv,
  (a0X shs ni nb nv).2=(ni+r.1.length,nb+r.2.1.length,nv+vvs.length)/\∀(e:Env) (β:Nat->Nat),At e ni nb nv r.1 r.2.1 vvs->(a1N (a0X shs ni nb nv).1).den e β=x:=by
 simp only[Rep] at k;obtain⟨xs,rfl,k⟩:=k;obtain⟨vvs,b1,b2⟩:=b9h shs l xs h k;refine⟨vvs,b1,fun ni nb nv=>?_⟩;obtain⟨c1,c2⟩:=b2 ni nb nv;refine⟨c1,fun e β ha=>?_⟩;have:=c2 e β ha
 have hlen:(a0X shs ni nb nv).1.length≠1:=by
  intro hl;have hl2:=congrArg List.length this;rw[a0I,k.length,hl] at hl2
  match shs,l,h,hl2 with
  | [],[p],h,_=>simp[a1h] at h
  | [sh],[p],h,_=>exact hne sh rfl
  | sh1::sh2::shs,[p],h,_=>simp[a1h] at h
 generalize (a0X shs ni nb nv).1=L at this hlen ⊢
 match L,hlen with
 | [],_=>simp[a1N,SV.den,<- this]
 | [y],hl=>exact absurd rfl hl
 | y1::y2::L,_=>simp[a1N,SV.den,<- this]
theorem b4d{shs:List Sh}{p:PV} {r}{x:Value}(h:a0l shs p=some r)(k:Rep s B p x):∃vvs,a9f s B r vvs/\∀ni nb nv,
  (a0X shs ni nb nv).2=(ni+r.1.length,nb+r.2.1.length,nv+vvs.length)/\∀(e:Env) (β:Nat->Nat),At e ni nb nv r.1 r.2.1 vvs->(a1N (a0X shs ni nb nv).1).den e β=x:=by
 match shs,h with
 | [sh],h =>
  obtain⟨vvs,b1,b2⟩:=b8f h k;refine⟨vvs,b1,fun ni nb nv=>?_⟩;obtain⟨c1,c2⟩:=b2 ni nb nv;refine⟨c1,fun e β ha=>?_⟩;have:=c2 e β ha;generalize (a0X [sh] ni nb nv).1=L at this ⊢
  match L,this with
  | [y],this=>simpa[a1N,SV.dens] using this
  | [],this=>simp[SV.dens] at this
  | y1::y2::L,this=>simp[SV.dens] at this
 | [],h =>
  cases p<;>simp only[a0l,reduceCtorEq] at h
  exact b9K (by simp) h k
 | sh1::sh2::shs,h =>
  cases p<;>simp only[a0l,reduceCtorEq] at h
  exact b9K (by simp) h k
theorem b5E:∀(shs:List PSh) (l:List PV) {r} (xs:List Value),a0f shs l=some r->Reps s B l xs->∃vvs,a9f s B r vvs/\∀ni nb nv,
  (b0V shs ni nb nv).2=(ni+r.1.length,nb+r.2.1.length,nv+vvs.length)/\∀(e:Env) (β:Nat->Nat),At e ni nb nv r.1 r.2.1 vvs->SV.dens e β (b0V shs ni nb nv).1=xs
 | [],[],r,xs,h,k=>by
  simp only[a0f,Q0] at h;subst h;simp only[Reps] at k;subst k;exact⟨[],⟨rfl,by simp⟩,fun ni nb nv=>⟨by simp[b0V],fun e β _=>rfl⟩⟩
 | .sh sh::shs,p::l,r,xs,h,k=>by
  simp only[a0f,Q1,Q2] at h;obtain⟨a,h1,r',h2,rfl⟩:=h;simp only[Reps] at k;obtain⟨x,xs',rfl,k1,k2⟩:=k;obtain⟨v1,b1,b2⟩:=b8f h1 k1;obtain⟨v2,d1,d2⟩:=b5E shs l xs' h2 k2;refine⟨v1++v2,b1.append d1,fun ni nb nv=>?_⟩;obtain⟨c1,c2⟩:=b2 ni nb nv;obtain⟨e1,e2⟩:=d2 (ni+a.1.length) (nb+a.2.1.length) (nv+v1.length);simp only[b0V,c1,Q5];refine⟨by rw[e1];simp only[Qg],fun e β ha=>?_⟩;obtain⟨ha1,ha2⟩:=ha.split;rw[c6w,c2 e β ha1,e2 e β ha2];rfl
 | .ptr::shs,p::l,r,xs,h,k=>by
  simp only[a0f] at h;split at h
  case isFalse=>cases h
  rename_i hp;simp only[Q2] at h;obtain⟨r',h2,rfl⟩:=h;simp only[Reps] at k;obtain⟨x,xs',rfl,k1,k2⟩:=k;obtain⟨v2,d1,d2⟩:=b5E shs l xs' h2 k2
  have hx:∃b o,x=.pointer (some ⟨b,o,none⟩):=by
   cases p<;>simp only[PV.isPtr,Qh] at hp<;>simp only[Rep] at k1
   ·obtain⟨b,base,_,h,_⟩:=k1;exact⟨_,_,h⟩
   ·obtain⟨b,_,_,h⟩:=k1;exact⟨_,_,h⟩
   ·obtain⟨_,b,h,_⟩:=k1;exact⟨_,_,h⟩
  have hone:p.one=true:=by cases p<;>first|rfl|(simp[PV.isPtr] at hp)
  refine⟨x::v2,⟨⟨x,v2,rfl,k1,d1.1⟩,fun q hq=>?_⟩,fun ni nb nv=>?_⟩
  ·rcases Q8.1 hq with rfl|hq
   ·exact hone
   ·exact d1.2 q hq
  obtain⟨e1,e2⟩:=d2 ni nb (nv+1);simp only[b0V,Qt];refine⟨by rw[e1];simp only[Q3,true_and];omega,fun e β ha=>?_⟩;have h0:=ha.v 0 x rfl;rw[QL] at h0;rw[SV.dens,e2 e β ⟨ha.i,ha.b,fun j y hj=>by have:=ha.v (j+1) y (by simpa using hj);rw[show nv+(j+1)=nv+1+j by omega] at this;exact this⟩];obtain⟨b,o,rfl⟩:=hx;simp only[SV.den,c0e h0,a1A,Qp,a5w,QL]
 | [],_::_,r,xs,h,_=>by simp[a0f] at h
 | .sh _::_,[],r,xs,h,_=>by simp[a0f] at h
 | .ptr::_,[],r,xs,h,_=>by simp[a0f] at h
end
section
variable {s:Hp}{ρp:PEnv}{ρ:Env}
theorem EnvRep.push(h:EnvRep s ρp ρ){r:List Int×List Bool×List PV}{vvs:List Value}(hb:a9f s (inf ρp.m ρ.m) r vvs):EnvRep s (ρp.push r) (ρ.push r.1 r.2.1 vvs) :=
 ⟨by simp[PEnv.push,Env.push,h.i],by simp[PEnv.push,Env.push,h.b],h.v.append hb.1,h.m,h.k,fun p hp=>(Qe.1 hp).elim (h.one p) (hb.2 p),h.coh⟩
theorem EnvRep.turn(h:EnvRep s ρp ρ){t:Hp}(hst:s.le t){m':MS}{σ:List MO}(hpre:Le2 ρp.m ρ.m σ m')(hm:a0D t (inf σ m') σ m')(hc:Coh σ m'):EnvRep t {ρp with m:=σ} {ρ with m:=m'} :=
 ⟨h.i,h.b,Reps.mono hst hpre.ble _ _ h.v,hm,h.k,h.one,hc⟩
theorem c7H(h:EnvRep s ρp ρ){a:SV}{hd len i sz off:Nat}(hl:a0p ρp a=some (.elt hd len i sz off)){b n0:Nat}(hB:(inf ρp.m ρ.m)[hd]?=some (b,n0,len)):a1A (a.den ρ id)=some ⟨b,i*sz+off,none⟩/\i<len:=by
 cases a<;>simp only[a0p,reduceCtorEq,Q1] at hl
 case ea q i' size off' =>
  obtain⟨p,h1,h2⟩:=hl;obtain⟨v,_,h3,h4⟩:=h.get h1;cases p<;>simp only[a3E,reduceCtorEq] at h2
  case sl=>split at h2<;>simp at h2
  case msl=>split at h2<;>simp at h2
  case rsl hh len' sz' =>
   split at h2
   case isFalse=>cases h2
   rename_i hc;simp only[Q0,Loc.elt.injEq] at h2;obtain⟨rfl,rfl,rfl,rfl,rfl⟩:=h2;obtain⟨c1,c2,rfl⟩:=hc;simp only[Rep] at h4;obtain⟨_,b',cap,rfl,b2,n2,r2,k1,_,k2⟩:=h4;rw[hB] at k1;simp only[Q0,Q3] at k1;obtain⟨rfl,rfl,rfl⟩:=k1;obtain⟨rfl,_⟩:=k2 rfl;refine⟨?_,by omega⟩;simp only[SV.den,h3,a1A,Qp,IE.pe_den h,a5w,Qm]
  case rpl hh len' r' sz' =>
   split at h2
   case isFalse=>cases h2
   rename_i hc;simp only[Q0,Loc.elt.injEq] at h2;obtain⟨rfl,rfl,rfl,rfl,rfl⟩:=h2;obtain⟨c1,c2,c3,rfl⟩:=hc;simp only[Rep] at h4;obtain⟨_,_,b',cap,rfl,b2,n2,r2,k1,_,k2⟩:=h4;rw[hB] at k1;simp only[Q0,Q3] at k1;obtain⟨rfl,rfl,rfl⟩:=k1;obtain⟨rfl,_⟩:=k2 rfl;refine⟨?_,by omega⟩;simp only[SV.den,h3,a1A,Qp,IE.pe_den h,a5w,Qm]
 case pa q off' =>
  obtain⟨p,h1,h2⟩:=hl;obtain⟨v,_,h3,h4⟩:=h.get h1;cases p<;>simp only[a1k,reduceCtorEq,Q0,Loc.elt.injEq] at h2
  case eref hh r0 i0 sz0 o0 =>
   obtain⟨rfl,rfl,rfl,rfl,rfl⟩:=h2;simp only[Rep] at h4;obtain⟨hi,b',rfl,b2,n2,r2,k1,_,k2⟩:=h4;rw[hB] at k1;simp only[Q0,Q3] at k1;obtain⟨rfl,rfl,rfl⟩:=k1;obtain rfl:=k2 rfl;refine⟨?_,hi⟩;simp only[SV.den,h3,a1A,Qp,a5w,Qg]
theorem d0m(h:EnvRep s ρp ρ){a:SV}{l:Loc}(hl:a0p ρp a=some l){fl:Bool}{n:Nat}{x:List PV}(hx:a0a ρp fl n l=some x) :
  x.length=n/\∃vals,c5s s (if fl then [] else ρ.m) (a.den ρ id) vals/\Reps s (inf ρp.m ρ.m) x vals:=by
 have tk:∀{l:List PV},a0P n l=some x->x=l.take n/\x.length=n:=by
  intro l h;simp only[a0P] at h;split at h
  ·simp only[Q0] at h;subst h
   exact⟨rfl,by simp;omega⟩
  ·cases h
 cases l with
 | row l off =>
  simp only[a0a] at hx;obtain⟨rfl,hn⟩:=tk hx;refine⟨hn,?_⟩;cases a<;>simp only[a0p,reduceCtorEq,Q1] at hl
  case ea q i size off' =>
   obtain⟨p,h1,h2⟩:=hl;obtain⟨v,_,h3,h4⟩:=h.get h1;cases p<;>simp only[a3E,reduceCtorEq] at h2
   case sl sz rows =>
    split at h2
    case isFalse=>cases h2
    rename_i hc;obtain⟨rfl,hi0⟩:=hc;simp only[Q2,Loc.row.injEq] at h2;obtain⟨r,hr,rfl,rfl⟩:=h2;simp only[Rep] at h4;obtain⟨xs,⟨hsz,a,cap,rfl,_,hcell⟩,hrs,_⟩:=h4;obtain⟨xv,g1,g2⟩:=hrs.get hr;obtain⟨b,o,rfl,hc⟩:=hcell (by intro h0;subst h0;simp at g1);refine⟨(xv.drop off').take n,⟨b,o+(i.pe ρp).toNat*sz+off',?_,.inl fun j u hj=>?_⟩,(g2.drop off').take n⟩
    ·simp only[SV.den,h3,a1A,Qp,IE.pe_den h,a5w]
    ·have hj':xv[off'+j]?=some u:=by
      rw[Qj] at hj;split at hj
      ·rw[Qf] at hj;exact hj
      ·cases hj
     have:=hc _ xv g1 (off'+j) u hj';rw[show o+(i.pe ρp).toNat*sz+(off'+j)=o+(i.pe ρp).toNat*sz+off'+j by omega] at this;exact this
   case msl=>split at h2<;>simp at h2
   case rsl=>split at h2<;>simp at h2
   case rpl=>split at h2<;>simp at h2
  case pa q off' =>
   obtain⟨p,h1,h2⟩:=hl;obtain⟨v,_,h3,h4⟩:=h.get h1;cases p<;>simp only[a1k,reduceCtorEq,Q0,Loc.row.injEq] at h2
   case cell l' o =>
    obtain⟨rfl,rfl⟩:=h2;simp only[Rep] at h4;obtain⟨b,base,vs,rfl,g1,g2⟩:=h4;refine⟨(vs.drop (o+off')).take n,⟨b,base+(o+off'),?_,.inl fun j u hj=>?_⟩,(g1.drop _).take n⟩
    ·simp only[SV.den,h3,a1A,Qp,a5w,Qg]
    ·rw[Qj] at hj
     split at hj
     ·rw[Qf] at hj
      have:=g2 _ u hj;rw[<- Qg] at this;exact this
     ·cases hj
 | obj hd off =>
  simp only[a0a] at hx;cases fl with
  | true=>simp at hx
  | false =>
  simp only[Qh,if_false,Q1] at hx ⊢;obtain⟨o,ho,l,hol,hx⟩:=hx;cases o<;>simp only[MO.list,reduceCtorEq,Q0] at hol
  rename_i l' T;subst hol;obtain⟨b,vs,g1,g2⟩:=h.m.get ho;obtain⟨rfl,hn⟩:=tk hx;have hB:=a1r ho g1;simp only[a1l] at hB
  have key:a1A (a.den ρ id)=some ⟨b,off,none⟩:=by
   cases a<;>simp only[a0p,reduceCtorEq,Q1] at hl
   case ea q i size off' =>
    obtain⟨p,h1,h2⟩:=hl;obtain⟨v,_,h3,h4⟩:=h.get h1;cases p<;>simp only[a3E,reduceCtorEq] at h2
    case sl=>split at h2<;>simp at h2
    case rsl=>split at h2<;>simp at h2
    case rpl=>split at h2<;>simp at h2
    case msl hh o len cap sz =>
     split at h2
     case isFalse=>cases h2
     simp only[Q0,Loc.obj.injEq] at h2;obtain⟨rfl,rfl⟩:=h2;simp only[Rep] at h4;obtain⟨b',n',k1,rfl⟩:=h4;rw[hB] at k1;simp only[Q0,Q3] at k1;obtain⟨rfl,_⟩:=k1;simp only[SV.den,h3,a1A,Qp,IE.pe_den h,a5w,Qg]
   case pa q off' =>
    obtain⟨p,h1,h2⟩:=hl;obtain⟨v,_,h3,h4⟩:=h.get h1;cases p<;>simp only[a1k,reduceCtorEq,Q0,Loc.obj.injEq] at h2
    case ref hh o =>
     obtain⟨rfl,rfl⟩:=h2;simp only[Rep] at h4;obtain⟨b',n',k1,rfl⟩:=h4;rw[hB] at k1;simp only[Q0,Q3] at k1;obtain⟨rfl,_⟩:=k1;simp only[SV.den,h3,a1A,Qp,a5w]
  refine⟨hn,(vs.drop off).take n,⟨b,off,key,.inr ⟨vs.toArray,T,(0,0),Qq g1,fun j u hj=>?_⟩⟩,(g2.drop off).take n⟩;rw[Qj] at hj;split at hj
  ·rw[Qf] at hj
   simpa using hj
  ·cases hj
 | elt hd len i sz off =>
  simp only[a0a] at hx;cases fl with
  | true=>simp at hx
  | false =>
  simp only[Qh,if_false,Q1] at hx ⊢;obtain⟨o,ho,rows,hrows,r,hr,hx⟩:=hx;cases o<;>simp only[MO.elts,reduceCtorEq] at hrows
  rename_i rows' sz' T;split at hrows
  case isFalse=>cases hrows
  rename_i hc;obtain⟨hc1,hc2⟩:=hc;simp only[Q0] at hrows;subst hrows;subst hc2;obtain⟨⟨b,ob⟩,g1,cur,g2,a1,a2,a3,a4,xs,a5,a6,a7⟩:=h.m.obj ho;simp only at g2;subst g2;have hB:=a1r ho g1;simp only[a1l,a2X,hc1] at hB;obtain⟨rfl,hn⟩:=tk hx;obtain⟨hadr,hi⟩:=c7H h hl hB;obtain⟨xv,g3,g4⟩:=a5.get hr;refine⟨hn,(xv.drop off).take n,⟨b,i*sz'+off,hadr,.inr ⟨cur,T,(0,0),Qq g1,fun j u hj=>?_⟩⟩,(g4.drop off).take n⟩;rw[Qj] at hj;split at hj
  ·rw[Qf] at hj
   have:=a7 _ u (a7A sz' xs a6 i xv (off+j) u g3 hj);rw[<- Qg] at this;exact this
  ·cases hj
theorem d2L(h:EnvRep s ρp ρ){a:SV}{hd off b n0:Nat}(hl:a0p ρp a=some (.obj hd off))(hB:(inf ρp.m ρ.m)[hd]?=some (b,n0,0)):a1A (a.den ρ id)=some ⟨b,off,none⟩:=by
 cases a<;>simp only[a0p,reduceCtorEq,Q1] at hl
 case ea q i size off' =>
  obtain⟨p,h1,h2⟩:=hl;obtain⟨v,_,h3,h4⟩:=h.get h1;cases p<;>simp only[a3E,reduceCtorEq] at h2
  case sl=>split at h2<;>simp at h2
  case rsl=>split at h2<;>simp at h2
  case rpl=>split at h2<;>simp at h2
  case msl hh o len cap sz =>
   split at h2
   case isFalse=>cases h2
   simp only[Q0,Loc.obj.injEq] at h2;obtain⟨rfl,rfl⟩:=h2;simp only[Rep] at h4;obtain⟨b',n',k1,rfl⟩:=h4;rw[hB] at k1;simp only[Q0,Q3] at k1;obtain⟨rfl,_⟩:=k1;simp only[SV.den,h3,a1A,Qp,IE.pe_den h,a5w,Qg]
 case pa q off' =>
  obtain⟨p,h1,h2⟩:=hl;obtain⟨v,_,h3,h4⟩:=h.get h1;cases p<;>simp only[a1k,reduceCtorEq,Q0,Loc.obj.injEq] at h2
  case ref hh o =>
   obtain⟨rfl,rfl⟩:=h2;simp only[Rep] at h4;obtain⟨b',n',k1,rfl⟩:=h4;rw[hB] at k1;simp only[Q0,Q3] at k1;obtain⟨rfl,_⟩:=k1;simp only[SV.den,h3,a1A,Qp,a5w]
theorem a9S{B:Inf}{p:PV}{v:Value}{size:Nat}{rows:List (List PV)}(h:Rep s B p v)(hr:p.rowsOf size=some rows):∃xs,a1u s size v xs/\a0B s B rows xs/\∀r∈rows,∀p∈r,p.one=true:=by
 cases p<;>simp only[PV.rowsOf,reduceCtorEq,Q0] at hr
 case nilS =>
  subst hr;simp only[Rep] at h;subst h;exact⟨[],⟨by simp,none,0,rfl,Qa _,by simp⟩,rfl,by simp⟩
 case sl n rows =>
  split at hr
  ·rename_i hn
   simp only[Q0] at hr;subst hr hn;simpa only[Rep] using h
  ·cases hr
end
section
variable {s:Hp}{B:Inf}{k:Nat}
theorem a6R{i:Nat}{b:Nat×Nat×Nat}(h:B[i]?=some b)(hi:i<k):(B.take k)[i]?=some b:=by rw[QM hi];exact h
mutual
theorem PV.low_rep:∀(p:PV) (v:Value),Rep s B p v->p.low k=true->Rep s (B.take k) p v
 | .int ..,v,h,_=>h
 | .bool ..,v,h,_=>h
 | .str ..,v,h,_=>h
 | .undef,v,h,_=>h
 | .nilS,v,h,_=>h
 | .nilF,v,h,_=>h
 | .nilP,v,h,_=>h
 | .nilI,v,h,_=>h
 | .nilM,v,h,_=>h
 | .sl n rows,v,h,hl=>by
  simp only[Rep,PV.low] at h hl ⊢;obtain⟨xs,h1,h2,h3⟩:=h;exact⟨xs,h1,PV.lowss_rep rows xs h2 hl,h3⟩
 | .cell l off,v,h,hl=>by
  simp only[Rep,PV.low] at h hl ⊢;obtain⟨b,base,vs,h1,h2,h3⟩:=h;exact⟨b,base,vs,h1,PV.lows_rep l vs h2 hl,h3⟩
 | .ref i off,v,h,hl=>by
  simp only[Rep,PV.low,decide_eq_true_eq] at h hl ⊢;obtain⟨b,n,h1,h2⟩:=h;exact⟨b,n,a6R h1 hl,h2⟩
 | .mp i,v,h,hl=>by
  simp only[Rep,PV.low,decide_eq_true_eq] at h hl ⊢;obtain⟨b,n,h1,h2⟩:=h;exact⟨b,n,a6R h1 hl,h2⟩
 | .msl i off len cap _,v,h,hl=>by
  simp only[Rep,PV.low,decide_eq_true_eq] at h hl ⊢;obtain⟨b,n,h1,h2⟩:=h;exact⟨b,n,a6R h1 hl,h2⟩
 | .rsl i len sz,v,h,hl=>by
  simp only[Rep,PV.low,decide_eq_true_eq] at h hl ⊢;obtain⟨h0,b,cap,h1,b',n,r,h2,h3,h4⟩:=h;exact⟨h0,b,cap,h1,b',n,r,a6R h2 hl,h3,h4⟩
 | .rpl i len r0 sz,v,h,hl=>by
  simp only[Rep,PV.low,decide_eq_true_eq] at h hl ⊢;obtain⟨h0,hlr,b,cap,h1,b',n,r,h2,h3,h4⟩:=h;exact⟨h0,hlr,b,cap,h1,b',n,r,a6R h2 hl,h3,h4⟩
 | .eref i r0 j sz off,v,h,hl=>by
  simp only[Rep,PV.low,decide_eq_true_eq] at h hl ⊢;obtain⟨h0,b,h1,b',n,r,h2,h3,h4⟩:=h;exact⟨h0,b,h1,b',n,r,a6R h2 hl,h3,h4⟩
 | .fn f l,v,h,hl=>by
  simp only[Rep,PV.low] at h hl ⊢;obtain⟨vs,h1,h2⟩:=h;exact⟨vs,h1,PV.lows_rep l vs h2 hl⟩
 | .agg l,v,h,hl=>by
  simp only[Rep,PV.low] at h hl ⊢;obtain⟨vs,h1,h2⟩:=h;exact⟨vs,h1,PV.lows_rep l vs h2 hl⟩
 | .tup l,v,h,hl=>by
  simp only[Rep,PV.low] at h hl ⊢;obtain⟨vs,h1,h2⟩:=h;exact⟨vs,h1,PV.lows_rep l vs h2 hl⟩
theorem PV.lows_rep:∀(l:List PV) (v:List Value),Reps s B l v->PV.lows k l=true->Reps s (B.take k) l v
 | [],v,h,_=>h
 | p::l,v,h,hl=>by
  simp only[PV.lows,Q6] at hl;simp only[Reps] at h ⊢;obtain⟨x,r,h1,h2,h3⟩:=h;exact⟨x,r,h1,PV.low_rep p x h2 hl.1,PV.lows_rep l r h3 hl.2⟩
theorem PV.lowss_rep:∀(l:List (List PV)) (v:List (List Value)),a0B s B l v->PV.lowss k l=true->a0B s (B.take k) l v
 | [],v,h,_=>h
 | p::l,v,h,hl=>by
  simp only[PV.lowss,Q6] at hl;simp only[a0B] at h ⊢;obtain⟨x,r,h1,h2,h3⟩:=h;exact⟨x,r,h1,PV.lows_rep p x h2 hl.1,PV.lowss_rep l r h3 hl.2⟩
end
theorem MO.low_obj{o:MO}{x:Nat×Obj}(h:a3k s B o x)(hl:o.low k=true):a3k s (B.take k) o x:=by
 cases o with
 | cells l T=>obtain⟨vs,h1,h2⟩:=h;exact⟨vs,h1,PV.lows_rep l vs h2 hl⟩
 | row rows sz T=>obtain⟨cur,h1,a1,a2,a3,a4,xs,a5,a6,a7⟩:=h;exact⟨cur,h1,a1,a2,a3,a4,xs,PV.lowss_rep rows xs a5 hl,a6,a7⟩
 | mp ks vs K=>obtain⟨es,clock,vv,h1,h2,h3⟩:=h;exact⟨es,clock,vv,h1,h2,PV.lows_rep vs vv h3 hl⟩
 | mq kv ver=>exact h
 | it hd ver seen=>simp[MO.low] at hl
 | dead=>exact h
theorem MO.low_rep:∀(σ:List MO) (m:MS),a0D s B σ m->σ.all (MO.low k)=true->a0D s (B.take k) σ m
 | [],m,h,_=>h
 | o::σ,m,h,hl=>by
  simp only[X6,Q6] at hl;obtain⟨x,r,rfl,h1,h2⟩:=a2q.1 h;exact a2q.2 ⟨x,r,rfl,MO.low_obj h1 hl.1,MO.low_rep σ r h2 hl.2⟩
theorem c4T{sz b:Nat}:∀(n:Nat) (l:List PV) (vs:List Value) (o:Nat) {rows},a4V sz n l=some rows->Reps s B l vs->(∀j u,vs[j]?=some u->s b (o+j)=some u) ->
  ∃xs,xs.length=n/\(∀x∈xs,x.length=sz)/\a0B s B rows xs/\(∀r∈rows,∀p∈r,p.one=true)/\∀i x,xs[i]?=some x->∀j u,x[j]?=some u->s b (o+i*sz+j)=some u
 | 0,l,vs,o,rows,h,_,_=>by
  simp only[a4V,Q0] at h;subst h;exact⟨[],rfl,by simp,rfl,by simp,by simp⟩
 | n+1,l,vs,o,rows,h,hr,hc=>by
  simp only[a4V] at h;split at h
  case isFalse=>cases h
  rename_i hcond;simp only[Q2] at h;obtain⟨rows',h1,rfl⟩:=h
  obtain⟨xs,e1,e2,e3,e4,e5⟩:=c4T n (l.drop sz) (vs.drop sz) (o+sz) h1 (hr.drop sz) (fun j u hj=>by
   rw[Qf] at hj;have:=hc _ u hj
   rw[<- Qg] at this;exact this)
  have hlen:sz<=vs.length:=by rw[hr.length];exact hcond.1
  refine⟨vs.take sz::xs,by simp[e1],fun x hx=>?_,⟨_,_,rfl,hr.take sz,e3⟩,fun r hr'=>?_,fun i x hi j u hj=>?_⟩
  ·rcases Q8.1 hx with rfl|hx
   ·simp;omega
   ·exact e2 x hx
  ·rcases Q8.1 hr' with rfl|hr'
   ·exact fun p hp=>List.all_eq_true.1 hcond.2 p hp
   ·exact e4 r hr'
  ·cases i with
   | zero =>
    simp only[QN,Q0] at hi;subst hi;rw[Qj] at hj;split at hj
    ·simpa using hc j u hj
    ·cases hj
   | succ i =>
    have:=e5 i x (by simpa using hi) j u hj;rw[show o+(i+1)*sz+j=o+sz+i*sz+j by rw[Qu];omega];exact this
def b5W(s:Hp)(B:Inf)(k:Nat)(look:Nat->Option MO):Prop:=∀h o,k<=h->look h=some o->match o with
 | .cells l _=>∃b n vs,B[h]?=some (b,n,0)/\Reps s (B.take k) l vs/\∀o u,vs[o]?=some u->s b o=some u
 | .row rows sz _=>∃b n xs,B[h]?=some (b,n,rows.length)/\a0B s (B.take k) rows xs/\(∀r∈rows,∀p∈r,p.one=true)/\(∀x∈xs,x.length=sz)/\∀o u,xs.flatten[o]?=some u->s b o=some u
 | .mp ..|.mq ..|.it ..|.dead=>False
mutual
theorem PV.frz_rep{look:Nat->Option MO}(hk:b5W s B k look):∀(p:PV) (v:Value) {q:PV},Rep s B p v->p.frz k look=some q->Rep s (B.take k) q v
 | .int ..,v,q,h,hq=>by simp only[PV.frz,Q0] at hq;subst hq;exact h
 | .bool ..,v,q,h,hq=>by simp only[PV.frz,Q0] at hq;subst hq;exact h
 | .str ..,v,q,h,hq=>by simp only[PV.frz,Q0] at hq;subst hq;exact h
 | .undef,v,q,h,hq=>by simp only[PV.frz,Q0] at hq;subst hq;exact h
 | .nilS,v,q,h,hq=>by simp only[PV.frz,Q0] at hq;subst hq;exact h
 | .nilF,v,q,h,hq=>by simp only[PV.frz,Q0] at hq;subst hq;exact h
 | .nilP,v,q,h,hq=>by simp only[PV.frz,Q0] at hq;subst hq;exact h
 | .nilI,v,q,h,hq=>by simp only[PV.frz,Q0] at hq;subst hq;exact h
 | .nilM,v,q,h,hq=>by simp only[PV.frz,Q0] at hq;subst hq;exact h
 | .sl n rows,v,q,h,hq=>by
  simp only[PV.frz] at hq;split at hq
  ·rename_i hl
   simp only[Q0] at hq;subst hq;exact PV.low_rep _ _ h (by simpa[PV.low] using hl)
  ·rw[Q2] at hq
   obtain⟨rows',h1,rfl⟩:=hq;simp only[Rep] at h ⊢;obtain⟨xs,h2,h3,h4⟩:=h;obtain⟨e1,e2,_⟩:=PV.frzss_rep hk rows xs h3 h1;exact⟨xs,h2,e1,e2⟩
 | .cell l off,v,q,h,hq=>by
  simp only[PV.frz] at hq;split at hq
  ·rename_i hl
   simp only[Q0] at hq;subst hq;exact PV.low_rep _ _ h (by simpa[PV.low] using hl)
  ·cases hq
 | .mp i,v,q,h,hq=>by
  simp only[PV.frz] at hq;split at hq
  ·rename_i hl
   simp only[Q0] at hq;subst hq;exact PV.low_rep _ _ h (by simpa[PV.low] using hl)
  ·cases hq
 | .eref i r0 j sz off,v,q,h,hq=>by
  simp only[PV.frz] at hq;split at hq
  ·rename_i hl
   simp only[Q0] at hq;subst hq;exact PV.low_rep _ _ h (by simpa[PV.low] using hl)
  ·cases hq
 | .ref i off,v,q,h,hq=>by
  simp only[PV.frz] at hq;split at hq
  ·rename_i hl
   simp only[Q0] at hq;subst hq;exact PV.low_rep _ _ h (by simpa[PV.low] using hl)
  ·rename_i hl
   simp only[Q1,Q2] at hq;obtain⟨o,h1,l,hol,rfl⟩:=hq;cases o<;>simp only[MO.list,reduceCtorEq,Q0] at hol
   subst hol;obtain⟨b,n,vs,h2,h3,h4⟩:=hk i _ (by omega) h1;simp only[Rep] at h ⊢;obtain⟨b',n',h5,rfl⟩:=h;rw[h2] at h5;simp only[Q0,Q3] at h5;obtain⟨rfl,_⟩:=h5;exact⟨b,0,vs,by simp,h3,fun o u hu=>by simpa using h4 o u hu⟩
 | .rsl i len sz,v,q,h,hq=>by
  simp only[PV.frz] at hq;split at hq
  ·rename_i hl
   simp only[Q0] at hq;subst hq;exact PV.low_rep _ _ h (by simpa[PV.low] using hl)
  ·rename_i hl
   simp only[Q1,Q2] at hq;obtain⟨o,h1,rows,hol,rfl⟩:=hq;cases o<;>simp only[MO.elts,reduceCtorEq] at hol
   split at hol
   case isFalse=>cases hol
   rename_i hc;simp only[Q0] at hol;subst hol;obtain⟨hc1,rfl⟩:=hc;obtain⟨b,n,xs,h2,h3,h4,h5,h6⟩:=hk i _ (by omega) h1;simp only[Rep] at h ⊢;obtain⟨h0,b1,cap,rfl,b',n',r,h7,h8,h9⟩:=h;rw[h2] at h7;simp only[Q0,Q3] at h7;obtain⟨rfl,rfl,rfl⟩:=h7;obtain⟨rfl,_,hcap⟩:=h9 hc1;have hlx:=h3.length;refine⟨xs,⟨h5,some ⟨b,0,none⟩,cap,by rw[hlx,hc1],by rw[hlx,hc1];exact hcap,fun _=>⟨b,0,rfl,fun i x hi j u hj=>?_⟩⟩,h3,h4⟩;rw[Qm];exact h6 _ u (a7A _ xs h5 i x j u hi hj)
 | .rpl i len r0 sz,v,q,h,hq=>by
  simp only[PV.frz] at hq;split at hq
  ·rename_i hl
   simp only[Q0] at hq;subst hq;exact PV.low_rep _ _ h (by simpa[PV.low] using hl)
  ·rename_i hl
   simp only[Q1,Q2] at hq;obtain⟨o,h1,rows,hol,rfl⟩:=hq;cases o<;>simp only[MO.elts,reduceCtorEq] at hol
   split at hol
   case isFalse=>cases hol
   rename_i hc;simp only[Q0] at hol;subst hol;obtain⟨hc1,rfl⟩:=hc;obtain⟨b,n,xs,h2,h3,h4,h5,h6⟩:=hk i _ (by omega) h1;simp only[Rep] at h ⊢;obtain⟨h0,hlr,b1,cap,rfl,b',n',r,h7,h8,h9⟩:=h;rw[h2] at h7;simp only[Q0,Q3] at h7;obtain⟨rfl,rfl,rfl⟩:=h7;obtain⟨rfl,_,hcap⟩:=h9 hc1;have hlx:=h3.length;refine⟨xs.take len,⟨fun x hx=>h5 x (Qr hx),some ⟨b,0,none⟩,cap,by rw[Qn,hlx,hc1,QW hlr],by rw[Qn,hlx];omega,fun _=>⟨b,0,rfl,fun i x hi j u hj=>?_⟩⟩,h3.take len,fun r hr=>h4 r (Qr hr)⟩;rw[Qm]
   have hi':xs[i]?=some x:=by
    rw[Qj] at hi;split at hi
    ·exact hi
    ·cases hi
   exact h6 _ u (a7A _ xs h5 i x j u hi' hj)
 | .msl i off len cap sz,v,q,h,hq=>by
  simp only[PV.frz] at hq;split at hq
  ·rename_i hl
   simp only[Q0] at hq;subst hq;exact PV.low_rep _ _ h (by simpa[PV.low] using hl)
  ·rename_i hl
   simp only[Q1,Q2] at hq;obtain⟨o,h1,l,hol,rows,h0,rfl⟩:=hq;cases o<;>simp only[MO.list,reduceCtorEq,Q0] at hol
   subst hol;rename_i l T;split at h0
   case isFalse=>cases h0
   rename_i hcap;obtain⟨b,n,vs,h2,h3,h4⟩:=hk i _ (by omega) h1;simp only[Rep] at h ⊢;obtain⟨b',n',h5,rfl⟩:=h;rw[h2] at h5;simp only[Q0,Q3] at h5;obtain⟨rfl,_⟩:=h5;obtain⟨xs,e1,e2,e3,e4,e5⟩:=c4T (b:=b) len (l.drop off) (vs.drop off) off h0 (h3.drop off) (fun j u hj=>by rw[Qf] at hj;exact h4 _ u hj);exact⟨xs,⟨e2,some ⟨b,off,none⟩,cap,by rw[e1],by rw[e1];exact hcap,fun _=>⟨b,off,rfl,e5⟩⟩,e3,e4⟩
 | .fn f l,v,q,h,hq=>by
  simp only[PV.frz,Q2] at hq;obtain⟨l',h1,rfl⟩:=hq;simp only[Rep] at h ⊢;obtain⟨vs,h2,h3⟩:=h;exact⟨vs,h2,PV.frzs_rep hk l vs h3 h1⟩
 | .agg l,v,q,h,hq=>by
  simp only[PV.frz,Q2] at hq;obtain⟨l',h1,rfl⟩:=hq;simp only[Rep] at h ⊢;obtain⟨vs,h2,h3⟩:=h;exact⟨vs,h2,PV.frzs_rep hk l vs h3 h1⟩
 | .tup l,v,q,h,hq=>by
  simp only[PV.frz,Q2] at hq;obtain⟨l',h1,rfl⟩:=hq;simp only[Rep] at h ⊢;obtain⟨vs,h2,h3⟩:=h;exact⟨vs,h2,PV.frzs_rep hk l vs h3 h1⟩
theorem PV.frzs_rep{look:Nat->Option MO}(hk:b5W s B k look):∀(l:List PV) (v:List Value) {q:List PV},Reps s B l v->PV.frzs k look l=some q->Reps s (B.take k) q v
 | [],v,q,h,hq=>by simp only[PV.frzs,Q0] at hq;subst hq;exact h
 | p::l,v,q,h,hq=>by
  simp only[PV.frzs,Q1,Q2] at hq;obtain⟨p',h1,l',h2,rfl⟩:=hq;simp only[Reps] at h ⊢;obtain⟨x,r,h3,h4,h5⟩:=h;exact⟨x,r,h3,PV.frz_rep hk p x h4 h1,PV.frzs_rep hk l r h5 h2⟩
theorem PV.frzss_rep{look:Nat->Option MO}(hk:b5W s B k look):∀(l:List (List PV)) (v:List (List Value)) {q:List (List PV)},a0B s B l v->PV.frzss k look l=some q->a0B s (B.take k) q v/\(∀r∈q,∀p∈r,p.one=true)/\q.length=l.length
 | [],v,q,h,hq=>by simp only[PV.frzss,Q0] at hq;subst hq;exact⟨h,by simp,rfl⟩
 | p::l,v,q,h,hq=>by
  simp only[PV.frzss,Q1] at hq;obtain⟨p',h1,hq⟩:=hq;split at hq
  case isFalse=>cases hq
  rename_i hone;simp only[Q2] at hq;obtain⟨l',h2,rfl⟩:=hq;simp only[a0B] at h;obtain⟨x,r,rfl,h4,h5⟩:=h;obtain⟨e1,e2,e3⟩:=PV.frzss_rep hk l r h5 h2;refine⟨⟨x,r,rfl,PV.frzs_rep hk p x h4 h1,e1⟩,fun r' hr'=>?_,by simp[e3]⟩;rcases Q8.1 hr' with rfl|hr'
  ·exact fun p hp=>List.all_eq_true.1 hone p hp
  ·exact e2 r' hr'
end
end
theorem b7U{s:Hp}{ρp:PEnv}{ρ:Env}(h:EnvRep s ρp ρ)(ht:c8e (ρ.m.drop ρ.k) s):∀d,b5W s (inf ρp.m ρ.m) ρp.k (b1l ρp d)
 | 0,_,_,_,hl=>by simp only[b1l] at hl;cases hl
 | d+1,i,o,hi,hl=>by
  simp only[b1l,Q1] at hl;obtain⟨o',h1,h2⟩:=hl
  have told:∀{b:Nat} {cur:Array Value} {T:TypeId},ρ.m[i]?=some (b,.cells cur T (0,0))->∀o u,cur[o]?=some u->s b o=some u:=by
   intro b cur T g1 o u hu;refine ht (b,.cells cur T (0,0)) ?_ _ _ _ rfl o u hu;rw[QB];exact⟨i-ρ.k,by rw[Qf,show ρ.k+(i-ρ.k)=i by rw[h.k];omega];exact g1⟩
  cases o' with
  | cells l T =>
   simp only[Q2] at h2;obtain⟨l',h3,rfl⟩:=h2;obtain⟨b,vs,g1,g2⟩:=h.m.get h1;have hB:=a1r h1 g1;exact⟨b,_,vs,hB,PV.frzs_rep (b7U h ht d) l vs g2 h3,fun o u hu=>told g1 o u (by simpa using hu)⟩
  | row rows sz T =>
   simp only[Q2] at h2;obtain⟨rows',h3,rfl⟩:=h2;obtain⟨⟨b,ob⟩,g1,cur,g2,a1,a2,a3,a4,xs,a5,a6,a7⟩:=h.m.obj h1;simp only at g2;subst g2;have hB:=a1r h1 g1;obtain⟨e1,e2,e3⟩:=PV.frzss_rep (b7U h ht d) rows xs a5 h3;exact⟨b,_,xs,by rw[e3];exact hB,e1,e2,a6,fun o u hu=>told g1 o u (a7 o u hu)⟩
  | mp ks vs K=>simp at h2
  | mq kv ver=>simp at h2
  | it hd ver seen=>simp at h2
  | dead=>simp at h2
theorem MO.frzM_obj{s:Hp}{B:Inf}{k:Nat}{look:Nat->Option MO}(hk:b5W s B k look){o o':MO}{x:Nat×Obj}(h:a3k s B o x)(hf:o.frzM k look=some o') :
  a3k s (B.take k) o' x/\(∀y,a1l o' y=a1l o y)/\o'.isIt=false/\∀p:Prop,p->MO.Step o o' p:=by
 have other:∀{o:MO},(if o.low k then some o else none)=some o'->a3k s B o x->a3k s (B.take k) o' x/\(∀y,a1l o' y=a1l o y)/\o'.isIt=false/\∀p:Prop,p->MO.Step o o' p:=by
  intro o hf h;split at hf
  ·rename_i hl
   simp only[Q0] at hf;subst hf;exact⟨MO.low_obj h hl,fun _=>rfl,by cases o<;>first|rfl|simp[MO.low] at hl,fun p hp=>MO.Step.refl o hp⟩
  ·cases hf
 cases o with
 | cells l T =>
  simp only[MO.frzM,Q2] at hf;obtain⟨l',h1,rfl⟩:=hf;obtain⟨vs,h2,h3⟩:=h;exact⟨⟨vs,h2,PV.frzs_rep hk l vs h3 h1⟩,fun _=>rfl,rfl,fun _ _=>trivial⟩
 | row rows sz T =>
  simp only[MO.frzM,Q2] at hf;obtain⟨rows',h1,rfl⟩:=hf;obtain⟨cur,g2,a1,a2,⟨cap,a31,a32,a33⟩,a4,xs,a5,a6,a7⟩:=h;obtain⟨e1,e2,e3⟩:=PV.frzss_rep hk rows xs a5 h1;refine⟨⟨cur,g2,?_,a2,⟨cap,a31,by omega,a33⟩,e2,xs,e1,a6,a7⟩,fun y=>by simp only[a1l,e3],rfl,fun _ _=>trivial⟩;rintro rfl;exact a1 (X7.1 e3.symm)
 | mp ks vs K=>exact other hf h
 | mq kv ver=>exact other hf h
 | it hd ver seen=>exact other hf h
 | dead=>exact other hf h
theorem c4u{s:Hp}{B:Inf}{k:Nat}{look:Nat->Option MO}(hk:b5W s B k look):∀(σ:List MO) (m:MS) {σ':List MO},a0D s B σ m->c2t k look σ=some σ' ->
  a0D s (B.take k) σ' m/\inf σ' m=inf σ m/\(∀o∈σ',o.isIt=false)/\∀(i:Nat) o,σ[i]?=some o->∃o',σ'[i]?=some o'/\∀p:Prop,p->MO.Step o o' p
 | [],m,σ',h,hf=>by simp only[c2t,Q0] at hf;subst hf;exact⟨h,rfl,by simp,by simp⟩
 | o::σ,m,σ',h,hf=>by
  simp only[c2t,Q1,Q2] at hf;obtain⟨o',h1,σ2,h2,rfl⟩:=hf;obtain⟨x,r,rfl,h3,h4⟩:=a2q.1 h;obtain⟨e1,e2,e3,e4⟩:=MO.frzM_obj hk h3 h1;obtain⟨f1,f2,f3,f4⟩:=c4u hk σ r h4 h2;refine⟨a2q.2 ⟨x,r,rfl,e1,f1⟩,?_,fun q hq=>?_,fun i q hq=>?_⟩
  ·unfold inf at f2 ⊢
   rw[Xg,Xg,f2,e2]
  ·rcases Q8.1 hq with rfl|hq
   ·exact e3
   ·exact f3 q hq
  ·cases i with
   | zero=>simp only[QN,Q0] at hq;subst hq;exact⟨o',rfl,e4⟩
   | succ i=>simpa using f4 i q (by simpa using hq)
theorem VC.mono{P:Program}{Q Q':Value->Hp->MS->Prop}{T T':Cfg->Env->Hp->Prop}(hQ:∀v s m,Q v s m->Q' v s m)(hT:∀g ρ s,T g ρ s->T' g ρ s):∀(o:Out) (ρ:Env) (s:Hp),VC P Q T o ρ s->VC P Q' T' o ρ s
 | .ret ..,ρ,s,h=>fun β s' h1 h2 h3=>hQ _ _ _ (h β s' h1 h2 h3)
 | .ite c x y,ρ,s,h=>⟨fun hc=>VC.mono hQ hT x ρ s (h.1 hc),fun hc=>VC.mono hQ hT y ρ s (h.2 hc)⟩
 | .need c k,ρ,s,h=>⟨h.1,fun hc=>VC.mono hQ hT k ρ s (h.2 hc)⟩
 | .load _ _ _ _ _ _ k,ρ,s,h=>by
  obtain⟨is,bs,vs,h1,h2,h3,h4,h5,h6⟩:=h;exact⟨is,bs,vs,h1,h2,h3,h4,h5,VC.mono hQ hT k _ s h6⟩
 | .app _ _ _ _ k,ρ,s,h=>by
  obtain⟨xs,es,h1,h2,h3,h4,h5⟩:=h;exact⟨xs,es,h1,h2,h3,h4,fun v s' a b=>VC.mono hQ hT k _ _ (h5 v s' a b)⟩
 | .cut _ _ _ _ k,ρ,s,h=>by
  rcases h with ⟨xs,h1,h2,h3,h4,h5⟩|⟨b,o,len,cap,e,h1,h2,h3,h4,h5,h6,h7⟩
  ·exact .inl ⟨xs,h1,h2,h3,h4,fun v a=>VC.mono hQ hT k _ _ (h5 v a)⟩
  ·exact .inr ⟨b,o,len,cap,e,h1,h2,h3,h4,h5,h6,VC.mono hQ hT k _ _ h7⟩
 | .scut _ _ _ k,ρ,s,h=>by
  obtain⟨l,h1,h2,h3,h4,h5⟩:=h;exact⟨l,h1,h2,h3,h4,VC.mono hQ hT k _ _ h5⟩
 | .chk _ _ k,ρ,s,h=>⟨h.1,VC.mono hQ hT k _ s h.2⟩
 | .appF _ _ _ _ k,ρ,s,h=>by
  obtain⟨xs,es,h1,h2,h3,h4,h5,h6⟩:=h;exact⟨xs,es,h1,h2,h3,h4,h5,fun v s' a b=>VC.mono hQ hT k _ _ (h6 v s' a b)⟩
 | .hole _ _ _ k,ρ,s,h=>by
  obtain⟨xs,h1,h2,h3,h5⟩:=h;exact⟨xs,h1,h2,h3,fun v v' s' a b c=>VC.mono hQ hT k _ _ (h5 v v' s' a b c)⟩
 | .fill _ _ _ _ k,ρ,s,h=>by
  obtain⟨xs,h1,h2,h3,h5⟩:=h;exact⟨xs,h1,h2,h3,fun s' a b=>VC.mono hQ hT k _ _ (h5 s' a b)⟩
 | .call _ _ _ _ _ _ _ k,ρ,s,h=>fun β s1 a b=>by
  obtain⟨Qc,h1,h2⟩:=h β s1 a b;refine⟨Qc,h1,fun v s' m' a c=>?_⟩;obtain⟨is,bs,vs,e1,e2,e3,e4,e5,e6⟩:=h2 v s' m' a c;exact⟨is,bs,vs,e1,e2,e3,e4,e5,VC.mono hQ hT k _ _ e6⟩
 | .callv _ _ _ _ _ _ k,ρ,s,h=>by
  obtain⟨F,caps,Qc,h0,h1,h2,h3⟩:=h;refine⟨F,caps,Qc,h0,h1,h2,fun v s' m' a c=>?_⟩;obtain⟨is,bs,vs,e1,e2,e3,e4,e5,e6⟩:=h3 v s' m' a c;exact⟨is,bs,vs,e1,e2,e3,e4,e5,VC.mono hQ hT k _ _ e6⟩
 | .newM _ _ k,ρ,s,h=>fun b hb=>VC.mono hQ hT k _ _ (h b hb)
 | .mkM _ _ _ _ _ k,ρ,s,h=>by
  obtain⟨h1,h2,h3,h4⟩:=h;exact⟨h1,h2,h3,fun b hb=>VC.mono hQ hT k _ _ (h4 b hb)⟩
 | .appM _ _ _ _ _ k,ρ,s,h=>by
  obtain⟨i,xs,es,h1,h2,h3,h4,h5,h6,h7⟩:=h;exact⟨i,xs,es,h1,h2,h3,h4,h5,fun he=>VC.mono hQ hT k _ _ (h6 he),fun he b' cap' cur' e1 e2 e3 e4 e5=>VC.mono hQ hT k _ _ (h7 he b' cap' cur' e1 e2 e3 e4 e5)⟩
 | .storeM _ _ k,ρ,s,h=>by
  obtain⟨i,b,o,cur,T,h1,h2,h3,h4⟩:=h;exact⟨i,b,o,cur,T,h1,h2,h3,VC.mono hQ hT k _ _ h4⟩
 | .mkMap _ k,ρ,s,h=>fun b hb=>VC.mono hQ hT k _ _ (h b hb)
 | .mapGet _ _ _ _ _ _ _ _ _ k,ρ,s,h=>by
  obtain⟨i,b,es,clock,ks,l,h1,h2,h3,is,bs,vs,e1,e2,e3,e4,e5,e6⟩:=h;exact⟨i,b,es,clock,ks,l,h1,h2,h3,is,bs,vs,e1,e2,e3,e4,e5,VC.mono hQ hT k _ _ e6⟩
 | .mapSet _ _ _ _ k,ρ,s,h=>by
  obtain⟨i,b,es,clock,ks,l,h1,h2,h3,h4⟩:=h;exact⟨i,b,es,clock,ks,l,h1,h2,h3,fun es' clock' hm=>VC.mono hQ hT k _ _ (h4 es' clock' hm)⟩
 | .mapClr _ k,ρ,s,h=>by
  obtain⟨i,b,es,clock,h1,h2,h3⟩:=h;exact⟨i,b,es,clock,h1,h2,VC.mono hQ hT k _ _ h3⟩
 | .mkQ k,ρ,s,h=>fun b hb=>VC.mono hQ hT k _ _ (h b hb)
 | .qGet _ _ _ k,ρ,s,h=>by
  obtain⟨i,b,es,clock,kv,h1,h2,h3,h4,h5⟩:=h;exact⟨i,b,es,clock,kv,h1,h2,h3,h4,VC.mono hQ hT k _ _ h5⟩
 | .qSet _ _ _ k,ρ,s,h=>by
  obtain⟨i,b,es,clock,kv,h1,h2,h3,h4,h5,h6⟩:=h;exact⟨i,b,es,clock,kv,h1,h2,h3,h4,h5,fun es' c' a b=>VC.mono hQ hT k _ _ (h6 es' c' a b)⟩
 | .qDel _ _ k,ρ,s,h=>by
  obtain⟨i,b,es,clock,kv,h1,h2,h3,h4,h5,h6⟩:=h;exact⟨i,b,es,clock,kv,h1,h2,h3,h4,h5,fun es' c' a b=>VC.mono hQ hT k _ _ (h6 es' c' a b)⟩
 | .qLen _ k,ρ,s,h=>by
  obtain⟨i,b,es,clock,h1,h2,h3⟩:=h;exact⟨i,b,es,clock,h1,h2,VC.mono hQ hT k _ _ h3⟩
 | .rng _ k,ρ,s,h=>by
  obtain⟨i,b,es,clock,h1,h2,h3⟩:=h;exact⟨i,b,es,clock,h1,h2,fun b' hb'=>VC.mono hQ hT k _ _ (h3 b' hb')⟩
 | .next _ _ x y,ρ,s,h=>by
  obtain⟨i,b',j,b,since,c0,clock,seen,es,kv,h1,h2,h3,h4,h5,h6,h7,h8,h9⟩:=h;exact⟨i,b',j,b,since,c0,clock,seen,es,kv,h1,h2,h3,h4,h5,h6,h7,fun h0=>VC.mono hQ hT x _ _ (h8 h0),fun e he key v a b c=>VC.mono hQ hT y _ _ (h9 e he key v a b c)⟩
 | .entry _ _ k,ρ,s,h=>by
  obtain⟨i,b',j,b,since,clock,seen,es,e,key,v,h1,h2,h3,h4,h5,h6,h7,h8,h9⟩:=h;exact⟨i,b',j,b,since,clock,seen,es,e,key,v,h1,h2,h3,h4,h5,h6,h7,h8,VC.mono hQ hT k _ _ h9⟩
 | .copyM _ _ _ k,ρ,s,h=>by
  obtain⟨i,b,o,dl,dcap,sl,cap,a,cur,T,vals,h1,h2,h3,h4,h5,h6,h7,h8⟩:=h;exact⟨i,b,o,dl,dcap,sl,cap,a,cur,T,vals,h1,h2,h3,h4,h5,h6,h7,VC.mono hQ hT k _ _ h8⟩
 | .both x y,ρ,s,h=>⟨VC.mono hQ hT x ρ s h.1,VC.mono hQ hT y ρ s h.2⟩
 | .stop c,ρ,s,h=>hT _ _ _ h
 | .fail _,ρ,s,h=>h.elim
theorem d2y{α:Type}(z:List α)(N:Nat):∀i,i<N*z.length->((Q9 N z).flatten)[i]?=z[i % z.length]?:=by
 induction N with
 | zero=>intro i hi;simp at hi
 | succ N ih =>
  intro i hi;rw[QC,QX,X8];split
  ·rename_i h;rw[Nat.mod_eq_of_lt h]
  ·rename_i h
   rw[ih (i-z.length) (by rw[Qu] at hi;omega)]
   congr 1
   rw[<- Nat.mod_eq_sub_mod (by omega)]
theorem c6g(z:List Value)(N:Nat):madeCells z.toArray (N*z.length)=((Q9 N z).flatten).toArray:=by
 apply Array.ext';apply QP;intro i;simp only[madeCells,Array.toList_map,Xh,Qv];rcases Nat.lt_or_ge i (N*z.length) with h|h
 ·have hz:0<z.length:=by
   rcases Nat.eq_zero_or_pos z.length with h0|h0
   ·rw[h0] at h;simp at h
   ·exact h0
  have hm:=Nat.mod_lt i hz;rw[d2y z N i h];simp[h,hm]
 ·rw[X9 (l:=(Q9 N z).flatten) (by simp;exact h)]
  simp[h]
theorem c4C{s:Hp}{B:Inf}{z:List PV}{v:List Value}(h:Reps s B z v):∀N,Reps s B (Q9 N z).flatten (Q9 N v).flatten
 | 0=>rfl
 | N+1=>by simp only[QC,QX];exact h.append (c4C h N)
variable {P:Program}
def QR(σ0:List MO)(m0:MS)(R:Res->Prop):Value->Hp->MS->Prop:=fun v s m=>∃r σ,R (.ret r σ)/\QF σ0 m0 r σ v s m
def TR(σ0:List MO)(m0:MS)(pats:List Cfg)(R:Res->Prop):Cfg->Env->Hp->Prop:=fun g ρ s=>∃q A t ρp,R (.jump q ρp)/\Le2 σ0 m0 ρp.m ρ.m/\σ0.length<=ρp.k/\pats[q]?=some t/\b9G t=true/\fits ⟨0,0,0,0⟩ A t g=true /\
 ∀js,EnvRep s ρp {i:=A.is.map (IE.den ρ),b:=A.bs.map (BE.den ρ),v:=SV.dens ρ id A.vs,j:=js,m:=ρ.m,k:=ρ.k}
theorem c2Q{g:Cfg}:∀(l:List Cfg) (q:Nat) {r},c3x g l q=some r->∃t,q<=r.1/\l[r.1-q]?=some t/\fits ⟨0,0,0,0⟩ r.2 t g=true/\b9G t=true
 | [],q,r,h=>by simp[c3x] at h
 | t::l,q,r,h=>by
  simp only[c3x] at h;split at h
  ·rename_i hc
   simp only[Q0] at h;subst h;simp only[Q6] at hc;exact⟨t,Qa _,by simp,hc.1.2,hc.2⟩
  ·obtain⟨t',h1,h2,h3⟩:=c2Q l (q+1) h
   refine⟨t',by omega,?_,h3⟩;rw[show r.1-q=(r.1-(q+1))+1 by omega];simpa using h2
theorem BE.all_spec{s:Hp}{ρp:PEnv}{ρ:Env}(h:EnvRep s ρp ρ):∀(l:List BE) {r},BE.all ρp l=some r->l.map (BE.den ρ)=r
 | [],r,hr=>by simp only[BE.all,Q0] at hr;subst hr;rfl
 | b::l,r,hr=>by
  simp only[BE.all] at hr;split at hr
  ·rename_i hs
   simp only[Q2] at hr;obtain⟨r',h1,rfl⟩:=hr;rw[Qk,BE.pe_den h b hs,BE.all_spec h l h1]
  ·cases hr
theorem c3X{s:Hp}{ρp:PEnv}{ρ:Env}(h:EnvRep s ρp ρ){own:Nat->Option (List PV)}:∀(l:List SV) {r},SV.pvs ρp own l=some r->l.all SV.flat=true->∀p∈r,p.one=true
 | [],r,hr,_,p,hp=>by simp only[SV.pvs,Q0] at hr;subst hr;simp at hp
 | x::l,r,hr,hf,p,hp=>by
  simp only[SV.pvs,Q1,Q2] at hr;obtain⟨q,h1,r',h2,rfl⟩:=hr;simp only[X6,Q6] at hf;rcases Q8.1 hp with rfl|hp
  ·exact c4v h hf.1 h1
  ·exact c3X h l h2 hf.2 p hp
theorem b7t{s:Hp}{ρp:PEnv}{ρ:Env}(h:EnvRep s ρp ρ):∀(l:List (List SV)) {rows},l.mapM (SV.pvs ρp noOwn)=some rows->(l.all fun x=>x.all SV.flat)=true ->
  a0B s (inf ρp.m ρ.m) rows (l.map (SV.dens ρ id))/\∀r∈rows,∀p∈r,p.one=true
 | [],rows,hr,_=>by simp at hr;subst hr;exact⟨rfl,by simp⟩
 | x::l,rows,hr,hf=>by
  simp only[List.mapM_cons,Option.bind_eq_bind,Q1,Option.pure_def,Q0] at hr;obtain⟨r,h1,rows',h2,rfl⟩:=hr;simp only[X6,Q6] at hf;obtain⟨a,b⟩:=b7t h l h2 hf.2;refine⟨⟨_,_,rfl,SV.pvs_rep h (a4n s _ id) x r h1,a⟩,fun r' hr'=>?_⟩;rcases Q8.1 hr' with rfl|hr'
  ·exact c3X h x h1 hf.1
  ·exact b r' hr'
theorem b7z{s:Hp}{B:Inf}:∀{rows:List (List PV)} {xs:List (List Value)},a0B s B rows xs->(∀r∈rows,∀p∈r,p.one=true)->∀e∈xs,∀u∈e,u.oneCell'=true
 | [],xs,h,_=>by simp only[a0B] at h;subst h;simp
 | r::rows,xs,h,hone=>by
  simp only[a0B] at h;obtain⟨x,xs',rfl,h1,h2⟩:=h;intro e he u hu;rcases Q8.1 he with rfl|he
  ·obtain⟨i,hi⟩:=QB.1 hu
   have hl:=h1.length;have hlt:=(Q4.1 hi).1;obtain⟨v,e1,e2⟩:=h1.get (QK (l:=r) (i:=i) (by omega));rw[hi] at e1;simp only[Q0] at e1;subst e1;exact a7Z (e2.fine (hone r (by simp) _ (X5 _)))
  ·exact b7z h2 (fun r' hr'=>hone r' (by simp[hr'])) e he u hu
theorem c1A{s:Hp}{B:Inf}{l new:List PV}{vs nv:List Value}(h:Reps s B l vs)(h':Reps s B new nv)(o:Nat):Reps s B (a2h l o new) (a3T vs o nv):=by
 unfold a2h a3T;have hl:=h'.length;rw[hl];exact((h.take o).append h').append (h.drop _)
theorem EnvRep.pushV{s:Hp}{ρp:PEnv}{ρ:Env}(h:EnvRep s ρp ρ){p:PV}{v:Value}(hp:Rep s (inf ρp.m ρ.m) p v)(h1:p.one=true):EnvRep s {ρp with v:=ρp.v++[p]} (ρ.push [] [] [v]):=by
 have:=h.push (r:=([],[],[p])) (vvs:=[v]) ⟨⟨v,[],rfl,hp,rfl⟩,by simpa using h1⟩;simpa[PEnv.push] using this
theorem EnvRep.newM{s:Hp}{ρp:PEnv}{ρ:Env}(h:EnvRep s ρp ρ){o:MO}{x:Nat×Obj}(ho:a3k s (inf ρp.m ρ.m) o x)(hit:o.isIt=false:=by rfl):Le2 ρp.m ρ.m (ρp.m++[o]) (ρ.m++[x])/\EnvRep s {ρp with m:=ρp.m++[o]} {ρ with m:=ρ.m++[x]}:=by
 have hml:=h.m.length
 have hpre:BLe (inf ρp.m ρ.m) (inf (ρp.m++[o]) (ρ.m++[x])):=by
  refine BLe.pre ⟨[a1l o x],?_⟩;simp only[inf];rw[QY (by omega)];rfl
 have hle:Le2 ρp.m ρ.m (ρp.m++[o]) (ρ.m++[x]):=⟨hpre,b0u.append _ _ hml⟩;refine⟨hle,h.turn (Hp.le_refl s) hle ?_ (h.coh.append hit hml)⟩;exact a0D.append (a0D.mono (Hp.le_refl s) hpre _ _ h.m) (a2q.2 ⟨x,[],rfl,ho.mono (Hp.le_refl s) hpre,rfl⟩)
theorem EnvRep.setMle{s:Hp}{ρp:PEnv}{ρ:Env}(h:EnvRep s ρp ρ){i:Nat}{o o0:MO}{x x0:Nat×Obj}(h0:ρp.m[i]?=some o0)(h1:ρ.m[i]?=some x0)
  (hi:a1l o x=a1l o0 x0\/(1<=(a1l o0 x0).2.2/\(a1l o0 x0).2.2<(a1l o x).2.2)) (hst:MO.Step o0 o False):Le2 ρp.m ρ.m (ρp.m.set i o) (ρ.m.set i x):=by
 have hml:=h.m.length;have hlt:=(Q4.1 h0).1;refine⟨?_,b0u.set h0 hst⟩;intro j y hj;by_cases hji:j=i
 ·subst hji
  have hI:=a1r h0 h1;rw[hj] at hI;simp only[Q0] at hI;subst hI;exact⟨_,a1r (o:=o) (x:=x) (by rw[Qw hlt]) (by rw[Qw (by omega)]),hi⟩
 ·refine⟨y,?_,.inl rfl⟩
  simp only[inf,Xj,Qs (Ne.symm hji)] at hj ⊢;exact hj
theorem EnvRep.setM{s:Hp}{ρp:PEnv}{ρ:Env}(h:EnvRep s ρp ρ){i:Nat}{o o0:MO}{x x0:Nat×Obj}(h0:ρp.m[i]?=some o0)(h1:ρ.m[i]?=some x0)(ho:a3k s (inf ρp.m ρ.m) o x)
  (hi:a1l o x=a1l o0 x0\/(1<=(a1l o0 x0).2.2/\(a1l o0 x0).2.2<(a1l o x).2.2)) (hst:MO.Step o0 o False:=by trivial) (hit:o.isIt=false:=by rfl) (hit0:o0.isIt=false:=by rfl):Le2 ρp.m ρ.m (ρp.m.set i o) (ρ.m.set i x)/\EnvRep s {ρp with m:=ρp.m.set i o} {ρ with m:=ρ.m.set i x}:=by
 have hlt:=(Q4.1 h0).1;have hle:=h.setMle h0 h1 hi hst;exact⟨hle,h.turn (Hp.le_refl s) hle (a0D.set (a0D.mono (Hp.le_refl s) hle.ble _ _ h.m) hlt (ho.mono (Hp.le_refl s) hle.ble)) (h.coh.set h0 hit hit0 hst)⟩
theorem b7r(l new:List Value)(o:Nat)(h:o+new.length<=l.length):(a3T l o new).length=l.length:=by
 simp only[a3T,Q5,Qn,Xk];omega
theorem d0Z{l new:List PV}{o:Nat}{p:PV}(h:p∈a2h l o new):p∈l\/p∈new:=by
 simp only[a2h,Qe] at h;rcases h with (h|h)|h
 ·exact .inl (Qr h)
 ·exact .inr h
 ·exact .inl (Xn h)
theorem c4K{s:Hp}{B:Inf}:∀{rows:List (List PV)} {xs:List (List Value)} (_:a0B s B rows xs) (i:Nat) {r:List PV} {x:List Value} (_:Reps s B r x),a0B s B (rows.set i r) (xs.set i x)
 | [],xs,h,i,r,x,_=>by simp only[a0B] at h;subst h;rfl
 | y::rows,xs,h,i,r,x,hr=>by
  simp only[a0B] at h;obtain⟨z,zs,rfl,h1,h2⟩:=h;cases i with
  | zero=>exact⟨x,zs,rfl,hr,h2⟩
  | succ i=>exact⟨z,_,rfl,h1,c4K h2 i hr⟩
theorem c5R(l new:List Value)(o j:Nat)(h:o+new.length<=l.length):(a3T l o new)[j]?=if o<=j/\j<o+new.length then new[j-o]? else l[j]?:=by
 simp only[a3T,X8,Q5,Qn,Qj,Qf];have hm:min o l.length=o:=QW (by omega);rw[hm];by_cases h1:j<o
 ·rw[if_pos (by omega),if_pos h1,if_pos h1,if_neg (by omega)]
 ·by_cases h2:j<o+new.length
  ·rw[if_pos h2,if_neg h1,if_pos ⟨by omega,h2⟩]
  ·rw[if_neg h2,if_neg (by omega)]
   congr 1;omega
theorem b7O{sz i off:Nat}{xs:List (List Value)}{xv new:List Value}{cur:List Value}(hl:∀x∈xs,x.length=sz)(hx:xs[i]?=some xv)(hxl:xv.length=sz)(hsl:(a3T xv off new).length=sz)(hoff:off+new.length<=sz)
  (hpre:∀(j:Nat) (u:Value),xs.flatten[j]?=some u->cur[j]?=some u) (hcur:i*sz+sz<=cur.length) {j:Nat} {u:Value} (hj:(xs.set i (a3T xv off new)).flatten[j]?=some u):(a3T cur (i*sz+off) new)[j]?=some u:=by
 have hl':∀x∈xs.set i (a3T xv off new),x.length=sz:=fun x hx'=>by
  rcases QQ hx' with h1|rfl
  ·exact hl x h1
  ·exact hsl
 obtain⟨q,z,r,hq,hz,rfl⟩:=a8r sz _ hl' j u hj;have hr:r<sz:=by have:=(Q4.1 hz).1;rw[hl' z (Qq hq)] at this;exact this
 rw[c5R _ _ _ _ (by omega)];rw[Qy] at hq;split at hq
 ·rename_i hiq
  subst hiq;split at hq
  case isFalse=>cases hq
  simp only[Q0] at hq;subst hq;rw[c5R _ _ _ _ (by omega)] at hz;split at hz
  ·rename_i h1
   rw[if_pos (by omega),show i*sz+r-(i*sz+off)=r-off by omega];exact hz
  ·rename_i h1
   rw[if_neg (by omega)];exact hpre _ u (a7A sz xs hl i xv r u hx hz)
 ·rename_i hiq
  have hne:¬(i*sz+off<=q*sz+r/\q*sz+r<i*sz+off+new.length):=by
   rintro⟨h1,h2⟩;rcases Nat.lt_or_gt_of_ne hiq with h3|h3
   ·have:(i+1)*sz<=q*sz:=QD h3 (Qa _)
    rw[Qu,QS] at this;omega
   ·have:(q+1)*sz<=i*sz:=QD h3 (Qa _)
    rw[Qu,QS] at this;omega
  rw[if_neg hne];exact hpre _ u (a7A sz xs hl q z r u hq hz)
theorem b3n{s:Hp}{B:Inf}{sz:Nat}:∀(n:Nat) {l:List PV} {vs:List Value} {rows:List (List PV)},Reps s B l vs->a4V sz n l=some rows ->
  ∃xs,(∀x∈xs,x.length=sz)/\a0B s B rows xs/\(∀r∈rows,∀p∈r,p.one=true)/\rows.length=n/\∀(j:Nat) (u:Value),xs.flatten[j]?=some u->vs[j]?=some u
 | 0,l,vs,rows,hr,h=>by
  simp only[a4V,Q0] at h;subst h;exact⟨[],by simp,rfl,by simp,rfl,by simp⟩
 | n+1,l,vs,rows,hr,h=>by
  simp only[a4V] at h;split at h
  case isFalse=>cases h
  rename_i hc;simp only[Q2] at h;obtain⟨rows',h1,rfl⟩:=h;obtain⟨xs,e1,e2,e3,e4,e5⟩:=b3n n (hr.drop sz) h1;have hl:=hr.length;have hvl:(vs.take sz).length=sz:=by rw[Qn];omega
  refine⟨vs.take sz::xs,?_,⟨_,_,rfl,hr.take sz,e2⟩,?_,by simp[e4],fun j u hj=>?_⟩
  ·intro x hx
   rcases Q8.1 hx with rfl|hx
   ·exact hvl
   ·exact e1 x hx
  ·intro r hr' p hp
   rcases Q8.1 hr' with rfl|hr'
   ·exact List.all_eq_true.1 hc.2 p hp
   ·exact e3 r hr' p hp
  ·rw[QX] at hj
   by_cases hjs:j<sz
   ·rw[Q7 (by omega),Qj,if_pos hjs] at hj
    exact hj
   ·rw[Qd (by omega),hvl] at hj
    have:=e5 _ u hj;rw[Qf,show sz+(j-sz)=j by omega] at this;exact this
theorem d0v{s:Hp}{ρp:PEnv}{ρ:Env}(h:EnvRep s ρp ρ){lo hi:Option IE}{size:Nat}{p q:PV}{v:Value}(h4:Rep s (inf ρp.m ρ.m) q v)(hp:b7u ρp lo hi size (some q)=some p) :
  ∃(b o len cap:Nat) (e:IE),lo=none/\hi=some e/\v=.slice (some ⟨b,o,none⟩) len cap/\0<=e.den ρ/\e.den ρ<=len/\len<=cap/\Rep s (inf ρp.m ρ.m) p (.slice (some ⟨b,o,none⟩) (e.den ρ).toNat cap)/\p.one=true:=by
 have row:∀{h0 len sz:Nat},((ρp.m[h0]?).bind (MO.elts len sz)).isSome=true->∃b n,(inf ρp.m ρ.m)[h0]?=some (b,n,len):=by
  intro h0 len sz hs;obtain⟨rows,hr⟩:=Xp.1 hs;obtain⟨o,ho,hr⟩:=Q1.1 hr;cases o<;>simp only[MO.elts,reduceCtorEq] at hr
  split at hr
  case isFalse=>cases hr
  rename_i hc;obtain⟨⟨b,ob⟩,g1,_⟩:=h.m.obj ho;have:=a1r ho g1;simp only[a1l,hc.1] at this;exact⟨b,_,this⟩
 cases q<;>simp only[b7u,reduceCtorEq] at hp
 case rsl h0 len sz =>
  split at hp
  case h_2=>cases hp
  rename_i e;split at hp
  case isFalse=>cases hp
  rename_i hc;obtain⟨c1,c2,rfl,c3⟩:=hc;simp only[Q0] at hp;subst hp;obtain⟨b2,n2,hB⟩:=row c3;have h4':=h4;simp only[Rep] at h4';obtain⟨hpos,b,cap,rfl,b',n,r,k1,k2,k3⟩:=h4';rw[hB] at k1;simp only[Q0,Q3] at k1;obtain⟨rfl,rfl,rfl⟩:=k1;obtain⟨rfl,k4,k5⟩:=k3 rfl;rw[<- IE.pe_den h] at c1 c2;refine⟨b2,0,len,cap,e,rfl,rfl,rfl,c1,c2,k5,?_,rfl⟩;simp only[Rep];rw[<- IE.pe_den h];exact⟨hpos,by omega,b2,cap,rfl,b2,n2,len,hB,Qa _,fun _=>⟨rfl,k4,k5⟩⟩
 case rpl h0 len r0 sz =>
  split at hp
  case h_2=>cases hp
  rename_i e;split at hp
  case isFalse=>cases hp
  rename_i hc;obtain⟨c1,c2,c4,rfl,c3⟩:=hc;simp only[Q0] at hp;subst hp;obtain⟨b2,n2,hB⟩:=row c3;have h4':=h4;simp only[Rep] at h4';obtain⟨hpos,hle,b,cap,rfl,b',n,r,k1,k2,k3⟩:=h4';rw[hB] at k1;simp only[Q0,Q3] at k1;obtain⟨rfl,rfl,rfl⟩:=k1;obtain⟨rfl,k4,k5⟩:=k3 rfl;rw[<- IE.pe_den h] at c1 c2;refine⟨b2,0,len,cap,e,rfl,rfl,rfl,c1,c2,by omega,?_,rfl⟩;simp only[Rep];rw[<- IE.pe_den h];exact⟨hpos,by omega,b2,cap,rfl,b2,n2,r0,hB,Qa _,fun _=>⟨rfl,k4,k5⟩⟩
 case msl h0 o len cap sz =>
  split at hp
  case h_2=>cases hp
  rename_i e;split at hp
  case isFalse=>cases hp
  rename_i hc;obtain⟨c1,c2,c3,rfl⟩:=hc;simp only[Q0] at hp;subst hp;simp only[Rep] at h4;obtain⟨b,n,hB,rfl⟩:=h4;rw[<- IE.pe_den h] at c1 c2;refine⟨b,o,len,cap,e,rfl,rfl,rfl,c1,c2,c3,?_,rfl⟩;simp only[Rep];rw[<- IE.pe_den h];exact⟨b,n,hB,rfl⟩
theorem c5W{s:Hp}{B:Inf}:∀(ks:List Int) (vs:List PV) (vv:List Value),Reps s B vs vv->∀z,(a2A ks vs z=none/\a2A ks vv z=none)\/∃p v,a2A ks vs z=some p/\a2A ks vv z=some v/\Rep s B p v
 | [],vs,vv,h,z=>.inl ⟨by cases vs<;>rfl,by cases vv<;>rfl⟩
 | k::ks,[],vv,h,z=>by simp only[Reps] at h;subst h;exact .inl ⟨rfl,rfl⟩
 | k::ks,p::vs,vv,h,z=>by
  simp only[Reps] at h;obtain⟨v,r,rfl,h1,h2⟩:=h;simp only[a2A];split
  ·exact .inr ⟨p,v,rfl,rfl,h1⟩
  ·exact c5W ks vs r h2 z
theorem c7m{s:Hp}{B:Inf}:∀(ks:List Int) (vs:List PV) (vv:List Value),Reps s B vs vv->∀z (x:PV) (y:Value),Rep s B x y->(a3R ks vs z x).1=(a3R ks vv z y).1/\Reps s B (a3R ks vs z x).2 (a3R ks vv z y).2
 | [],vs,vv,h,z,x,y,hx=>by
  have e1:a3R [] vs z x=([z],[x]):=by cases vs<;>rfl
  have e2:a3R [] vv z y=([z],[y]):=by cases vv<;>rfl
  rw[e1,e2];exact⟨rfl,y,[],rfl,hx,rfl⟩
 | k::ks,[],vv,h,z,x,y,hx=>by
  simp only[Reps] at h;subst h;exact⟨rfl,y,[],rfl,hx,rfl⟩
 | k::ks,p::vs,vv,h,z,x,y,hx=>by
  simp only[Reps] at h;obtain⟨v,r,rfl,h1,h2⟩:=h;simp only[a3R];split
  ·exact⟨rfl,y,r,rfl,hx,h2⟩
  ·obtain⟨i1,i2⟩:=c7m ks vs r h2 z x y hx
   exact⟨by rw[i1],v,_,rfl,h1,i2⟩
theorem EnvRep.map{s:Hp}{ρp:PEnv}{ρ:Env}(h:EnvRep s ρp ρ){n hd:Nat}{ks:List Int}{vs:List PV}{K:IntKind}(hn:ρp.v[n]?=some (.mp hd))(hm:ρp.m[hd]?=some (.mp ks vs K)) :
  ∃b es clock vv,ρ.m[hd]?=some (b,.map es clock)/\ρ.v.getD n vd=.map (some b)/\b3e K es ks vv/\Reps s (inf ρp.m ρ.m) vs vv:=by
 obtain⟨v,_,g1,g2⟩:=h.get hn;obtain⟨⟨b,o⟩,m1,es,clock,vv,m2,m3,m4⟩:=h.m.obj hm;simp only at m2;subst m2;have hI:=a1r hm m1;simp only[Rep] at g2;obtain⟨b',n',g3,rfl⟩:=g2;rw[hI] at g3;simp only[a1l,Q0,Q3] at g3;obtain⟨rfl,_⟩:=g3;exact⟨_,es,clock,vv,m1,g1,m3,m4⟩
theorem b4S{n:Nat}{kv kv':KV}(h:kv'.Perm kv)(hw:b4H n kv=true):b7w n kv':=fun p hp=>by
 have:=List.all_eq_true.1 hw p (h.mem_iff.1 hp);simpa using this
theorem b3a{kv:KV}{k:List Int}{v:Int}(hn:(kv.map (·.1)).Nodup):a1Y kv k=some v↔(k,v)∈kv:=by
 induction kv with
 | nil=>simp[a1Y]
 | cons p kv ih =>
  simp only[Qk,QU] at hn;simp only[a1Y,Q8];split
  ·rename_i hk
   subst hk;constructor
   ·intro h;simp only[Q0] at h;exact .inl (by rw[<- h])
   ·rintro (h|h)
    ·rw[<- h]
    ·exact absurd (Qb.2 ⟨_,h,rfl⟩) hn.1
  ·rename_i hk
   rw[ih hn.2];constructor
   ·exact .inr
   ·rintro (h|h)
    ·exact absurd (by rw[<- h]) hk
    ·exact h
theorem c2F{kv:KV}{k:List Int}:a1Y kv k=none↔∀v,(k,v)∉kv:=by
 induction kv with
 | nil=>simp[a1Y]
 | cons p kv ih =>
  simp only[a1Y,Q8,not_or];split
  ·rename_i hk
   subst hk;simp only[reduceCtorEq,false_iff];intro h;exact(h p.2).1 rfl
  ·rename_i hk
   rw[ih];exact⟨fun h v=>⟨fun he=>hk (by rw[<- he]),h v⟩,fun h v=>(h v).2⟩
theorem c8J{kv kv':KV}(h:kv'.Perm kv)(hn:(kv.map (·.1)).Nodup)(k:List Int):a1Y kv' k=a1Y kv k:=by
 have hn':(kv'.map (·.1)).Nodup:=(h.map _).nodup_iff.2 hn;cases hk:a1Y kv k with
 | none=>exact c2F.2 fun v hv=>c2F.1 hk v (h.mem_iff.1 hv)
 | some v=>exact(b3a hn').2 (h.mem_iff.2 ((b3a hn).1 hk))
theorem b9l:∀(kv:KV) (p:List Int×Int),(c9g kv p).Perm (p::kv)
 | [],p=>.refl _
 | q::kv,p=>by
  simp only[c9g];split
  ·exact .refl _
  ·exact((b9l kv p).cons q).trans (.swap p q kv)
theorem c5y:∀(kv:KV) (k:List Int) (v:Int),(kv.map (·.1)).Nodup->(b3Y kv k v).Perm ((k,v)::b0P kv k)
 | [],k,v,_=>.refl _
 | p::kv,k,v,hn=>by
  simp only[Qk,QU] at hn;simp only[b3Y,b0P,Xq];split
  ·rename_i hk
   subst hk;simp only[decide_true,Bool.not_true,Qh,if_false]
   have:kv.filter (fun q=>!decide (q.1=p.1))=kv:=Xr.2 fun q hq=>by
    simp only[QV,decide_eq_false_iff_not];intro he;exact hn.1 (Qb.2 ⟨q,hq,he⟩)
   rw[this]
  ·rename_i hk
   have:(!decide (p.1=k))=true:=by simp only[QV,decide_eq_false_iff_not];exact fun h=>hk h.symm
   rw[this,if_pos rfl];exact((c5y kv k v hn.2).cons p).trans (.swap _ _ _)
theorem c3h{kv:KV}{k:List Int}(hn:(kv.map (·.1)).Nodup):((b0P kv k).map (·.1)).Nodup:=hn.sublist ((List.filter_sublist).map _)
theorem d0T{kv:KV}{k:List Int}:k∉(b0P kv k).map (·.1):=by
 intro h;obtain⟨p,hp,rfl⟩:=Qb.1 h;simp[b0P] at hp
theorem c8L{kv:KV}{k:List Int}{v:Int}(hn:(kv.map (·.1)).Nodup):((c1T kv k v).map (·.1)).Nodup:=by
 have:=((b9l (b0P kv k) (k,v)).map (·.1)).nodup_iff;unfold c1T;rw[this];simp only[Qk,QU];exact⟨d0T,c3h hn⟩
theorem c9M{kv kv':KV}(h:kv'.Perm kv)(hn:(kv.map (·.1)).Nodup)(k:List Int)(v:Int):(b3Y kv' k v).Perm (c1T kv k v)/\((c1T kv k v).map (·.1)).Nodup:=by
 refine⟨?_,c8L hn⟩;have hn':(kv'.map (·.1)).Nodup:=(h.map _).nodup_iff.2 hn;exact(c5y kv' k v hn').trans (((h.filter _).cons _).trans (b9l _ _).symm)
theorem c7w:∀(kv:KV) (k:List Int),(kv.map (·.1)).Nodup->b2F kv k=b0P kv k
 | [],k,_=>rfl
 | p::kv,k,hn=>by
  simp only[Qk,QU] at hn;simp only[b2F,b0P,Xq];split
  ·rename_i hk
   subst hk;simp only[decide_true,Bool.not_true,Qh,if_false]
   exact(Xr.2 fun q hq=>by
    simp only[QV,decide_eq_false_iff_not]
    intro he;exact hn.1 (Qb.2 ⟨q,hq,he⟩)).symm
  ·rename_i hk
   have:(!decide (p.1=k))=true:=by simp only[QV,decide_eq_false_iff_not];exact fun h=>hk h.symm
   rw[this,if_pos rfl,c7w kv k hn.2];rfl
theorem c9D{kv kv':KV}(h:kv'.Perm kv)(hn:(kv.map (·.1)).Nodup)(k:List Int):(b2F kv' k).Perm (b0P kv k)/\((b0P kv k).map (·.1)).Nodup:=by
 have hn':(kv'.map (·.1)).Nodup:=(h.map _).nodup_iff.2 hn;refine⟨?_,c3h hn⟩;rw[c7w kv' k hn'];exact h.filter _
theorem c1o{es:Array MapEntry}{kv kv':KV}(m3:QIs es kv')(m4:kv'.Perm kv){e:MapEntry}(he:e∈es.toList):∃p∈kv,e.key=qkey p.1/\e.val=.int .i64 p.2:=by
 have:(e.key,e.val)∈es.toList.map (fun e=>(e.key,e.val)):=Qb.2 ⟨e,he,rfl⟩;rw[m3] at this;obtain⟨p,hp,he⟩:=Qb.1 this;simp only[encE,Q3] at he;exact⟨p,m4.mem_iff.1 hp,he.1.symm,he.2.symm⟩
theorem d0A{es:Array MapEntry}{kv kv':KV}(m3:QIs es kv')(m4:kv'.Perm kv){p:List Int×Int}(hp:p∈kv):∃e∈es.toList,e.key=qkey p.1/\e.val=.int .i64 p.2:=by
 have:encE p∈kv'.map encE:=Qb.2 ⟨p,m4.mem_iff.2 hp,rfl⟩;rw[<- m3] at this;obtain⟨e,he,h⟩:=Qb.1 this;simp only[encE,Q3] at h;exact⟨e,he,h.1,h.2⟩
theorem b8T{α β:Type}{f:α->β}:∀{l:List α},(l.map f).Nodup->∀{a b:α},a∈l->b∈l->f a=f b->a=b
 | [],_,a,b,ha,_,_=>by simp at ha
 | x::l,hn,a,b,ha,hb,he=>by
  simp only[Qk,QU] at hn;rcases Q8.1 ha with h1|h1
  ·rcases Q8.1 hb with h2|h2
   ·rw[h1,h2]
   ·exact absurd (Qb.2 ⟨b,h2,by rw[<- he,h1]⟩) hn.1
  ·rcases Q8.1 hb with h2|h2
   ·exact absurd (Qb.2 ⟨a,h1,by rw[he,h2]⟩) hn.1
   ·exact b8T hn.2 h1 h2 he
theorem c8h{es:Array MapEntry}{kv kv':KV}(m3:QIs es kv')(m4:kv'.Perm kv)(m5:(kv.map (·.1)).Nodup):(es.toList.map (·.key)).Nodup:=by
 have h1:es.toList.map (·.key)=(kv'.map (·.1)).map qkey:=by
  have:=congrArg (List.map Prod.fst) m3;simp only[List.map_map] at this ⊢;exact this
 rw[h1];exact List.Pairwise.map _ (fun a b hab h=>hab (b7q h)) ((m4.map _).nodup_iff.2 m5)
theorem d3z{es:Array MapEntry}{kv kv':KV}(m3:QIs es kv')(m4:kv'.Perm kv)(m5:(kv.map (·.1)).Nodup){e:MapEntry}(he:e∈es.toList){key:List Int}(hk:e.key=qkey key){v:Int}(hv:a1Y kv key=some v):e.val=.int .i64 v:=by
 obtain⟨p,hp,h1,h2⟩:=c1o m3 m4 he;have:p.1=key:=b7q (h1.symm.trans hk);have h3:=(b3a m5).1 hv;have h4:=(b3a (v:=p.2) m5).2 (show (key,p.2)∈kv by rw[<- this];exact hp);rw[hv] at h4;simp only[Q0] at h4;rw[h2,h4]
theorem c1x{es:Array MapEntry}{kv kv':KV}{sn:Array Nat}{seen:List (List Int)}(m3:QIs es kv')(m4:kv'.Perm kv)(i5:∀e∈es.toList,sn.contains e.born=true↔∃k∈seen,e.key=qkey k){e:MapEntry}(he:e∈es.toList){p:List Int×Int}(hp:e.key=qkey p.1) :
  e∈(leftOf es sn).toList↔(seen.any fun k=>decide (k=p.1))=false:=by
 simp only[leftOf,QZ,QE,QV,he,true_and];rw[<- Xs,i5 e he,<- Xs,List.any_eq_true];constructor
 ·rintro h ⟨k,hk,hkp⟩
  exact h ⟨k,hk,by rw[hp,of_decide_eq_true hkp]⟩
 ·rintro h ⟨k,hk,hkp⟩
  exact h ⟨k,hk,dT0 (b7q (hkp.symm.trans hp))⟩
theorem d0N{es:Array MapEntry}{kv kv':KV}{sn:Array Nat}{seen:List (List Int)}(m3:QIs es kv')(m4:kv'.Perm kv)(i5:∀e∈es.toList,sn.contains e.born=true↔∃k∈seen,e.key=qkey k):(leftOf es sn).size=0↔b7x kv seen=[]:=by
 constructor
 ·intro h
  refine List.filter_eq_nil_iff.2 fun p hp=>?_
  obtain⟨e,he,h1,_⟩:=d0A m3 m4 hp;intro hc;have:=(c1x m3 m4 i5 he h1).2 (by simpa using hc);have h0:(leftOf es sn).toList=[]:=X7.1 (by simpa using h);rw[h0] at this;simp at this
 ·intro h
  rw[<- X0];refine X7.2 (List.eq_nil_iff_forall_not_mem.2 fun e he=>?_)
  have hee:e∈es.toList:=by
   simp only[leftOf,QZ,QE] at he;exact he.1
  obtain⟨p,hp,h1,_⟩:=c1o m3 m4 hee;have:=(c1x m3 m4 i5 hee h1).1 he;have hm:p∈b7x kv seen:=QE.2 ⟨hp,by simp[this]⟩;rw[h] at hm;simp at hm
theorem d0L{es:Array MapEntry}{kv kv':KV}{sn:Array Nat}{seen:List (List Int)}(m3:QIs es kv')(m4:kv'.Perm kv)(i5:∀e∈es.toList,sn.contains e.born=true↔∃k∈seen,e.key=qkey k){e:MapEntry}(he:e∈(leftOf es sn).toList)
  {key:List Int} {v:Int} (hk:e.key=qkey key) (hv:e.val=.int .i64 v):(key,v)∈b7x kv seen/\b7x kv seen≠[]:=by
 have hee:e∈es.toList:=by
  simp only[leftOf,QZ,QE] at he;exact he.1
 obtain⟨p,hp,h1,h2⟩:=c1o m3 m4 hee;have e1:p.1=key:=b7q (h1.symm.trans hk);have e2:p.2=v:=by rw[hv] at h2;simpa using h2.symm
 have:=(c1x m3 m4 i5 hee h1).1 he;have hm:(key,v)∈b7x kv seen:=QE.2 ⟨by rw[<- e1,<- e2];exact hp,by rw[<- e1];simp[this]⟩;exact⟨hm,fun h=>by rw[h] at hm;simp at hm⟩
theorem EnvRep.mapQ{s:Hp}{ρp:PEnv}{ρ:Env}(h:EnvRep s ρp ρ){n hd:Nat}{kv:KV}{ver:Nat}(hn:ρp.v[n]?=some (.mp hd))(hm:ρp.m[hd]?=some (.mq kv ver)) :
  ∃b es clock kv',ρ.m[hd]?=some (b,.map es clock)/\ρ.v.getD n vd=.map (some b)/\QIs es kv'/\kv'.Perm kv/\(kv.map (·.1)).Nodup/\b0r es clock:=by
 obtain⟨v,_,g1,g2⟩:=h.get hn;obtain⟨⟨b,o⟩,m1,es,clock,m2,kv',m3,m4,m5,m6⟩:=h.m.obj hm;simp only at m2;subst m2;have hI:=a1r hm m1;simp only[Rep] at g2;obtain⟨b',n',g3,rfl⟩:=g2;rw[hI] at g3;simp only[a1l,Q0,Q3] at g3;obtain⟨rfl,_⟩:=g3;exact⟨_,es,clock,kv',m1,g1,m3,m4,m5,m6⟩
theorem EnvRep.iter{s:Hp}{ρp:PEnv}{ρ:Env}(h:EnvRep s ρp ρ){n ii hd ver:Nat}{seen:List (List Int)}{kv:KV}(hn:ρp.v[n]?=some (.ref ii 0))(hit:ρp.m[ii]?=some (.it hd ver seen))(hm:ρp.m[hd]?=some (.mq kv ver)) :
  ∃b' b clock sn es kv',ρ.m[ii]?=some (b',.mapIter (some b) clock sn clock)/\ρ.m[hd]?=some (b,.map es clock)/\ρ.v.getD n vd=.pointer (some ⟨b',0,none⟩)/\(∀e∈es.toList,e.born<clock) /\
   (∀e∈es.toList,sn.contains e.born=true↔∃k∈seen,e.key=qkey k)/\(∀k,seen.getLast?=some k->∃e∈es.toList,∃sn':Array Nat,sn=sn'.push e.born/\e.key=qkey k) /\
   QIs es kv'/\kv'.Perm kv/\(kv.map (·.1)).Nodup/\b0r es clock:=by
 obtain⟨kv2,ver',c1,c2,c3⟩:=h.coh ii hd ver seen hit;rw[hm] at c1;simp only[Q0,MO.mq.injEq] at c1;obtain⟨x,y,x1,y1,b',b,clock,sn,es,rfl,rfl,d1,d2,d3⟩:=c3 c1.2;obtain⟨⟨b2,o⟩,m1,es2,clock2,m2,kv',m3,m4,m5,m6⟩:=h.m.obj hm;simp only at m2;subst m2;rw[y1] at m1;simp only[Q0,Q3,Obj.map.injEq] at m1;obtain⟨_,rfl,rfl⟩:=m1;obtain⟨v,_,g1,g2⟩:=h.get hn;have hI:=a1r hit x1;simp only[Rep] at g2;obtain⟨b3,n',g3,rfl⟩:=g2;rw[hI] at g3;simp only[a1l,Q0,Q3] at g3;obtain⟨rfl,_⟩:=g3;exact⟨_,b,clock,sn,es,kv',x1,y1,g1,d1,d2,d3,m3,m4,m5,m6⟩
theorem EnvRep.newIt{s:Hp}{ρp:PEnv}{ρ:Env}(h:EnvRep s ρp ρ){hd ver b clock:Nat}{kv:KV}{es:Array MapEntry}(hm:ρp.m[hd]?=some (.mq kv ver))(m1:ρ.m[hd]?=some (b,.map es clock))(m6:b0r es clock)(b':Nat) :
  Le2 ρp.m ρ.m (ρp.m++[.it hd ver []]) (ρ.m++[(b',.mapIter (some b) clock #[] clock)])/\EnvRep s {ρp with m:=ρp.m++[.it hd ver []]} {ρ with m:=ρ.m++[(b',.mapIter (some b) clock #[] clock)]}:=by
 have hml:=h.m.length
 have hpre:BLe (inf ρp.m ρ.m) (inf (ρp.m++[.it hd ver []]) (ρ.m++[(b',.mapIter (some b) clock #[] clock)])):=by
  refine BLe.pre ⟨[a1l (.it hd ver []) (b',.mapIter (some b) clock #[] clock)],?_⟩;simp only[inf];rw[QY (by omega)];rfl
 have hle:Le2 ρp.m ρ.m (ρp.m++[.it hd ver []]) (ρ.m++[(b',.mapIter (some b) clock #[] clock)]):=⟨hpre,b0u.append _ _ hml⟩;refine⟨hle,h.turn (Hp.le_refl s) hle ?_ ?_⟩
 ·exact a0D.append (a0D.mono (Hp.le_refl s) hpre _ _ h.m) (a2q.2 ⟨_,[],rfl,⟨_,_,_,_,rfl⟩,rfl⟩)
 ·intro i hd2 ver2 seen hi
  have hlt:=(Q4.1 hm).1;rw[X8] at hi;split at hi
  ·rename_i hil
   obtain⟨kv2,ver',c1,c2,c3⟩:=h.coh i hd2 ver2 seen hi;have hlt2:=(Q4.1 c1).1;refine⟨kv2,ver',by rw[Q7 hlt2];exact c1,c2,fun he=>?_⟩;obtain⟨x',y',e1,e2,e3⟩:=c3 he;exact⟨x',y',by rw[Q7 (by omega)];exact e1,by rw[Q7 (by omega)];exact e2,e3⟩
  ·rename_i hil
   have hieq:i=ρp.m.length:=by
    have:=(Q4.1 hi).1;simp only[List.length_singleton] at this;omega
   subst hieq;simp only[Nat.sub_self,QN,Q0,MO.it.injEq] at hi;obtain⟨rfl,rfl,rfl⟩:=hi;refine⟨kv,ver,by rw[Q7 hlt];exact hm,Qa _,fun _=>?_⟩;refine⟨(b',.mapIter (some b) clock #[] clock),(b,.map es clock),by rw[<- hml];simp,by rw[Q7 (by omega)];exact m1,b',b,clock,#[],es,rfl,rfl,m6.2,fun e _=>by simp,fun k hk=>by simp at hk⟩
theorem c9Y{α:Type}{l:List α}{i:Nat}{x:α}(h:l[i]?=some x):l.set i x=l:=by
 apply QP;intro j;rw[Qy];split
 ·rename_i he;subst he
  rw[if_pos (Q4.1 h).1,h]
 ·rfl
theorem EnvRep.killIt{s:Hp}{ρp:PEnv}{ρ:Env}(h:EnvRep s ρp ρ){ii hd ver:Nat}{seen:List (List Int)}{x:Nat×Obj}(hit:ρp.m[ii]?=some (.it hd ver seen))(i1:ρ.m[ii]?=some x) :
  Le2 ρp.m ρ.m (ρp.m.set ii .dead) ρ.m/\EnvRep s {ρp with m:=ρp.m.set ii .dead} ρ:=by
 have hlt:=(Q4.1 hit).1;have hle:=h.setMle (o:=.dead) (x:=x) hit i1 (.inl rfl) (by simp[MO.Step]);rw[c9Y i1] at hle;refine⟨hle,?_⟩;have hm:=a0D.set (i:=ii) (o:=.dead) (x:=x) (a0D.mono (Hp.le_refl s) hle.ble _ _ h.m) hlt trivial;rw[c9Y i1] at hm
 have hc:Coh (ρp.m.set ii .dead) ρ.m:=by
  intro i hd2 ver2 seen2 hi;rw[Qy] at hi;split at hi
  ·simp at hi
  ·rename_i hne
   obtain⟨kv2,ver',c1,c2,c3⟩:=h.coh i hd2 ver2 seen2 hi;have hne2:ii≠hd2:=by rintro rfl;rw[hit] at c1;simp at c1
   exact⟨kv2,ver',by rw[Qs hne2];exact c1,c2,c3⟩
 exact h.turn (m':=ρ.m) (Hp.le_refl s) hle hm hc
theorem EnvRep.stepIt{s:Hp}{ρp:PEnv}{ρ:Env}(h:EnvRep s ρp ρ){ii hd ver b' b clock:Nat}{seen:List (List Int)}{kv:KV}{sn:Array Nat}{es:Array MapEntry}(hit:ρp.m[ii]?=some (.it hd ver seen))(hm:ρp.m[hd]?=some (.mq kv ver))
  (i1:ρ.m[ii]?=some (b',.mapIter (some b) clock sn clock)) (i2:ρ.m[hd]?=some (b,.map es clock)) (i4:∀e∈es.toList,e.born<clock)
  (i5:∀e∈es.toList,sn.contains e.born=true↔∃k∈seen,e.key=qkey k) (i6:∀k,seen.getLast?=some k->∃e∈es.toList,∃sn':Array Nat,sn=sn'.push e.born/\e.key=qkey k)
  {kv':KV} (m3:QIs es kv') (m4:kv'.Perm kv) (m5:(kv.map (·.1)).Nodup) (m6:b0r es clock)
  {e:MapEntry} (he:e∈(leftOf es sn).toList) {key:List Int} (hk:e.key=qkey key) :
  Le2 ρp.m ρ.m (ρp.m.set ii (.it hd ver (seen++[key]))) (ρ.m.set ii (b',.mapIter (some b) clock (sn.push e.born) clock)) /\
   EnvRep s {ρp with m:=ρp.m.set ii (.it hd ver (seen++[key]))} {ρ with m:=ρ.m.set ii (b',.mapIter (some b) clock (sn.push e.born) clock)}:=by
 have hee:e∈es.toList:=by
  simp only[leftOf,QZ,QE] at he;exact he.1
 have hlt:=(Q4.1 hit).1;have hml:=h.m.length;have hle:=h.setMle (o:=.it hd ver (seen++[key])) (x:=(b',.mapIter (some b) clock (sn.push e.born) clock)) hit i1 (.inl rfl) ⟨rfl,rfl,by simp,fun h=>by simp at h⟩;have hne:ii≠hd:=fun he=>by rw[he,hm] at hit;simp at hit
 have hborn:∀e'∈es.toList,(e'.born=e.born↔e'=e):=fun e' he'=>⟨fun h=>b8T m6.1 he' hee h,fun h=>by rw[h]⟩
 have hkeys:∀e'∈es.toList,∀e2∈es.toList,e'.key=e2.key->e'=e2:=fun e' he' e2 he2 h=>b8T (c8h m3 m4 m5) he' he2 h
 ·refine⟨hle,h.turn (Hp.le_refl s) hle (a0D.set (a0D.mono (Hp.le_refl s) hle.ble _ _ h.m) hlt ⟨_,_,_,_,rfl⟩) ?_⟩
  intro i hd2 ver2 seen2 hi;rw[Qy] at hi;split at hi
  ·rename_i hieq
   subst hieq;simp only[Q0,MO.it.injEq] at hi;obtain⟨rfl,rfl,rfl⟩:=hi;refine⟨kv,ver,by rw[Qs hne];exact hm,Qa _,fun _=>?_⟩;refine⟨_,_,by rw[Qw (by omega)],by rw[Qs hne];exact i2,b',b,clock,sn.push e.born,es,rfl,rfl,i4,fun e' he'=>?_,fun k hk'=>?_⟩
   ·have h5:=i5 e' he'
    simp only[Array.contains_push,Bool.or_eq_true,beq_iff_eq,Qe,QH,hborn e' he',h5];constructor
    ·rintro (⟨k,h1,h2⟩|rfl)
     ·exact⟨k,.inl h1,h2⟩
     ·exact⟨key,.inr rfl,hk⟩
    ·rintro⟨k,h1|rfl,h2⟩
     ·exact .inl ⟨k,h1,h2⟩
     ·exact .inr (hkeys e' he' e hee (h2.trans hk.symm))
   ·simp only[List.getLast?_append,List.getLast?_singleton,Option.some_or,Q0] at hk'
    subst hk';exact⟨e,hee,sn,rfl,hk⟩
  ·rename_i hieq
   obtain⟨kv2,ver',c1,c2,c3⟩:=h.coh i hd2 ver2 seen2 hi;have hne2:ii≠hd2:=fun he=>by rw[<- he,hit] at c1;simp at c1
   refine⟨kv2,ver',by rw[Qs hne2];exact c1,c2,fun he=>?_⟩;obtain⟨x',y',e1,e2,e3⟩:=c3 he;exact⟨x',y',by rw[Qs hieq];exact e1,by rw[Qs hne2];exact e2,e3⟩
theorem b3h{s:Hp}{B:Inf}:∀{rows:List (List PV)} {xs:List (List Value)},a0B s B rows xs->Reps s B rows.flatten xs.flatten
 | [],xs,h=>by simp only[a0B] at h;subst h;rfl
 | r::rows,xs,h=>by
  simp only[a0B] at h;obtain⟨x,xs',rfl,h1,h2⟩:=h;exact h1.append (b3h h2)
theorem c6Z{s:Hp}{ρp:PEnv}{ρ:Env}(h:EnvRep s ρp ρ){size:Nat}{p:PV}{v:Value}(hv:Rep s (inf ρp.m ρ.m) p v){es:List (List PV)}(hs:p.rowsAt ρp.m size=some es) :
  ∃ev,d2u ρ size v ev/\a0B s (inf ρp.m ρ.m) es ev/\∀r∈es,∀p∈r,p.one=true:=by
 have row:∀{hd len:Nat} {rows:List (List PV)},(ρp.m[hd]?).bind (MO.elts len size)=some rows->∃(b:Nat) (cur:Array Value) (T:TypeId) (xs:List (List Value)),ρ.m[hd]?=some (b,.cells cur T (0,0))/\(inf ρp.m ρ.m)[hd]?=some (b,cur.size,len)/\rows.length=len/\a0B s (inf ρp.m ρ.m) rows xs/\(∀r∈rows,∀p∈r,p.one=true)/\(∀x∈xs,x.length=size)/\∀(j:Nat) (u:Value),xs.flatten[j]?=some u->cur[j]?=some u:=by
  intro hd len rows hb;simp only[Q1] at hb;obtain⟨ob,hob,hrows⟩:=hb;cases ob<;>simp only[MO.elts,reduceCtorEq] at hrows
  rename_i rows' sz' T;split at hrows
  case isFalse=>cases hrows
  rename_i hc;obtain⟨hc1,hc2⟩:=hc;simp only[Q0] at hrows;subst hrows;subst hc2;obtain⟨⟨b,ob⟩,m1,cur,m2,a1,a2,a3,a4,xs,a5,a6,a7⟩:=h.m.obj hob;simp only at m2;subst m2;have hB:=a1r hob m1;simp only[a1l,a2X,hc1] at hB;exact⟨b,cur,T,xs,m1,hB,hc1,a5,a4,a6,a7⟩
 cases p<;>simp only[PV.rowsAt,reduceCtorEq] at hs
 case msl hd o len cap sz =>
  split at hs
  case isFalse=>cases hs
  rename_i hn;subst hn;simp only[Q1] at hs;obtain⟨ob,hob,l,hl,hs⟩:=hs;cases ob<;>simp only[MO.list,reduceCtorEq,Q0] at hl
  subst hl;rename_i l T;obtain⟨b,vs,m1,m2⟩:=h.m.get hob;have hB:=a1r hob m1;simp only[Rep] at hv;obtain⟨b',n',k1,rfl⟩:=hv;rw[hB] at k1;simp only[a1l,Q0,Q3] at k1;obtain⟨rfl,_⟩:=k1;obtain⟨xs,x1,x2,x3,x4,x5⟩:=b3n _ (m2.drop o) hs;refine⟨xs,⟨x1,b,o,cap,hd,vs.toArray,T,by rw[x2.length,x4],m1,fun j u hj=>?_⟩,x2,x3⟩;have:=x5 j u hj;rw[Qf] at this;simpa using this
 case rsl hd len sz =>
  split at hs
  case isFalse=>cases hs
  rename_i hn;subst hn;obtain⟨b,cur,T,xs,m1,hB,hc1,a5,a4,a6,a7⟩:=row hs;simp only[Rep] at hv;obtain⟨_,b',cap,rfl,b2,n2,r2,k1,_,k2⟩:=hv;rw[hB] at k1;simp only[Q0,Q3] at k1;obtain⟨rfl,rfl,rfl⟩:=k1;obtain⟨rfl,_⟩:=k2 rfl;exact⟨xs,⟨a6,_,0,cap,hd,cur,T,by rw[a5.length,hc1],m1,fun j u hj=>by rw[Qm];exact a7 j u hj⟩,a5,a4⟩
 case rpl hd len r sz =>
  split at hs
  case isFalse=>cases hs
  rename_i hn;obtain⟨hn,hlr⟩:=hn;subst hn;rw[Q2] at hs;obtain⟨rows,hs,rfl⟩:=hs;obtain⟨b,cur,T,xs,m1,hB,hc1,a5,a4,a6,a7⟩:=row hs;simp only[Rep] at hv;obtain⟨_,_,b',cap,rfl,b2,n2,r2,k1,_,k2⟩:=hv;rw[hB] at k1;simp only[Q0,Q3] at k1;obtain⟨rfl,rfl,rfl⟩:=k1;obtain⟨rfl,_⟩:=k2 rfl;have hxl:=a5.length;refine⟨xs.take len,⟨fun e he=>a6 e (Qr he),_,0,cap,hd,cur,T,by rw[Qn,hxl,hc1,QW hlr],m1,fun j u hj=>?_⟩,a5.take len,fun q hq=>a4 q (Qr hq)⟩;rw[Qm];refine a7 j u ?_;rw[<- Qz len xs,Xt,Q7 (Q4.1 hj).1];exact hj
theorem c6d{s:Hp}{ρp:PEnv}{ρ:Env}(h:EnvRep s ρp ρ){size n:Nat}{es:List (List PV)}(hs:a0W ρp size (.va n)=some es) :
  ∃ev,b0U ρ s size ev (.va n)/\a0B s (inf ρp.m ρ.m) es ev/\(∀r∈es,∀p∈r,p.one=true)/\∀x∈ev,x.length=size:=by
 simp only[a0W,Q1] at hs;obtain⟨p,h1,h2⟩:=hs;obtain⟨v,_,h3,h4⟩:=h.get h1;split at h2
 ·rename_i x hx
  simp only[Q0] at h2;subst h2;obtain⟨ev,e1,e2,e3⟩:=a9S h4 hx;exact⟨ev,⟨.inl (by rw[h3];exact e1),b7z e2 e3⟩,e2,e3,e1.1⟩
 ·obtain⟨ev,e1,e2,e3⟩:=c6Z h h4 h2
  exact⟨ev,⟨.inr (by rw[h3];exact e1),b7z e2 e3⟩,e2,e3,e1.1⟩
theorem c4Z{s:Hp}{ρp:PEnv}{ρ:Env}(h:EnvRep s ρp ρ){size x:Nat}{sc:Nat×List PV}(hs:a5k ρp size x=some sc) :
  ∃a cap vs,ρ.v.getD x vd=.slice a sc.1 cap/\Reps s (inf ρp.m ρ.m) sc.2 vs/\(vs=[]\/c5s s ρ.m (ρ.v.getD x vd) vs):=by
 unfold a5k at hs;split at hs
 ·rename_i hx
  simp only[Q0] at hs;subst hs;obtain⟨v,_,g1,g2⟩:=h.get hx;simp only[Rep] at g2;exact⟨none,0,[],by rw[g1,g2],rfl,.inl rfl⟩
 ·rename_i n rows hx
  split at hs
  case isFalse=>cases hs
  rename_i hn;subst hn;simp only[Q0] at hs;subst hs;obtain⟨v,_,g1,g2⟩:=h.get hx;simp only[Rep] at g2;obtain⟨xs,⟨h1,a,cap,rfl,h2,h3⟩,h4,h5⟩:=g2;refine⟨a,cap,xs.flatten,by rw[g1,h4.length],b3h h4,?_⟩;by_cases h0:xs=[]
  ·subst h0;exact .inl rfl
  ·obtain⟨b,o,rfl,h6⟩:=h3 h0
   refine .inr ⟨b,o,by rw[g1];rfl,.inl fun j u hj=>?_⟩;obtain⟨i,z,r,hi,hz,rfl⟩:=a8r n xs h1 j u hj;rw[<- Qg];exact h6 i z hi r u hz
 ·rename_i hd o len cap sz hx
  split at hs
  case isFalse=>cases hs
  rename_i hn;subst hn;simp only[Q1] at hs;obtain⟨ob,hob,l,hl,hs⟩:=hs;split at hs
  case isFalse=>cases hs
  rename_i hle;simp only[Q0] at hs;subst hs;cases ob<;>simp only[MO.list,reduceCtorEq,Q0] at hl
  subst hl;rename_i l T;obtain⟨v,_,g1,g2⟩:=h.get hx;obtain⟨b,vs,m1,m2⟩:=h.m.get hob;have hB:=a1r hob m1;simp only[Rep] at g2;obtain⟨b',n',k1,rfl⟩:=g2;rw[hB] at k1;simp only[a1l,Q0,Q3] at k1;obtain⟨rfl,_⟩:=k1;refine⟨_,cap,(vs.drop o).take (len*sz),g1,(m2.drop o).take _,.inr ⟨b,o,by rw[g1];rfl,.inr ⟨vs.toArray,T,(0,0),Qq m1,fun j u hj=>?_⟩⟩⟩;rw[Qj] at hj;split at hj
  ·rw[Qf] at hj
   simpa using hj
  ·cases hj
 ·rename_i hd len sz hx
  split at hs
  case isFalse=>cases hs
  rename_i hn;subst hn;simp only[Q1,Q2] at hs;obtain⟨ob,hob,rows,hrows,rfl⟩:=hs;cases ob<;>simp only[MO.elts,reduceCtorEq] at hrows
  rename_i rows' sz' T;split at hrows
  case isFalse=>cases hrows
  rename_i hc;obtain⟨hc1,hc2⟩:=hc;simp only[Q0] at hrows;subst hrows;subst hc2;obtain⟨⟨b,ob⟩,m1,cur,m2,a1,a2,a3,a4,xs,a5,a6,a7⟩:=h.m.obj hob;simp only at m2;subst m2;have hB:=a1r hob m1;simp only[a1l,a2X,hc1] at hB;obtain⟨v,_,g1,g2⟩:=h.get hx;simp only[Rep] at g2;obtain⟨_,b',cap,rfl,b2,n2,r2,k1,_,k2⟩:=g2;rw[hB] at k1;simp only[Q0,Q3] at k1;obtain⟨rfl,rfl,rfl⟩:=k1;obtain⟨rfl,_⟩:=k2 rfl;refine⟨_,cap,xs.flatten,g1,b3h a5,.inr ⟨_,0,by rw[g1];rfl,.inr ⟨cur,T,(0,0),Qq m1,fun j u hj=>?_⟩⟩⟩;rw[Qm];exact a7 j u hj
 ·rename_i hd len r0 sz hx
  split at hs
  case isFalse=>cases hs
  rename_i hn;obtain⟨hn,hlr⟩:=hn;subst hn;simp only[Q1,Q2] at hs;obtain⟨ob,hob,rows,hrows,rfl⟩:=hs;cases ob<;>simp only[MO.elts,reduceCtorEq] at hrows
  rename_i rows' sz' T;split at hrows
  case isFalse=>cases hrows
  rename_i hc;obtain⟨hc1,hc2⟩:=hc;simp only[Q0] at hrows;subst hrows;subst hc2;obtain⟨⟨b,ob⟩,m1,cur,m2,a1,a2,a3,a4,xs,a5,a6,a7⟩:=h.m.obj hob;simp only at m2;subst m2;have hB:=a1r hob m1;simp only[a1l,a2X,hc1] at hB;obtain⟨v,_,g1,g2⟩:=h.get hx;simp only[Rep] at g2;obtain⟨_,_,b',cap,rfl,b2,n2,r2,k1,_,k2⟩:=g2;rw[hB] at k1;simp only[Q0,Q3] at k1;obtain⟨rfl,rfl,rfl⟩:=k1;obtain⟨rfl,_⟩:=k2 rfl;refine⟨_,cap,(xs.take len).flatten,g1,b3h (a5.take len),.inr ⟨_,0,by rw[g1];rfl,.inr ⟨cur,T,(0,0),Qq m1,fun j u hj=>?_⟩⟩⟩;rw[Qm];apply a7 j u;rw[<- Qz len xs,Xt,Q7 (Q4.1 hj).1];exact hj
 ·cases hs
theorem d1f{s:Hp}{B:Inf}{cs:List PV}{vs:List Value}(h:Reps s B cs vs)(h1:cs.all PV.one=true):∀u∈vs,u.oneCell'=true:=by
 intro u hu;obtain⟨i,hi⟩:=QB.1 hu;have hl:=h.length;have hlt:=(Q4.1 hi).1;obtain⟨v,e1,e2⟩:=h.get (QK (l:=cs) (i:=i) (by omega));rw[hi] at e1;simp only[Q0] at e1;subst e1;exact a7Z (e2.fine (List.all_eq_true.1 h1 _ (X5 _)))
theorem a0T{Φ:Fns}(hΦ:∀f,CtP P f (Φ f)){σ0:List MO}{m0:MS}{pats:List Cfg}:∀(o:Out) (ni nb nv:Nat) (t:PT) (ρp:PEnv) (ρ:Env) (s:Hp) (R:Res->Prop),comp pats o ni nb nv=some t->t.wp Φ ρp R->EnvRep s ρp ρ->Le2 σ0 m0 ρp.m ρ.m->σ0.length<=ρp.k ->
  ρp.i.length=ni->ρp.b.length=nb->ρp.v.length=nv->VC P (QR σ0 m0 R) (TR σ0 m0 pats R) o ρ s
 | .ret gen v H,ni,nb,nv,t,ρp,ρ,s,R,hc,he,h,hB,hk0,l1,l2,l3=>by
  simp only[comp,Q0] at hc;subst hc;simp only[PT.wp] at he;obtain⟨p,hp,r,hr,hR⟩:=he;intro β s' hs hsh ht;have h':=h.mono hs;have hrep:=SV.pv_rep h' (b7H h' hsh 3) v p hp;refine⟨r.1,r.2,hR,?_⟩;unfold a0m at hr;have hml:=h.m.length;split at hr
  ·rename_i hg
   simp only[Q0] at hr;subst hr
   have hm:(if gen=true then ρ.m else ρ.m.take ρ.k)=ρ.m:=by
    split
    ·rfl
    ·rename_i hgen
     rcases hg with hg|hg
     ·exact absurd hg hgen
     ·rw[X1];rw[hml,h.k];omega
   rw[hm];exact⟨hB,hrep,h'.m,h'.coh⟩
  ·rename_i hg
   have hgen:gen=false:=by cases gen<;>simp_all
   subst hgen;have hI:inf (ρp.m.take ρp.k) (ρ.m.take ρ.k)=(inf ρp.m ρ.m).take ρp.k:=by rw[<- h.k];exact d1e _ _ _
   split at hr
   case isFalse =>
    simp only[Q1,Q2] at hr;obtain⟨σ',hσ',q,hq,rfl⟩:=hr;simp only[Qh,if_false];have hL:=b7U h' (ht rfl) 3;have hT:=a0D.take ρp.k h'.m;rw[<- h.k] at hT;obtain⟨f1,f2,f3,f4⟩:=c4u hL _ (ρ.m.take ρ.k) (by rw[h.k] at hT ⊢;exact hT) hσ';refine⟨⟨?_,?_⟩,?_,?_,Coh.of_none f3⟩
    ·rw[f2,hI]
     intro i x hx;obtain⟨x',h1,h2⟩:=hB.ble i x hx;have:=(Q4.1 hx).1;have hl2:(inf σ0 m0).length<=σ0.length:=by simp only[inf,Xu];omega
     exact⟨x',a6R h1 (by omega),h2⟩
    ·intro i o ho
     obtain⟨o',h1,h2⟩:=hB.stay i o ho;have:=(Q4.1 ho).1;obtain⟨o2,k1,k2⟩:=f4 i o' (by rw[QM (by omega)];exact h1);refine⟨o2,k1,?_⟩;rw[QM (by rw[h.k];omega)];exact h2.trans (k2 True trivial) (fun a _=>a)
    ·rw[f2,hI]
     exact PV.frz_rep hL p _ hrep hq
    ·rw[f2,hI]
     exact f1
   rename_i hlow;simp only[Q2] at hr;obtain⟨q,hq,rfl⟩:=hr;simp only[Qh,if_false];refine⟨⟨?_,?_⟩,?_,?_,?_⟩
   ·rw[hI]
    intro i x hx;obtain⟨x',h1,h2⟩:=hB.ble i x hx;have:=(Q4.1 hx).1;have hl2:(inf σ0 m0).length<=σ0.length:=by simp only[inf,Xu];omega
    exact⟨x',a6R h1 (by omega),h2⟩
   ·intro i o ho
    obtain⟨o',h1,h2⟩:=hB.stay i o ho;have:=(Q4.1 ho).1;refine⟨o',by rw[QM (by omega)];exact h1,?_⟩;rw[QM (by rw[h.k];omega)];exact h2
   ·rw[hI]
    exact PV.frz_rep (b7U h' (ht rfl) 3) p _ hrep hq
   ·rw[hI]
    have:=MO.low_rep (k:=ρp.k) _ _ (a0D.take ρp.k h'.m) hlow;rw[h.k];exact this
   ·refine Coh.of_none fun o ho=>?_
    have:=List.all_eq_true.1 hlow o ho;cases o<;>first|rfl|simp[MO.low] at this
 | .ite c x y,ni,nb,nv,t,ρp,ρ,s,R,hc,he,h,hB,hk0,l1,l2,l3=>by
  simp only[comp,Q1,Q2] at hc;obtain⟨tx,hx,ty,hy,rfl⟩:=hc;simp only[PT.wp] at he;split at he
  case isFalse=>exact⟨fun _=>a0T hΦ x ni nb nv tx ρp ρ s R hx he.1 h hB hk0 l1 l2 l3,fun _=>a0T hΦ y ni nb nv ty ρp ρ s R hy he.2 h hB hk0 l1 l2 l3⟩
  rename_i hs;have hb:=BE.pe_den h c hs;refine⟨fun hcond=>?_,fun hcond=>?_⟩<;>rw[hb] at hcond<;>rw[hcond] at he<;>simp only[if_true,Qh,if_false] at he
  ·exact a0T hΦ x ni nb nv tx ρp ρ s R hx he h hB hk0 l1 l2 l3
  ·exact a0T hΦ y ni nb nv ty ρp ρ s R hy he h hB hk0 l1 l2 l3
 | .need c k,ni,nb,nv,t,ρp,ρ,s,R,hc,he,h,hB,hk0,l1,l2,l3=>by
  simp only[comp,Q2] at hc;obtain⟨tk,hk,rfl⟩:=hc;simp only[PT.wp] at he;split at he
  case isFalse=>cases he
  rename_i hs;split at he
  case isFalse=>cases he
  rename_i hcond;have hb:=BE.pe_den h c hs;exact⟨by rw[hb];exact hcond,fun _=>a0T hΦ k ni nb nv tk ρp ρ s R hk he h hB hk0 l1 l2 l3⟩
 | .load fl a cs di db dv k,ni,nb,nv,t,ρp,ρ,s,R,hc,he,h,hB,hk0,l1,l2,l3=>by
  simp only[comp,Q1] at hc;obtain⟨ks,hks,hc⟩:=hc;split at hc
  case isFalse=>cases hc
  rename_i hfill;simp only[Q6,decide_eq_true_eq] at hfill;obtain⟨hf1,hf2⟩:=hfill;have hf1:=SV.eq_of_beqs _ _ hf1;simp only[Q2] at hc;obtain⟨tk,hk,rfl⟩:=hc;simp only[PT.wp] at he;obtain⟨loc,hl,x,hx,r,hr,he⟩:=he;obtain⟨hn,vals,hrd,hrep⟩:=d0m h hl hx;obtain⟨vvs,hb,hspec⟩:=a8V ks x vals hr hrep;obtain⟨c1,c2⟩:=hspec ni nb nv;rw[hf2] at c1;simp only[Q3] at c1;obtain⟨d1,d2,d3⟩:=c1;have hi:ρ.i.length=ni:=by rw[h.i];exact l1
  have hbl:ρ.b.length=nb:=by rw[h.b];exact l2
  have hvl:ρ.v.length=nv:=by rw[h.v.length];exact l3
  have hden:=c2 (ρ.push r.1 r.2.1 vvs) id (At.push hi hbl hvl _ _ _);rw[hf1] at hden;refine⟨r.1,r.2.1,vvs,by omega,by omega,by omega,hb.fine,by rw[hden];exact hrd,?_⟩;refine a0T hΦ k _ _ _ tk _ _ s R hk he (h.push hb) hB hk0 ?_ ?_ ?_
  ·simp only[PEnv.push,Q5];omega
  ·simp only[PEnv.push,Q5];omega
  ·have:=hb.1.length;simp only[PEnv.push,Q5];omega
 | .app d src size bytes k,ni,nb,nv,t,ρp,ρ,s,R,hc,he,h,hB,hk0,l1,l2,l3=>by
  simp only[comp] at hc;split at hc
  case isFalse=>cases hc
  rename_i hflat;simp only[Q6,decide_eq_true_eq] at hflat;simp only[Q2] at hc;obtain⟨tk,hk,rfl⟩:=hc;simp only[PT.wp] at he;obtain⟨xs,hxs,es,hes,he⟩:=he;unfold b5c at hxs;split at he
  case isFalse=>cases he
  rename_i hlen
  have hd:∃xv,b2c ρ s size xv d/\a0B s (inf ρp.m ρ.m) xs xv/\∀r∈xs,∀p∈r,p.one=true:=by
   cases d with
   | none=>simp only[Q0] at hxs;subst hxs;exact⟨[],rfl,rfl,by simp⟩
   | some n =>
    simp only[Q1] at hxs;obtain⟨p,h1,h2⟩:=hxs;obtain⟨v,_,h3,h4⟩:=h.get h1;obtain⟨xv,e1,e2,e3⟩:=a9S h4 h2;exact⟨xv,by simp only[b2c,h3];exact e1,e2,e3⟩
  have hsrc:∃ev,b0U ρ s size ev src/\a0B s (inf ρp.m ρ.m) es ev/\∀r∈es,∀p∈r,p.one=true:=by
   cases src with
   | lit l =>
    simp only[a0W] at hes;obtain⟨a,b⟩:=b7t h l hes hflat.1;exact⟨_,rfl,a,b⟩
   | va n =>
    obtain⟨ev,e1,e2,e3,_⟩:=c6d h hes;exact⟨ev,e1,e2,e3⟩
  obtain⟨xv,a1,a2,a3⟩:=hd;obtain⟨ev,b1,b2,b3⟩:=hsrc;have e1:=a2.length;have e2:=b2.length;refine⟨xv,ev,a1,b1,?_,by simp only[maxLen];omega,fun v s' hs hsl=>?_⟩
  ·rw[e1,e2]
   calc (xs.length+es.length)*bytes<=1000000*100000000:=QD hlen hflat.2
    _<=140737488355328:=by decide
  ·refine a0T hΦ k _ _ _ tk _ _ s' R hk he ((h.mono hs).pushV (p:=.sl size (xs++es)) ?_ rfl) hB hk0 l1 l2 (by simp[l3])
   simp only[Rep];refine⟨xv++ev,hsl,(a0B.mono hs (BLe.refl _) _ _ a2).append (a0B.mono hs (BLe.refl _) _ _ b2),fun r hr=>?_⟩;exact(Qe.1 hr).elim (a3 r) (b3 r)
 | .cut n lo hi size k,ni,nb,nv,t,ρp,ρ,s,R,hc,he,h,hB,hk0,l1,l2,l3=>by
  simp only[comp,Q2] at hc;obtain⟨tk,hk,rfl⟩:=hc;simp only[PT.wp] at he;split at he
  case h_2 =>
   obtain⟨p,hp,he⟩:=he
   obtain⟨q,hq⟩:∃q,ρp.v[n]?=some q:=by
    cases hq:ρp.v[n]? with
    | none=>rw[hq] at hp;simp[b7u] at hp
    | some q=>exact⟨q,rfl⟩
   rw[hq] at hp;obtain⟨v,_,h3,h4⟩:=h.get hq;obtain⟨b,o,len,cap,e,e1,e2,e3,e4,e5,e6,e7,e8⟩:=d0v h h4 hp;refine .inr ⟨b,o,len,cap,e,e1,e2,by rw[h3];exact e3,e4,e5,e6,?_⟩;exact a0T hΦ k _ _ _ tk _ _ s R hk he (h.pushV (p:=p) e7 e8) hB hk0 l1 l2 (by simp[l3])
  rename_i xs hxs;obtain⟨p,h1,h2⟩:=Q1.1 hxs;split at he
  case isFalse=>cases he
  rename_i hcond;obtain⟨v,_,h3,h4⟩:=h.get h1;obtain⟨xv,e1,e2,e3⟩:=a9S h4 h2;have hlo:a7U ρ lo=a3c ρp lo:=by cases lo<;>simp only[a7U,a3c,IE.pe_den h]
  have hhi:∀n,a7P ρ hi n=a3b ρp hi n:=by intro n;cases hi<;>simp only[a7P,a3b,IE.pe_den h]
  have hl:=e2.length;refine .inl ⟨xv,by rw[h3];exact e1,by rw[hlo];exact hcond.1,by rw[hlo,hhi,hl];exact hcond.2.1,by rw[hhi,hl];exact hcond.2.2,fun v' hv'=>?_⟩;refine a0T hΦ k _ _ _ tk _ _ s R hk he (h.pushV (p:=.sl size ((xs.take (a3b ρp hi xs.length).toNat).drop (a3c ρp lo).toNat)) ?_ rfl) hB hk0 l1 l2 (by simp[l3]);rw[hlo,hhi,hl] at hv';simp only[Rep];exact⟨_,hv',(e2.take _).drop _,fun r hr=>e3 r (Qr (Xn hr))⟩
 | .scut n lo hi k,ni,nb,nv,t,ρp,ρ,s,R,hc,he,h,hB,hk0,l1,l2,l3=>by
  simp only[comp,Q2] at hc;obtain⟨tk,hk,rfl⟩:=hc;simp only[PT.wp] at he;split at he
  case h_2=>cases he
  rename_i l h1;split at he
  case isFalse=>cases he
  rename_i hcond;obtain⟨v,_,h3,h4⟩:=h.get h1;simp only[Rep] at h4;have hlo:a7U ρ lo=a3c ρp lo:=by cases lo<;>simp only[a7U,a3c,IE.pe_den h]
  have hhi:∀n,a7P ρ hi n=a3b ρp hi n:=by intro n;cases hi<;>simp only[a7P,a3b,IE.pe_den h]
  refine⟨l,by rw[h3];exact h4,by rw[hlo];exact hcond.1,by rw[hlo,hhi];exact hcond.2.1,by rw[hhi];exact hcond.2.2,?_⟩;refine a0T hΦ k _ _ _ tk _ _ s R hk he (h.pushV (p:=.str ((l.take (a3b ρp hi l.length).toNat).drop (a3c ρp lo).toNat)) ?_ rfl) hB hk0 l1 l2 (by simp[l3]);rw[hlo,hhi];simp only[Rep]
 | .chk n size k,ni,nb,nv,t,ρp,ρ,s,R,hc,he,h,hB,hk0,l1,l2,l3=>by
  simp only[comp,Q2] at hc;obtain⟨tk,hk,rfl⟩:=hc;simp only[PT.wp,Q1] at he;obtain⟨xs,⟨p,h1,h2⟩,he⟩:=he;obtain⟨v,_,h3,h4⟩:=h.get h1;obtain⟨xv,e1,e2,e3⟩:=a9S h4 h2;exact⟨⟨xv,by rw[h3];exact e1⟩,a0T hΦ k _ _ _ tk _ _ s R hk he h hB hk0 l1 l2 l3⟩
 | .appF n src size bytes k,ni,nb,nv,t,ρp,ρ,s,R,hc,he,h,hB,hk0,l1,l2,l3=>by
  simp only[comp] at hc;split at hc
  case isFalse=>cases hc
  rename_i hflat;simp only[Q6,decide_eq_true_eq] at hflat;simp only[Q2] at hc;obtain⟨tk,hk,rfl⟩:=hc;simp only[PT.wp,Q1] at he;obtain⟨xs,⟨p0,hp1,hp2⟩,es,hes,he⟩:=he;split at he
  case isFalse=>cases he
  rename_i hlen
  have hsrc:∃ev,b0U ρ s size ev src/\a0B s (inf ρp.m ρ.m) es ev/\∀r∈es,∀p∈r,p.one=true:=by
   cases src with
   | lit l =>
    simp only[a0W] at hes;obtain⟨a,b⟩:=b7t h l hes hflat.1;exact⟨_,rfl,a,b⟩
   | va n =>
    obtain⟨ev,e1,e2,e3,_⟩:=c6d h hes;exact⟨ev,e1,e2,e3⟩
  obtain⟨v0,_,hv3,hv4⟩:=h.get hp1;obtain⟨xv,a1,a2,a3⟩:=a9S hv4 hp2;obtain⟨ev,b1,b2,b3⟩:=hsrc;have e1:=a2.length;have e2:=b2.length;refine⟨xv,ev,by rw[hv3];exact a1,fun hev=>hlen.1 (by rw[<- e2,hev];rfl),b1,?_,by simp only[maxLen];omega,fun v s' hs hsl=>?_⟩
  ·rw[e1,e2]
   calc (xs.length+es.length)*bytes<=1000000*100000000:=QD hlen.2 hflat.2
    _<=140737488355328:=by decide
  ·refine a0T hΦ k _ _ _ tk _ _ s' R hk he ((h.mono hs).pushV (p:=.sl size (xs++es)) ?_ rfl) hB hk0 l1 l2 (by simp[l3])
   simp only[Rep];refine⟨xv++ev,hsl,(a0B.mono hs (BLe.refl _) _ _ a2).append (a0B.mono hs (BLe.refl _) _ _ b2),fun r hr=>?_⟩;exact(Qe.1 hr).elim (a3 r) (b3 r)
 | .hole ..,ni,nb,nv,t,ρp,ρ,s,R,hc,he,h,hB,hk0,l1,l2,l3=>by simp only[comp,Q0] at hc;subst hc;simp[PT.wp] at he
 | .fill ..,ni,nb,nv,t,ρp,ρ,s,R,hc,he,h,hB,hk0,l1,l2,l3=>by simp only[comp,Q0] at hc;subst hc;simp[PT.wp] at he
 | .call f args H rs di db dv k,ni,nb,nv,t,ρp,ρ,s,R,hc,he,h,hB,hk0,l1,l2,l3=>by
  simp only[comp,Q1] at hc;obtain⟨shs,hshs,hc⟩:=hc;split at hc
  case isFalse=>cases hc
  rename_i hfill;simp only[Q6,decide_eq_true_eq] at hfill;obtain⟨hf1,hf2⟩:=hfill;have hf1:=SV.eq_of_beq _ _ hf1;simp only[Q2] at hc;obtain⟨tk,hk,rfl⟩:=hc;simp only[PT.wp] at he;obtain⟨ayq,has,⟨r0,σ'⟩,hΦr,x,hx,he⟩:=he;intro β s1 hs1 hsh;have h1:=h.mono hs1;obtain⟨_,hct⟩:=hΦ f ayq ρp.m r0 σ' hΦr;refine⟨_,hct s1 ρ.m _ h1.m h1.coh (SV.pvs_rep h1 (b7H h1 hsh 3) args ayq has),fun v s' m' hs' hq=>?_⟩;obtain⟨hpre,q1,q2,q3⟩:=hq;obtain⟨vvs,hb,hspec⟩:=b4d hx q1;obtain⟨c1,c2⟩:=hspec ni nb nv;rw[hf2] at c1;simp only[Q3] at c1;obtain⟨d1,d2,d3⟩:=c1;have hi:ρ.i.length=ni:=by rw[h.i];exact l1
  have hbl:ρ.b.length=nb:=by rw[h.b];exact l2
  have hvl:ρ.v.length=nv:=by rw[h.v.length];exact l3
  have hden:=c2 (ρ.push x.1 x.2.1 vvs) id (At.push hi hbl hvl _ _ _);rw[hf1] at hden;have h2:=(h1.turn hs' hpre q2 q3).push (r:=x) (vvs:=vvs) hb;refine⟨x.1,x.2.1,vvs,by omega,by omega,by omega,hb.fine,hden.symm,?_⟩;refine a0T hΦ k _ _ _ tk _ _ s' R hk he h2 (hB.trans hpre) hk0 ?_ ?_ ?_
  ·simp only[PEnv.push,Q5];omega
  ·simp only[PEnv.push,Q5];omega
  ·have:=hb.1.length;simp only[PEnv.push,Q5];omega
 | .callv n args rs di db dv k,ni,nb,nv,t,ρp,ρ,s,R,hc,he,h,hB,hk0,l1,l2,l3=>by
  simp only[comp,Q1] at hc;obtain⟨shs,hshs,hc⟩:=hc;split at hc
  case isFalse=>cases hc
  rename_i hfill;simp only[Q6,decide_eq_true_eq] at hfill;obtain⟨hf1,hf2⟩:=hfill;have hf1:=SV.eq_of_beq _ _ hf1;simp only[Q2] at hc;obtain⟨tk,hk,rfl⟩:=hc;simp only[PT.wp] at he;split at he
  case h_2=>cases he
  rename_i f cap hf;obtain⟨ayq,has,⟨r0,σ'⟩,hΦr,x,hx,he⟩:=he;obtain⟨v,_,g1,g2⟩:=h.get hf;simp only[Rep] at g2;obtain⟨caps,rfl,g2⟩:=g2;obtain⟨hen,hct⟩:=hΦ f (ayq++cap) ρp.m r0 σ' hΦr;refine⟨f,caps.toArray,_,g1,hen,hct s ρ.m _ h.m h.coh (by simpa using (SV.pvs_rep h (a4n s _ id) args ayq has).append g2),fun v s' m' hs' hq=>?_⟩;obtain⟨hpre,q1,q2,q3⟩:=hq;obtain⟨vvs,hb,hspec⟩:=b4d hx q1;obtain⟨c1,c2⟩:=hspec ni nb nv;rw[hf2] at c1;simp only[Q3] at c1;obtain⟨d1,d2,d3⟩:=c1;have hi:ρ.i.length=ni:=by rw[h.i];exact l1
  have hbl:ρ.b.length=nb:=by rw[h.b];exact l2
  have hvl:ρ.v.length=nv:=by rw[h.v.length];exact l3
  have hden:=c2 (ρ.push x.1 x.2.1 vvs) id (At.push hi hbl hvl _ _ _);rw[hf1] at hden;have h2:=(h.turn hs' hpre q2 q3).push (r:=x) (vvs:=vvs) hb;refine⟨x.1,x.2.1,vvs,by omega,by omega,by omega,hb.fine,hden.symm,?_⟩;refine a0T hΦ k _ _ _ tk _ _ s' R hk he h2 (hB.trans hpre) hk0 ?_ ?_ ?_
  ·simp only[PEnv.push,Q5];omega
  ·simp only[PEnv.push,Q5];omega
  ·have:=hb.1.length;simp only[PEnv.push,Q5];omega
 | .newM cs T k,ni,nb,nv,t,ρp,ρ,s,R,hc,he,h,hB,hk0,l1,l2,l3=>by
  simp only[comp,Q2] at hc;obtain⟨tk,hk,rfl⟩:=hc;simp only[PT.wp] at he;obtain⟨l,hl,he⟩:=he;intro b hb;have hr:=SV.pvs_rep h (a4n s _ id) cs l hl;obtain⟨hpre,h1⟩:=h.newM (o:=.cells l T) (x:=(b,Obj.cells (SV.dens ρ id cs).toArray T (0,0))) ⟨_,rfl,hr⟩;have hml:=h.m.length
  have h2:=h1.pushV (p:=.ref ρp.m.length 0) (v:=.pointer (some ⟨b,0,none⟩)) (by
   simp only[Rep]
   exact⟨b,_,a1r (o:=.cells l T) (x:=(b,Obj.cells (SV.dens ρ id cs).toArray T (0,0))) (by simp) (by simp[<- hml]),rfl⟩) rfl
  exact a0T hΦ k _ _ _ tk _ _ s R hk he h2 (hB.trans hpre) hk0 l1 l2 (by simp[l3])
 | .mkM n zero T size bytes k,ni,nb,nv,t,ρp,ρ,s,R,hc,he,h,hB,hk0,l1,l2,l3=>by
  simp only[comp] at hc;split at hc
  case isFalse=>cases hc
  rename_i hz;simp only[Q2] at hc;obtain⟨tk,hk,rfl⟩:=hc;simp only[PT.wp] at he;obtain⟨z,hzp,he⟩:=he;split at he
  case isFalse=>cases he
  rename_i hcond;obtain⟨c1,c2,c3⟩:=hcond;have hn:=IE.pe_den h n;refine⟨by rw[hn];exact c1,?_,by rw[hn];omega,fun b hb=>?_⟩
  ·rw[hn]
   calc n.pe ρp*(bytes:Int)<=1000000*100000000:=Int.mul_le_mul c2 (by omega) (by omega) (by omega)
    _<=140737488355328:=by decide
  ·rw[hn]
   have hzl:(SV.dens ρ id zero).length=size:=by rw[a0I];exact hz
   have hmc:madeCells (SV.dens ρ id zero).toArray ((n.pe ρp).toNat*size)=((Q9 (n.pe ρp).toNat (SV.dens ρ id zero)).flatten).toArray:=by
    rw[<- hzl];exact c6g _ _
   rw[hmc];have hr:=c4C (SV.pvs_rep h (a4n s _ id) zero z hzp) (n.pe ρp).toNat;obtain⟨hpre,h1⟩:=h.newM (o:=.cells (Q9 (n.pe ρp).toNat z).flatten T) (x:=(b,Obj.cells ((Q9 (n.pe ρp).toNat (SV.dens ρ id zero)).flatten).toArray T (0,0))) ⟨_,rfl,hr⟩;have hml:=h.m.length
   have h2:=h1.pushV (p:=.msl ρp.m.length 0 (n.pe ρp).toNat (n.pe ρp).toNat size) (v:=.slice (some ⟨b,0,none⟩) (n.pe ρp).toNat (n.pe ρp).toNat) (by
    simp only[Rep]
    exact⟨b,_,a1r (o:=.cells (Q9 (n.pe ρp).toNat z).flatten T) (x:=(b,Obj.cells ((Q9 (n.pe ρp).toNat (SV.dens ρ id zero)).flatten).toArray T (0,0))) (by simp) (by simp[<- hml]),rfl⟩) rfl
   exact a0T hΦ k _ _ _ tk _ _ s R hk he h2 (hB.trans hpre) hk0 l1 l2 (by simp[l3])
 | .storeM a cs k,ni,nb,nv,t,ρp,ρ,s,R,hc,he,h,hB,hk0,l1,l2,l3=>by
  simp only[comp,Q2] at hc;obtain⟨tk,hk,rfl⟩:=hc;simp only[PT.wp] at he;split at he
  ·rename_i hd off hloc
   split at he
   case h_2=>cases he
   rename_i l T hm;obtain⟨new,hnew,he⟩:=he;split at he
   case isFalse=>cases he
   rename_i hle;obtain⟨b,vs,g1,g2⟩:=h.m.get hm;have hI:=a1r hm g1;have hr:=SV.pvs_rep h (a4n s _ id) cs new hnew;have hnl:=hr.length;rw[a0I] at hnl;refine⟨hd,b,off,vs.toArray,T,g1,d2L h hloc hI,by rw[Qv,g2.length,hnl];exact hle,?_⟩
   obtain⟨hpre,h2⟩:=h.setM (o:=.cells (a2h l off new) T) (x:=(b,Obj.cells (a3T vs off (SV.dens ρ id cs)).toArray T (0,0))) hm g1 ⟨_,rfl,c1A g2 hr off⟩ (.inl (by
    simp only[a1l,a2X,Qv,b7r vs (SV.dens ρ id cs) off (by rw[a0I,g2.length,hnl];exact hle)]))
   exact a0T hΦ k _ _ _ tk _ _ s R hk he h2 (hB.trans hpre) hk0 l1 l2 l3
  ·rename_i hd len i sz off hloc
   split at he
   case h_2=>cases he
   rename_i rows sz' T hm;split at he
   case isFalse=>cases he
   rename_i hc;obtain⟨hc1,rfl⟩:=hc;obtain⟨r,hrow,new,hnew,he⟩:=he;split at he
   case isFalse=>cases he
   rename_i hle;obtain⟨hle,hone⟩:=hle;obtain⟨⟨b,ob⟩,g1,cur,g2,a1,a2,⟨cap,a3,a3',a3''⟩,a4,xs,a5,a6,a7⟩:=h.m.obj hm;simp only at g2;subst g2;have hI:=a1r hm g1;simp only[a1l,a2X] at hI;have hI':=hI;rw[hc1] at hI';obtain⟨hadr,hilt⟩:=c7H h hloc hI';have hr:=SV.pvs_rep h (a4n s _ id) cs new hnew;have hnl:=hr.length;rw[a0I] at hnl;obtain⟨xv,x1,x2⟩:=a5.get hrow;have hxl:=a6 xv (Qq x1);have hrl:r.length=sz':=by rw[<- x2.length];exact hxl
   have hlx:=a5.length
   have hpos:i*sz'+sz'<=cur.size:=by
    rw[a3]
    calc i*sz'+sz'=(i+1)*sz':=by rw[Qu,QS]
     _<=cap*sz':=QD (by omega) (Qa _)
   refine⟨hd,b,i*sz'+off,cur,T,g1,hadr,by omega,?_⟩;have hset:=c1A x2 hr off;have hsl:(a3T xv off (SV.dens ρ id cs)).length=sz':=by rw[b7r _ _ _ (by rw[a0I];omega)];exact hxl
   have hcs:(a3T cur.toList (i*sz'+off) (SV.dens ρ id cs)).length=cur.size:=by rw[b7r _ _ _ (by have h9:cur.toList.length=cur.size:=X0;rw[a0I];omega)];exact X0
   obtain⟨hpre,h2⟩:=h.setM (o:=.row (rows.set i (a2h r off new)) sz' T) (x:=(b,Obj.cells (a3T cur.toList (i*sz'+off) (SV.dens ρ id cs)).toArray T (0,0))) hm g1
    ⟨_,rfl,by simpa using a1,a2,⟨cap,by simp only[Qv,hcs];exact a3,by simpa using a3',a3''⟩,fun r' hr' p hp=>by
     rcases QQ hr' with h1|rfl
     ·exact a4 r' h1 p hp
     ·rcases d0Z hp with h1|h1
      ·exact a4 r (Qq hrow) p h1
      ·exact List.all_eq_true.1 hone p h1,xs.set i (a3T xv off (SV.dens ρ id cs)),c4K a5 i hset,fun x hx=>by
     rcases QQ hx with h1|rfl
     ·exact a6 x h1
     ·exact hsl,fun j u hj=>by
     rw[List.getElem?_toArray]
     exact b7O a6 x1 hxl hsl (by rw[a0I];omega) (fun j u h9=>by rw[Array.getElem?_toList];exact a7 j u h9) (by simpa using hpos) hj⟩ (.inl (by simp only[a1l,a2X,Qv,hcs,List.length_set]))
   exact a0T hΦ k _ _ _ tk _ _ s R hk he h2 (hB.trans hpre) hk0 l1 l2 l3
  ·cases he
 | .appM d src size bytes T k,ni,nb,nv,t,ρp,ρ,s,R,hc,he,h,hB,hk0,l1,l2,l3=>by
  simp only[comp] at hc;split at hc
  case isFalse=>cases hc
  rename_i hflat;simp only[Q6,decide_eq_true_eq] at hflat;obtain⟨⟨⟨⟨hfl,hsl⟩,hby⟩,hpos⟩,hdf⟩:=hflat;simp only[Q2] at hc;obtain⟨tk,hk,rfl⟩:=hc;simp only[PT.wp] at he;obtain⟨p,hp,es,hes,he⟩:=he;have hpr:=SV.pv_rep (t:=s) (β:=id) h (a4n s _ id) d p hp;have hpo:=c4v h hdf hp
  have hsrc:∃ev,b0U ρ s size ev src/\a0B s (inf ρp.m ρ.m) es ev/\(∀r∈es,∀p∈r,p.one=true)/\∀x∈ev,x.length=size:=by
   cases src with
   | lit l =>
    simp only[a0W] at hes;obtain⟨a,b⟩:=b7t h l hes hfl;refine⟨_,rfl,a,b,fun x hx=>?_⟩;obtain⟨y,hy,rfl⟩:=Qb.1 hx;rw[a0I];simpa using List.all_eq_true.1 hsl y hy
   | va n =>
    exact c6d h hes
  obtain⟨ev,b1,b2,b3,b4⟩:=hsrc;have e2:=b2.length;have hml:=h.m.length
  have bnd:∀n:Nat,n<=1000000->n*bytes<=140737488355328:=fun n hn =>
   calc n*bytes<=1000000*100000000:=QD hn hby
    _<=140737488355328:=by decide
  split at he
  ·
   split at he
   case isFalse=>cases he
   rename_i hlen;simp only[Rep] at hpr;refine⟨ρ.m.length,[],ev,by simp,.inl ⟨rfl,.inl ⟨rfl,hpr⟩⟩,b1,by simpa[e2] using bnd _ hlen,by simp only[maxLen,Xv,e2];omega,fun h0=>?_,fun h0 b' cap' cur' f1 f2 f3 f4 f5=>?_⟩
   ·have hz:es.length=0:=by rw[<- e2,h0];rfl
    rw[if_pos hz] at he;exact a0T hΦ k _ _ _ tk _ _ s R hk he (h.pushV (p:=.nilS) (by simp only[Rep];exact hpr) rfl) hB hk0 l1 l2 (by simp[l3])
   ·have hz:¬es.length=0:=by rw[<- e2];simpa using h0
    rw[if_neg hz] at he;simp only[Nat.lt_irrefl,if_false,Xv,Qm,List.nil_append] at f2 f5 ⊢;obtain⟨hpre,h1⟩:=h.newM (o:=.row es size T) (x:=(b',Obj.cells cur' T (0,0))) ⟨cur',rfl,by intro h9;rw[h9] at hz;simp at hz,hpos,⟨cap',f4,by omega,f3⟩,b3,ev,b2,b4,f5⟩;have hI:=a1r (σ:=ρp.m++[.row es size T]) (m:=ρ.m++[(b',Obj.cells cur' T (0,0))]) (i:=ρp.m.length) (o:=.row es size T) (x:=(b',Obj.cells cur' T (0,0))) (by simp) (by simp[<- hml])
    have h2:=h1.pushV (p:=.rsl ρp.m.length es.length size) (v:=.slice (some ⟨b',0,none⟩) ev.length cap') (by
     simp only[Rep]
     refine⟨by omega,b',cap',by rw[e2],b',_,_,hI,Qa _,fun _=>⟨rfl,f4,by omega⟩⟩) rfl
    exact a0T hΦ k _ _ _ tk _ _ s R hk he h2 (hB.trans hpre) hk0 l1 l2 (by simp[l3])
  ·
   rename_i hd len sz;split at he
   case h_2=>cases he
   rename_i rows sz' T' hm;split at he
   case isFalse=>cases he
   rename_i hc;obtain⟨hc1,hs1,hs2,hs3,hc5⟩:=hc;have hs1:=hs1.symm;have hs2:=hs2.symm;have hs3:=hs3.symm;subst hs1 hs2 hs3;obtain⟨⟨b,ob⟩,g1,cur,g2,a1,a2,⟨cap,a3,a3',a3''⟩,a4,xs,a5,a6,a7⟩:=h.m.obj hm;simp only at g2;subst g2;have hI:=a1r hm g1;simp only[a1l,a2X] at hI;have hlx:=a5.length;have hpr0:=hpr;simp only[Rep] at hpr;obtain⟨hlen0,b1',cap1,hdv,b2',n2,r2,k1,k2,k3⟩:=hpr;rw[hI] at k1;simp only[Q0,Q3] at k1;obtain⟨rfl,rfl,rfl⟩:=k1;obtain⟨rfl,k4,k5⟩:=k3 hc1;have hcc:cap1=cap:=by rw[a3] at k4;exact(Nat.eq_of_mul_eq_mul_right a2 k4).symm
   subst hcc;have hltm:=(Q4.1 g1).1;refine⟨hd,xs,ev,a6,  .inr ⟨_,cap1,cur,by rw[hdv,hlx,hc1],g1,by omega,a3'',a3,a7⟩,b1,by rw[hlx,hc1,e2];exact bnd _ hc5,by simp only[maxLen];omega,fun h0=>?_,fun h0 b' cap' cur' f1 f2 f3 f4 f5=>?_⟩
   ·have hz:es.length=0:=by rw[<- e2,h0];rfl
    rw[if_pos hz] at he;exact a0T hΦ k _ _ _ tk _ _ s R hk he (h.pushV hpr0 rfl) hB hk0 l1 l2 (by simp[l3])
   ·have hz:¬es.length=0:=by rw[<- e2];simpa using h0
    rw[if_neg hz] at he;rw[if_pos hltm];have hall:∀x∈xs++ev,x.length=size:=fun x hx=>(Qe.1 hx).elim (a6 x) (b4 x)
    obtain⟨hpre,h1⟩:=h.setM (o:=.row (rows++es) size T) (x:=(b',Obj.cells cur' T (0,0))) hm g1
     ⟨cur',rfl,by simp[a1],a2,⟨cap',f4,by simp only[Q5];omega,f3⟩,fun r hr=>(Qe.1 hr).elim (a4 r) (b3 r),xs++ev,a5.append b2,hall,f5⟩
     (.inr (by simp only[a1l,Q5];omega))
    have hI2:=a1r (σ:=ρp.m.set hd (.row (rows++es) size T)) (m:=ρ.m.set hd (b',Obj.cells cur' T (0,0))) (i:=hd) (o:=.row (rows++es) size T) (x:=(b',Obj.cells cur' T (0,0)))
     (by rw[Qw (by omega)]) (by rw[Qw hltm])
    simp only[a1l,a2X,Q5] at hI2
    have h2:=h1.pushV (p:=.rsl hd (len+es.length) size) (v:=.slice (some ⟨b',0,none⟩) (xs.length+ev.length) cap') (by
     simp only[Rep]
     refine⟨by omega,b',cap',by rw[hlx,hc1,e2],b',_,_,hI2,by omega,fun _=>⟨rfl,f4,by omega⟩⟩) rfl
    exact a0T hΦ k _ _ _ tk _ _ s R hk he h2 (hB.trans hpre) hk0 l1 l2 (by simp[l3])
  ·
   rename_i hd o len cap sz;split at he
   case h_2=>cases he
   rename_i l T' hm;split at he
   case isFalse=>cases he
   rename_i hc;obtain⟨rfl,hs1,hc5⟩:=hc;subst hs1;obtain⟨rows,hrows,he⟩:=he;have hpr0:=hpr;simp only[Rep] at hpr;obtain⟨b,n0,k1,hdv⟩:=hpr;obtain⟨b',vs,g1,g2⟩:=h.m.get hm;have hI:=a1r hm g1;rw[hI] at k1;simp only[a1l,Q0,Q3] at k1;obtain⟨rfl,_⟩:=k1;obtain⟨xs,x1,x2,x3,x4,x5⟩:=b3n _ (g2.drop o) hrows;have hlx:xs.length=len:=by rw[x2.length];exact x4
   refine⟨ρ.m.length,xs,ev,x1,.inl ⟨rfl,.inr ⟨b',o,hd,vs.toArray,T',by rw[hdv,hlx],g1,fun j u hj=>?_⟩⟩,b1,by rw[hlx,e2];exact bnd _ hc5,by simp only[maxLen];omega,fun h0=>?_,fun h0 bb cap' cur' f1 f2 f3 f4 f5=>?_⟩
   ·have:=x5 j u hj
    rw[Qf] at this;simpa using this
   ·have hz:es.length=0:=by rw[<- e2,h0];rfl
    rw[if_pos hz] at he;exact a0T hΦ k _ _ _ tk _ _ s R hk he (h.pushV hpr0 rfl) hB hk0 l1 l2 (by simp[l3])
   ·have hz:¬es.length=0:=by rw[<- e2];simpa using h0
    rw[if_neg hz] at he;simp only[Nat.lt_irrefl,if_false];have hall:∀x∈xs++ev,x.length=sz:=fun x hx=>(Qe.1 hx).elim (x1 x) (b4 x)
    have hrl:=x2.length;obtain⟨hpre,h1⟩:=h.newM (o:=.row (rows++es) sz T) (x:=(bb,Obj.cells cur' T (0,0))) ⟨cur',rfl,by intro h9;rw[List.append_eq_nil_iff] at h9;rw[h9.2] at hz;simp at hz,hpos,⟨cap',f4,by simp only[Q5];omega,f3⟩,fun r hr=>(Qe.1 hr).elim (x3 r) (b3 r),xs++ev,x2.append b2,hall,f5⟩;have hI:=a1r (σ:=ρp.m++[.row (rows++es) sz T]) (m:=ρ.m++[(bb,Obj.cells cur' T (0,0))]) (i:=ρp.m.length) (o:=.row (rows++es) sz T) (x:=(bb,Obj.cells cur' T (0,0))) (by simp) (by simp[<- hml]);simp only[a1l,a2X,Q5] at hI
    have h2:=h1.pushV (p:=.rsl ρp.m.length (len+es.length) sz) (v:=.slice (some ⟨bb,0,none⟩) (xs.length+ev.length) cap') (by
     simp only[Rep]
     refine⟨by omega,bb,cap',by rw[hlx,e2],bb,_,_,hI,by omega,fun _=>⟨rfl,f4,by omega⟩⟩) rfl
    exact a0T hΦ k _ _ _ tk _ _ s R hk he h2 (hB.trans hpre) hk0 l1 l2 (by simp[l3])
  ·cases he
 | .mkMap K k,ni,nb,nv,t,ρp,ρ,s,R,hc,he,h,hB,hk0,l1,l2,l3=>by
  simp only[comp,Q2] at hc;obtain⟨tk,hk,rfl⟩:=hc;simp only[PT.wp] at he;intro b hb;obtain⟨hpre,h1⟩:=h.newM (o:=.mp [] [] K) (x:=(b,Obj.map #[] 0)) ⟨#[],0,[],rfl,⟨rfl,rfl⟩,rfl⟩;have hml:=h.m.length
  have h2:=h1.pushV (p:=.mp ρp.m.length) (v:=.map (some b)) (by
   simp only[Rep]
   exact⟨b,_,a1r (o:=.mp [] [] K) (x:=(b,Obj.map #[] 0)) (by simp) (by simp[<- hml]),rfl⟩) rfl
  exact a0T hΦ k _ _ _ tk _ _ s R hk he h2 (hB.trans hpre) hk0 l1 l2 (by simp[l3])
 | .mapGet n K key dflt ok rs di db dv k,ni,nb,nv,t,ρp,ρ,s,R,hc,he,h,hB,hk0,l1,l2,l3=>by
  simp only[comp,Q1] at hc;obtain⟨shs,hshs,hc⟩:=hc;split at hc
  case isFalse=>cases hc
  rename_i hfill;simp only[Q6,decide_eq_true_eq] at hfill;obtain⟨hf1,hf2⟩:=hfill;have hf1:=SV.eq_of_beq _ _ hf1;simp only[Q2] at hc;obtain⟨tk,hk,rfl⟩:=hc;simp only[PT.wp] at he;split at he
  case h_2=>cases he
  rename_i hd hn;split at he
  case h_2=>cases he
  rename_i ks vs K' hm;split at he
  case isFalse=>cases he
  rename_i hKK;subst hKK;obtain⟨d,hd',x,hx,he⟩:=he;obtain⟨b,es,clock,vv,m1,m2,m3,m4⟩:=h.map hn hm;have hdr:=SV.pv_rep h (a4n s _ id) dflt d hd'
  have hres:Rep s (inf ρp.m ρ.m) (if ok then .tup [(a2A ks vs (key.pe ρp)).getD d,.bool (a2A ks vs (key.pe ρp)).isSome] else(a2A ks vs (key.pe ρp)).getD d) (b3C ok (a2A ks vv (key.den ρ)) (dflt.den ρ id)):=by
   rw[IE.pe_den h key];unfold b3C;rcases c5W ks vs vv m4 (key.pe ρp) with ⟨a1,a2⟩|⟨p,v,a1,a2,a3⟩
   ·rw[a1,a2]
    cases ok
    ·exact hdr
    ·exact⟨_,rfl,_,_,rfl,hdr,_,_,rfl,rfl,rfl⟩
   ·rw[a1,a2]
    cases ok
    ·exact a3
    ·exact⟨_,rfl,_,_,rfl,a3,_,_,rfl,rfl,rfl⟩
  obtain⟨vvs,hb,hspec⟩:=b4d hx hres;obtain⟨c1,c2⟩:=hspec ni nb nv;rw[hf2] at c1;simp only[Q3] at c1;obtain⟨d1,d2,d3⟩:=c1;have hi:ρ.i.length=ni:=by rw[h.i];exact l1
  have hbl:ρ.b.length=nb:=by rw[h.b];exact l2
  have hvl:ρ.v.length=nv:=by rw[h.v.length];exact l3
  have hden:=c2 (ρ.push x.1 x.2.1 vvs) id (At.push hi hbl hvl _ _ _);rw[hf1] at hden;have h2:=h.push (r:=x) (vvs:=vvs) hb;refine⟨hd,b,es,clock,ks,vv,m1,m2,m3,x.1,x.2.1,vvs,by omega,by omega,by omega,hb.fine,hden.symm,?_⟩;refine a0T hΦ k _ _ _ tk _ _ s R hk he h2 hB hk0 ?_ ?_ ?_
  ·simp only[PEnv.push,Q5];omega
  ·simp only[PEnv.push,Q5];omega
  ·have:=hb.1.length;simp only[PEnv.push,Q5];omega
 | .mapSet n K key v k,ni,nb,nv,t,ρp,ρ,s,R,hc,he,h,hB,hk0,l1,l2,l3=>by
  simp only[comp,Q2] at hc;obtain⟨tk,hk,rfl⟩:=hc;simp only[PT.wp] at he;split at he
  case h_2=>cases he
  rename_i hd hn;split at he
  case h_2=>cases he
  rename_i ks vs K' hm;split at he
  case isFalse=>cases he
  rename_i hKK;subst hKK;obtain⟨x,hx,he⟩:=he;obtain⟨b,es,clock,vv,m1,m2,m3,m4⟩:=h.map hn hm;have hxr:=SV.pv_rep h (a4n s _ id) v x hx;refine⟨hd,b,es,clock,ks,vv,m1,m2,m3,fun es' clock' hmi=>?_⟩;rw[IE.pe_den h key] at hmi;obtain⟨p1,p2⟩:=c7m ks vs vv m4 (key.pe ρp) x (v.den ρ id) hxr;rw[<- p1] at hmi;obtain⟨hpre,h2⟩:=h.setM (o:=.mp (a3R ks vs (key.pe ρp) x).1 (a3R ks vs (key.pe ρp) x).2 K') (x:=(b,Obj.map es' clock')) hm m1 ⟨es',clock',_,rfl,hmi,p2⟩ (.inl rfl);exact a0T hΦ k _ _ _ tk _ _ s R hk he h2 (hB.trans hpre) hk0 l1 l2 l3
 | .mapClr n k,ni,nb,nv,t,ρp,ρ,s,R,hc,he,h,hB,hk0,l1,l2,l3=>by
  simp only[comp,Q2] at hc;obtain⟨tk,hk,rfl⟩:=hc;simp only[PT.wp] at he;split at he
  case h_2=>cases he
  rename_i hd hn;split at he
  case h_2=>cases he
  rename_i ks vs K' hm;obtain⟨b,es,clock,vv,m1,m2,m3,m4⟩:=h.map hn hm;refine⟨hd,b,es,clock,m1,m2,?_⟩;obtain⟨hpre,h2⟩:=h.setM (o:=.mp [] [] K') (x:=(b,Obj.map #[] clock)) hm m1 ⟨#[],clock,[],rfl,⟨rfl,rfl⟩,rfl⟩ (.inl rfl);exact a0T hΦ k _ _ _ tk _ _ s R hk he h2 (hB.trans hpre) hk0 l1 l2 l3
 | .mkQ k,ni,nb,nv,t,ρp,ρ,s,R,hc,he,h,hB,hk0,l1,l2,l3=>by
  simp only[comp,Q2] at hc;obtain⟨tk,hk,rfl⟩:=hc;simp only[PT.wp] at he;intro b hb;obtain⟨hpre,h1⟩:=h.newM (o:=.mq [] 0) (x:=(b,Obj.map #[] 0)) ⟨#[],0,rfl,[],rfl,.nil,by simp,by simp[b0r]⟩;have hml:=h.m.length
  have h2:=h1.pushV (p:=.mp ρp.m.length) (v:=.map (some b)) (by
   simp only[Rep]
   exact⟨b,_,a1r (o:=.mq [] 0) (x:=(b,Obj.map #[] 0)) (by simp) (by simp[<- hml]),rfl⟩) rfl
  exact a0T hΦ k _ _ _ tk _ _ s R hk he h2 (hB.trans hpre) hk0 l1 l2 (by simp[l3])
 | .qGet n key ok k,ni,nb,nv,t,ρp,ρ,s,R,hc,he,h,hB,hk0,l1,l2,l3=>by
  simp only[comp,Q2] at hc;obtain⟨tk,hk,rfl⟩:=hc;simp only[PT.wp] at he;split at he
  case h_2=>cases he
  rename_i hd hn;split at he
  case h_2=>cases he
  rename_i kv ver hm;split at he
  case isFalse=>cases he
  rename_i hw;obtain⟨b,es,clock,kv',m1,m2,m3,m4,m5,m6⟩:=h.mapQ hn hm;have hkey:key.map (IE.den ρ)=key.map (IE.pe ρp):=X2 (fun e _=>IE.pe_den h e);refine⟨hd,b,es,clock,kv',m1,m2,m3,b4S m4 hw,?_⟩;rw[hkey,c8J m4 m5];have h2:=h.push (r:=([(a1Y kv (key.map (IE.pe ρp))).getD 0],if ok then [(a1Y kv (key.map (IE.pe ρp))).isSome] else [],[])) (vvs:=[]) ⟨rfl,by simp⟩;refine a0T hΦ k _ _ _ tk _ _ s R hk he h2 hB hk0 ?_ ?_ ?_
  ·simp[PEnv.push,l1]
  ·cases ok<;>simp[PEnv.push,l2]
  ·simp[PEnv.push,l3]
 | .qSet n key v k,ni,nb,nv,t,ρp,ρ,s,R,hc,he,h,hB,hk0,l1,l2,l3=>by
  simp only[comp,Q2] at hc;obtain⟨tk,hk,rfl⟩:=hc;simp only[PT.wp] at he;split at he
  case h_2=>cases he
  rename_i hd hn;split at he
  case h_2=>cases he
  rename_i kv ver hm;split at he
  case isFalse=>cases he
  rename_i hw;obtain⟨b,es,clock,kv',m1,m2,m3,m4,m5,m6⟩:=h.mapQ hn hm;have hkey:key.map (IE.den ρ)=key.map (IE.pe ρp):=X2 (fun e _=>IE.pe_den h e);refine⟨hd,b,es,clock,kv',m1,m2,m3,b4S m4 hw,m6,fun es' clock' hq hbn=>?_⟩;rw[hkey,IE.pe_den h v] at hq;obtain⟨p1,p2⟩:=c9M m4 m5 (key.map (IE.pe ρp)) (v.pe ρp);obtain⟨hpre,h2⟩:=h.setM (o:=.mq (c1T kv (key.map (IE.pe ρp)) (v.pe ρp)) (ver+1)) (x:=(b,Obj.map es' clock')) hm m1 ⟨es',clock',rfl,_,hq,p1,p2,hbn⟩ (.inl rfl) ⟨by omega,fun h=>by omega⟩;exact a0T hΦ k _ _ _ tk _ _ s R hk he h2 (hB.trans hpre) hk0 l1 l2 l3
 | .qDel n key k,ni,nb,nv,t,ρp,ρ,s,R,hc,he,h,hB,hk0,l1,l2,l3=>by
  simp only[comp,Q2] at hc;obtain⟨tk,hk,rfl⟩:=hc;simp only[PT.wp] at he;split at he
  case h_2=>cases he
  rename_i hd hn;split at he
  case h_2=>cases he
  rename_i kv ver hm;split at he
  case isFalse=>cases he
  rename_i hw;obtain⟨b,es,clock,kv',m1,m2,m3,m4,m5,m6⟩:=h.mapQ hn hm;have hkey:key.map (IE.den ρ)=key.map (IE.pe ρp):=X2 (fun e _=>IE.pe_den h e);refine⟨hd,b,es,clock,kv',m1,m2,m3,b4S m4 hw,m6,fun es' clock' hq hbn=>?_⟩;rw[hkey] at hq;obtain⟨p1,p2⟩:=c9D m4 m5 (key.map (IE.pe ρp));obtain⟨hpre,h2⟩:=h.setM (o:=.mq (b0P kv (key.map (IE.pe ρp))) (ver+1)) (x:=(b,Obj.map es' clock')) hm m1 ⟨es',clock',rfl,_,hq,p1,p2,hbn⟩ (.inl rfl) ⟨by omega,fun h=>by omega⟩;exact a0T hΦ k _ _ _ tk _ _ s R hk he h2 (hB.trans hpre) hk0 l1 l2 l3
 | .qLen n k,ni,nb,nv,t,ρp,ρ,s,R,hc,he,h,hB,hk0,l1,l2,l3=>by
  simp only[comp,Q2] at hc;obtain⟨tk,hk,rfl⟩:=hc;simp only[PT.wp] at he;split at he
  case h_2=>cases he
  rename_i hd hn;split at he
  case h_2=>cases he
  rename_i kv ver hm;obtain⟨b,es,clock,kv',m1,m2,m3,m4,m5,m6⟩:=h.mapQ hn hm;refine⟨hd,b,es,clock,m1,m2,?_⟩
  have hsz:es.size=kv.length:=by
   have:=congrArg List.length m3;simp only[QA,X0] at this;rw[this,m4.length_eq]
  rw[hsz];have h2:=h.push (r:=([(kv.length:Int)],[],[])) (vvs:=[]) ⟨rfl,by simp⟩;exact a0T hΦ k _ _ _ tk _ _ s R hk he h2 hB hk0 (by simp[PEnv.push,l1]) (by simp[PEnv.push,l2]) (by simp[PEnv.push,l3])
 | .rng n k,ni,nb,nv,t,ρp,ρ,s,R,hc,he,h,hB,hk0,l1,l2,l3=>by
  simp only[comp,Q2] at hc;obtain⟨tk,hk,rfl⟩:=hc;simp only[PT.wp] at he;split at he
  case h_2=>cases he
  rename_i hd hn;split at he
  case h_2=>cases he
  rename_i kv ver hm;obtain⟨b,es,clock,kv',m1,m2,m3,m4,m5,m6⟩:=h.mapQ hn hm;refine⟨hd,b,es,clock,m1,m2,fun b' hb'=>?_⟩;obtain⟨hpre,h1⟩:=h.newIt hm m1 m6 b';have hml:=h.m.length
  have h2:=h1.pushV (p:=.ref ρp.m.length 0) (v:=.pointer (some ⟨b',0,none⟩)) (by
   simp only[Rep]
   exact⟨b',_,a1r (o:=.it hd ver []) (x:=(b',Obj.mapIter (some b) clock #[] clock)) (by simp) (by simp[<- hml]),rfl⟩) rfl
  exact a0T hΦ k _ _ _ tk _ _ s R hk he h2 (hB.trans hpre) hk0 l1 l2 (by simp[l3])
 | .next n w x y,ni,nb,nv,t,ρp,ρ,s,R,hc,he,h,hB,hk0,l1,l2,l3=>by
  simp only[comp,Q1,Q2] at hc;obtain⟨tx,hx,ty,hy,rfl⟩:=hc;simp only[PT.wp] at he;split at he
  case h_2=>cases he
  rename_i ii hn;split at he
  case h_2=>cases he
  rename_i hd ver seen hit;split at he
  case h_2=>cases he
  rename_i kv ver' hm;split at he
  case isFalse=>cases he
  rename_i hcond;obtain⟨rfl,hw⟩:=hcond;obtain⟨b',b,clock,sn,es,kv',i1,i2,i3,i4,i5,i6,m3,m4,m5,m6⟩:=h.iter hn hit hm;refine⟨ii,b',hd,b,clock,clock,clock,sn,es,kv',i1,i3,i2,i4,Qa _,m3,b4S m4 hw,fun h0=>?_,fun e he' key v hk1 hk2 hkl=>?_⟩
  ·rw[if_pos ((d0N m3 m4 i5).1 h0)] at he
   obtain⟨hpre,h1⟩:=h.killIt hit i1;exact a0T hΦ x ni nb nv tx _ ρ s R hx he h1 (hB.trans hpre) hk0 l1 l2 l3
  ·obtain⟨hmem,hne⟩:=d0L m3 m4 i5 he' hk1 hk2
   rw[if_neg hne] at he;have he:=he _ hmem;obtain⟨hpre,h1⟩:=h.stepIt hit hm i1 i2 i4 i5 i6 m3 m4 m5 m6 he' hk1;have h2:=h1.push (r:=(key++[v],[],[])) (vvs:=[]) ⟨rfl,by simp⟩;refine a0T hΦ y _ _ _ ty _ _ s R hy he h2 (hB.trans hpre) hk0 ?_ ?_ ?_
   ·simp[PEnv.push,l1,hkl]
   ·simp[PEnv.push,l2]
   ·simp[PEnv.push,l3]
 | .entry n w k,ni,nb,nv,t,ρp,ρ,s,R,hc,he,h,hB,hk0,l1,l2,l3=>by
  simp only[comp,Q2] at hc;obtain⟨tk,hk,rfl⟩:=hc;simp only[PT.wp] at he;split at he
  case h_2=>cases he
  rename_i ii hn;split at he
  case h_2=>cases he
  rename_i hd ver seen hit;split at he
  case h_2=>cases he
  rename_i key hlast;split at he
  case h_2=>cases he
  rename_i kv ver' hm;split at he
  case isFalse=>cases he
  rename_i hvv;subst hvv;obtain⟨v,hv,he⟩:=he;split at he
  case isFalse=>cases he
  rename_i hkl;obtain⟨b',b,clock,sn,es,kv',i1,i2,i3,i4,i5,i6,m3,m4,m5,m6⟩:=h.iter hn hit hm;obtain⟨e,hee,sn',rfl,hek⟩:=i6 key hlast;refine⟨ii,b',hd,b,clock,clock,sn',es,e,key,v,i1,i3,i2,hee,m6.1,hek,d3z m3 m4 m5 hee hek hv,hkl,?_⟩;have h2:=h.push (r:=(key++[v],[],[])) (vvs:=[]) ⟨rfl,by simp⟩;refine a0T hΦ k _ _ _ tk _ _ s R hk he h2 hB hk0 ?_ ?_ ?_
  ·simp[PEnv.push,l1,hkl]
  ·simp[PEnv.push,l2]
  ·simp[PEnv.push,l3]
 | .copyM d x size k,ni,nb,nv,t,ρp,ρ,s,R,hc,he,h,hB,hk0,l1,l2,l3=>by
  simp only[comp,Q2] at hc;obtain⟨tk,hk,rfl⟩:=hc;simp only[PT.wp] at he;split at he
  case h_2=>cases he
  rename_i hd o len cap0 sz hn;split at he
  case h_2=>cases he
  rename_i l T hm;obtain⟨sc,hsc,he⟩:=he;split at he
  case isFalse=>cases he
  rename_i hcond;obtain⟨rfl,hc1,hc2,hc3⟩:=hcond;obtain⟨v,_,g1,g2⟩:=h.get hn;obtain⟨b,vs,m1,m2⟩:=h.m.get hm;have hI:=a1r hm m1;simp only[Rep] at g2;obtain⟨b',n',k1,rfl⟩:=g2;rw[hI] at k1;simp only[a1l,Q0,Q3] at k1;obtain⟨rfl,_⟩:=k1;obtain⟨a,cap,ws,e1,e2,e3⟩:=c4Z h hsc;have e2':=e2.take (min sc.1 len*sz);have hwl:=e2.length;have htl:(ws.take (min sc.1 len*sz)).length=min sc.1 len*sz:=by rw[Qn];omega
  have hvl:=m2.length;refine⟨hd,b,o,len,cap0,sc.1,cap,a,vs.toArray,T,ws.take (min sc.1 len*sz),g1,m1,e1,htl,?_,fun u hu=>d1f e2 hc3 u (Qr hu),by simp only[Qv];omega,?_⟩
  ·rcases e3 with rfl|⟨b2,o2,f1,f2⟩
   ·exact .inl (by simp)
   ·refine .inr ⟨b2,o2,f1,?_⟩
    have tk:∀{j:Nat} {u:Value},(ws.take (min sc.1 len*sz))[j]?=some u->ws[j]?=some u:=by
     intro j u hj;rw[Qj] at hj;split at hj
     ·exact hj
     ·cases hj
    rcases f2 with f2|⟨cur,T2,fr,f3,f4⟩
    ·exact .inl fun j u hj=>f2 j u (tk hj)
    ·exact .inr ⟨cur,T2,fr,f3,fun j u hj=>f4 j u (tk hj)⟩
  ·obtain⟨hpre,h2⟩:=h.setM (o:=.cells (a2h l o (sc.2.take (min sc.1 len*sz))) T) (x:=(b,Obj.cells (a3T vs o (ws.take (min sc.1 len*sz))).toArray T (0,0))) hm m1 ⟨_,rfl,c1A m2 e2' o⟩ (.inl (by
    simp only[a1l,a2X,Qv,b7r vs (ws.take (min sc.1 len*sz)) o (by omega)]))
   have h3:=h2.push (r:=([((min sc.1 len:Nat):Int)],[],[])) (vvs:=[]) ⟨rfl,by simp⟩;exact a0T hΦ k _ _ _ tk _ _ s R hk he h3 (hB.trans hpre) hk0 (by simp[PEnv.push,l1]) (by simp[PEnv.push,l2]) (by simp[PEnv.push,l3])
 | .both x y,ni,nb,nv,t,ρp,ρ,s,R,hc,he,h,hB,hk0,l1,l2,l3=>by
  simp only[comp,Q1,Q2] at hc;obtain⟨tx,hx,ty,hy,rfl⟩:=hc;simp only[PT.wp] at he;exact⟨a0T hΦ x ni nb nv tx ρp ρ s R hx he.1 h hB hk0 l1 l2 l3,a0T hΦ y ni nb nv ty ρp ρ s R hy he.2 h hB hk0 l1 l2 l3⟩
 | .stop g,ni,nb,nv,t,ρp,ρ,s,R,hc,he,h,hB,hk0,l1,l2,l3=>by
  simp only[comp,Q2] at hc;obtain⟨⟨q,A⟩,hq,rfl⟩:=hc;simp only[PT.wp] at he;obtain⟨b,hb,v,hv,hR⟩:=he;obtain⟨t,_,h2,h3,h4⟩:=c2Q pats 0 hq
  have hflat:A.vs.all SV.flat=true:=by
   have h3':=h3;unfold Sx.fits at h3';simp only[Q6] at h3';exact h3'.1.2
  refine⟨q,A,t,_,hR,hB,hk0,by simpa using h2,h4,h3,fun js=>⟨?_,?_,?_,h.m,h.k,?_,h.coh⟩⟩
  ·exact X2 (fun e _=>IE.pe_den h e)
  ·exact BE.all_spec h _ hb
  ·exact SV.pvs_rep h (a4n s _ id) _ v hv
  ·exact c3X h _ hv hflat
 | .fail _,ni,nb,nv,t,ρp,ρ,s,R,hc,he,h,hB,hk0,l1,l2,l3=>by simp only[comp,Q0] at hc;subst hc;simp[PT.wp] at he
theorem a1O{Φ:Fns}{f:PT->PT}{k:PT}{ρ:PEnv}{R:Res->Prop}(h:(PT.wrap f k).wp Φ ρ R):(f k).wp Φ ρ R:=by
 cases k<;>first|exact h|(simp[PT.wrap,PT.wp] at h)
theorem PT.prune_wp{Φ:Fns}:∀{t:PT} {ρ:PEnv} {R:Res->Prop},t.prune.wp Φ ρ R->t.wp Φ ρ R
 | .ret ..,ρ,R,h=>h
 | .ite c x y,ρ,R,h=>by
  have h2:(PT.ite c x.prune y.prune).wp Φ ρ R:=by
   unfold PT.prune at h;split at h
   ·simp[PT.wp] at h
   ·exact h
  simp only[PT.wp] at h2 ⊢;split at h2
  ·rename_i hs
   rw[if_pos hs];split at h2
   ·rename_i hc;rw[if_pos hc];exact PT.prune_wp h2
   ·rename_i hc;rw[if_neg hc];exact PT.prune_wp h2
  ·rename_i hs
   rw[if_neg hs];exact⟨PT.prune_wp h2.1,PT.prune_wp h2.2⟩
 | .need c k,ρ,R,h=>by
  have h2:=a1O h;simp only[PT.wp] at h2 ⊢;split at h2
  ·rename_i hs
   rw[if_pos hs];split at h2
   ·rename_i hc;rw[if_pos hc];exact PT.prune_wp h2
   ·cases h2
  ·cases h2
 | .load ..,ρ,R,h=>by
  have h2:=a1O h;simp only[PT.wp] at h2 ⊢;obtain⟨a,ha,b,hb,c,hc,h2⟩:=h2;exact⟨a,ha,b,hb,c,hc,PT.prune_wp h2⟩
 | .app ..,ρ,R,h=>by
  have h2:=a1O h;simp only[PT.wp] at h2 ⊢;obtain⟨a,ha,b,hb,h2⟩:=h2;refine⟨a,ha,b,hb,?_⟩;split at h2
  ·rename_i hs;rw[if_pos hs];exact PT.prune_wp h2
  ·cases h2
 | .cut ..,ρ,R,h=>by
  have h2:=a1O h;simp only[PT.wp] at h2 ⊢;split at h2
  ·split at h2
   ·rename_i hs;rw[if_pos hs];exact PT.prune_wp h2
   ·cases h2
  ·obtain⟨p,hp,h2⟩:=h2
   exact⟨p,hp,PT.prune_wp h2⟩
 | .scut n lo hi k,ρ,R,h=>by
  have h2:=a1O h;rw[PT.wp] at h2 ⊢;split at h2
  ·split at h2
   ·rename_i hs;rw[if_pos hs];exact PT.prune_wp h2
   ·cases h2
  ·cases h2
 | .chk ..,ρ,R,h=>by
  have h2:=a1O h;simp only[PT.wp,Q1] at h2 ⊢;obtain⟨a,ha,h2⟩:=h2;exact⟨a,ha,PT.prune_wp h2⟩
 | .appF ..,ρ,R,h=>by
  have h2:=a1O h;simp only[PT.wp,Q1] at h2 ⊢;obtain⟨a,ha,b,hb,h2⟩:=h2;refine⟨a,ha,b,hb,?_⟩;split at h2
  ·rename_i hs;rw[if_pos hs];exact PT.prune_wp h2
  ·cases h2
 | .call ..,ρ,R,h=>by
  have h2:=a1O h;simp only[PT.wp] at h2 ⊢;obtain⟨a,ha,b,hb,c,hc,h2⟩:=h2;exact⟨a,ha,b,hb,c,hc,PT.prune_wp h2⟩
 | .callv n args shs k,ρ,R,h=>by
  have h2:=a1O h;rw[PT.wp] at h2 ⊢;split at h2
  ·simp only[] at h2 ⊢
   obtain⟨a,ha,b,hb,c,hc,h2⟩:=h2;exact⟨a,ha,b,hb,c,hc,PT.prune_wp h2⟩
  ·cases h2
 | .newM ..,ρ,R,h=>by
  have h2:=a1O h;simp only[PT.wp] at h2 ⊢;obtain⟨a,ha,h2⟩:=h2;exact⟨a,ha,PT.prune_wp h2⟩
 | .mkM ..,ρ,R,h=>by
  have h2:=a1O h;simp only[PT.wp] at h2 ⊢;obtain⟨a,ha,h2⟩:=h2;refine⟨a,ha,?_⟩;split at h2
  ·rename_i hs;rw[if_pos hs];exact PT.prune_wp h2
  ·cases h2
 | .storeM a cs k,ρ,R,h=>by
  have h2:=a1O h;rw[PT.wp] at h2 ⊢;split at h2
  ·split at h2
   ·rename_i e1 _ _ _ e2
    obtain⟨a,ha,h2⟩:=h2;refine⟨a,ha,?_⟩;split at h2
    ·rename_i hs;rw[if_pos hs];exact PT.prune_wp h2
    ·cases h2
   ·cases h2
  ·split at h2
   ·split at h2
    ·rename_i hs
     rw[if_pos hs];obtain⟨a,ha,b,hb,h2⟩:=h2;refine⟨a,ha,b,hb,?_⟩;split at h2
     ·rename_i hs;rw[if_pos hs];exact PT.prune_wp h2
     ·cases h2
    ·cases h2
   ·cases h2
  ·cases h2
 | .appM d src size T k,ρ,R,h=>by
  have h2:=a1O h;rw[PT.wp] at h2 ⊢;obtain⟨a,ha,b,hb,h2⟩:=h2;refine⟨a,ha,b,hb,?_⟩;split at h2
  ·split at h2
   ·rename_i hs
    rw[if_pos hs];split at h2
    ·rename_i hs;rw[if_pos hs];exact PT.prune_wp h2
    ·rename_i hs;rw[if_neg hs];exact PT.prune_wp h2
   ·cases h2
  ·split at h2
   ·split at h2
    ·rename_i hs
     rw[if_pos hs];split at h2
     ·rename_i hs;rw[if_pos hs];exact PT.prune_wp h2
     ·rename_i hs;rw[if_neg hs];exact PT.prune_wp h2
    ·cases h2
   ·cases h2
  ·split at h2
   ·split at h2
    ·rename_i hs
     rw[if_pos hs];obtain⟨rows,hr,h2⟩:=h2;refine⟨rows,hr,?_⟩;split at h2
     ·rename_i hs;rw[if_pos hs];exact PT.prune_wp h2
     ·rename_i hs;rw[if_neg hs];exact PT.prune_wp h2
    ·cases h2
   ·cases h2
  ·cases h2
 | .mkMap ..,ρ,R,h=>by
  have h2:=a1O h;rw[PT.wp] at h2 ⊢;exact PT.prune_wp h2
 | .mapGet n K key dflt ok shs k,ρ,R,h=>by
  have h2:=a1O h;rw[PT.wp] at h2 ⊢;split at h2
  ·split at h2
   ·split at h2
    ·rename_i hs
     rw[if_pos hs];obtain⟨a,ha,b,hb,h2⟩:=h2;exact⟨a,ha,b,hb,PT.prune_wp h2⟩
    ·cases h2
   ·cases h2
  ·cases h2
 | .mapSet n K key val k,ρ,R,h=>by
  have h2:=a1O h;rw[PT.wp] at h2 ⊢;split at h2
  ·split at h2
   ·split at h2
    ·rename_i hs
     rw[if_pos hs];obtain⟨a,ha,h2⟩:=h2;exact⟨a,ha,PT.prune_wp h2⟩
    ·cases h2
   ·cases h2
  ·cases h2
 | .mapClr n k,ρ,R,h=>by
  have h2:=a1O h;rw[PT.wp] at h2 ⊢;split at h2
  ·split at h2
   ·exact PT.prune_wp h2
   ·cases h2
  ·cases h2
 | .mkQ _,ρ,R,h=>by
  have h2:=a1O h;rw[PT.wp] at h2 ⊢;exact PT.prune_wp h2
 | .qGet n key ok k,ρ,R,h=>by
  have h2:=a1O h;rw[PT.wp] at h2 ⊢;split at h2
  ·split at h2
   ·split at h2
    ·rename_i hs;rw[if_pos hs];exact PT.prune_wp h2
    ·cases h2
   ·cases h2
  ·cases h2
 | .qSet n key v k,ρ,R,h=>by
  have h2:=a1O h;rw[PT.wp] at h2 ⊢;split at h2
  ·split at h2
   ·split at h2
    ·rename_i hs;rw[if_pos hs];exact PT.prune_wp h2
    ·cases h2
   ·cases h2
  ·cases h2
 | .qDel n key k,ρ,R,h=>by
  have h2:=a1O h;rw[PT.wp] at h2 ⊢;split at h2
  ·split at h2
   ·split at h2
    ·rename_i hs;rw[if_pos hs];exact PT.prune_wp h2
    ·cases h2
   ·cases h2
  ·cases h2
 | .qLen n k,ρ,R,h=>by
  have h2:=a1O h;rw[PT.wp] at h2 ⊢;split at h2
  ·split at h2
   ·exact PT.prune_wp h2
   ·cases h2
  ·cases h2
 | .rng n k,ρ,R,h=>by
  have h2:=a1O h;rw[PT.wp] at h2 ⊢;split at h2
  ·split at h2
   ·exact PT.prune_wp h2
   ·cases h2
  ·cases h2
 | .next n w x y,ρ,R,h=>by
  have h2:(PT.next n w x.prune y.prune).wp Φ ρ R:=by
   unfold PT.prune at h;split at h
   ·simp[PT.wp] at h
   ·exact h
  rw[PT.wp] at h2 ⊢;split at h2
  ·split at h2
   ·split at h2
    ·split at h2
     ·rename_i hs
      rw[if_pos hs];split at h2
      ·rename_i h0;rw[if_pos h0];exact PT.prune_wp h2
      ·rename_i h0;rw[if_neg h0];exact fun p hp=>PT.prune_wp (h2 p hp)
     ·cases h2
    ·cases h2
   ·cases h2
  ·cases h2
 | .entry n w k,ρ,R,h=>by
  have h2:=a1O h;rw[PT.wp] at h2 ⊢;split at h2
  ·split at h2
   ·split at h2
    ·split at h2
     ·split at h2
      ·rename_i hs
       rw[if_pos hs];obtain⟨v,hv,h2⟩:=h2;refine⟨v,hv,?_⟩;split at h2
       ·rename_i h0;rw[if_pos h0];exact PT.prune_wp h2
       ·cases h2
      ·cases h2
     ·cases h2
    ·cases h2
   ·cases h2
  ·cases h2
 | .copyM d x size k,ρ,R,h=>by
  have h2:=a1O h;rw[PT.wp] at h2 ⊢;split at h2
  ·split at h2
   ·obtain⟨a,ha,h2⟩:=h2
    refine⟨a,ha,?_⟩;split at h2
    ·rename_i hs;rw[if_pos hs];exact PT.prune_wp h2
    ·cases h2
   ·cases h2
  ·cases h2
 | .both x y,ρ,R,h=>by
  have h2:(PT.both x.prune y.prune).wp Φ ρ R:=by
   unfold PT.prune at h;split at h
   ·simp[PT.wp] at h
   ·simp[PT.wp] at h
   ·exact h
  simp only[PT.wp] at h2 ⊢;exact⟨PT.prune_wp h2.1,PT.prune_wp h2.2⟩
 | .jump ..,ρ,R,h=>h
 | .stuck,ρ,R,h=>h
theorem PT.ev_wp{Φ:Fns}{R:Res->Prop}:∀{t:PT} {ρ:PEnv} {r:Res},t.ev Φ ρ=some r->R r->t.wp Φ ρ R
 | .ret ..,ρ,r,h2,hR=>by
  simp only[PT.ev,Q1,Q2] at h2;obtain⟨p,hp,r',hr,rfl⟩:=h2;exact⟨p,hp,r',hr,hR⟩
 | .ite c x y,ρ,r,h2,hR=>by
  simp only[PT.ev,PT.wp] at h2 ⊢;split at h2
  ·rename_i hs
   rw[if_pos hs];split at h2
   ·rename_i hc;rw[if_pos hc];exact PT.ev_wp h2 hR
   ·rename_i hc;rw[if_neg hc];exact PT.ev_wp h2 hR
  ·cases h2
 | .need c k,ρ,r,h2,hR=>by
  simp only[PT.ev,PT.wp] at h2 ⊢;split at h2
  ·rename_i hs
   rw[if_pos hs];split at h2
   ·rename_i hc;rw[if_pos hc];exact PT.ev_wp h2 hR
   ·cases h2
  ·cases h2
 | .load ..,ρ,r,h2,hR=>by
  simp only[PT.ev,PT.wp,Q1] at h2 ⊢;obtain⟨a,ha,b,hb,c,hc,h2⟩:=h2;exact⟨a,ha,b,hb,c,hc,PT.ev_wp h2 hR⟩
 | .app ..,ρ,r,h2,hR=>by
  simp only[PT.ev,PT.wp,Q1] at h2 ⊢;obtain⟨a,ha,b,hb,h2⟩:=h2;refine⟨a,ha,b,hb,?_⟩;split at h2
  ·rename_i hs;rw[if_pos hs];exact PT.ev_wp h2 hR
  ·cases h2
 | .cut ..,ρ,r,h2,hR=>by
  simp only[PT.ev,PT.wp] at h2 ⊢;split at h2
  ·split at h2
   ·rename_i hs;rw[if_pos hs];exact PT.ev_wp h2 hR
   ·cases h2
  ·obtain⟨p,hp,h2⟩:=Q1.1 h2
   exact⟨p,hp,PT.ev_wp h2 hR⟩
 | .scut n lo hi k,ρ,r,h2,hR=>by
  rw[PT.ev] at h2;rw[PT.wp];split at h2
  ·split at h2
   ·rename_i hs;rw[if_pos hs];exact PT.ev_wp h2 hR
   ·cases h2
  ·cases h2
 | .chk ..,ρ,r,h2,hR=>by
  simp only[PT.ev,PT.wp,Q1] at h2 ⊢;obtain⟨a,ha,h2⟩:=h2;exact⟨a,ha,PT.ev_wp h2 hR⟩
 | .appF ..,ρ,r,h2,hR=>by
  simp only[PT.ev,PT.wp,Q1] at h2 ⊢;obtain⟨a,ha,b,hb,h2⟩:=h2;refine⟨a,ha,b,hb,?_⟩;split at h2
  ·rename_i hs;rw[if_pos hs];exact PT.ev_wp h2 hR
  ·cases h2
 | .call ..,ρ,r,h2,hR=>by
  simp only[PT.ev,PT.wp,Q1] at h2 ⊢;obtain⟨a,ha,b,hb,c,hc,h2⟩:=h2;exact⟨a,ha,b,hb,c,hc,PT.ev_wp h2 hR⟩
 | .callv n args shs k,ρ,r,h2,hR=>by
  rw[PT.ev] at h2;rw[PT.wp];split at h2
  ·try simp only[Q1] at h2 ⊢
   try simp only[Q1] at h2
   obtain⟨a,ha,b,hb,c,hc,h2⟩:=h2;exact⟨a,ha,b,hb,c,hc,PT.ev_wp h2 hR⟩
  ·cases h2
 | .newM ..,ρ,r,h2,hR=>by
  simp only[PT.ev,PT.wp,Q1] at h2 ⊢;obtain⟨a,ha,h2⟩:=h2;exact⟨a,ha,PT.ev_wp h2 hR⟩
 | .mkM ..,ρ,r,h2,hR=>by
  simp only[PT.ev,PT.wp,Q1] at h2 ⊢;obtain⟨a,ha,h2⟩:=h2;refine⟨a,ha,?_⟩;split at h2
  ·rename_i hs;rw[if_pos hs];exact PT.ev_wp h2 hR
  ·cases h2
 | .storeM a cs k,ρ,r,h2,hR=>by
  rw[PT.ev] at h2;rw[PT.wp];split at h2
  ·split at h2
   ·rename_i e1 _ _ _ e2
    try simp only[Q1] at h2
    obtain⟨a,ha,h2⟩:=h2;refine⟨a,ha,?_⟩;split at h2
    ·rename_i hs;rw[if_pos hs];exact PT.ev_wp h2 hR
    ·cases h2
   ·cases h2
  ·split at h2
   ·split at h2
    ·rename_i hs
     rw[if_pos hs]
     try simp only[Q1] at h2
     obtain⟨a,ha,b,hb,h2⟩:=h2;refine⟨a,ha,b,hb,?_⟩;split at h2
     ·rename_i hs;rw[if_pos hs];exact PT.ev_wp h2 hR
     ·cases h2
    ·cases h2
   ·cases h2
  ·cases h2
 | .appM d src size T k,ρ,r,h2,hR=>by
  rw[PT.ev] at h2;rw[PT.wp]
  try simp only[Q1] at h2
  obtain⟨a,ha,b,hb,h2⟩:=h2;refine⟨a,ha,b,hb,?_⟩;split at h2
  ·split at h2
   ·rename_i hs
    rw[if_pos hs];split at h2
    ·rename_i hs;rw[if_pos hs];exact PT.ev_wp h2 hR
    ·rename_i hs;rw[if_neg hs];exact PT.ev_wp h2 hR
   ·cases h2
  ·split at h2
   ·split at h2
    ·rename_i hs
     rw[if_pos hs];split at h2
     ·rename_i hs;rw[if_pos hs];exact PT.ev_wp h2 hR
     ·rename_i hs;rw[if_neg hs];exact PT.ev_wp h2 hR
    ·cases h2
   ·cases h2
  ·split at h2
   ·split at h2
    ·rename_i hs
     rw[if_pos hs];obtain⟨rows,hr,h2⟩:=Q1.1 h2;refine⟨rows,hr,?_⟩;split at h2
     ·rename_i hs;rw[if_pos hs];exact PT.ev_wp h2 hR
     ·rename_i hs;rw[if_neg hs];exact PT.ev_wp h2 hR
    ·cases h2
   ·cases h2
  ·cases h2
 | .mkMap ..,ρ,r,h2,hR=>by
  rw[PT.ev] at h2;rw[PT.wp];exact PT.ev_wp h2 hR
 | .mapGet n K key dflt ok shs k,ρ,r,h2,hR=>by
  rw[PT.ev] at h2;rw[PT.wp];split at h2
  ·split at h2
   ·split at h2
    ·rename_i hs
     rw[if_pos hs]
     try simp only[Q1] at h2
     obtain⟨a,ha,b,hb,h2⟩:=h2;exact⟨a,ha,b,hb,PT.ev_wp h2 hR⟩
    ·cases h2
   ·cases h2
  ·cases h2
 | .mapSet n K key val k,ρ,r,h2,hR=>by
  rw[PT.ev] at h2;rw[PT.wp];split at h2
  ·split at h2
   ·split at h2
    ·rename_i hs
     rw[if_pos hs]
     try simp only[Q1] at h2
     obtain⟨a,ha,h2⟩:=h2;exact⟨a,ha,PT.ev_wp h2 hR⟩
    ·cases h2
   ·cases h2
  ·cases h2
 | .mapClr n k,ρ,r,h2,hR=>by
  rw[PT.ev] at h2;rw[PT.wp];split at h2
  ·split at h2
   ·exact PT.ev_wp h2 hR
   ·cases h2
  ·cases h2
 | .mkQ _,ρ,r,h2,hR=>by
  rw[PT.ev] at h2;rw[PT.wp];exact PT.ev_wp h2 hR
 | .qGet n key ok k,ρ,r,h2,hR=>by
  rw[PT.ev] at h2;rw[PT.wp];split at h2
  ·split at h2
   ·split at h2
    ·rename_i hs;rw[if_pos hs];exact PT.ev_wp h2 hR
    ·cases h2
   ·cases h2
  ·cases h2
 | .qSet n key v k,ρ,r,h2,hR=>by
  rw[PT.ev] at h2;rw[PT.wp];split at h2
  ·split at h2
   ·split at h2
    ·rename_i hs;rw[if_pos hs];exact PT.ev_wp h2 hR
    ·cases h2
   ·cases h2
  ·cases h2
 | .qDel n key k,ρ,r,h2,hR=>by
  rw[PT.ev] at h2;rw[PT.wp];split at h2
  ·split at h2
   ·split at h2
    ·rename_i hs;rw[if_pos hs];exact PT.ev_wp h2 hR
    ·cases h2
   ·cases h2
  ·cases h2
 | .qLen n k,ρ,r,h2,hR=>by
  rw[PT.ev] at h2;rw[PT.wp];split at h2
  ·split at h2
   ·exact PT.ev_wp h2 hR
   ·cases h2
  ·cases h2
 | .rng n k,ρ,r,h2,hR=>by
  rw[PT.ev] at h2;rw[PT.wp];split at h2
  ·split at h2
   ·exact PT.ev_wp h2 hR
   ·cases h2
  ·cases h2
 | .next ..,ρ,r,h2,hR=>by simp[PT.ev] at h2
 | .entry n w k,ρ,r,h2,hR=>by
  rw[PT.ev] at h2;rw[PT.wp];split at h2
  ·split at h2
   ·split at h2
    ·split at h2
     ·split at h2
      ·rename_i hs
       rw[if_pos hs]
       try simp only[Q1] at h2
       obtain⟨v,hv,h2⟩:=h2;refine⟨v,hv,?_⟩;split at h2
       ·rename_i h0;rw[if_pos h0];exact PT.ev_wp h2 hR
       ·cases h2
      ·cases h2
     ·cases h2
    ·cases h2
   ·cases h2
  ·cases h2
 | .copyM d x size k,ρ,r,h2,hR=>by
  rw[PT.ev] at h2;rw[PT.wp];split at h2
  ·split at h2
   ·simp only[Q1] at h2
    obtain⟨a,ha,h2⟩:=h2;refine⟨a,ha,?_⟩;split at h2
    ·rename_i hs;rw[if_pos hs];exact PT.ev_wp h2 hR
    ·cases h2
   ·cases h2
  ·cases h2
 | .both x y,ρ,r,h2,hR=>by
  simp only[PT.ev,Q1] at h2;obtain⟨r1,h1,r2,h3,h2⟩:=h2;split at h2
  case isFalse=>cases h2
  rename_i hbeq;have hrr:=Res.beq_eq hbeq;subst hrr;simp only[Q0] at h2;subst h2;exact⟨PT.ev_wp h1 hR,PT.ev_wp h3 hR⟩
 | .jump ..,ρ,r,h2,hR=>by
  simp only[PT.ev,Q1,Q2] at h2;obtain⟨b,hb,v,hv,rfl⟩:=h2;exact⟨b,hb,v,hv,hR⟩
 | .stuck,ρ,r,h2,hR=>by simp[PT.ev] at h2
structure SysOk (P:Program)(f:FuncId)(S:Sys):Prop where
 ct:∀Φ:Fns,(∀f,CtP P f (Φ f))->∀n,CtP P f (S.run Φ n)
theorem c1j{t:Cfg}(h:b9G t=true):∀p d ks k,t.todo≠.dreg p d ks::k:=by
 intro p d ks k he;simp[b9G,he] at h
def Sys.loopD(Φ:Fns)(S:Sys):Nat->Nat->PEnv->(PV->List MO->Prop)->Prop
 | 0,_,_,_=>False
 | n+1,q,ρ,R=>∃t,S.loops[q]?=some t/\t.wp Φ ρ fun
  | .ret r σ=>R r σ
  | .jump q' ρ'=>S.loopD Φ n q' ρ' R
def Sys.runD(Φ:Fns)(S:Sys)(n:Nat)(ayq:List PV)(σ:List MO)(R:PV->List MO->Prop):Prop :=
 ∃r,a0f S.ps ayq=some r/\S.start.wp Φ {i:=r.1,b:=r.2.1,v:=r.2.2,m:=σ,k:=σ.length} fun
  | .ret r σ=>R r σ
  | .jump q ρ=>S.loopD Φ n q ρ R
def CtD(P:Program)(f:Nat)(ayq:List PV)(σ:List MO)(R:PV->List MO->Prop):Prop :=
 (∀args w,(callFunc f args).run P w=.ok (.enter f args) w) /\
  ∀s m vs,a0D s (inf σ m) σ m->Coh σ m->Reps s (inf σ m) ayq vs->Ct P f vs s m (fun v s' m'=>∃r σ',R r σ'/\QF σ m r σ' v s' m')
theorem c2l{Φ:Fns}{S:Sys}{R:PV->List MO->Prop}:∀(n q:Nat) (ρ:PEnv) {r:PV} {σ:List MO},S.loop Φ n q ρ=some (r,σ)->R r σ->S.loopD Φ n q ρ R
 | 0,q,ρ,r,σ,h,_=>by simp[Sys.loop] at h
 | n+1,q,ρ,r,σ,h,hR=>by
  simp only[Sys.loop,Q1] at h;obtain⟨t,ht,res,hres,h⟩:=h;refine⟨t,ht,PT.ev_wp hres ?_⟩;cases res with
  | ret r' σ'=>simp only[Q0,Q3] at h;obtain⟨rfl,rfl⟩:=h;exact hR
  | jump q' ρ'=>exact c2l n q' ρ' h hR
theorem d0W{Φ:Fns}{S:Sys}(hp:S.prim=none)(hr:S.rg=none){R:PV->List MO->Prop}{n:Nat}{ayq:List PV}{σ:List MO}{r:PV}{σ':List MO}(h:S.run Φ n ayq σ=some (r,σ'))(hR:R r σ'):S.runD Φ n ayq σ R:=by
 unfold Sys.run at h;simp only[hp,hr] at h;simp only[Q1] at h;obtain⟨x,hx,res,hres,hfin⟩:=h;refine⟨x,hx,PT.ev_wp hres ?_⟩;cases res with
 | ret r' σ'=>simp only[Q0,Q3] at hfin;obtain⟨rfl,rfl⟩:=hfin;exact hR
 | jump q' ρ'=>exact c2l n q' ρ' hfin hR
structure SysIs (P:Program)(f:FuncId)(S:Sys):Prop where
 dm:∀Φ:Fns,(∀f,CtP P f (Φ f))->∀n ayq σ R,S.runD Φ n ayq σ R->CtD P f ayq σ R
theorem b6j{c:Ctx}{f:FuncId}{fnc:Func}(hP:ProgOk P c)(hf:P.funcs[f]?=some fnc)(hen:∀args w,(callFunc f args).run P w=.ok (.enter f args) w)(hb:fnc.body.isSome=true)
  (pats:List Cfg) (S:Sys) (fuel:Nat) {ni nb nv:Nat} {args:List SV} (hargs:b0V S.ps 0 0 0=(args,ni,nb,nv))
  (h0:(comp pats (run c (b9W fnc) fuel (a7a fnc.ntmps args ni nb nv)) ni nb nv).map PT.prune=some S.start)
  (h1:pats.mapM (fun g=>(comp pats (run c (b9W fnc) fuel g) g.ni g.nb g.nv).map PT.prune)=some S.loops):SysIs P f S where
 dm Φ hΦ n ayq σ R hrun:=by
  refine⟨hen,fun s m vs hm hcoh hvs=>?_⟩
  have hbody:fnc.body=some (b9W fnc).body:=by
   cases hb':fnc.body with
   | none=>rw[hb'] at hb;cases hb
   | some x=>simp[b9W,hb']
  obtain⟨x,hx,hwp⟩:=hrun;obtain⟨vvs,hbd,hspec⟩:=b5E S.ps ayq vs hx hvs;obtain⟨c1,c2⟩:=hspec 0 0 0;rw[hargs] at c1 c2;simp only[Qm,Q3] at c1;obtain⟨d1,d2,d3⟩:=c1
  let ρ:Env:={i:=x.1,b:=x.2.1,v:=vvs,j:=[],m:=m,k:=m.length}
  have hat:At ρ 0 0 0 x.1 x.2.1 vvs:=⟨fun j z h=>by simpa[ρ] using h,fun j z h=>by simpa[ρ] using h,fun j z h=>by simpa[ρ] using h⟩;have hden:SV.dens ρ id args=vs:=c2 ρ id hat;have hrep:EnvRep s {i:=x.1,b:=x.2.1,v:=x.2.2,m:=σ,k:=σ.length} ρ:=⟨rfl,rfl,hbd.1,hm,hm.length,hbd.2,hcoh⟩;rw[<- hden];have hvl:=hbd.1.length;refine d3J (ρ:=ρ) hP hf hbody rfl fuel hrep.ok rfl rfl (fun w0=>?_);have hl1:ρ.i.length=ni:=d1.symm;have hl2:ρ.b.length=nb:=d2.symm;have hl3:ρ.v.length=nv:=d3.symm;rw[hl1,hl2,hl3];have hpat:∀(q:Nat) (t:Cfg),pats[q]?=some t->∃pt,S.loops[q]?=some pt/\(comp pats (run c (b9W fnc) fuel t) t.ni t.nb t.nv).map PT.prune=some pt:=fun q t hq=>(b7d h1).2 q t hq
  have loops:∀(n q:Nat) (ρp:PEnv),S.loopD Φ n q ρp R->∀(t:Cfg) (ρ1:Env) (s1:Hp),pats[q]?=some t->EnvRep s1 ρp ρ1->Le2 σ m ρp.m ρ1.m->σ.length<=ρp.k->ρp.i.length=t.ni->ρp.b.length=t.nb->ρp.v.length=t.nv ->
    Reach P f (Ret (fun v s' m'=>∃r σ',R r σ'/\QF σ m r σ' v s' m') s m w0) (b9W fnc).body w0 s m t ρ1 s1:=by
   intro n
   induction n with
   | zero=>intro q ρp h;exact h.elim
   | succ n ih =>
    intro q ρp h t ρ1 s1 hq he hB hk0 e1 e2 e3;obtain⟨pt,hpt,hwp⟩:=h;obtain⟨pt',hpt',hcomp⟩:=hpat q t hq;rw[hpt] at hpt';simp only[Q0] at hpt';subst hpt';obtain⟨pt0,hcomp,hpr⟩:=Q2.1 hcomp;rw[<- hpr] at hwp;have hwp:=PT.prune_wp hwp;have hvc:=a0T (σ0:=σ) (m0:=m) hΦ _ _ _ _ pt0 ρp ρ1 s1 _ hcomp hwp he hB hk0 e1 e2 e3;refine c4V (Q:=fun v s' m'=>∃r σ',R r σ'/\QF σ m r σ' v s' m') hP hf rfl ?_ fuel t ρ1 s1 (VC.mono ?_ (fun _ _ _ h=>h) _ _ _ hvc)
    ·rintro g ρ2 s2 ⟨q',A,t',ρp',hR',hB',hk',hq',hho,hfit,hE⟩
     refine c4x hfit (c1j hho) (fun js _=>?_);have hfit1:=hfit;unfold Sx.fits at hfit1;simp only[Q6,beq_iff_eq] at hfit1;have hE':=hE js;have a1:=hE'.i;have a2:=hE'.b;have a3:=hE'.v.length;refine ih q' ρp' hR' t' _ s2 hq' hE' hB' hk' ?_ ?_ ?_
     ·rw[<- a1];simp only[QA];have:=hfit1.1.1.1.1.1.1.1.1.1.2;omega
     ·rw[<- a2];simp only[QA];have:=hfit1.1.1.1.1.1.1.1.1.2;omega
     ·rw[<- a3];simp only[a0I];have:=hfit1.1.1.1.1.1.1.1.2;omega
    ·exact fun v s' m' h=>h
  obtain⟨st0,h0,hpr⟩:=Q2.1 h0;rw[<- hpr] at hwp;have hwp:=PT.prune_wp hwp;have hvc:=a0T (σ0:=σ) (m0:=m) hΦ _ _ _ _ st0 _ ρ s _ h0 hwp hrep (Le2.refl _ _) (Qa _) d1.symm d2.symm (by simp only;omega);refine VC.mono ?_ ?_ _ _ _ hvc
  ·exact fun v s' m' h=>h
  ·rintro g ρ2 s2 ⟨q',A,t',ρp',hR',hB',hk',hq',hho,hfit,hE⟩
   refine c4x hfit (c1j hho) (fun js _=>?_);have hfit1:=hfit;unfold Sx.fits at hfit1;simp only[Q6,beq_iff_eq] at hfit1;have hE':=hE js;have a1:=hE'.i;have a2:=hE'.b;have a3:=hE'.v.length;refine loops n q' ρp' hR' t' _ s2 hq' hE' hB' hk' ?_ ?_ ?_
   ·rw[<- a1];simp only[QA];have:=hfit1.1.1.1.1.1.1.1.1.1.2;omega
   ·rw[<- a2];simp only[QA];have:=hfit1.1.1.1.1.1.1.1.1.2;omega
   ·rw[<- a3];simp only[a0I];have:=hfit1.1.1.1.1.1.1.1.2;omega
theorem CtD.one{f:Nat}{ayq:List PV}{σ:List MO}{r:PV}{σ':List MO}(h:CtD P f ayq σ (fun x y=>x=r/\y=σ')):(∀args w,(callFunc f args).run P w=.ok (.enter f args) w) /\
  ∀s m vs,a0D s (inf σ m) σ m->Coh σ m->Reps s (inf σ m) ayq vs->Ct P f vs s m (QF σ m r σ'):=by
 refine⟨h.1,fun s m vs a b c w hs hm=>(h.2 s m vs a b c w hs hm).mono ?_⟩;rintro e w' ⟨v,s',m',e1,e2,e3,e4,e5,e6,e7,r',σ'',⟨rfl,rfl⟩,hq⟩;exact⟨v,s',m',e1,e2,e3,e4,e5,e6,e7,hq⟩
theorem SysIs.ok{f:FuncId}{S:Sys}(h:SysIs P f S)(hp:S.prim=none)(hr:S.rg=none:=by rfl):SysOk P f S where
 ct Φ hΦ n ayq σ r σ' hrun:=(h.dm Φ hΦ n ayq σ _ (d0W hp hr hrun ⟨rfl,rfl⟩)).one
theorem a0s{c:Ctx}{f:FuncId}{fnc:Func}(hP:ProgOk P c)(hf:P.funcs[f]?=some fnc)(hen:∀args w,(callFunc f args).run P w=.ok (.enter f args) w)(hb:fnc.body.isSome=true)
  (pats:List Cfg) (S:Sys) (fuel:Nat) {ni nb nv:Nat} {args:List SV} (hargs:b0V S.ps 0 0 0=(args,ni,nb,nv))
  (h0:(comp pats (run c (b9W fnc) fuel (a7a fnc.ntmps args ni nb nv)) ni nb nv).map PT.prune=some S.start)
  (h1:pats.mapM (fun g=>(comp pats (run c (b9W fnc) fuel g) g.ni g.nb g.nv).map PT.prune)=some S.loops) (hp:S.prim=none) (hr:S.rg=none:=by rfl):SysOk P f S :=
 (b6j hP hf hen hb pats S fuel hargs h0 h1).ok hp hr
theorem evalF_good{Tab:Nat->Option Sys}(hT:∀f S,Tab f=some S->SysOk P f S):∀n f,CtP P f (a0b Tab n f)
 | 0,f=>fun ayq σ r σ' h=>by simp[a0b] at h
 | n+1,f=>fun ayq σ r σ' h=>by
  simp only[a0b,Q1] at h;obtain⟨S,hS,h⟩:=h;exact(hT f S hS).ct _ (evalF_good hT n) n ayq σ r σ' h
end Go.Sx
namespace Go.Sx
open Go.RowKit
variable {P:Program}
def d6Y(Φ:Fns)(G:Rg)(ρ:PEnv):Option (PV×List MO):=match ρ.v[G.n]? with
 | some (.fn f caps)=>(G.it f caps).bind fun ys=>(b3G Φ G ys ρ).bind fun ρ'=>(G.after.ev Φ ρ').bind fun
  | .ret r σ=>some (r,σ)
  | .jump _ _=>none
 | _=>none
def RgR(Φ:Fns)(G:Rg)(r:PV)(σ':List MO):Res->Prop
 | .ret r1 σ1=>r1=r/\σ1=σ'
 | .jump _ ρ=>d6Y Φ G ρ=some (r,σ')
structure RgIs (P:Program)(f:FuncId)(S:Sys)(G:Rg):Prop where
 dm:∀Φ:Fns,(∀f,CtP P f (Φ f))->∀ayq σ r σ',(∃x,a0f S.ps ayq=some x/\S.start.wp Φ {i:=x.1,b:=x.2.1,v:=x.2.2,m:=σ,k:=σ.length} (RgR Φ G r σ')) ->
  (∀args w,(callFunc f args).run P w=.ok (.enter f args) w)/\∀s m vs,a0D s (inf σ m) σ m->Coh σ m->Reps s (inf σ m) ayq vs->Ct P f vs s m (QF σ m r σ')
section
variable {c:Ctx}{fnc:Func}{f:FuncId}
end
end Go.Sx
namespace Go.Proofs.Ytmekflfjaflmkaa
open Go.Sx
def d4b:List (Nat×TI):=[
 (1,⟨.func,1,8,[.nilF],[.val],false⟩),
 (2,⟨.int .i64,1,8,[.int .i64 (.l 0)],[.int .i64],false⟩),
 (3,⟨.int .i64,1,8,[.int .i64 (.l 0)],[.int .i64],false⟩),
 (4,⟨.bool,1,1,[.bool (.t false)],[.bool],false⟩),
 (5,⟨.int .u8,1,1,[.int .u8 (.l 0)],[.int .u8],false⟩),
 (9,⟨.str,1,16,[.str []],[.val],false⟩),
 (12,⟨.int .u64,1,8,[.int .u64 (.l 0)],[.int .u64],false⟩),
 (21,⟨.int .i32,1,4,[.int .i32 (.l 0)],[.int .i32],false⟩),
 (22,⟨.slice 83,1,24,[.nilS],[.val],false⟩),
 (23,⟨.slice 112,1,24,[.nilS],[.val],false⟩),
 (24,⟨.slice 119,1,24,[.nilS],[.val],false⟩),
 (25,⟨.slice 122,1,24,[.nilS],[.val],false⟩),
 (26,⟨.st [(0,22),(1,23),(2,24),(3,25)],4,96,[.nilS,.nilS,.nilS,.nilS],[.val,.val,.val,.val],false⟩),
 (27,⟨.st [(0,22),(1,23),(2,24),(3,25)],4,96,[.nilS,.nilS,.nilS,.nilS],[.val,.val,.val,.val],false⟩),
 (28,⟨.st [(0,2),(1,3),(2,3),(3,3)],4,32,[.int .i64 (.l 0),.int .i64 (.l 0),.int .i64 (.l 0),.int .i64 (.l 0)],[.int .i64,.int .i64,.int .i64,.int .i64],true⟩),
 (29,⟨.st [(0,2),(1,3),(2,3),(3,3)],4,32,[.int .i64 (.l 0),.int .i64 (.l 0),.int .i64 (.l 0),.int .i64 (.l 0)],[.int .i64,.int .i64,.int .i64,.int .i64],true⟩),
 (30,⟨.slice 42,1,24,[.nilS],[.val],false⟩),
 (31,⟨.func,1,8,[.nilF],[.val],false⟩),
 (32,⟨.func,1,8,[.nilF],[.val],false⟩),
 (33,⟨.ptr 81,1,8,[.nilP],[.val],false⟩),
 (34,⟨.int .i64,1,8,[.int .i64 (.l 0)],[.int .i64],false⟩),
 (36,⟨.func,1,8,[.nilF],[.val],false⟩),
 (37,⟨.arr 6 3,6,48,[.int .i64 (.l 0),.int .i64 (.l 0),.int .i64 (.l 0),.int .i64 (.l 0),.int .i64 (.l 0),.int .i64 (.l 0)],[.int .i64,.int .i64,.int .i64,.int .i64,.int .i64,.int .i64],true⟩),
 (38,⟨.arr 6 3,6,48,[.int .i64 (.l 0),.int .i64 (.l 0),.int .i64 (.l 0),.int .i64 (.l 0),.int .i64 (.l 0),.int .i64 (.l 0)],[.int .i64,.int .i64,.int .i64,.int .i64,.int .i64,.int .i64],true⟩),
 (39,⟨.func,1,8,[.nilF],[.val],false⟩),
 (40,⟨.func,1,8,[.nilF],[.val],false⟩),
 (41,⟨.st [(0,3),(1,3),(2,3),(3,38)],9,72,[.int .i64 (.l 0),.int .i64 (.l 0),.int .i64 (.l 0),.int .i64 (.l 0),.int .i64 (.l 0),.int .i64 (.l 0),.int .i64 (.l 0),.int .i64 (.l 0),.int .i64 (.l 0)],[.int .i64,.int .i64,.int .i64,.int .i64,.int .i64,.int .i64,.int .i64,.int .i64,.int .i64],true⟩),
 (42,⟨.st [(0,3),(1,3),(2,3),(3,38)],9,72,[.int .i64 (.l 0),.int .i64 (.l 0),.int .i64 (.l 0),.int .i64 (.l 0),.int .i64 (.l 0),.int .i64 (.l 0),.int .i64 (.l 0),.int .i64 (.l 0),.int .i64 (.l 0)],[.int .i64,.int .i64,.int .i64,.int .i64,.int .i64,.int .i64,.int .i64,.int .i64,.int .i64],true⟩),
 (43,⟨.arr 6 2,6,48,[.int .i64 (.l 0),.int .i64 (.l 0),.int .i64 (.l 0),.int .i64 (.l 0),.int .i64 (.l 0),.int .i64 (.l 0)],[.int .i64,.int .i64,.int .i64,.int .i64,.int .i64,.int .i64],true⟩),
 (44,⟨.arr 6 2,6,48,[.int .i64 (.l 0),.int .i64 (.l 0),.int .i64 (.l 0),.int .i64 (.l 0),.int .i64 (.l 0),.int .i64 (.l 0)],[.int .i64,.int .i64,.int .i64,.int .i64,.int .i64,.int .i64],true⟩),
 (45,⟨.func,1,8,[.nilF],[.val],false⟩),
 (47,⟨.func,1,8,[.nilF],[.val],false⟩),
 (48,⟨.slice 54,1,24,[.nilS],[.val],false⟩),
 (49,⟨.func,1,8,[.nilF],[.val],false⟩),
 (50,⟨.func,1,8,[.nilF],[.val],false⟩),
 (51,⟨.slice 38,1,24,[.nilS],[.val],false⟩),
 (52,⟨.slice 4,1,24,[.nilS],[.val],false⟩),
 (53,⟨.st [(0,44),(6,51),(7,51),(8,52)],9,120,[.int .i64 (.l 0),.int .i64 (.l 0),.int .i64 (.l 0),.int .i64 (.l 0),.int .i64 (.l 0),.int .i64 (.l 0),.nilS,.nilS,.nilS],[.int .i64,.int .i64,.int .i64,.int .i64,.int .i64,.int .i64,.val,.val,.val],false⟩),
 (54,⟨.st [(0,44),(6,51),(7,51),(8,52)],9,120,[.int .i64 (.l 0),.int .i64 (.l 0),.int .i64 (.l 0),.int .i64 (.l 0),.int .i64 (.l 0),.int .i64 (.l 0),.nilS,.nilS,.nilS],[.int .i64,.int .i64,.int .i64,.int .i64,.int .i64,.int .i64,.val,.val,.val],false⟩),
 (55,⟨.func,1,8,[.nilF],[.val],false⟩),
 (56,⟨.func,1,8,[.nilF],[.val],false⟩),
 (57,⟨.func,1,8,[.nilF],[.val],false⟩),
 (58,⟨.func,1,8,[.nilF],[.val],false⟩),
 (59,⟨.slice 102,1,24,[.nilS],[.val],false⟩),
 (60,⟨.func,1,8,[.nilF],[.val],false⟩),
 (61,⟨.func,1,8,[.nilF],[.val],false⟩),
 (62,⟨.func,1,8,[.nilF],[.val],false⟩),
 (63,⟨.slice 3,1,24,[.nilS],[.val],false⟩),
 (64,⟨.slice 2,1,24,[.nilS],[.val],false⟩),
 (65,⟨.st [(0,63),(1,64)],2,48,[.nilS,.nilS],[.val,.val],false⟩),
 (66,⟨.st [(0,63),(1,64)],2,48,[.nilS,.nilS],[.val,.val],false⟩),
 (68,⟨.func,1,8,[.nilF],[.val],false⟩),
 (69,⟨.slice 75,1,24,[.nilS],[.val],false⟩),
 (70,⟨.func,1,8,[.nilF],[.val],false⟩),
 (71,⟨.func,1,8,[.nilF],[.val],false⟩),
 (72,⟨.func,1,8,[.nilF],[.val],false⟩),
 (73,⟨.func,1,8,[.nilF],[.val],false⟩),
 (74,⟨.st [(0,44),(6,38)],12,96,[.int .i64 (.l 0),.int .i64 (.l 0),.int .i64 (.l 0),.int .i64 (.l 0),.int .i64 (.l 0),.int .i64 (.l 0),.int .i64 (.l 0),.int .i64 (.l 0),.int .i64 (.l 0),.int .i64 (.l 0),.int .i64 (.l 0),.int .i64 (.l 0)],[.int .i64,.int .i64,.int .i64,.int .i64,.int .i64,.int .i64,.int .i64,.int .i64,.int .i64,.int .i64,.int .i64,.int .i64],true⟩),
 (75,⟨.st [(0,44),(6,38)],12,96,[.int .i64 (.l 0),.int .i64 (.l 0),.int .i64 (.l 0),.int .i64 (.l 0),.int .i64 (.l 0),.int .i64 (.l 0),.int .i64 (.l 0),.int .i64 (.l 0),.int .i64 (.l 0),.int .i64 (.l 0),.int .i64 (.l 0),.int .i64 (.l 0)],[.int .i64,.int .i64,.int .i64,.int .i64,.int .i64,.int .i64,.int .i64,.int .i64,.int .i64,.int .i64,.int .i64,.int .i64],true⟩),
 (76,⟨.func,1,8,[.nilF],[.val],false⟩),
 (77,⟨.func,1,8,[.nilF],[.val],false⟩),
 (78,⟨.func,1,8,[.nilF],[.val],false⟩),
 (79,⟨.func,1,8,[.nilF],[.val],false⟩),
 (80,⟨.st [(0,27),(4,29),(8,48),(9,44),(15,51),(16,52),(17,52),(18,4)],19,280,[.nilS,.nilS,.nilS,.nilS,.int .i64 (.l 0),.int .i64 (.l 0),.int .i64 (.l 0),.int .i64 (.l 0),.nilS,.int .i64 (.l 0),.int .i64 (.l 0),.int .i64 (.l 0),.int .i64 (.l 0),.int .i64 (.l 0),.int .i64 (.l 0),.nilS,.nilS,.nilS,.bool (.t false)],[.val,.val,.val,.val,.int .i64,.int .i64,.int .i64,.int .i64,.val,.int .i64,.int .i64,.int .i64,.int .i64,.int .i64,.int .i64,.val,.val,.val,.bool],false⟩),
 (81,⟨.st [(0,27),(4,29),(8,48),(9,44),(15,51),(16,52),(17,52),(18,4)],19,280,[.nilS,.nilS,.nilS,.nilS,.int .i64 (.l 0),.int .i64 (.l 0),.int .i64 (.l 0),.int .i64 (.l 0),.nilS,.int .i64 (.l 0),.int .i64 (.l 0),.int .i64 (.l 0),.int .i64 (.l 0),.int .i64 (.l 0),.int .i64 (.l 0),.nilS,.nilS,.nilS,.bool (.t false)],[.val,.val,.val,.val,.int .i64,.int .i64,.int .i64,.int .i64,.val,.int .i64,.int .i64,.int .i64,.int .i64,.int .i64,.int .i64,.val,.val,.val,.bool],false⟩),
 (82,⟨.st [(0,9),(1,3),(2,2),(3,3),(4,3)],5,48,[.str [],.int .i64 (.l 0),.int .i64 (.l 0),.int .i64 (.l 0),.int .i64 (.l 0)],[.val,.int .i64,.int .i64,.int .i64,.int .i64],false⟩),
 (83,⟨.st [(0,9),(1,3),(2,2),(3,3),(4,3)],5,48,[.str [],.int .i64 (.l 0),.int .i64 (.l 0),.int .i64 (.l 0),.int .i64 (.l 0)],[.val,.int .i64,.int .i64,.int .i64,.int .i64],false⟩),
 (84,⟨.func,1,8,[.nilF],[.val],false⟩),
 (85,⟨.func,1,8,[.nilF],[.val],false⟩),
 (86,⟨.func,1,8,[.nilF],[.val],false⟩),
 (87,⟨.func,1,8,[.nilF],[.val],false⟩),
 (88,⟨.func,1,8,[.nilF],[.val],false⟩),
 (90,⟨.func,1,8,[.nilF],[.val],false⟩),
 (91,⟨.func,1,8,[.nilF],[.val],false⟩),
 (93,⟨.func,1,8,[.nilF],[.val],false⟩),
 (94,⟨.func,1,8,[.nilF],[.val],false⟩),
 (95,⟨.func,1,8,[.nilF],[.val],false⟩),
 (96,⟨.func,1,8,[.nilF],[.val],false⟩),
 (97,⟨.func,1,8,[.nilF],[.val],false⟩),
 (98,⟨.arr 6 3,6,48,[.int .i64 (.l 0),.int .i64 (.l 0),.int .i64 (.l 0),.int .i64 (.l 0),.int .i64 (.l 0),.int .i64 (.l 0)],[.int .i64,.int .i64,.int .i64,.int .i64,.int .i64,.int .i64],true⟩),
 (99,⟨.func,1,8,[.nilF],[.val],false⟩),
 (100,⟨.func,1,8,[.nilF],[.val],false⟩),
 (101,⟨.func,1,8,[.nilF],[.val],false⟩),
 (102,⟨.st [(0,44),(6,51),(7,51),(8,52)],9,120,[.int .i64 (.l 0),.int .i64 (.l 0),.int .i64 (.l 0),.int .i64 (.l 0),.int .i64 (.l 0),.int .i64 (.l 0),.nilS,.nilS,.nilS],[.int .i64,.int .i64,.int .i64,.int .i64,.int .i64,.int .i64,.val,.val,.val],false⟩),
 (103,⟨.func,1,8,[.nilF],[.val],false⟩),
 (104,⟨.func,1,8,[.nilF],[.val],false⟩),
 (106,⟨.func,1,8,[.nilF],[.val],false⟩),
 (107,⟨.func,1,8,[.nilF],[.val],false⟩),
 (108,⟨.func,1,8,[.nilF],[.val],false⟩),
 (109,⟨.func,1,8,[.nilF],[.val],false⟩),
 (110,⟨.func,1,8,[.nilF],[.val],false⟩),
 (111,⟨.st [(0,9),(1,3),(2,2),(3,3)],4,40,[.str [],.int .i64 (.l 0),.int .i64 (.l 0),.int .i64 (.l 0)],[.val,.int .i64,.int .i64,.int .i64],false⟩),
 (112,⟨.st [(0,9),(1,3),(2,2),(3,3)],4,40,[.str [],.int .i64 (.l 0),.int .i64 (.l 0),.int .i64 (.l 0)],[.val,.int .i64,.int .i64,.int .i64],false⟩),
 (113,⟨.func,1,8,[.nilF],[.val],false⟩),
 (114,⟨.func,1,8,[.nilF],[.val],false⟩),
 (115,⟨.func,1,8,[.nilF],[.val],false⟩),
 (116,⟨.func,1,8,[.nilF],[.val],false⟩),
 (117,⟨.func,1,8,[.nilF],[.val],false⟩),
 (118,⟨.st [(0,3),(1,3),(2,3)],3,24,[.int .i64 (.l 0),.int .i64 (.l 0),.int .i64 (.l 0)],[.int .i64,.int .i64,.int .i64],true⟩),
 (119,⟨.st [(0,3),(1,3),(2,3)],3,24,[.int .i64 (.l 0),.int .i64 (.l 0),.int .i64 (.l 0)],[.int .i64,.int .i64,.int .i64],true⟩),
 (120,⟨.func,1,8,[.nilF],[.val],false⟩),
 (121,⟨.st [(0,3),(1,3),(2,3)],3,24,[.int .i64 (.l 0),.int .i64 (.l 0),.int .i64 (.l 0)],[.int .i64,.int .i64,.int .i64],true⟩),
 (122,⟨.st [(0,3),(1,3),(2,3)],3,24,[.int .i64 (.l 0),.int .i64 (.l 0),.int .i64 (.l 0)],[.int .i64,.int .i64,.int .i64],true⟩),
 (123,⟨.func,1,8,[.nilF],[.val],false⟩),
 (124,⟨.st [(0,27),(4,3),(5,69)],6,128,[.nilS,.nilS,.nilS,.nilS,.int .i64 (.l 0),.nilS],[.val,.val,.val,.val,.int .i64,.val],false⟩),
 (125,⟨.st [(0,27),(4,3),(5,69)],6,128,[.nilS,.nilS,.nilS,.nilS,.int .i64 (.l 0),.nilS],[.val,.val,.val,.val,.int .i64,.val],false⟩),
 (126,⟨.func,1,8,[.nilF],[.val],false⟩),
 (127,⟨.func,1,8,[.nilF],[.val],false⟩),
 (128,⟨.func,1,8,[.nilF],[.val],false⟩),
 (129,⟨.func,1,8,[.nilF],[.val],false⟩),
 (130,⟨.func,1,8,[.nilF],[.val],false⟩),
 (131,⟨.func,1,8,[.nilF],[.val],false⟩),
 (132,⟨.func,1,8,[.nilF],[.val],false⟩),
 (133,⟨.func,1,8,[.nilF],[.val],false⟩),
 (134,⟨.func,1,8,[.nilF],[.val],false⟩),
 (135,⟨.func,1,8,[.nilF],[.val],false⟩),
 (136,⟨.func,1,8,[.nilF],[.val],false⟩),
 (138,⟨.func,1,8,[.nilF],[.val],false⟩),
 (139,⟨.func,1,8,[.nilF],[.val],false⟩),
 (140,⟨.func,1,8,[.nilF],[.val],false⟩),
 (141,⟨.func,1,8,[.nilF],[.val],false⟩),
 (143,⟨.func,1,8,[.nilF],[.val],false⟩),
 (144,⟨.func,1,8,[.nilF],[.val],false⟩),
 (145,⟨.func,1,8,[.nilF],[.val],false⟩),
 (146,⟨.func,1,8,[.nilF],[.val],false⟩),
 (147,⟨.func,1,8,[.nilF],[.val],false⟩),
 (148,⟨.func,1,8,[.nilF],[.val],false⟩),
 (149,⟨.arr 2 51,2,48,[.nilS,.nilS],[.val,.val],false⟩),
 (150,⟨.func,1,8,[.nilF],[.val],false⟩),
 (151,⟨.other,1,8,[.nilM],[.val],false⟩),
 (152,⟨.func,1,8,[.nilF],[.val],false⟩),
 (153,⟨.func,1,8,[.nilF],[.val],false⟩),
 (154,⟨.func,1,8,[.nilF],[.val],false⟩),
 (155,⟨.func,1,8,[.nilF],[.val],false⟩),
 (156,⟨.st [(0,22),(1,38)],7,72,[.nilS,.int .i64 (.l 0),.int .i64 (.l 0),.int .i64 (.l 0),.int .i64 (.l 0),.int .i64 (.l 0),.int .i64 (.l 0)],[.val,.int .i64,.int .i64,.int .i64,.int .i64,.int .i64,.int .i64],false⟩),
 (157,⟨.st [(0,22),(1,38)],7,72,[.nilS,.int .i64 (.l 0),.int .i64 (.l 0),.int .i64 (.l 0),.int .i64 (.l 0),.int .i64 (.l 0),.int .i64 (.l 0)],[.val,.int .i64,.int .i64,.int .i64,.int .i64,.int .i64,.int .i64],false⟩),
 (158,⟨.func,1,8,[.nilF],[.val],false⟩),
 (159,⟨.func,1,8,[.nilF],[.val],false⟩),
 (160,⟨.func,1,8,[.nilF],[.val],false⟩),
 (161,⟨.func,1,8,[.nilF],[.val],false⟩),
 (167,⟨.int .u32,1,4,[.int .u32 (.l 0)],[.int .u32],false⟩),
 (170,⟨.func,1,8,[.nilF],[.val],false⟩),
 (171,⟨.ptr 5,1,8,[.nilP],[.val],false⟩)]
def c9e:List (Nat×List Nat):=[
 (2,[]),
 (3,[4]),
 (4,[4]),
 (5,[4]),
 (6,[4]),
 (7,[4]),
 (8,[33,34]),
 (9,[38]),
 (10,[4]),
 (11,[34]),
 (12,[44]),
 (13,[4,34]),
 (14,[48]),
 (15,[38]),
 (16,[33]),
 (17,[34]),
 (18,[4]),
 (19,[59]),
 (20,[4,34]),
 (21,[66,4]),
 (22,[69]),
 (23,[34]),
 (24,[27]),
 (25,[3]),
 (26,[34]),
 (27,[34]),
 (28,[27]),
 (29,[44]),
 (30,[]),
 (31,[4]),
 (32,[34]),
 (33,[34]),
 (34,[34]),
 (35,[38]),
 (36,[51]),
 (37,[51,34]),
 (38,[51]),
 (39,[44,34]),
 (40,[48]),
 (41,[54]),
 (42,[38]),
 (43,[98]),
 (44,[52]),
 (45,[48]),
 (46,[34]),
 (47,[34]),
 (48,[4]),
 (49,[64,63]),
 (50,[2]),
 (51,[4]),
 (52,[4]),
 (53,[2]),
 (54,[34]),
 (55,[34]),
 (56,[34]),
 (57,[34]),
 (58,[22]),
 (59,[23]),
 (60,[24]),
 (61,[25]),
 (62,[34]),
 (63,[4]),
 (64,[4]),
 (65,[4]),
 (66,[4]),
 (67,[34]),
 (68,[4]),
 (69,[4]),
 (70,[34]),
 (71,[51]),
 (72,[38]),
 (73,[4]),
 (74,[38]),
 (75,[132]),
 (76,[4]),
 (77,[4]),
 (78,[63]),
 (79,[4]),
 (80,[3,4]),
 (81,[4]),
 (82,[3]),
 (83,[3,4]),
 (84,[38,38]),
 (85,[4]),
 (86,[38]),
 (87,[3]),
 (88,[3]),
 (89,[3]),
 (90,[2]),
 (91,[34]),
 (92,[4]),
 (93,[9]),
 (94,[4]),
 (95,[38]),
 (96,[2]),
 (97,[2]),
 (98,[3]),
 (99,[4]),
 (100,[4]),
 (101,[2])]
def b0T{α:Type}(k:Nat):List (Nat×α)->Option α
 | []=>none
 | (j,x)::l=>if Nat.beq j k then some x else b0T k l
def d2t:List (Nat×MT):=[(151,⟨.i64,3,4,.bool (.t false),.one .bool⟩)]
def d2q:List (Nat×QT):=[]
def cx(nw:Bool)(stops:List (List Bool))(cstops:List (List Bool×Nat)):Ctx :=
 {tab:=fun t=>b0T t d4b,rets:=fun f=>(b0T f c9e).getD [],fok:=fun f=>(b0T f c9e).isSome,nw,stops,cstops,mtab:=fun t=>b0T t d2t,qtab:=fun t=>b0T t d2q}
theorem ti1:TI.Ok Try.prog 1 ⟨.func,1,8,[.nilF],[.val],false⟩ where
 inf:=⟨Try.t1,_,by kernel_rfl,rfl,rfl,rfl,fun _ _=>rfl⟩
 zlen:=rfl
 ty:=⟨_,_,_,Try.underlying1⟩
 one:=fun _=>rfl
 eq:=fun h=>by simp at h
theorem ti2:TI.Ok Try.prog 2 ⟨.int .i64,1,8,[.int .i64 (.l 0)],[.int .i64],false⟩ where
 inf:=⟨Try.t2,_,by kernel_rfl,rfl,rfl,rfl,fun _ _=>rfl⟩
 zlen:=rfl
 ty:=Try.underlying2
 one:=fun _=>rfl
 eq:=fun h=>by simp at h
theorem ti3:TI.Ok Try.prog 3 ⟨.int .i64,1,8,[.int .i64 (.l 0)],[.int .i64],false⟩ where
 inf:=⟨Try.t3,_,by kernel_rfl,rfl,rfl,rfl,fun _ _=>rfl⟩
 zlen:=rfl
 ty:=Try.underlying3
 one:=fun _=>rfl
 eq:=fun h=>by simp at h
theorem ti4:TI.Ok Try.prog 4 ⟨.bool,1,1,[.bool (.t false)],[.bool],false⟩ where
 inf:=⟨Try.t4,_,by kernel_rfl,rfl,rfl,rfl,fun _ _=>rfl⟩
 zlen:=rfl
 ty:=Try.underlying4
 one:=fun _=>rfl
 eq:=fun h=>by simp at h
theorem ti5:TI.Ok Try.prog 5 ⟨.int .u8,1,1,[.int .u8 (.l 0)],[.int .u8],false⟩ where
 inf:=⟨Try.t5,_,by kernel_rfl,rfl,rfl,rfl,fun _ _=>rfl⟩
 zlen:=rfl
 ty:=Try.underlying5
 one:=fun _=>rfl
 eq:=fun h=>by simp at h
theorem ti9:TI.Ok Try.prog 9 ⟨.str,1,16,[.str []],[.val],false⟩ where
 inf:=⟨Try.t9,_,by kernel_rfl,rfl,rfl,rfl,fun _ _=>rfl⟩
 zlen:=rfl
 ty:=Try.underlying9
 one:=fun _=>rfl
 eq:=fun h=>by simp at h
theorem d7n:TI.Ok Try.prog 12 ⟨.int .u64,1,8,[.int .u64 (.l 0)],[.int .u64],false⟩ where
 inf:=⟨Try.t12,_,by kernel_rfl,rfl,rfl,rfl,fun _ _=>rfl⟩
 zlen:=rfl
 ty:=Try.underlying12
 one:=fun _=>rfl
 eq:=fun h=>by simp at h
theorem d6u:TI.Ok Try.prog 21 ⟨.int .i32,1,4,[.int .i32 (.l 0)],[.int .i32],false⟩ where
 inf:=⟨Try.t21,_,by kernel_rfl,rfl,rfl,rfl,fun _ _=>rfl⟩
 zlen:=rfl
 ty:=Try.underlying21
 one:=fun _=>rfl
 eq:=fun h=>by simp at h
theorem d6b:TI.Ok Try.prog 22 ⟨.slice 83,1,24,[.nilS],[.val],false⟩ where
 inf:=⟨Try.t22,_,by kernel_rfl,rfl,rfl,rfl,fun _ _=>rfl⟩
 zlen:=rfl
 ty:=Try.underlying22
 one:=fun _=>rfl
 eq:=fun h=>by simp at h
theorem d6c:TI.Ok Try.prog 23 ⟨.slice 112,1,24,[.nilS],[.val],false⟩ where
 inf:=⟨Try.t23,_,by kernel_rfl,rfl,rfl,rfl,fun _ _=>rfl⟩
 zlen:=rfl
 ty:=Try.underlying23
 one:=fun _=>rfl
 eq:=fun h=>by simp at h
theorem d6A:TI.Ok Try.prog 24 ⟨.slice 119,1,24,[.nilS],[.val],false⟩ where
 inf:=⟨Try.t24,_,by kernel_rfl,rfl,rfl,rfl,fun _ _=>rfl⟩
 zlen:=rfl
 ty:=Try.underlying24
 one:=fun _=>rfl
 eq:=fun h=>by simp at h
theorem d6R:TI.Ok Try.prog 25 ⟨.slice 122,1,24,[.nilS],[.val],false⟩ where
 inf:=⟨Try.t25,_,by kernel_rfl,rfl,rfl,rfl,fun _ _=>rfl⟩
 zlen:=rfl
 ty:=Try.underlying25
 one:=fun _=>rfl
 eq:=fun h=>by simp at h
theorem d5N:TI.Ok Try.prog 26 ⟨.st [(0,22),(1,23),(2,24),(3,25)],4,96,[.nilS,.nilS,.nilS,.nilS],[.val,.val,.val,.val],false⟩ where
 inf:=⟨Try.t26,_,by kernel_rfl,rfl,rfl,rfl,fun _ _=>rfl⟩
 zlen:=rfl
 ty:=⟨_,Try.underlying26,rfl⟩
 one:=fun h=>by simp[TI.isAgg] at h
 eq:=fun h=>by simp at h
theorem d7i:TI.Ok Try.prog 27 ⟨.st [(0,22),(1,23),(2,24),(3,25)],4,96,[.nilS,.nilS,.nilS,.nilS],[.val,.val,.val,.val],false⟩ where
 inf:=⟨Try.t27,_,by kernel_rfl,rfl,rfl,rfl,fun _ _=>rfl⟩
 zlen:=rfl
 ty:=⟨_,Try.underlying27,rfl⟩
 one:=fun h=>by simp[TI.isAgg] at h
 eq:=fun h=>by simp at h
theorem d6W:TI.Ok Try.prog 28 ⟨.st [(0,2),(1,3),(2,3),(3,3)],4,32,[.int .i64 (.l 0),.int .i64 (.l 0),.int .i64 (.l 0),.int .i64 (.l 0)],[.int .i64,.int .i64,.int .i64,.int .i64],true⟩ where
 inf:=⟨Try.t28,_,by kernel_rfl,rfl,rfl,rfl,fun _ _=>rfl⟩
 zlen:=rfl
 ty:=⟨_,Try.underlying28,rfl⟩
 one:=fun h=>by simp[TI.isAgg] at h
 eq:=fun _=>⟨Try.eqGuardType28,fun w zs us h1 h2=>(show EqT Try.prog 10000 28 true _ from(a4p Try.underlying28 (.cons (by decide) rfl (a1g Try.underlying2 (Try.sizeOf2) (by kernel_rfl) 9998) (.cons (by decide) rfl (a1g Try.underlying3 (Try.sizeOf3) (by kernel_rfl) 9998) (.cons (by decide) rfl (a1g Try.underlying3 (Try.sizeOf3) (by kernel_rfl) 9998) (.cons (by decide) rfl (a1g Try.underlying3 (Try.sizeOf3) (by kernel_rfl) 9998) (.nil _))))) (by kernel_rfl) (Try.sizeOf28) (by kernel_rfl))).eq w zs us h1 h2⟩
theorem d7r:TI.Ok Try.prog 29 ⟨.st [(0,2),(1,3),(2,3),(3,3)],4,32,[.int .i64 (.l 0),.int .i64 (.l 0),.int .i64 (.l 0),.int .i64 (.l 0)],[.int .i64,.int .i64,.int .i64,.int .i64],true⟩ where
 inf:=⟨Try.t29,_,by kernel_rfl,rfl,rfl,rfl,fun _ _=>rfl⟩
 zlen:=rfl
 ty:=⟨_,Try.underlying29,rfl⟩
 one:=fun h=>by simp[TI.isAgg] at h
 eq:=fun _=>⟨Try.eqGuardType29,fun w zs us h1 h2=>(show EqT Try.prog 10000 29 true _ from(a4p Try.underlying29 (.cons (by decide) rfl (a1g Try.underlying2 (Try.sizeOf2) (by kernel_rfl) 9998) (.cons (by decide) rfl (a1g Try.underlying3 (Try.sizeOf3) (by kernel_rfl) 9998) (.cons (by decide) rfl (a1g Try.underlying3 (Try.sizeOf3) (by kernel_rfl) 9998) (.cons (by decide) rfl (a1g Try.underlying3 (Try.sizeOf3) (by kernel_rfl) 9998) (.nil _))))) (by kernel_rfl) (Try.sizeOf29) (by kernel_rfl))).eq w zs us h1 h2⟩
theorem d6O:TI.Ok Try.prog 30 ⟨.slice 42,1,24,[.nilS],[.val],false⟩ where
 inf:=⟨Try.t30,_,by kernel_rfl,rfl,rfl,rfl,fun _ _=>rfl⟩
 zlen:=rfl
 ty:=Try.underlying30
 one:=fun _=>rfl
 eq:=fun h=>by simp at h
theorem d5P:TI.Ok Try.prog 31 ⟨.func,1,8,[.nilF],[.val],false⟩ where
 inf:=⟨Try.t31,_,by kernel_rfl,rfl,rfl,rfl,fun _ _=>rfl⟩
 zlen:=rfl
 ty:=⟨_,_,_,Try.underlying31⟩
 one:=fun _=>rfl
 eq:=fun h=>by simp at h
theorem d7p:TI.Ok Try.prog 32 ⟨.func,1,8,[.nilF],[.val],false⟩ where
 inf:=⟨Try.t32,_,by kernel_rfl,rfl,rfl,rfl,fun _ _=>rfl⟩
 zlen:=rfl
 ty:=⟨_,_,_,Try.underlying32⟩
 one:=fun _=>rfl
 eq:=fun h=>by simp at h
theorem d6a:TI.Ok Try.prog 33 ⟨.ptr 81,1,8,[.nilP],[.val],false⟩ where
 inf:=⟨Try.t33,_,by kernel_rfl,rfl,rfl,rfl,fun _ _=>rfl⟩
 zlen:=rfl
 ty:=Try.underlying33
 one:=fun _=>rfl
 eq:=fun h=>by simp at h
theorem d6M:TI.Ok Try.prog 34 ⟨.int .i64,1,8,[.int .i64 (.l 0)],[.int .i64],false⟩ where
 inf:=⟨Try.t34,_,by kernel_rfl,rfl,rfl,rfl,fun _ _=>rfl⟩
 zlen:=rfl
 ty:=Try.underlying34
 one:=fun _=>rfl
 eq:=fun h=>by simp at h
theorem d6h:TI.Ok Try.prog 36 ⟨.func,1,8,[.nilF],[.val],false⟩ where
 inf:=⟨Try.t36,_,by kernel_rfl,rfl,rfl,rfl,fun _ _=>rfl⟩
 zlen:=rfl
 ty:=⟨_,_,_,Try.underlying36⟩
 one:=fun _=>rfl
 eq:=fun h=>by simp at h
theorem d6Z:TI.Ok Try.prog 37 ⟨.arr 6 3,6,48,[.int .i64 (.l 0),.int .i64 (.l 0),.int .i64 (.l 0),.int .i64 (.l 0),.int .i64 (.l 0),.int .i64 (.l 0)],[.int .i64,.int .i64,.int .i64,.int .i64,.int .i64,.int .i64],true⟩ where
 inf:=⟨Try.t37,_,by kernel_rfl,rfl,rfl,rfl,fun _ _=>rfl⟩
 zlen:=rfl
 ty:=Try.underlying37
 one:=fun h=>by simp[TI.isAgg] at h
 eq:=fun _=>⟨Try.eqGuardType37,fun w zs us h1 h2=>(show EqT Try.prog 10000 37 true _ from(a4s (inf:=Try.t3) (a1g Try.underlying3 (Try.sizeOf3) (by kernel_rfl) 9998) Try.underlying37 (by kernel_rfl) (Try.sizeOf37) (by kernel_rfl))).eq w zs us h1 h2⟩
theorem d6z:TI.Ok Try.prog 38 ⟨.arr 6 3,6,48,[.int .i64 (.l 0),.int .i64 (.l 0),.int .i64 (.l 0),.int .i64 (.l 0),.int .i64 (.l 0),.int .i64 (.l 0)],[.int .i64,.int .i64,.int .i64,.int .i64,.int .i64,.int .i64],true⟩ where
 inf:=⟨Try.t38,_,by kernel_rfl,rfl,rfl,rfl,fun _ _=>rfl⟩
 zlen:=rfl
 ty:=Try.underlying38
 one:=fun h=>by simp[TI.isAgg] at h
 eq:=fun _=>⟨Try.eqGuardType38,fun w zs us h1 h2=>(show EqT Try.prog 10000 38 true _ from(a4s (inf:=Try.t3) (a1g Try.underlying3 (Try.sizeOf3) (by kernel_rfl) 9998) Try.underlying38 (by kernel_rfl) (Try.sizeOf38) (by kernel_rfl))).eq w zs us h1 h2⟩
theorem d5K:TI.Ok Try.prog 39 ⟨.func,1,8,[.nilF],[.val],false⟩ where
 inf:=⟨Try.t39,_,by kernel_rfl,rfl,rfl,rfl,fun _ _=>rfl⟩
 zlen:=rfl
 ty:=⟨_,_,_,Try.underlying39⟩
 one:=fun _=>rfl
 eq:=fun h=>by simp at h
theorem d6m:TI.Ok Try.prog 40 ⟨.func,1,8,[.nilF],[.val],false⟩ where
 inf:=⟨Try.t40,_,by kernel_rfl,rfl,rfl,rfl,fun _ _=>rfl⟩
 zlen:=rfl
 ty:=⟨_,_,_,Try.underlying40⟩
 one:=fun _=>rfl
 eq:=fun h=>by simp at h
theorem d5J:TI.Ok Try.prog 41 ⟨.st [(0,3),(1,3),(2,3),(3,38)],9,72,[.int .i64 (.l 0),.int .i64 (.l 0),.int .i64 (.l 0),.int .i64 (.l 0),.int .i64 (.l 0),.int .i64 (.l 0),.int .i64 (.l 0),.int .i64 (.l 0),.int .i64 (.l 0)],[.int .i64,.int .i64,.int .i64,.int .i64,.int .i64,.int .i64,.int .i64,.int .i64,.int .i64],true⟩ where
 inf:=⟨Try.t41,_,by kernel_rfl,rfl,rfl,rfl,fun _ _=>rfl⟩
 zlen:=rfl
 ty:=⟨_,Try.underlying41,rfl⟩
 one:=fun h=>by simp[TI.isAgg] at h
 eq:=fun _=>⟨Try.eqGuardType41,fun w zs us h1 h2=>(show EqT Try.prog 10000 41 true _ from(a4p Try.underlying41 (.cons (by decide) rfl (a1g Try.underlying3 (Try.sizeOf3) (by kernel_rfl) 9998) (.cons (by decide) rfl (a1g Try.underlying3 (Try.sizeOf3) (by kernel_rfl) 9998) (.cons (by decide) rfl (a1g Try.underlying3 (Try.sizeOf3) (by kernel_rfl) 9998) (.cons (by decide) rfl (a4s (inf:=Try.t3) (a1g Try.underlying3 (Try.sizeOf3) (by kernel_rfl) 9997) Try.underlying38 (by kernel_rfl) (Try.sizeOf38) (by kernel_rfl)) (.nil _))))) (by kernel_rfl) (Try.sizeOf41) (by kernel_rfl))).eq w zs us h1 h2⟩
theorem d6w:TI.Ok Try.prog 42 ⟨.st [(0,3),(1,3),(2,3),(3,38)],9,72,[.int .i64 (.l 0),.int .i64 (.l 0),.int .i64 (.l 0),.int .i64 (.l 0),.int .i64 (.l 0),.int .i64 (.l 0),.int .i64 (.l 0),.int .i64 (.l 0),.int .i64 (.l 0)],[.int .i64,.int .i64,.int .i64,.int .i64,.int .i64,.int .i64,.int .i64,.int .i64,.int .i64],true⟩ where
 inf:=⟨Try.t42,_,by kernel_rfl,rfl,rfl,rfl,fun _ _=>rfl⟩
 zlen:=rfl
 ty:=⟨_,Try.underlying42,rfl⟩
 one:=fun h=>by simp[TI.isAgg] at h
 eq:=fun _=>⟨Try.eqGuardType42,fun w zs us h1 h2=>(show EqT Try.prog 10000 42 true _ from(a4p Try.underlying42 (.cons (by decide) rfl (a1g Try.underlying3 (Try.sizeOf3) (by kernel_rfl) 9998) (.cons (by decide) rfl (a1g Try.underlying3 (Try.sizeOf3) (by kernel_rfl) 9998) (.cons (by decide) rfl (a1g Try.underlying3 (Try.sizeOf3) (by kernel_rfl) 9998) (.cons (by decide) rfl (a4s (inf:=Try.t3) (a1g Try.underlying3 (Try.sizeOf3) (by kernel_rfl) 9997) Try.underlying38 (by kernel_rfl) (Try.sizeOf38) (by kernel_rfl)) (.nil _))))) (by kernel_rfl) (Try.sizeOf42) (by kernel_rfl))).eq w zs us h1 h2⟩
theorem d6j:TI.Ok Try.prog 43 ⟨.arr 6 2,6,48,[.int .i64 (.l 0),.int .i64 (.l 0),.int .i64 (.l 0),.int .i64 (.l 0),.int .i64 (.l 0),.int .i64 (.l 0)],[.int .i64,.int .i64,.int .i64,.int .i64,.int .i64,.int .i64],true⟩ where
 inf:=⟨Try.t43,_,by kernel_rfl,rfl,rfl,rfl,fun _ _=>rfl⟩
 zlen:=rfl
 ty:=Try.underlying43
 one:=fun h=>by simp[TI.isAgg] at h
 eq:=fun _=>⟨Try.eqGuardType43,fun w zs us h1 h2=>(show EqT Try.prog 10000 43 true _ from(a4s (inf:=Try.t2) (a1g Try.underlying2 (Try.sizeOf2) (by kernel_rfl) 9998) Try.underlying43 (by kernel_rfl) (Try.sizeOf43) (by kernel_rfl))).eq w zs us h1 h2⟩
theorem d6l:TI.Ok Try.prog 44 ⟨.arr 6 2,6,48,[.int .i64 (.l 0),.int .i64 (.l 0),.int .i64 (.l 0),.int .i64 (.l 0),.int .i64 (.l 0),.int .i64 (.l 0)],[.int .i64,.int .i64,.int .i64,.int .i64,.int .i64,.int .i64],true⟩ where
 inf:=⟨Try.t44,_,by kernel_rfl,rfl,rfl,rfl,fun _ _=>rfl⟩
 zlen:=rfl
 ty:=Try.underlying44
 one:=fun h=>by simp[TI.isAgg] at h
 eq:=fun _=>⟨Try.eqGuardType44,fun w zs us h1 h2=>(show EqT Try.prog 10000 44 true _ from(a4s (inf:=Try.t2) (a1g Try.underlying2 (Try.sizeOf2) (by kernel_rfl) 9998) Try.underlying44 (by kernel_rfl) (Try.sizeOf44) (by kernel_rfl))).eq w zs us h1 h2⟩
theorem d6v:TI.Ok Try.prog 45 ⟨.func,1,8,[.nilF],[.val],false⟩ where
 inf:=⟨Try.t45,_,by kernel_rfl,rfl,rfl,rfl,fun _ _=>rfl⟩
 zlen:=rfl
 ty:=⟨_,_,_,Try.underlying45⟩
 one:=fun _=>rfl
 eq:=fun h=>by simp at h
theorem d6L:TI.Ok Try.prog 47 ⟨.func,1,8,[.nilF],[.val],false⟩ where
 inf:=⟨Try.t47,_,by kernel_rfl,rfl,rfl,rfl,fun _ _=>rfl⟩
 zlen:=rfl
 ty:=⟨_,_,_,Try.underlying47⟩
 one:=fun _=>rfl
 eq:=fun h=>by simp at h
theorem d5O:TI.Ok Try.prog 48 ⟨.slice 54,1,24,[.nilS],[.val],false⟩ where
 inf:=⟨Try.t48,_,by kernel_rfl,rfl,rfl,rfl,fun _ _=>rfl⟩
 zlen:=rfl
 ty:=Try.underlying48
 one:=fun _=>rfl
 eq:=fun h=>by simp at h
theorem d6x:TI.Ok Try.prog 49 ⟨.func,1,8,[.nilF],[.val],false⟩ where
 inf:=⟨Try.t49,_,by kernel_rfl,rfl,rfl,rfl,fun _ _=>rfl⟩
 zlen:=rfl
 ty:=⟨_,_,_,Try.underlying49⟩
 one:=fun _=>rfl
 eq:=fun h=>by simp at h
theorem d6B:TI.Ok Try.prog 50 ⟨.func,1,8,[.nilF],[.val],false⟩ where
 inf:=⟨Try.t50,_,by kernel_rfl,rfl,rfl,rfl,fun _ _=>rfl⟩
 zlen:=rfl
 ty:=⟨_,_,_,Try.underlying50⟩
 one:=fun _=>rfl
 eq:=fun h=>by simp at h
theorem d7o:TI.Ok Try.prog 51 ⟨.slice 38,1,24,[.nilS],[.val],false⟩ where
 inf:=⟨Try.t51,_,by kernel_rfl,rfl,rfl,rfl,fun _ _=>rfl⟩
 zlen:=rfl
 ty:=Try.underlying51
 one:=fun _=>rfl
 eq:=fun h=>by simp at h
theorem d6F:TI.Ok Try.prog 52 ⟨.slice 4,1,24,[.nilS],[.val],false⟩ where
 inf:=⟨Try.t52,_,by kernel_rfl,rfl,rfl,rfl,fun _ _=>rfl⟩
 zlen:=rfl
 ty:=Try.underlying52
 one:=fun _=>rfl
 eq:=fun h=>by simp at h
theorem d5V:TI.Ok Try.prog 53 ⟨.st [(0,44),(6,51),(7,51),(8,52)],9,120,[.int .i64 (.l 0),.int .i64 (.l 0),.int .i64 (.l 0),.int .i64 (.l 0),.int .i64 (.l 0),.int .i64 (.l 0),.nilS,.nilS,.nilS],[.int .i64,.int .i64,.int .i64,.int .i64,.int .i64,.int .i64,.val,.val,.val],false⟩ where
 inf:=⟨Try.t53,_,by kernel_rfl,rfl,rfl,rfl,fun _ _=>rfl⟩
 zlen:=rfl
 ty:=⟨_,Try.underlying53,rfl⟩
 one:=fun h=>by simp[TI.isAgg] at h
 eq:=fun h=>by simp at h
theorem d7g:TI.Ok Try.prog 54 ⟨.st [(0,44),(6,51),(7,51),(8,52)],9,120,[.int .i64 (.l 0),.int .i64 (.l 0),.int .i64 (.l 0),.int .i64 (.l 0),.int .i64 (.l 0),.int .i64 (.l 0),.nilS,.nilS,.nilS],[.int .i64,.int .i64,.int .i64,.int .i64,.int .i64,.int .i64,.val,.val,.val],false⟩ where
 inf:=⟨Try.t54,_,by kernel_rfl,rfl,rfl,rfl,fun _ _=>rfl⟩
 zlen:=rfl
 ty:=⟨_,Try.underlying54,rfl⟩
 one:=fun h=>by simp[TI.isAgg] at h
 eq:=fun h=>by simp at h
theorem d7b:TI.Ok Try.prog 55 ⟨.func,1,8,[.nilF],[.val],false⟩ where
 inf:=⟨Try.t55,_,by kernel_rfl,rfl,rfl,rfl,fun _ _=>rfl⟩
 zlen:=rfl
 ty:=⟨_,_,_,Try.underlying55⟩
 one:=fun _=>rfl
 eq:=fun h=>by simp at h
theorem d5W:TI.Ok Try.prog 56 ⟨.func,1,8,[.nilF],[.val],false⟩ where
 inf:=⟨Try.t56,_,by kernel_rfl,rfl,rfl,rfl,fun _ _=>rfl⟩
 zlen:=rfl
 ty:=⟨_,_,_,Try.underlying56⟩
 one:=fun _=>rfl
 eq:=fun h=>by simp at h
theorem d6S:TI.Ok Try.prog 57 ⟨.func,1,8,[.nilF],[.val],false⟩ where
 inf:=⟨Try.t57,_,by kernel_rfl,rfl,rfl,rfl,fun _ _=>rfl⟩
 zlen:=rfl
 ty:=⟨_,_,_,Try.underlying57⟩
 one:=fun _=>rfl
 eq:=fun h=>by simp at h
theorem d7e:TI.Ok Try.prog 58 ⟨.func,1,8,[.nilF],[.val],false⟩ where
 inf:=⟨Try.t58,_,by kernel_rfl,rfl,rfl,rfl,fun _ _=>rfl⟩
 zlen:=rfl
 ty:=⟨_,_,_,Try.underlying58⟩
 one:=fun _=>rfl
 eq:=fun h=>by simp at h
theorem d6t:TI.Ok Try.prog 59 ⟨.slice 102,1,24,[.nilS],[.val],false⟩ where
 inf:=⟨Try.t59,_,by kernel_rfl,rfl,rfl,rfl,fun _ _=>rfl⟩
 zlen:=rfl
 ty:=Try.underlying59
 one:=fun _=>rfl
 eq:=fun h=>by simp at h
theorem d6C:TI.Ok Try.prog 60 ⟨.func,1,8,[.nilF],[.val],false⟩ where
 inf:=⟨Try.t60,_,by kernel_rfl,rfl,rfl,rfl,fun _ _=>rfl⟩
 zlen:=rfl
 ty:=⟨_,_,_,Try.underlying60⟩
 one:=fun _=>rfl
 eq:=fun h=>by simp at h
theorem d7f:TI.Ok Try.prog 61 ⟨.func,1,8,[.nilF],[.val],false⟩ where
 inf:=⟨Try.t61,_,by kernel_rfl,rfl,rfl,rfl,fun _ _=>rfl⟩
 zlen:=rfl
 ty:=⟨_,_,_,Try.underlying61⟩
 one:=fun _=>rfl
 eq:=fun h=>by simp at h
theorem d5M:TI.Ok Try.prog 62 ⟨.func,1,8,[.nilF],[.val],false⟩ where
 inf:=⟨Try.t62,_,by kernel_rfl,rfl,rfl,rfl,fun _ _=>rfl⟩
 zlen:=rfl
 ty:=⟨_,_,_,Try.underlying62⟩
 one:=fun _=>rfl
 eq:=fun h=>by simp at h
theorem d5Q:TI.Ok Try.prog 63 ⟨.slice 3,1,24,[.nilS],[.val],false⟩ where
 inf:=⟨Try.t63,_,by kernel_rfl,rfl,rfl,rfl,fun _ _=>rfl⟩
 zlen:=rfl
 ty:=Try.underlying63
 one:=fun _=>rfl
 eq:=fun h=>by simp at h
theorem d6o:TI.Ok Try.prog 64 ⟨.slice 2,1,24,[.nilS],[.val],false⟩ where
 inf:=⟨Try.t64,_,by kernel_rfl,rfl,rfl,rfl,fun _ _=>rfl⟩
 zlen:=rfl
 ty:=Try.underlying64
 one:=fun _=>rfl
 eq:=fun h=>by simp at h
theorem d5S:TI.Ok Try.prog 65 ⟨.st [(0,63),(1,64)],2,48,[.nilS,.nilS],[.val,.val],false⟩ where
 inf:=⟨Try.t65,_,by kernel_rfl,rfl,rfl,rfl,fun _ _=>rfl⟩
 zlen:=rfl
 ty:=⟨_,Try.underlying65,rfl⟩
 one:=fun h=>by simp[TI.isAgg] at h
 eq:=fun h=>by simp at h
theorem d7a:TI.Ok Try.prog 66 ⟨.st [(0,63),(1,64)],2,48,[.nilS,.nilS],[.val,.val],false⟩ where
 inf:=⟨Try.t66,_,by kernel_rfl,rfl,rfl,rfl,fun _ _=>rfl⟩
 zlen:=rfl
 ty:=⟨_,Try.underlying66,rfl⟩
 one:=fun h=>by simp[TI.isAgg] at h
 eq:=fun h=>by simp at h
theorem d6i:TI.Ok Try.prog 68 ⟨.func,1,8,[.nilF],[.val],false⟩ where
 inf:=⟨Try.t68,_,by kernel_rfl,rfl,rfl,rfl,fun _ _=>rfl⟩
 zlen:=rfl
 ty:=⟨_,_,_,Try.underlying68⟩
 one:=fun _=>rfl
 eq:=fun h=>by simp at h
theorem d7s:TI.Ok Try.prog 69 ⟨.slice 75,1,24,[.nilS],[.val],false⟩ where
 inf:=⟨Try.t69,_,by kernel_rfl,rfl,rfl,rfl,fun _ _=>rfl⟩
 zlen:=rfl
 ty:=Try.underlying69
 one:=fun _=>rfl
 eq:=fun h=>by simp at h
theorem d6G:TI.Ok Try.prog 70 ⟨.func,1,8,[.nilF],[.val],false⟩ where
 inf:=⟨Try.t70,_,by kernel_rfl,rfl,rfl,rfl,fun _ _=>rfl⟩
 zlen:=rfl
 ty:=⟨_,_,_,Try.underlying70⟩
 one:=fun _=>rfl
 eq:=fun h=>by simp at h
theorem d6T:TI.Ok Try.prog 71 ⟨.func,1,8,[.nilF],[.val],false⟩ where
 inf:=⟨Try.t71,_,by kernel_rfl,rfl,rfl,rfl,fun _ _=>rfl⟩
 zlen:=rfl
 ty:=⟨_,_,_,Try.underlying71⟩
 one:=fun _=>rfl
 eq:=fun h=>by simp at h
theorem d6D:TI.Ok Try.prog 72 ⟨.func,1,8,[.nilF],[.val],false⟩ where
 inf:=⟨Try.t72,_,by kernel_rfl,rfl,rfl,rfl,fun _ _=>rfl⟩
 zlen:=rfl
 ty:=⟨_,_,_,Try.underlying72⟩
 one:=fun _=>rfl
 eq:=fun h=>by simp at h
theorem d7k:TI.Ok Try.prog 73 ⟨.func,1,8,[.nilF],[.val],false⟩ where
 inf:=⟨Try.t73,_,by kernel_rfl,rfl,rfl,rfl,fun _ _=>rfl⟩
 zlen:=rfl
 ty:=⟨_,_,_,Try.underlying73⟩
 one:=fun _=>rfl
 eq:=fun h=>by simp at h
theorem d6P:TI.Ok Try.prog 74 ⟨.st [(0,44),(6,38)],12,96,[.int .i64 (.l 0),.int .i64 (.l 0),.int .i64 (.l 0),.int .i64 (.l 0),.int .i64 (.l 0),.int .i64 (.l 0),.int .i64 (.l 0),.int .i64 (.l 0),.int .i64 (.l 0),.int .i64 (.l 0),.int .i64 (.l 0),.int .i64 (.l 0)],[.int .i64,.int .i64,.int .i64,.int .i64,.int .i64,.int .i64,.int .i64,.int .i64,.int .i64,.int .i64,.int .i64,.int .i64],true⟩ where
 inf:=⟨Try.t74,_,by kernel_rfl,rfl,rfl,rfl,fun _ _=>rfl⟩
 zlen:=rfl
 ty:=⟨_,Try.underlying74,rfl⟩
 one:=fun h=>by simp[TI.isAgg] at h
 eq:=fun _=>⟨Try.eqGuardType74,fun w zs us h1 h2=>(show EqT Try.prog 10000 74 true _ from(a4p Try.underlying74 (.cons (by decide) rfl (a4s (inf:=Try.t2) (a1g Try.underlying2 (Try.sizeOf2) (by kernel_rfl) 9997) Try.underlying44 (by kernel_rfl) (Try.sizeOf44) (by kernel_rfl)) (.cons (by decide) rfl (a4s (inf:=Try.t3) (a1g Try.underlying3 (Try.sizeOf3) (by kernel_rfl) 9997) Try.underlying38 (by kernel_rfl) (Try.sizeOf38) (by kernel_rfl)) (.nil _))) (by kernel_rfl) (Try.sizeOf74) (by kernel_rfl))).eq w zs us h1 h2⟩
theorem d5T:TI.Ok Try.prog 75 ⟨.st [(0,44),(6,38)],12,96,[.int .i64 (.l 0),.int .i64 (.l 0),.int .i64 (.l 0),.int .i64 (.l 0),.int .i64 (.l 0),.int .i64 (.l 0),.int .i64 (.l 0),.int .i64 (.l 0),.int .i64 (.l 0),.int .i64 (.l 0),.int .i64 (.l 0),.int .i64 (.l 0)],[.int .i64,.int .i64,.int .i64,.int .i64,.int .i64,.int .i64,.int .i64,.int .i64,.int .i64,.int .i64,.int .i64,.int .i64],true⟩ where
 inf:=⟨Try.t75,_,by kernel_rfl,rfl,rfl,rfl,fun _ _=>rfl⟩
 zlen:=rfl
 ty:=⟨_,Try.underlying75,rfl⟩
 one:=fun h=>by simp[TI.isAgg] at h
 eq:=fun _=>⟨Try.eqGuardType75,fun w zs us h1 h2=>(show EqT Try.prog 10000 75 true _ from(a4p Try.underlying75 (.cons (by decide) rfl (a4s (inf:=Try.t2) (a1g Try.underlying2 (Try.sizeOf2) (by kernel_rfl) 9997) Try.underlying44 (by kernel_rfl) (Try.sizeOf44) (by kernel_rfl)) (.cons (by decide) rfl (a4s (inf:=Try.t3) (a1g Try.underlying3 (Try.sizeOf3) (by kernel_rfl) 9997) Try.underlying38 (by kernel_rfl) (Try.sizeOf38) (by kernel_rfl)) (.nil _))) (by kernel_rfl) (Try.sizeOf75) (by kernel_rfl))).eq w zs us h1 h2⟩
theorem d7q:TI.Ok Try.prog 76 ⟨.func,1,8,[.nilF],[.val],false⟩ where
 inf:=⟨Try.t76,_,by kernel_rfl,rfl,rfl,rfl,fun _ _=>rfl⟩
 zlen:=rfl
 ty:=⟨_,_,_,Try.underlying76⟩
 one:=fun _=>rfl
 eq:=fun h=>by simp at h
theorem d6I:TI.Ok Try.prog 77 ⟨.func,1,8,[.nilF],[.val],false⟩ where
 inf:=⟨Try.t77,_,by kernel_rfl,rfl,rfl,rfl,fun _ _=>rfl⟩
 zlen:=rfl
 ty:=⟨_,_,_,Try.underlying77⟩
 one:=fun _=>rfl
 eq:=fun h=>by simp at h
theorem d6N:TI.Ok Try.prog 78 ⟨.func,1,8,[.nilF],[.val],false⟩ where
 inf:=⟨Try.t78,_,by kernel_rfl,rfl,rfl,rfl,fun _ _=>rfl⟩
 zlen:=rfl
 ty:=⟨_,_,_,Try.underlying78⟩
 one:=fun _=>rfl
 eq:=fun h=>by simp at h
theorem d6y:TI.Ok Try.prog 79 ⟨.func,1,8,[.nilF],[.val],false⟩ where
 inf:=⟨Try.t79,_,by kernel_rfl,rfl,rfl,rfl,fun _ _=>rfl⟩
 zlen:=rfl
 ty:=⟨_,_,_,Try.underlying79⟩
 one:=fun _=>rfl
 eq:=fun h=>by simp at h
theorem d6J:TI.Ok Try.prog 80 ⟨.st [(0,27),(4,29),(8,48),(9,44),(15,51),(16,52),(17,52),(18,4)],19,280,[.nilS,.nilS,.nilS,.nilS,.int .i64 (.l 0),.int .i64 (.l 0),.int .i64 (.l 0),.int .i64 (.l 0),.nilS,.int .i64 (.l 0),.int .i64 (.l 0),.int .i64 (.l 0),.int .i64 (.l 0),.int .i64 (.l 0),.int .i64 (.l 0),.nilS,.nilS,.nilS,.bool (.t false)],[.val,.val,.val,.val,.int .i64,.int .i64,.int .i64,.int .i64,.val,.int .i64,.int .i64,.int .i64,.int .i64,.int .i64,.int .i64,.val,.val,.val,.bool],false⟩ where
 inf:=⟨Try.t80,_,by kernel_rfl,rfl,rfl,rfl,fun _ _=>rfl⟩
 zlen:=rfl
 ty:=⟨_,Try.underlying80,rfl⟩
 one:=fun h=>by simp[TI.isAgg] at h
 eq:=fun h=>by simp at h
theorem d6k:TI.Ok Try.prog 81 ⟨.st [(0,27),(4,29),(8,48),(9,44),(15,51),(16,52),(17,52),(18,4)],19,280,[.nilS,.nilS,.nilS,.nilS,.int .i64 (.l 0),.int .i64 (.l 0),.int .i64 (.l 0),.int .i64 (.l 0),.nilS,.int .i64 (.l 0),.int .i64 (.l 0),.int .i64 (.l 0),.int .i64 (.l 0),.int .i64 (.l 0),.int .i64 (.l 0),.nilS,.nilS,.nilS,.bool (.t false)],[.val,.val,.val,.val,.int .i64,.int .i64,.int .i64,.int .i64,.val,.int .i64,.int .i64,.int .i64,.int .i64,.int .i64,.int .i64,.val,.val,.val,.bool],false⟩ where
 inf:=⟨Try.t81,_,by kernel_rfl,rfl,rfl,rfl,fun _ _=>rfl⟩
 zlen:=rfl
 ty:=⟨_,Try.underlying81,rfl⟩
 one:=fun h=>by simp[TI.isAgg] at h
 eq:=fun h=>by simp at h
theorem d7h:TI.Ok Try.prog 82 ⟨.st [(0,9),(1,3),(2,2),(3,3),(4,3)],5,48,[.str [],.int .i64 (.l 0),.int .i64 (.l 0),.int .i64 (.l 0),.int .i64 (.l 0)],[.val,.int .i64,.int .i64,.int .i64,.int .i64],false⟩ where
 inf:=⟨Try.t82,_,by kernel_rfl,rfl,rfl,rfl,fun _ _=>rfl⟩
 zlen:=rfl
 ty:=⟨_,Try.underlying82,rfl⟩
 one:=fun h=>by simp[TI.isAgg] at h
 eq:=fun h=>by simp at h
theorem d6s:TI.Ok Try.prog 83 ⟨.st [(0,9),(1,3),(2,2),(3,3),(4,3)],5,48,[.str [],.int .i64 (.l 0),.int .i64 (.l 0),.int .i64 (.l 0),.int .i64 (.l 0)],[.val,.int .i64,.int .i64,.int .i64,.int .i64],false⟩ where
 inf:=⟨Try.t83,_,by kernel_rfl,rfl,rfl,rfl,fun _ _=>rfl⟩
 zlen:=rfl
 ty:=⟨_,Try.underlying83,rfl⟩
 one:=fun h=>by simp[TI.isAgg] at h
 eq:=fun h=>by simp at h
theorem d6f:TI.Ok Try.prog 84 ⟨.func,1,8,[.nilF],[.val],false⟩ where
 inf:=⟨Try.t84,_,by kernel_rfl,rfl,rfl,rfl,fun _ _=>rfl⟩
 zlen:=rfl
 ty:=⟨_,_,_,Try.underlying84⟩
 one:=fun _=>rfl
 eq:=fun h=>by simp at h
theorem d6V:TI.Ok Try.prog 85 ⟨.func,1,8,[.nilF],[.val],false⟩ where
 inf:=⟨Try.t85,_,by kernel_rfl,rfl,rfl,rfl,fun _ _=>rfl⟩
 zlen:=rfl
 ty:=⟨_,_,_,Try.underlying85⟩
 one:=fun _=>rfl
 eq:=fun h=>by simp at h
theorem d5L:TI.Ok Try.prog 86 ⟨.func,1,8,[.nilF],[.val],false⟩ where
 inf:=⟨Try.t86,_,by kernel_rfl,rfl,rfl,rfl,fun _ _=>rfl⟩
 zlen:=rfl
 ty:=⟨_,_,_,Try.underlying86⟩
 one:=fun _=>rfl
 eq:=fun h=>by simp at h
theorem d6e:TI.Ok Try.prog 87 ⟨.func,1,8,[.nilF],[.val],false⟩ where
 inf:=⟨Try.t87,_,by kernel_rfl,rfl,rfl,rfl,fun _ _=>rfl⟩
 zlen:=rfl
 ty:=⟨_,_,_,Try.underlying87⟩
 one:=fun _=>rfl
 eq:=fun h=>by simp at h
theorem d6p:TI.Ok Try.prog 88 ⟨.func,1,8,[.nilF],[.val],false⟩ where
 inf:=⟨Try.t88,_,by kernel_rfl,rfl,rfl,rfl,fun _ _=>rfl⟩
 zlen:=rfl
 ty:=⟨_,_,_,Try.underlying88⟩
 one:=fun _=>rfl
 eq:=fun h=>by simp at h
theorem d6X:TI.Ok Try.prog 90 ⟨.func,1,8,[.nilF],[.val],false⟩ where
 inf:=⟨Try.t90,_,by kernel_rfl,rfl,rfl,rfl,fun _ _=>rfl⟩
 zlen:=rfl
 ty:=⟨_,_,_,Try.underlying90⟩
 one:=fun _=>rfl
 eq:=fun h=>by simp at h
theorem d7l:TI.Ok Try.prog 91 ⟨.func,1,8,[.nilF],[.val],false⟩ where
 inf:=⟨Try.t91,_,by kernel_rfl,rfl,rfl,rfl,fun _ _=>rfl⟩
 zlen:=rfl
 ty:=⟨_,_,_,Try.underlying91⟩
 one:=fun _=>rfl
 eq:=fun h=>by simp at h
theorem d5Z:TI.Ok Try.prog 93 ⟨.func,1,8,[.nilF],[.val],false⟩ where
 inf:=⟨Try.t93,_,by kernel_rfl,rfl,rfl,rfl,fun _ _=>rfl⟩
 zlen:=rfl
 ty:=⟨_,_,_,Try.underlying93⟩
 one:=fun _=>rfl
 eq:=fun h=>by simp at h
theorem d5Y:TI.Ok Try.prog 94 ⟨.func,1,8,[.nilF],[.val],false⟩ where
 inf:=⟨Try.t94,_,by kernel_rfl,rfl,rfl,rfl,fun _ _=>rfl⟩
 zlen:=rfl
 ty:=⟨_,_,_,Try.underlying94⟩
 one:=fun _=>rfl
 eq:=fun h=>by simp at h
theorem d6r:TI.Ok Try.prog 95 ⟨.func,1,8,[.nilF],[.val],false⟩ where
 inf:=⟨Try.t95,_,by kernel_rfl,rfl,rfl,rfl,fun _ _=>rfl⟩
 zlen:=rfl
 ty:=⟨_,_,_,Try.underlying95⟩
 one:=fun _=>rfl
 eq:=fun h=>by simp at h
theorem d6K:TI.Ok Try.prog 96 ⟨.func,1,8,[.nilF],[.val],false⟩ where
 inf:=⟨Try.t96,_,by kernel_rfl,rfl,rfl,rfl,fun _ _=>rfl⟩
 zlen:=rfl
 ty:=⟨_,_,_,Try.underlying96⟩
 one:=fun _=>rfl
 eq:=fun h=>by simp at h
theorem d6g:TI.Ok Try.prog 97 ⟨.func,1,8,[.nilF],[.val],false⟩ where
 inf:=⟨Try.t97,_,by kernel_rfl,rfl,rfl,rfl,fun _ _=>rfl⟩
 zlen:=rfl
 ty:=⟨_,_,_,Try.underlying97⟩
 one:=fun _=>rfl
 eq:=fun h=>by simp at h
theorem d6n:TI.Ok Try.prog 98 ⟨.arr 6 3,6,48,[.int .i64 (.l 0),.int .i64 (.l 0),.int .i64 (.l 0),.int .i64 (.l 0),.int .i64 (.l 0),.int .i64 (.l 0)],[.int .i64,.int .i64,.int .i64,.int .i64,.int .i64,.int .i64],true⟩ where
 inf:=⟨Try.t98,_,by kernel_rfl,rfl,rfl,rfl,fun _ _=>rfl⟩
 zlen:=rfl
 ty:=Try.underlying98
 one:=fun h=>by simp[TI.isAgg] at h
 eq:=fun _=>⟨Try.eqGuardType98,fun w zs us h1 h2=>(show EqT Try.prog 10000 98 true _ from(a4s (inf:=Try.t3) (a1g Try.underlying3 (Try.sizeOf3) (by kernel_rfl) 9998) Try.underlying98 (by kernel_rfl) (Try.sizeOf98) (by kernel_rfl))).eq w zs us h1 h2⟩
theorem d6Q:TI.Ok Try.prog 99 ⟨.func,1,8,[.nilF],[.val],false⟩ where
 inf:=⟨Try.t99,_,by kernel_rfl,rfl,rfl,rfl,fun _ _=>rfl⟩
 zlen:=rfl
 ty:=⟨_,_,_,Try.underlying99⟩
 one:=fun _=>rfl
 eq:=fun h=>by simp at h
theorem d5e:TI.Ok Try.prog 100 ⟨.func,1,8,[.nilF],[.val],false⟩ where
 inf:=⟨Try.t100,_,by kernel_rfl,rfl,rfl,rfl,fun _ _=>rfl⟩
 zlen:=rfl
 ty:=⟨_,_,_,Try.underlying100⟩
 one:=fun _=>rfl
 eq:=fun h=>by simp at h
theorem d5b:TI.Ok Try.prog 101 ⟨.func,1,8,[.nilF],[.val],false⟩ where
 inf:=⟨Try.t101,_,by kernel_rfl,rfl,rfl,rfl,fun _ _=>rfl⟩
 zlen:=rfl
 ty:=⟨_,_,_,Try.underlying101⟩
 one:=fun _=>rfl
 eq:=fun h=>by simp at h
theorem d5D:TI.Ok Try.prog 102 ⟨.st [(0,44),(6,51),(7,51),(8,52)],9,120,[.int .i64 (.l 0),.int .i64 (.l 0),.int .i64 (.l 0),.int .i64 (.l 0),.int .i64 (.l 0),.int .i64 (.l 0),.nilS,.nilS,.nilS],[.int .i64,.int .i64,.int .i64,.int .i64,.int .i64,.int .i64,.val,.val,.val],false⟩ where
 inf:=⟨Try.t102,_,by kernel_rfl,rfl,rfl,rfl,fun _ _=>rfl⟩
 zlen:=rfl
 ty:=⟨_,Try.underlying102,rfl⟩
 one:=fun h=>by simp[TI.isAgg] at h
 eq:=fun h=>by simp at h
theorem d5f:TI.Ok Try.prog 103 ⟨.func,1,8,[.nilF],[.val],false⟩ where
 inf:=⟨Try.t103,_,by kernel_rfl,rfl,rfl,rfl,fun _ _=>rfl⟩
 zlen:=rfl
 ty:=⟨_,_,_,Try.underlying103⟩
 one:=fun _=>rfl
 eq:=fun h=>by simp at h
theorem d5z:TI.Ok Try.prog 104 ⟨.func,1,8,[.nilF],[.val],false⟩ where
 inf:=⟨Try.t104,_,by kernel_rfl,rfl,rfl,rfl,fun _ _=>rfl⟩
 zlen:=rfl
 ty:=⟨_,_,_,Try.underlying104⟩
 one:=fun _=>rfl
 eq:=fun h=>by simp at h
theorem d4x:TI.Ok Try.prog 106 ⟨.func,1,8,[.nilF],[.val],false⟩ where
 inf:=⟨Try.t106,_,by kernel_rfl,rfl,rfl,rfl,fun _ _=>rfl⟩
 zlen:=rfl
 ty:=⟨_,_,_,Try.underlying106⟩
 one:=fun _=>rfl
 eq:=fun h=>by simp at h
theorem d4f:TI.Ok Try.prog 107 ⟨.func,1,8,[.nilF],[.val],false⟩ where
 inf:=⟨Try.t107,_,by kernel_rfl,rfl,rfl,rfl,fun _ _=>rfl⟩
 zlen:=rfl
 ty:=⟨_,_,_,Try.underlying107⟩
 one:=fun _=>rfl
 eq:=fun h=>by simp at h
theorem d4d:TI.Ok Try.prog 108 ⟨.func,1,8,[.nilF],[.val],false⟩ where
 inf:=⟨Try.t108,_,by kernel_rfl,rfl,rfl,rfl,fun _ _=>rfl⟩
 zlen:=rfl
 ty:=⟨_,_,_,Try.underlying108⟩
 one:=fun _=>rfl
 eq:=fun h=>by simp at h
theorem d4L:TI.Ok Try.prog 109 ⟨.func,1,8,[.nilF],[.val],false⟩ where
 inf:=⟨Try.t109,_,by kernel_rfl,rfl,rfl,rfl,fun _ _=>rfl⟩
 zlen:=rfl
 ty:=⟨_,_,_,Try.underlying109⟩
 one:=fun _=>rfl
 eq:=fun h=>by simp at h
theorem d5s:TI.Ok Try.prog 110 ⟨.func,1,8,[.nilF],[.val],false⟩ where
 inf:=⟨Try.t110,_,by kernel_rfl,rfl,rfl,rfl,fun _ _=>rfl⟩
 zlen:=rfl
 ty:=⟨_,_,_,Try.underlying110⟩
 one:=fun _=>rfl
 eq:=fun h=>by simp at h
theorem d4U:TI.Ok Try.prog 111 ⟨.st [(0,9),(1,3),(2,2),(3,3)],4,40,[.str [],.int .i64 (.l 0),.int .i64 (.l 0),.int .i64 (.l 0)],[.val,.int .i64,.int .i64,.int .i64],false⟩ where
 inf:=⟨Try.t111,_,by kernel_rfl,rfl,rfl,rfl,fun _ _=>rfl⟩
 zlen:=rfl
 ty:=⟨_,Try.underlying111,rfl⟩
 one:=fun h=>by simp[TI.isAgg] at h
 eq:=fun h=>by simp at h
theorem d4z:TI.Ok Try.prog 112 ⟨.st [(0,9),(1,3),(2,2),(3,3)],4,40,[.str [],.int .i64 (.l 0),.int .i64 (.l 0),.int .i64 (.l 0)],[.val,.int .i64,.int .i64,.int .i64],false⟩ where
 inf:=⟨Try.t112,_,by kernel_rfl,rfl,rfl,rfl,fun _ _=>rfl⟩
 zlen:=rfl
 ty:=⟨_,Try.underlying112,rfl⟩
 one:=fun h=>by simp[TI.isAgg] at h
 eq:=fun h=>by simp at h
theorem d5G:TI.Ok Try.prog 113 ⟨.func,1,8,[.nilF],[.val],false⟩ where
 inf:=⟨Try.t113,_,by kernel_rfl,rfl,rfl,rfl,fun _ _=>rfl⟩
 zlen:=rfl
 ty:=⟨_,_,_,Try.underlying113⟩
 one:=fun _=>rfl
 eq:=fun h=>by simp at h
theorem d4H:TI.Ok Try.prog 114 ⟨.func,1,8,[.nilF],[.val],false⟩ where
 inf:=⟨Try.t114,_,by kernel_rfl,rfl,rfl,rfl,fun _ _=>rfl⟩
 zlen:=rfl
 ty:=⟨_,_,_,Try.underlying114⟩
 one:=fun _=>rfl
 eq:=fun h=>by simp at h
theorem d4Y:TI.Ok Try.prog 115 ⟨.func,1,8,[.nilF],[.val],false⟩ where
 inf:=⟨Try.t115,_,by kernel_rfl,rfl,rfl,rfl,fun _ _=>rfl⟩
 zlen:=rfl
 ty:=⟨_,_,_,Try.underlying115⟩
 one:=fun _=>rfl
 eq:=fun h=>by simp at h
theorem d5y:TI.Ok Try.prog 116 ⟨.func,1,8,[.nilF],[.val],false⟩ where
 inf:=⟨Try.t116,_,by kernel_rfl,rfl,rfl,rfl,fun _ _=>rfl⟩
 zlen:=rfl
 ty:=⟨_,_,_,Try.underlying116⟩
 one:=fun _=>rfl
 eq:=fun h=>by simp at h
theorem d4F:TI.Ok Try.prog 117 ⟨.func,1,8,[.nilF],[.val],false⟩ where
 inf:=⟨Try.t117,_,by kernel_rfl,rfl,rfl,rfl,fun _ _=>rfl⟩
 zlen:=rfl
 ty:=⟨_,_,_,Try.underlying117⟩
 one:=fun _=>rfl
 eq:=fun h=>by simp at h
theorem d5x:TI.Ok Try.prog 118 ⟨.st [(0,3),(1,3),(2,3)],3,24,[.int .i64 (.l 0),.int .i64 (.l 0),.int .i64 (.l 0)],[.int .i64,.int .i64,.int .i64],true⟩ where
 inf:=⟨Try.t118,_,by kernel_rfl,rfl,rfl,rfl,fun _ _=>rfl⟩
 zlen:=rfl
 ty:=⟨_,Try.underlying118,rfl⟩
 one:=fun h=>by simp[TI.isAgg] at h
 eq:=fun _=>⟨Try.eqGuardType118,fun w zs us h1 h2=>(show EqT Try.prog 10000 118 true _ from(a4p Try.underlying118 (.cons (by decide) rfl (a1g Try.underlying3 (Try.sizeOf3) (by kernel_rfl) 9998) (.cons (by decide) rfl (a1g Try.underlying3 (Try.sizeOf3) (by kernel_rfl) 9998) (.cons (by decide) rfl (a1g Try.underlying3 (Try.sizeOf3) (by kernel_rfl) 9998) (.nil _)))) (by kernel_rfl) (Try.sizeOf118) (by kernel_rfl))).eq w zs us h1 h2⟩
theorem d4y:TI.Ok Try.prog 119 ⟨.st [(0,3),(1,3),(2,3)],3,24,[.int .i64 (.l 0),.int .i64 (.l 0),.int .i64 (.l 0)],[.int .i64,.int .i64,.int .i64],true⟩ where
 inf:=⟨Try.t119,_,by kernel_rfl,rfl,rfl,rfl,fun _ _=>rfl⟩
 zlen:=rfl
 ty:=⟨_,Try.underlying119,rfl⟩
 one:=fun h=>by simp[TI.isAgg] at h
 eq:=fun _=>⟨Try.eqGuardType119,fun w zs us h1 h2=>(show EqT Try.prog 10000 119 true _ from(a4p Try.underlying119 (.cons (by decide) rfl (a1g Try.underlying3 (Try.sizeOf3) (by kernel_rfl) 9998) (.cons (by decide) rfl (a1g Try.underlying3 (Try.sizeOf3) (by kernel_rfl) 9998) (.cons (by decide) rfl (a1g Try.underlying3 (Try.sizeOf3) (by kernel_rfl) 9998) (.nil _)))) (by kernel_rfl) (Try.sizeOf119) (by kernel_rfl))).eq w zs us h1 h2⟩
theorem d5k:TI.Ok Try.prog 120 ⟨.func,1,8,[.nilF],[.val],false⟩ where
 inf:=⟨Try.t120,_,by kernel_rfl,rfl,rfl,rfl,fun _ _=>rfl⟩
 zlen:=rfl
 ty:=⟨_,_,_,Try.underlying120⟩
 one:=fun _=>rfl
 eq:=fun h=>by simp at h
theorem d4g:TI.Ok Try.prog 121 ⟨.st [(0,3),(1,3),(2,3)],3,24,[.int .i64 (.l 0),.int .i64 (.l 0),.int .i64 (.l 0)],[.int .i64,.int .i64,.int .i64],true⟩ where
 inf:=⟨Try.t121,_,by kernel_rfl,rfl,rfl,rfl,fun _ _=>rfl⟩
 zlen:=rfl
 ty:=⟨_,Try.underlying121,rfl⟩
 one:=fun h=>by simp[TI.isAgg] at h
 eq:=fun _=>⟨Try.eqGuardType121,fun w zs us h1 h2=>(show EqT Try.prog 10000 121 true _ from(a4p Try.underlying121 (.cons (by decide) rfl (a1g Try.underlying3 (Try.sizeOf3) (by kernel_rfl) 9998) (.cons (by decide) rfl (a1g Try.underlying3 (Try.sizeOf3) (by kernel_rfl) 9998) (.cons (by decide) rfl (a1g Try.underlying3 (Try.sizeOf3) (by kernel_rfl) 9998) (.nil _)))) (by kernel_rfl) (Try.sizeOf121) (by kernel_rfl))).eq w zs us h1 h2⟩
theorem d4K:TI.Ok Try.prog 122 ⟨.st [(0,3),(1,3),(2,3)],3,24,[.int .i64 (.l 0),.int .i64 (.l 0),.int .i64 (.l 0)],[.int .i64,.int .i64,.int .i64],true⟩ where
 inf:=⟨Try.t122,_,by kernel_rfl,rfl,rfl,rfl,fun _ _=>rfl⟩
 zlen:=rfl
 ty:=⟨_,Try.underlying122,rfl⟩
 one:=fun h=>by simp[TI.isAgg] at h
 eq:=fun _=>⟨Try.eqGuardType122,fun w zs us h1 h2=>(show EqT Try.prog 10000 122 true _ from(a4p Try.underlying122 (.cons (by decide) rfl (a1g Try.underlying3 (Try.sizeOf3) (by kernel_rfl) 9998) (.cons (by decide) rfl (a1g Try.underlying3 (Try.sizeOf3) (by kernel_rfl) 9998) (.cons (by decide) rfl (a1g Try.underlying3 (Try.sizeOf3) (by kernel_rfl) 9998) (.nil _)))) (by kernel_rfl) (Try.sizeOf122) (by kernel_rfl))).eq w zs us h1 h2⟩
theorem d4Q:TI.Ok Try.prog 123 ⟨.func,1,8,[.nilF],[.val],false⟩ where
 inf:=⟨Try.t123,_,by kernel_rfl,rfl,rfl,rfl,fun _ _=>rfl⟩
 zlen:=rfl
 ty:=⟨_,_,_,Try.underlying123⟩
 one:=fun _=>rfl
 eq:=fun h=>by simp at h
theorem d4l:TI.Ok Try.prog 124 ⟨.st [(0,27),(4,3),(5,69)],6,128,[.nilS,.nilS,.nilS,.nilS,.int .i64 (.l 0),.nilS],[.val,.val,.val,.val,.int .i64,.val],false⟩ where
 inf:=⟨Try.t124,_,by kernel_rfl,rfl,rfl,rfl,fun _ _=>rfl⟩
 zlen:=rfl
 ty:=⟨_,Try.underlying124,rfl⟩
 one:=fun h=>by simp[TI.isAgg] at h
 eq:=fun h=>by simp at h
theorem d4h:TI.Ok Try.prog 125 ⟨.st [(0,27),(4,3),(5,69)],6,128,[.nilS,.nilS,.nilS,.nilS,.int .i64 (.l 0),.nilS],[.val,.val,.val,.val,.int .i64,.val],false⟩ where
 inf:=⟨Try.t125,_,by kernel_rfl,rfl,rfl,rfl,fun _ _=>rfl⟩
 zlen:=rfl
 ty:=⟨_,Try.underlying125,rfl⟩
 one:=fun h=>by simp[TI.isAgg] at h
 eq:=fun h=>by simp at h
theorem d4B:TI.Ok Try.prog 126 ⟨.func,1,8,[.nilF],[.val],false⟩ where
 inf:=⟨Try.t126,_,by kernel_rfl,rfl,rfl,rfl,fun _ _=>rfl⟩
 zlen:=rfl
 ty:=⟨_,_,_,Try.underlying126⟩
 one:=fun _=>rfl
 eq:=fun h=>by simp at h
theorem d4I:TI.Ok Try.prog 127 ⟨.func,1,8,[.nilF],[.val],false⟩ where
 inf:=⟨Try.t127,_,by kernel_rfl,rfl,rfl,rfl,fun _ _=>rfl⟩
 zlen:=rfl
 ty:=⟨_,_,_,Try.underlying127⟩
 one:=fun _=>rfl
 eq:=fun h=>by simp at h
theorem d4o:TI.Ok Try.prog 128 ⟨.func,1,8,[.nilF],[.val],false⟩ where
 inf:=⟨Try.t128,_,by kernel_rfl,rfl,rfl,rfl,fun _ _=>rfl⟩
 zlen:=rfl
 ty:=⟨_,_,_,Try.underlying128⟩
 one:=fun _=>rfl
 eq:=fun h=>by simp at h
theorem d5w:TI.Ok Try.prog 129 ⟨.func,1,8,[.nilF],[.val],false⟩ where
 inf:=⟨Try.t129,_,by kernel_rfl,rfl,rfl,rfl,fun _ _=>rfl⟩
 zlen:=rfl
 ty:=⟨_,_,_,Try.underlying129⟩
 one:=fun _=>rfl
 eq:=fun h=>by simp at h
theorem d4V:TI.Ok Try.prog 130 ⟨.func,1,8,[.nilF],[.val],false⟩ where
 inf:=⟨Try.t130,_,by kernel_rfl,rfl,rfl,rfl,fun _ _=>rfl⟩
 zlen:=rfl
 ty:=⟨_,_,_,Try.underlying130⟩
 one:=fun _=>rfl
 eq:=fun h=>by simp at h
theorem d4Z:TI.Ok Try.prog 131 ⟨.func,1,8,[.nilF],[.val],false⟩ where
 inf:=⟨Try.t131,_,by kernel_rfl,rfl,rfl,rfl,fun _ _=>rfl⟩
 zlen:=rfl
 ty:=⟨_,_,_,Try.underlying131⟩
 one:=fun _=>rfl
 eq:=fun h=>by simp at h
theorem d4T:TI.Ok Try.prog 132 ⟨.func,1,8,[.nilF],[.val],false⟩ where
 inf:=⟨Try.t132,_,by kernel_rfl,rfl,rfl,rfl,fun _ _=>rfl⟩
 zlen:=rfl
 ty:=⟨_,_,_,Try.underlying132⟩
 one:=fun _=>rfl
 eq:=fun h=>by simp at h
theorem d4q:TI.Ok Try.prog 133 ⟨.func,1,8,[.nilF],[.val],false⟩ where
 inf:=⟨Try.t133,_,by kernel_rfl,rfl,rfl,rfl,fun _ _=>rfl⟩
 zlen:=rfl
 ty:=⟨_,_,_,Try.underlying133⟩
 one:=fun _=>rfl
 eq:=fun h=>by simp at h
theorem d4X:TI.Ok Try.prog 134 ⟨.func,1,8,[.nilF],[.val],false⟩ where
 inf:=⟨Try.t134,_,by kernel_rfl,rfl,rfl,rfl,fun _ _=>rfl⟩
 zlen:=rfl
 ty:=⟨_,_,_,Try.underlying134⟩
 one:=fun _=>rfl
 eq:=fun h=>by simp at h
theorem d5i:TI.Ok Try.prog 135 ⟨.func,1,8,[.nilF],[.val],false⟩ where
 inf:=⟨Try.t135,_,by kernel_rfl,rfl,rfl,rfl,fun _ _=>rfl⟩
 zlen:=rfl
 ty:=⟨_,_,_,Try.underlying135⟩
 one:=fun _=>rfl
 eq:=fun h=>by simp at h
theorem d4v:TI.Ok Try.prog 136 ⟨.func,1,8,[.nilF],[.val],false⟩ where
 inf:=⟨Try.t136,_,by kernel_rfl,rfl,rfl,rfl,fun _ _=>rfl⟩
 zlen:=rfl
 ty:=⟨_,_,_,Try.underlying136⟩
 one:=fun _=>rfl
 eq:=fun h=>by simp at h
theorem d5q:TI.Ok Try.prog 138 ⟨.func,1,8,[.nilF],[.val],false⟩ where
 inf:=⟨Try.t138,_,by kernel_rfl,rfl,rfl,rfl,fun _ _=>rfl⟩
 zlen:=rfl
 ty:=⟨_,_,_,Try.underlying138⟩
 one:=fun _=>rfl
 eq:=fun h=>by simp at h
theorem d5l:TI.Ok Try.prog 139 ⟨.func,1,8,[.nilF],[.val],false⟩ where
 inf:=⟨Try.t139,_,by kernel_rfl,rfl,rfl,rfl,fun _ _=>rfl⟩
 zlen:=rfl
 ty:=⟨_,_,_,Try.underlying139⟩
 one:=fun _=>rfl
 eq:=fun h=>by simp at h
theorem d4N:TI.Ok Try.prog 140 ⟨.func,1,8,[.nilF],[.val],false⟩ where
 inf:=⟨Try.t140,_,by kernel_rfl,rfl,rfl,rfl,fun _ _=>rfl⟩
 zlen:=rfl
 ty:=⟨_,_,_,Try.underlying140⟩
 one:=fun _=>rfl
 eq:=fun h=>by simp at h
theorem d5m:TI.Ok Try.prog 141 ⟨.func,1,8,[.nilF],[.val],false⟩ where
 inf:=⟨Try.t141,_,by kernel_rfl,rfl,rfl,rfl,fun _ _=>rfl⟩
 zlen:=rfl
 ty:=⟨_,_,_,Try.underlying141⟩
 one:=fun _=>rfl
 eq:=fun h=>by simp at h
theorem d4A:TI.Ok Try.prog 143 ⟨.func,1,8,[.nilF],[.val],false⟩ where
 inf:=⟨Try.t143,_,by kernel_rfl,rfl,rfl,rfl,fun _ _=>rfl⟩
 zlen:=rfl
 ty:=⟨_,_,_,Try.underlying143⟩
 one:=fun _=>rfl
 eq:=fun h=>by simp at h
theorem d4M:TI.Ok Try.prog 144 ⟨.func,1,8,[.nilF],[.val],false⟩ where
 inf:=⟨Try.t144,_,by kernel_rfl,rfl,rfl,rfl,fun _ _=>rfl⟩
 zlen:=rfl
 ty:=⟨_,_,_,Try.underlying144⟩
 one:=fun _=>rfl
 eq:=fun h=>by simp at h
theorem d4j:TI.Ok Try.prog 145 ⟨.func,1,8,[.nilF],[.val],false⟩ where
 inf:=⟨Try.t145,_,by kernel_rfl,rfl,rfl,rfl,fun _ _=>rfl⟩
 zlen:=rfl
 ty:=⟨_,_,_,Try.underlying145⟩
 one:=fun _=>rfl
 eq:=fun h=>by simp at h
theorem d5p:TI.Ok Try.prog 146 ⟨.func,1,8,[.nilF],[.val],false⟩ where
 inf:=⟨Try.t146,_,by kernel_rfl,rfl,rfl,rfl,fun _ _=>rfl⟩
 zlen:=rfl
 ty:=⟨_,_,_,Try.underlying146⟩
 one:=fun _=>rfl
 eq:=fun h=>by simp at h
theorem d4s:TI.Ok Try.prog 147 ⟨.func,1,8,[.nilF],[.val],false⟩ where
 inf:=⟨Try.t147,_,by kernel_rfl,rfl,rfl,rfl,fun _ _=>rfl⟩
 zlen:=rfl
 ty:=⟨_,_,_,Try.underlying147⟩
 one:=fun _=>rfl
 eq:=fun h=>by simp at h
theorem d4P:TI.Ok Try.prog 148 ⟨.func,1,8,[.nilF],[.val],false⟩ where
 inf:=⟨Try.t148,_,by kernel_rfl,rfl,rfl,rfl,fun _ _=>rfl⟩
 zlen:=rfl
 ty:=⟨_,_,_,Try.underlying148⟩
 one:=fun _=>rfl
 eq:=fun h=>by simp at h
theorem d5d:TI.Ok Try.prog 149 ⟨.arr 2 51,2,48,[.nilS,.nilS],[.val,.val],false⟩ where
 inf:=⟨Try.t149,_,by kernel_rfl,rfl,rfl,rfl,fun _ _=>rfl⟩
 zlen:=rfl
 ty:=Try.underlying149
 one:=fun h=>by simp[TI.isAgg] at h
 eq:=fun h=>by simp at h
theorem d4W:TI.Ok Try.prog 150 ⟨.func,1,8,[.nilF],[.val],false⟩ where
 inf:=⟨Try.t150,_,by kernel_rfl,rfl,rfl,rfl,fun _ _=>rfl⟩
 zlen:=rfl
 ty:=⟨_,_,_,Try.underlying150⟩
 one:=fun _=>rfl
 eq:=fun h=>by simp at h
theorem d4i:TI.Ok Try.prog 151 ⟨.other,1,8,[.nilM],[.val],false⟩ where
 inf:=⟨Try.t151,_,by kernel_rfl,rfl,rfl,rfl,fun _ _=>rfl⟩
 zlen:=rfl
 ty:=⟨_,Try.underlying151,trivial⟩
 one:=fun _=>rfl
 eq:=fun h=>by simp at h
theorem d4E:TI.Ok Try.prog 152 ⟨.func,1,8,[.nilF],[.val],false⟩ where
 inf:=⟨Try.t152,_,by kernel_rfl,rfl,rfl,rfl,fun _ _=>rfl⟩
 zlen:=rfl
 ty:=⟨_,_,_,Try.underlying152⟩
 one:=fun _=>rfl
 eq:=fun h=>by simp at h
theorem d4O:TI.Ok Try.prog 153 ⟨.func,1,8,[.nilF],[.val],false⟩ where
 inf:=⟨Try.t153,_,by kernel_rfl,rfl,rfl,rfl,fun _ _=>rfl⟩
 zlen:=rfl
 ty:=⟨_,_,_,Try.underlying153⟩
 one:=fun _=>rfl
 eq:=fun h=>by simp at h
theorem d5r:TI.Ok Try.prog 154 ⟨.func,1,8,[.nilF],[.val],false⟩ where
 inf:=⟨Try.t154,_,by kernel_rfl,rfl,rfl,rfl,fun _ _=>rfl⟩
 zlen:=rfl
 ty:=⟨_,_,_,Try.underlying154⟩
 one:=fun _=>rfl
 eq:=fun h=>by simp at h
theorem d4m:TI.Ok Try.prog 155 ⟨.func,1,8,[.nilF],[.val],false⟩ where
 inf:=⟨Try.t155,_,by kernel_rfl,rfl,rfl,rfl,fun _ _=>rfl⟩
 zlen:=rfl
 ty:=⟨_,_,_,Try.underlying155⟩
 one:=fun _=>rfl
 eq:=fun h=>by simp at h
theorem d5a:TI.Ok Try.prog 156 ⟨.st [(0,22),(1,38)],7,72,[.nilS,.int .i64 (.l 0),.int .i64 (.l 0),.int .i64 (.l 0),.int .i64 (.l 0),.int .i64 (.l 0),.int .i64 (.l 0)],[.val,.int .i64,.int .i64,.int .i64,.int .i64,.int .i64,.int .i64],false⟩ where
 inf:=⟨Try.t156,_,by kernel_rfl,rfl,rfl,rfl,fun _ _=>rfl⟩
 zlen:=rfl
 ty:=⟨_,Try.underlying156,rfl⟩
 one:=fun h=>by simp[TI.isAgg] at h
 eq:=fun h=>by simp at h
theorem d4e:TI.Ok Try.prog 157 ⟨.st [(0,22),(1,38)],7,72,[.nilS,.int .i64 (.l 0),.int .i64 (.l 0),.int .i64 (.l 0),.int .i64 (.l 0),.int .i64 (.l 0),.int .i64 (.l 0)],[.val,.int .i64,.int .i64,.int .i64,.int .i64,.int .i64,.int .i64],false⟩ where
 inf:=⟨Try.t157,_,by kernel_rfl,rfl,rfl,rfl,fun _ _=>rfl⟩
 zlen:=rfl
 ty:=⟨_,Try.underlying157,rfl⟩
 one:=fun h=>by simp[TI.isAgg] at h
 eq:=fun h=>by simp at h
theorem d5A:TI.Ok Try.prog 158 ⟨.func,1,8,[.nilF],[.val],false⟩ where
 inf:=⟨Try.t158,_,by kernel_rfl,rfl,rfl,rfl,fun _ _=>rfl⟩
 zlen:=rfl
 ty:=⟨_,_,_,Try.underlying158⟩
 one:=fun _=>rfl
 eq:=fun h=>by simp at h
theorem d5t:TI.Ok Try.prog 159 ⟨.func,1,8,[.nilF],[.val],false⟩ where
 inf:=⟨Try.t159,_,by kernel_rfl,rfl,rfl,rfl,fun _ _=>rfl⟩
 zlen:=rfl
 ty:=⟨_,_,_,Try.underlying159⟩
 one:=fun _=>rfl
 eq:=fun h=>by simp at h
theorem d5B:TI.Ok Try.prog 160 ⟨.func,1,8,[.nilF],[.val],false⟩ where
 inf:=⟨Try.t160,_,by kernel_rfl,rfl,rfl,rfl,fun _ _=>rfl⟩
 zlen:=rfl
 ty:=⟨_,_,_,Try.underlying160⟩
 one:=fun _=>rfl
 eq:=fun h=>by simp at h
theorem d5h:TI.Ok Try.prog 161 ⟨.func,1,8,[.nilF],[.val],false⟩ where
 inf:=⟨Try.t161,_,by kernel_rfl,rfl,rfl,rfl,fun _ _=>rfl⟩
 zlen:=rfl
 ty:=⟨_,_,_,Try.underlying161⟩
 one:=fun _=>rfl
 eq:=fun h=>by simp at h
theorem d4w:TI.Ok Try.prog 167 ⟨.int .u32,1,4,[.int .u32 (.l 0)],[.int .u32],false⟩ where
 inf:=⟨Try.t167,_,by kernel_rfl,rfl,rfl,rfl,fun _ _=>rfl⟩
 zlen:=rfl
 ty:=Try.underlying167
 one:=fun _=>rfl
 eq:=fun h=>by simp at h
theorem d4k:TI.Ok Try.prog 170 ⟨.func,1,8,[.nilF],[.val],false⟩ where
 inf:=⟨Try.t170,_,by kernel_rfl,rfl,rfl,rfl,fun _ _=>rfl⟩
 zlen:=rfl
 ty:=⟨_,_,_,Try.underlying170⟩
 one:=fun _=>rfl
 eq:=fun h=>by simp at h
theorem d4r:TI.Ok Try.prog 171 ⟨.ptr 5,1,8,[.nilP],[.val],false⟩ where
 inf:=⟨Try.t171,_,by kernel_rfl,rfl,rfl,rfl,fun _ _=>rfl⟩
 zlen:=rfl
 ty:=Try.underlying171
 one:=fun _=>rfl
 eq:=fun h=>by simp at h
theorem d5H:MT.Ok Try.prog 151 ⟨.i64,3,4,.bool (.t false),.one .bool⟩:=⟨Try.underlying151,Try.underlying3,⟨Try.t4,_,by kernel_rfl,rfl,fun _ _=>rfl⟩⟩
theorem b4c{α:Type}{k:Nat}{x:α}:∀{l:List (Nat×α)},b0T k l=some x->(k,x)∈l
 | [],h=>by simp[b0T] at h
 | (j,y)::l,h=>by
  simp only[b0T] at h;split at h
  ·rename_i hj
   simp only[Q0] at h;rw[Nat.eq_of_beq_eq_true hj,h];exact Xw
  ·exact List.mem_cons_of_mem _ (b4c h)
theorem d3x(nw:Bool)(stops:List (List Bool))(cstops:List (List Bool×Nat)):ProgOk Try.prog (cx nw stops cstops) where
 mixed:=by kernel_rfl
 tab t i h:=by
  have h:=b4c h;simp only[d4b,Q8,Q3,X3,or_false] at h;rcases h with h|h|h|h|h|h|h|h|h|h|h|h|h|h|h|h|h|h|h|h|h|h|h|h|h|h|h|h|h|h|h|h|h|h|h|h|h|h|h|h|h|h|h|h|h|h|h|h|h|h|h|h|h|h|h|h|h|h|h|h|h|h|h|h|h|h|h|h|h|h|h|h|h|h|h|h|h|h|h|h|h|h|h|h|h|h|h|h|h|h|h|h|h|h|h|h|h|h|h|h|h|h|h|h|h|h|h|h|h|h|h|h|h|h|h|h|h|h|h|h|h|h|h|h|h|h|h|h|h|h|h|h|h|h|h|h|h|h|h|h|h|h|h
  all_goals obtain⟨rfl,rfl⟩:=h
  ·exact ti1
  ·exact ti2
  ·exact ti3
  ·exact ti4
  ·exact ti5
  ·exact ti9
  ·exact d7n
  ·exact d6u
  ·exact d6b
  ·exact d6c
  ·exact d6A
  ·exact d6R
  ·exact d5N
  ·exact d7i
  ·exact d6W
  ·exact d7r
  ·exact d6O
  ·exact d5P
  ·exact d7p
  ·exact d6a
  ·exact d6M
  ·exact d6h
  ·exact d6Z
  ·exact d6z
  ·exact d5K
  ·exact d6m
  ·exact d5J
  ·exact d6w
  ·exact d6j
  ·exact d6l
  ·exact d6v
  ·exact d6L
  ·exact d5O
  ·exact d6x
  ·exact d6B
  ·exact d7o
  ·exact d6F
  ·exact d5V
  ·exact d7g
  ·exact d7b
  ·exact d5W
  ·exact d6S
  ·exact d7e
  ·exact d6t
  ·exact d6C
  ·exact d7f
  ·exact d5M
  ·exact d5Q
  ·exact d6o
  ·exact d5S
  ·exact d7a
  ·exact d6i
  ·exact d7s
  ·exact d6G
  ·exact d6T
  ·exact d6D
  ·exact d7k
  ·exact d6P
  ·exact d5T
  ·exact d7q
  ·exact d6I
  ·exact d6N
  ·exact d6y
  ·exact d6J
  ·exact d6k
  ·exact d7h
  ·exact d6s
  ·exact d6f
  ·exact d6V
  ·exact d5L
  ·exact d6e
  ·exact d6p
  ·exact d6X
  ·exact d7l
  ·exact d5Z
  ·exact d5Y
  ·exact d6r
  ·exact d6K
  ·exact d6g
  ·exact d6n
  ·exact d6Q
  ·exact d5e
  ·exact d5b
  ·exact d5D
  ·exact d5f
  ·exact d5z
  ·exact d4x
  ·exact d4f
  ·exact d4d
  ·exact d4L
  ·exact d5s
  ·exact d4U
  ·exact d4z
  ·exact d5G
  ·exact d4H
  ·exact d4Y
  ·exact d5y
  ·exact d4F
  ·exact d5x
  ·exact d4y
  ·exact d5k
  ·exact d4g
  ·exact d4K
  ·exact d4Q
  ·exact d4l
  ·exact d4h
  ·exact d4B
  ·exact d4I
  ·exact d4o
  ·exact d5w
  ·exact d4V
  ·exact d4Z
  ·exact d4T
  ·exact d4q
  ·exact d4X
  ·exact d5i
  ·exact d4v
  ·exact d5q
  ·exact d5l
  ·exact d4N
  ·exact d5m
  ·exact d4A
  ·exact d4M
  ·exact d4j
  ·exact d5p
  ·exact d4s
  ·exact d4P
  ·exact d5d
  ·exact d4W
  ·exact d4i
  ·exact d4E
  ·exact d4O
  ·exact d5r
  ·exact d4m
  ·exact d5a
  ·exact d4e
  ·exact d5A
  ·exact d5t
  ·exact d5B
  ·exact d5h
  ·exact d4w
  ·exact d4k
  ·exact d4r
 mtab t i h:=by
  have h:=b4c h;simp only[d2t,Q8,Q3,X3,or_false] at h;rcases h with ⟨rfl,rfl⟩
  ·exact d5H
 qtab t i h:=by
  simp[cx,d2q,b0T] at h
 call f h args w:=by
  simp only[cx,Xp] at h;obtain⟨x,h⟩:=h;have h:=b4c h;simp only[c9e,Q8,Q3,X3,or_false] at h;rcases h with h|h|h|h|h|h|h|h|h|h|h|h|h|h|h|h|h|h|h|h|h|h|h|h|h|h|h|h|h|h|h|h|h|h|h|h|h|h|h|h|h|h|h|h|h|h|h|h|h|h|h|h|h|h|h|h|h|h|h|h|h|h|h|h|h|h|h|h|h|h|h|h|h|h|h|h|h|h|h|h|h|h|h|h|h|h|h|h|h|h|h|h|h|h|h|h|h|h|h|h
  all_goals obtain⟨rfl,_⟩:=h
  ·exact Try.call2 args w
  ·exact Try.call3 args w
  ·exact Try.call4 args w
  ·exact Try.call5 args w
  ·exact Try.call6 args w
  ·exact Try.call7 args w
  ·exact Try.call8 args w
  ·exact Try.call9 args w
  ·exact Try.call10 args w
  ·exact Try.call11 args w
  ·exact Try.call12 args w
  ·exact Try.call13 args w
  ·exact Try.call14 args w
  ·exact Try.call15 args w
  ·exact Try.call16 args w
  ·exact Try.call17 args w
  ·exact Try.call18 args w
  ·exact Try.call19 args w
  ·exact Try.call20 args w
  ·exact Try.call21 args w
  ·exact Try.call22 args w
  ·exact Try.call23 args w
  ·exact Try.call24 args w
  ·exact Try.call25 args w
  ·exact Try.call26 args w
  ·exact Try.call27 args w
  ·exact Try.call28 args w
  ·exact Try.call29 args w
  ·exact Try.call30 args w
  ·exact Try.call31 args w
  ·exact Try.call32 args w
  ·exact Try.call33 args w
  ·exact Try.call34 args w
  ·exact Try.call35 args w
  ·exact Try.call36 args w
  ·exact Try.call37 args w
  ·exact Try.call38 args w
  ·exact Try.call39 args w
  ·exact Try.call40 args w
  ·exact Try.call41 args w
  ·exact Try.call42 args w
  ·exact Try.call43 args w
  ·exact Try.call44 args w
  ·exact Try.call45 args w
  ·exact Try.call46 args w
  ·exact Try.call47 args w
  ·exact Try.call48 args w
  ·exact Try.call49 args w
  ·exact Try.call50 args w
  ·exact Try.call51 args w
  ·exact Try.call52 args w
  ·exact Try.call53 args w
  ·exact Try.call54 args w
  ·exact Try.call55 args w
  ·exact Try.call56 args w
  ·exact Try.call57 args w
  ·exact Try.call58 args w
  ·exact Try.call59 args w
  ·exact Try.call60 args w
  ·exact Try.call61 args w
  ·exact Try.call62 args w
  ·exact Try.call63 args w
  ·exact Try.call64 args w
  ·exact Try.call65 args w
  ·exact Try.call66 args w
  ·exact Try.call67 args w
  ·exact Try.call68 args w
  ·exact Try.call69 args w
  ·exact Try.call70 args w
  ·exact Try.call71 args w
  ·exact Try.call72 args w
  ·exact Try.call73 args w
  ·exact Try.call74 args w
  ·exact Try.call75 args w
  ·exact Try.call76 args w
  ·exact Try.call77 args w
  ·exact Try.call78 args w
  ·exact Try.call79 args w
  ·exact Try.call80 args w
  ·exact Try.call81 args w
  ·exact Try.call82 args w
  ·exact Try.call83 args w
  ·exact Try.call84 args w
  ·exact Try.call85 args w
  ·exact Try.call86 args w
  ·exact Try.call87 args w
  ·exact Try.call88 args w
  ·exact Try.call89 args w
  ·exact Try.call90 args w
  ·exact Try.call91 args w
  ·exact Try.call92 args w
  ·exact Try.call93 args w
  ·exact Try.call94 args w
  ·exact Try.call95 args w
  ·exact Try.call96 args w
  ·exact Try.call97 args w
  ·exact Try.call98 args w
  ·exact Try.call99 args w
  ·exact Try.call100 args w
  ·exact Try.call101 args w
def cl(nw:Bool)(stops:List (List Bool))(cstops:List (List Bool×Nat)):Ctx:={cx nw stops cstops with leaf:=true}
def ch(nw:Bool)(stops:List (List Bool))(cstops:List (List Bool×Nat)):Ctx:={cx nw stops cstops with leaf:=true,hole:=true,rowl:=false}
theorem c9y{c c':Ctx}(h:ProgOk Try.prog c)(h1:c'.tab=c.tab)(h2:c'.fok=c.fok)(h3:c'.mtab=c.mtab)(h4:c'.qtab=c.qtab):ProgOk Try.prog c':=⟨by rw[h1];exact h.tab,h.mixed,by rw[h2];exact h.call,by rw[h3];exact h.mtab,by rw[h4];exact h.qtab⟩
def cg(stops:List (List Bool))(amb:List Nat)(vrets:List (Nat×List Nat))(nofl gen live:Bool)(nw:Bool:=true)(joins:List (List Bool):=[])(noflT:List Nat:=[]):Ctx:={cx nw stops [] with rowl:=true,amb,vrets,nofl,gen,live,joins,noflT}
theorem a0o(stops:List (List Bool))(amb:List Nat)(vrets:List (Nat×List Nat))(nofl gen live:Bool)(nw:Bool:=true)(joins:List (List Bool):=[])(noflT:List Nat:=[]):ProgOk Try.prog (cg stops amb vrets nofl gen live nw joins noflT):=c9y (d3x true [] []) rfl rfl rfl rfl
@[reducible] def treeB (x:IE):BE:=.and (.le (.l (-9223372036854775808)) x) (.le x (.l 9223372036854775807))
@[reducible] def treeI (x y:IE):BE:=.and (.le (.l 0) x) (.lt x y)
def jkR(b n:Nat):List SV:=(QJ n).map fun k=>.junk (b+k)
def udR(n:Nat):List SV:=Q9 n .undef
@[reducible] def jP (k:Nat):IE:=.add (.a k) (.l 1)
@[reducible] def jA (k:Nat):SV:=.int .i64 (.a k)
@[reducible] def jE (k:Int):SV:=.int .i64 (.l k)
@[reducible] def rF:PT:=.ret false (.bool (.t false)) []
@[reducible] def jD:Kd:=.int .i64
def tfR(n k:Nat):List Bool:=(QJ n).map fun i=>k.testBit i
end Go.Proofs.Ytmekflfjaflmkaa
namespace Go.Sx
open Go.RowKit
variable {P:Program}{f:Nat}{ayq:List PV}{σ:List MO}
theorem d2W{σ:List MO}{m:MS}{k:Nat}(h:σ.all (MO.low k)=true):Coh σ m:=Coh.of_none fun o ho=>by
 have:=List.all_eq_true.1 h o ho;cases o<;>first|rfl|simp[MO.low] at this
theorem c7F{σ:List MO}{m:MS}{h:Nat}{o o':MO}(h0:σ[h]?=some o)(he:∀x,a1l o' x=a1l o x):inf (σ.set h o') m=inf σ m:=by
 unfold inf;apply QP;intro i;simp only[Xj,Qy];by_cases hi:h=i
 ·subst hi
  rw[if_pos rfl,if_pos (Q4.1 h0).1,h0];cases m[h]? with
  | none=>rfl
  | some x=>simp[he]
 ·rw[if_neg hi]
theorem c5Z{α:Type}{l:List α}{i:Nat}{x:α}(h:l[i]?=some x):l.set i x=l:=by
 apply QP;intro j;rw[Qy];split
 ·rename_i he;subst he
  rw[if_pos (Q4.1 h).1,h]
 ·rfl
mutual
theorem PV.low_mono{k k':Nat}(hk:k<=k'):∀p:PV,p.low k=true->p.low k'=true
 | .ref h _,e=>by simp only[PV.low,decide_eq_true_eq] at *;omega
 | .mp h,e=>by simp only[PV.low,decide_eq_true_eq] at *;omega
 | .msl h _ _ _ _,e=>by simp only[PV.low,decide_eq_true_eq] at *;omega
 | .rsl h _ _,e=>by simp only[PV.low,decide_eq_true_eq] at *;omega
 | .rpl h _ _ _,e=>by simp only[PV.low,decide_eq_true_eq] at *;omega
 | .eref h _ _ _ _,e=>by simp only[PV.low,decide_eq_true_eq] at *;omega
 | .sl _ rows,e=>by simp only[PV.low] at *;exact PV.lowss_mono hk rows e
 | .cell l _,e=>by simp only[PV.low] at *;exact PV.lows_mono hk l e
 | .fn _ l,e=>by simp only[PV.low] at *;exact PV.lows_mono hk l e
 | .agg l,e=>by simp only[PV.low] at *;exact PV.lows_mono hk l e
 | .tup l,e=>by simp only[PV.low] at *;exact PV.lows_mono hk l e
 | .int ..,_=>rfl
 | .bool ..,_=>rfl
 | .str ..,_=>rfl
 | .undef,_=>rfl
 | .nilS,_=>rfl
 | .nilF,_=>rfl
 | .nilP,_=>rfl
 | .nilI,_=>rfl
 | .nilM,_=>rfl
theorem PV.lows_mono{k k':Nat}(hk:k<=k'):∀l:List PV,PV.lows k l=true->PV.lows k' l=true
 | [],_=>rfl
 | p::l,e=>by
  simp only[PV.lows,Q6] at *
  exact⟨PV.low_mono hk p e.1,PV.lows_mono hk l e.2⟩
theorem PV.lowss_mono{k k':Nat}(hk:k<=k'):∀l:List (List PV),PV.lowss k l=true->PV.lowss k' l=true
 | [],_=>rfl
 | p::l,e=>by
  simp only[PV.lowss,Q6] at *
  exact⟨PV.lows_mono hk p e.1,PV.lowss_mono hk l e.2⟩
end
theorem MO.low_mono{k k':Nat}(hk:k<=k'){o:MO}(h:o.low k=true):o.low k'=true:=by
 cases o with
 | cells l T=>exact PV.lows_mono hk l h
 | row rows sz T=>exact PV.lowss_mono hk rows h
 | mp ks vs K=>exact PV.lows_mono hk vs h
 | mq kv ver=>rfl
 | it hd ver seen=>cases h
 | dead=>rfl
section
variable {Φ:Fns}{ρ:PEnv}{R:Res->Prop}{k x y:PT}
theorem d2F{fl:Bool}{a:SV}{ks:List Kd}{l:Loc}{z:List PV}{r:List Int×List Bool×List PV}(h1:a0p ρ a=some l)(h2:a0a ρ fl ks.length l=some z)(h3:a0c ks z=some r)(hk:k.wp Φ (ρ.push r) R) :
  (PT.load fl a ks k).wp Φ ρ R:=⟨l,h1,z,h2,r,h3,hk⟩
theorem b3m{c:BE}(hs:c.safe ρ=true)(hc:c.pe ρ=true)(h:x.wp Φ ρ R):(PT.ite c x y).wp Φ ρ R:=by simp only[PT.wp,hs,hc,if_true];exact h
theorem b2Z{c:BE}(hs:c.safe ρ=true)(hc:c.pe ρ=false)(h:y.wp Φ ρ R):(PT.ite c x y).wp Φ ρ R:=by simp only[PT.wp,hs,hc,if_true,Qh,if_false];exact h
theorem a5i{c:BE}(hs:c.safe ρ=true)(hc:c.pe ρ=true)(h:k.wp Φ ρ R):(PT.need c k).wp Φ ρ R:=by simp only[PT.wp,hs,hc,if_true];exact h
theorem d2O(hx:x.wp Φ ρ R)(hy:y.wp Φ ρ R):(PT.both x y).wp Φ ρ R:=⟨hx,hy⟩
theorem d3S{n h off:Nat}{l z:List PV}{T:Nat}(h1:ρ.m[h]?=some (.cells l T))(h2:a0P n (l.drop off)=some z):a0a ρ false n (.obj h off)=some z:=by
 simp only[a0a,Qh,if_false,h1,Option.bind_some,MO.list];exact h2
theorem d2E{v:SV}{H:List Blk}{p:PV}(h1:v.pv ρ (b1b ρ H 3)=some p)(hR:R (.ret p ρ.m)):(PT.ret true v H).wp Φ ρ R:=⟨p,h1,(p,ρ.m),by unfold a0m;rw[if_pos (.inl rfl)],hR⟩
end
end Go.Sx
namespace Go.Sx
def OLe{α:Type}(x y:Option α):Prop:=∀r,x=some r->y=some r
theorem OLe.refl{α:Type}(x:Option α):OLe x x:=fun _ h=>h
theorem OLe.none{α:Type}(y:Option α):OLe none y:=fun _ h=>by cases h
theorem OLe.bind{α β:Type}{x y:Option α}{f g:α->Option β}(h:OLe x y)(hf:∀a,OLe (f a) (g a)):OLe (x.bind f) (y.bind g):=fun r hr=>by
 rw[Q1] at *
 obtain⟨a,h1,h2⟩:=hr;exact⟨a,h a h1,hf a r h2⟩
theorem OLe.ite{α:Type}{c:Prop} [Decidable c] {x y x' y':Option α}(h:OLe x x')(k:OLe y y'):OLe (if c then x else y) (if c then x' else y'):=by
 split
 ·exact h
 ·exact k
def FLe(Φ Ψ:Fns):Prop:=∀f a m,OLe (Φ f a m) (Ψ f a m)
theorem b6S{Φ Ψ:Fns}(hF:FLe Φ Ψ):∀(t:PT) (ρ:PEnv),OLe (t.ev Φ ρ) (t.ev Ψ ρ):=by
 intro t
 induction t with
 | call f args H shs k ih=>intro ρ;simp only[PT.ev];exact .bind (.refl _) fun _=>.bind (hF _ _ _) fun _=>.bind (.refl _) fun _=>ih _
 | callv n args shs k ih =>
  intro ρ;simp only[PT.ev];split
  ·exact .bind (.refl _) fun _=>.bind (hF _ _ _) fun _=>.bind (.refl _) fun _=>ih _
  ·exact .none _
 | both x y ihx ihy=>intro ρ;simp only[PT.ev];exact .bind (ihx _) fun _=>.bind (ihy _) fun _=>.refl _
 | ite c x y ihx ihy=>intro ρ;simp only[PT.ev];exact .ite (.ite (ihx _) (ihy _)) (.refl _)
 | stuck=>intro ρ;exact .refl _
 | _ =>
  rename_i ih;intro ρ;simp only[PT.ev]
  repeat' first
   | exact OLe.refl _
   | exact OLe.none _
   | exact ih _
   | refine OLe.bind (OLe.refl _) fun _=>?_
   | refine OLe.ite ?_ ?_
   | split
theorem c4Q{Φ Ψ:Fns}(hF:FLe Φ Ψ)(S:Sys):∀(n q:Nat) (ρ:PEnv),OLe (S.loop Φ n q ρ) (S.loop Ψ n q ρ)
 | 0,q,ρ=>by simp only[Sys.loop];exact .refl _
 | n+1,q,ρ=>by
  simp only[Sys.loop];refine .bind (.refl _) fun t=>.bind (b6S hF t ρ) fun r=>?_
  cases r with
  | ret r σ=>exact .refl _
  | jump q' ρ'=>exact c4Q hF S n q' ρ'
theorem c0S{Φ Ψ:Fns}(hF:FLe Φ Ψ)(G:Rg):∀(ys:List (List PV)) (ρ:PEnv),OLe (b3G Φ G ys ρ) (b3G Ψ G ys ρ)
 | [],ρ=>by simp only[b3G];exact .refl _
 | y::ys,ρ=>by
  simp only[b3G];refine .bind (.refl _) fun r=>.bind (b6S hF _ _) fun r=>?_
  split
  ·exact c0S hF G ys _
  ·exact .none _
theorem d1X{Φ Ψ:Fns}(hF:FLe Φ Ψ)(S:Sys)(n:Nat)(a:List PV)(m:List MO):OLe (S.run Φ n a m) (S.run Ψ n a m):=by
 unfold Sys.run;split
 ·exact .refl _
 split
 ·unfold d3X
  refine .bind (.refl _) fun r=>.bind (b6S hF _ _) fun r=>?_
  split
  ·exact .refl _
  ·split
   ·refine .bind (.refl _) fun ys=>.bind (c0S hF _ _ _) fun ρ'=>.bind (b6S hF _ _) fun r=>.refl _
   ·exact .none _
 ·refine .bind (.refl _) fun r=>.bind (b6S hF _ _) fun r=>?_
  split
  ·exact .refl _
  ·exact c4Q hF S n _ _
theorem c2I{T T':Nat->Option Sys}(h:∀f S,T f=some S->T' f=some S):∀n,FLe (a0b T n) (a0b T' n)
 | 0=>fun f a m=>by simp only[a0b];exact .refl _
 | n+1=>fun f a m=>by
  simp only[a0b];exact .bind (fun S hS=>h f S hS) fun S=>d1X (c2I h n) S n a m
theorem a0i{x:PV}{rows:List (List PV)}{n:Nat}(h:x.rowsOf n=some rows):x.len=rows.length/\x.isKind 0=true/\x.one=true:=by
 cases x<;>simp only[PV.rowsOf,reduceCtorEq,Q0] at h
 ·subst h;exact⟨rfl,rfl,rfl⟩
 ·split at h
  ·simp only[Q0] at h;subst h;exact⟨rfl,rfl,rfl⟩
  ·cases h
theorem a1d{x:PV}{rows:List (List PV)}{n off:Nat}(h:x.rowsOf n=some rows){i:Nat}{r:List PV}(hr:rows[i]?=some r):a3E (i:Int) n off x=some (.row r off):=by
 cases x<;>simp only[PV.rowsOf,reduceCtorEq,Q0] at h
 ·subst h;simp at hr
 ·split at h
  ·rename_i hn
   simp only[Q0] at h;subst h;simp[a3E,hn,hr]
  ·cases h
theorem a0x(a b:Nat):ltB (a:Int) (b:Int)=decide (a<b):=by simp[ltB]
theorem a5T{α:Type}{l:List α}{i:Nat}{x:α}(h:l[i]?=some x):l.drop i=x::l.drop (i+1):=by
 rw[List.drop_eq_getElem?_toList_append (i:=i),h];rfl
open Go.RowKit Go.ChangeShapes Go.WideShapes
def a4g(sh:TypeId->List PV->Prop):List TypeId->List PV->Prop
 | [],ps=>ps=[]
 | t::ts,ps=>∃a b,ps=a++b/\sh t a/\a4g sh ts b
def a1i(P:Program):Nat->TypeId->List PV->Prop
 | 0,_,_=>False
 | n+1,t,ps=>match P.underlying t with
  | some .bool=>∃b,ps=[.bool b]
  | some (.int k)=>∃z,ps=[.int k z]/\loI k<=z/\z<=hiI k
  | some .string=>∃s,ps=[.str s]
  | some (.struct fs)=>a4g (a1i P n) (fs.toList.map (·.type)) ps
  | some (.array m e)=>a4g (a1i P n) (Q9 m e) ps
  | some (.slice e)=>∃rows,ps=[.sl (P.cellsOf e) rows]/\(∀r∈rows,a1i P n e r)/\rows.length<=9223372036854775807
  | _=>False
mutual
def PV.wt:PV->Nat
 | .sl _ rows=>PV.wtss rows+1
 | .str s=>s.length+1
 | _=>1
def PV.wts:List PV->Nat
 | []=>0
 | p::l=>p.wt+PV.wts l
def PV.wtss:List (List PV)->Nat
 | []=>0
 | l::ls=>PV.wts l+PV.wtss ls
end
theorem PV.wts_append:∀(l m:List PV),PV.wts (l++m)=PV.wts l+PV.wts m
 | [],m=>by simp[PV.wts]
 | p::l,m=>by simp only[List.cons_append,PV.wts,PV.wts_append l m];omega
mutual
def a8p{H:Type}:DataW H->Nat
 | .lit (.string bytes)=>bytes.length+1
 | .lit _=>1
 | .nil=>1
 | .ptr d=>a8p d+1
 | .slice elems spare=>b2d elems+b2d spare+1
 | .agg parts=>b2d parts+1
 | .iface _ d=>a8p d+1
 | .map entries=>c9Z entries+1
 | .held _=>1
def b2d{H:Type}:List (DataW H)->Nat
 | []=>0
 | d::r=>a8p d+b2d r
def c9Z{H:Type}:List (Lit×DataW H)->Nat
 | []=>0
 | x::r=>d4S x+c9Z r
def d4S{H:Type}:Lit×DataW H->Nat
 | (.string bytes,d)=>bytes.length+a8p d+1
 | (_,d)=>a8p d+1
end
def a8D(P:Program):Nat->List Field->Option Nat
 | o,[]=>some o
 | o,f::fs=>if f.offset=o then a8D P (o+P.cellsOf f.type) fs else none
def c7z(P:Program)(S:List TypeId)(t:TypeId):Bool:=match P.underlying t with
 | some .bool|some (.int _)|some .string=>true
 | some (.struct fs)=>fs.toList.all (fun f=>S.contains f.type)&&a8D P 0 fs.toList == some (P.cellsOf t)
 | some (.array m e)=>S.contains e&&P.cellsOf t == m*P.cellsOf e
 | some (.slice e)=>S.contains e&&decide (0<P.cellsOf e)
 | _=>false
def closed(P:Program)(S:List TypeId):Bool:=S.all (c7z P S)
theorem c1g{P:Program}:∀(fs:List Field) (o:Nat) {tot},a8D P o fs=some tot->o<=tot
 | [],o,tot,h=>by simp only[a8D,Q0] at h;omega
 | f::fs,o,tot,h=>by
  simp only[a8D] at h;split at h
  ·have:=c1g fs _ h;omega
  ·cases h
section
variable {H:Type}{enc:TypeId×Value->H}{P:Program}{w:World}{spare:Nat->Bool}{held:Bool}
def b3O(P:Program)(w:World)(m:Nat)(t:TypeId)(cs:List Value)(d:DataW H)(ps:List PV):Prop :=
 Reps (hpOf w) [] ps cs/\a1i P m t ps/\(∀p∈ps,p.one=true)/\PV.wts ps<=a8p d
theorem c0R{S:List TypeId}{m:Nat}(ih:∀t cs (x:DataW H×List MemPlace),t∈S->DataW.trod enc P w 0 spare held m t cs=some x->∃ps,b3O P w m t cs x.1 ps) :
  ∀(fs:List Field) (o:Nat) (A cs:List Value) (xs:List (DataW H×List MemPlace)) (tot:Nat),(∀f∈fs,f.type∈S)->a8D P o fs=some tot->A.length=o->(A++cs).length=tot->xs.length=fs.length ->
   (∀(j:Nat) f,fs[j]?=some f->DataW.trod enc P w 0 spare held m f.type (((A++cs).drop f.offset).take (P.cellsOf f.type))=xs[j]?) ->
   ∃ps,Reps (hpOf w) [] ps cs/\a4g (a1i P m) (fs.map (·.type)) ps/\(∀p∈ps,p.one=true)/\PV.wts ps<=b2d (xs.map (·.1))
 | [],o,A,cs,xs,tot,_,ht,hA,hl,hx,_=>by
  simp only[a8D,Q0] at ht;rw[Q5] at hl;have:cs=[]:=X4 (by omega);subst this;have:xs=[]:=X4 (by simpa using hx);subst this;exact⟨[],rfl,rfl,by simp,by simp[PV.wts]⟩
 | f::fs,o,A,cs,xs,tot,hS,ht,hA,hl,hx,hi=>by
  simp only[a8D] at ht;split at ht
  case isFalse=>cases ht
  rename_i ho;have hle:=c1g _ _ ht;have hl':=hl;rw[Q5] at hl'
  match xs,hx with
  | y::xs,hx =>
  have h0:=hi 0 f rfl;rw[ho,<- hA,List.drop_left] at h0;obtain⟨ps0,a1,a2,a3,a4⟩:=ih _ _ _ (hS f (by simp)) h0;have hcl:(cs.take (P.cellsOf f.type)).length=P.cellsOf f.type:=by rw[Qn];omega
  obtain⟨ps,b1,b2,b3,b4⟩:=c0R ih fs (o+P.cellsOf f.type) (A++cs.take (P.cellsOf f.type)) (cs.drop (P.cellsOf f.type)) xs tot (fun g hg=>hS g (by simp[hg])) ht
   (by rw[Q5,hcl,hA]) (by rw[Xx,Qz];exact hl) (by simpa using hx) (fun j g hg=>by
    rw[Xx,Qz];have:=hi (j+1) g (by simpa using hg)
    simpa using this)
  refine⟨ps0++ps,?_,⟨ps0,ps,rfl,a2,b2⟩,?_,?_⟩
  ·have:=Reps.append a1 b1
   rwa [Qz] at this
  ·intro p hp
   rcases Qe.1 hp with hp|hp
   ·exact a3 p hp
   ·exact b3 p hp
  ·rw[PV.wts_append];simp only[Qk,b2d];omega
theorem c3n{S:List TypeId}{m:Nat}{e:TypeId}(he:e∈S)(ih:∀t cs (x:DataW H×List MemPlace),t∈S->DataW.trod enc P w 0 spare held m t cs=some x->∃ps,b3O P w m t cs x.1 ps) :
  ∀(n:Nat) (cs:List Value) (xs:List (DataW H×List MemPlace)),cs.length=n*P.cellsOf e->xs.length=n ->
   (∀i,i<n->DataW.trod enc P w 0 spare held m e ((cs.drop (i*P.cellsOf e)).take (P.cellsOf e))=xs[i]?) ->
   ∃ps,Reps (hpOf w) [] ps cs/\a4g (a1i P m) (Q9 n e) ps/\(∀p∈ps,p.one=true)/\PV.wts ps<=b2d (xs.map (·.1))
 | 0,cs,xs,hl,hx,_=>by
  have:cs=[]:=X4 (by omega);subst this;have:xs=[]:=X4 hx;subst this;exact⟨[],rfl,rfl,by simp,by simp[PV.wts]⟩
 | n+1,cs,xs,hl,hx,hi=>by
  rw[Qu,QS] at hl
  match xs,hx with
  | y::xs,hx =>
  have h0:=hi 0 (by omega);rw[Nat.zero_mul,List.drop_zero] at h0;obtain⟨ps0,a1,a2,a3,a4⟩:=ih _ _ _ he h0
  obtain⟨ps,b1,b2,b3,b4⟩:=c3n he ih n (cs.drop (P.cellsOf e)) xs (by rw[Xk];omega) (by simpa using hx) (fun i hi'=>by
    have:=hi (i+1) (by omega);rw[Qu,QS,Nat.add_comm] at this;rw[List.drop_drop]
    simpa using this)
  refine⟨ps0++ps,?_,⟨ps0,ps,rfl,a2,b2⟩,?_,?_⟩
  ·have:=Reps.append a1 b1
   rwa [Qz] at this
  ·intro p hp
   rcases Qe.1 hp with hp|hp
   ·exact a3 p hp
   ·exact b3 p hp
  ·rw[PV.wts_append];simp only[Qk,b2d];omega
theorem c6u{s:Hp}{B:Inf}:∀(zs:List (List Value×List PV)),(∀z∈zs,Reps s B z.2 z.1)->a0B s B (zs.map (·.2)) (zs.map (·.1))
 | [],_=>rfl
 | z::zs,h=>⟨z.1,zs.map (·.1),rfl,h z (by simp),c6u zs (fun y hy=>h y (by simp[hy]))⟩
theorem c7o:∀(zs:List (List Value×List PV)) (ys:List (DataW H×List MemPlace)),zs.length=ys.length->(∀(i:Nat) z y,zs[i]?=some z->ys[i]?=some y->PV.wts z.2<=a8p y.1)->PV.wtss (zs.map (·.2))<=b2d (ys.map (·.1))
 | [],_,_,_=>by simp[PV.wtss]
 | z::zs,[],h,_=>by simp at h
 | z::zs,y::ys,h,hi=>by
  have h0:=hi 0 z y rfl rfl;have:=c7o zs ys (by simpa using h) (fun i z y hz hy=>hi (i+1) z y (by simpa using hz) (by simpa using hy));simp only[Qk,PV.wtss,b2d];omega
theorem c9B{S:List TypeId}{m:Nat}{t e:TypeId}(hu:P.underlying t=some (.slice e))(he:e∈S)(hpos:0<P.cellsOf e)(ih:∀t cs (x:DataW H×List MemPlace),t∈S->DataW.trod enc P w 0 spare held m t cs=some x->∃ps,b3O P w m t cs x.1 ps)
  {cs:List Value} {x:DataW H×List MemPlace} (h:DataW.trod enc P w 0 spare held (m+1) t cs=some x):∃ps,b3O P w (m+1) t cs x.1 ps:=by
 unfold DataW.trod at h;rw[hu] at h;cases cs with
 | nil=>simp at h
 | cons v cs =>
 cases cs with
 | cons _ _=>cases v<;>simp at h
 | nil =>
 cases v<;>try (simp at h;done)
 rename_i a len cap;cases a with
 | none =>
  cases len<;>cases cap<;>simp at h
  subst h;refine⟨[.sl (P.cellsOf e) []],⟨_,[],rfl,⟨[],⟨by simp,none,0,rfl,by simp,by simp⟩,rfl,by simp⟩,rfl⟩,?_,by simp[PV.one],by simp[PV.wts,PV.wt,PV.wtss,a8p]⟩;simp only[a1i,hu];exact⟨[],rfl,by simp,by simp⟩
 | some a =>
  simp only at h;split at h
  case isFalse=>simp at h
  rename_i hcond;simp only[Q1,Q2] at h;obtain⟨elems,hel,rest,_,rfl⟩:=h;obtain⟨h1,h2⟩:=b7d hel
  have key:∀i,i<len->∃z:List Value×List PV,z.1.length=P.cellsOf e/\(∀j u,z.1[j]?=some u->w.cell? ((a.add (i*P.cellsOf e)).add j)=some u)/\∃y,elems[i]?=some y/\b3O P w m e z.1 y.1 z.2:=by
   intro i hi;obtain⟨y,hy1,hy2⟩:=h2 i i (by simp[hi]);simp only[Q1] at hy2;obtain⟨cs,hcs,htr⟩:=hy2;obtain⟨ps,hps⟩:=ih _ _ _ he htr;unfold World.cells? at hcs;split at hcs
   case isFalse=>simp at hcs
   obtain⟨c1,c2⟩:=b7d hcs;refine⟨(cs,ps),by simp only;rw[c1];simp,fun j u hj=>?_,y,hy1,hps⟩
   have hjl:j<P.cellsOf e:=by
    have:=(Q4.1 hj).1;simp only at this;rw[c1] at this;simpa using this
   obtain⟨y',hy',hc'⟩:=c2 j j (by simp[hjl]);simp only at hj;rw[hj] at hy';simp only[Q0] at hy';subst hy';exact hc'
  obtain⟨zs,e1,e2⟩:=c7G len key
  have hmem:∀z∈zs,∃y:DataW H×List MemPlace,b3O P w m e z.1 y.1 z.2:=fun z hz=>by
   obtain⟨i,hi⟩:=QB.1 hz;obtain⟨_,_,y,_,hy⟩:=e2 i z hi;exact⟨y,hy⟩
  refine⟨[.sl (P.cellsOf e) (zs.map (·.2))],⟨_,[],rfl,⟨zs.map (·.1),⟨?_,some a,cap,by simp[e1],by simp[e1,hcond.2.1],fun hne=>?_⟩,c6u zs (fun z hz=>?_),?_⟩,rfl⟩,?_,by simp[PV.one],?_⟩
  ·intro x hx
   obtain⟨z,hz,rfl⟩:=Qb.1 hx;obtain⟨i,hi⟩:=QB.1 hz;exact(e2 i z hi).1
  ·have hsp:a.spot=none:=by
    cases zs with
    | nil=>simp at hne
    | cons z zs =>
     obtain⟨hl,hcell,_⟩:=e2 0 z rfl;have:=hcell 0 (z.1[0]'(by omega)) (QK (by omega));have h3:(a.add (0*P.cellsOf e)).add 0=a:=by simp[Addr.add]
     rw[h3] at this;exact World.cell?_spot this
   obtain⟨b,o,sp⟩:=a;simp only at hsp;subst hsp;refine⟨b,o,rfl,fun i y hy j u hj=>?_⟩;rw[Xh,Q2] at hy;obtain⟨z,hz,rfl⟩:=hy;exact d1c (a:=⟨b,o,none⟩) rfl ((e2 i z hz).2.1 j u hj)
  ·obtain⟨y,hy⟩:=hmem z hz
   exact hy.1
  ·intro r hr
   obtain⟨z,hz,rfl⟩:=Qb.1 hr;obtain⟨y,hy⟩:=hmem z hz;exact hy.2.2.1
  ·simp only[a1i,hu]
   refine⟨_,rfl,fun r hr=>?_,?_⟩
   ·obtain⟨z,hz,rfl⟩:=Qb.1 hr
    obtain⟨y,hy⟩:=hmem z hz;exact hy.2.1
   ·rw[QA,e1]
    exact Nat.le_trans hcond.2.1 hcond.2.2
  ·have:=c7o zs elems (by rw[e1,h1];simp) (fun i z y hz hy=>by
    obtain⟨_,_,y',hy',ho⟩:=e2 i z hz;rw[hy] at hy';simp only[Q0] at hy';subst hy'
    exact ho.2.2.2)
   simp only[PV.wts,PV.wt,a8p];omega
theorem c4d{S:List TypeId}(hS:closed P S=true):∀(m:Nat) (t:TypeId) (cs:List Value) (x:DataW H×List MemPlace),t∈S->DataW.trod enc P w 0 spare held m t cs=some x->∃ps,b3O P w m t cs x.1 ps
 | 0,t,cs,x,_,h=>by simp[DataW.trod] at h
 | m+1,t,cs,x,ht,h=>by
  have ih:=fun t cs x=>c4d hS m t cs x
  have hc:=List.all_eq_true.1 hS t ht;unfold c7z at hc;split at hc
  ·rename_i hu
   unfold DataW.trod at h;rw[hu] at h;cases cs with
   | nil=>simp at h
   | cons v cs =>
   cases cs with
   | cons _ _=>cases v<;>simp at h
   | nil =>
   cases v<;>try (simp at h;done)
   simp only[Q0] at h;subst h;exact⟨[.bool _],⟨_,[],rfl,rfl,rfl⟩,by simp only[a1i,hu];exact⟨_,rfl⟩,by simp[PV.one],by simp[PV.wts,PV.wt,a8p]⟩
  ·rename_i k hu
   obtain⟨n,rfl,rfl,hw⟩:=DataW.trod_int hu h;exact⟨[.int k n],⟨_,[],rfl,rfl,rfl⟩,by simp only[a1i,hu];exact⟨_,rfl,c2Y hw⟩,by simp[PV.one],by simp[PV.wts,PV.wt,a8p]⟩
  ·rename_i hu
   unfold DataW.trod at h;rw[hu] at h;cases cs with
   | nil=>simp at h
   | cons v cs =>
   cases cs with
   | cons _ _=>cases v<;>simp at h
   | nil =>
   cases v<;>try (simp at h;done)
   rename_i s;simp only at h;split at h
   case isFalse=>cases h
   simp only[Q0] at h;subst h;refine⟨[.str s.data.toList],⟨_,[],rfl,?_,rfl⟩,by simp only[a1i,hu];exact⟨_,rfl⟩,by simp[PV.one],by simp[PV.wts,PV.wt,a8p]⟩;simp[Rep]
  ·rename_i fs hu
   simp only[Q6,List.all_eq_true,beq_iff_eq] at hc;obtain⟨xs,n,hn,rfl,hl,hx,hi⟩:=DataW.trod_struct hu h;simp only[Xy] at hn;subst hn;obtain⟨ps,a1,a2,a3,a4⟩:=c0R ih fs.toList 0 [] cs xs _ (fun f hf=>by simpa using hc.1 f hf) hc.2 rfl hl (by simpa using hx) (fun j f hj=>by simpa using hi j f (by simpa using hj));exact⟨ps,a1,by simp only[a1i,hu];exact a2,a3,by simp only[a8p];omega⟩
  ·rename_i n e hu
   simp only[Q6,beq_iff_eq] at hc;obtain⟨xs,n',hn,rfl,hl,hx,hi⟩:=DataW.trod_array hu h;simp only[Xy] at hn;subst hn;obtain⟨ps,a1,a2,a3,a4⟩:=c3n (by simpa using hc.1) ih n cs xs (by rw[hl,hc.2]) hx hi;exact⟨ps,a1,by simp only[a1i,hu];exact a2,a3,by simp only[a8p];omega⟩
  ·rename_i e hu
   simp only[Q6,decide_eq_true_eq] at hc;exact c9B hu (by simpa using hc.1) hc.2 ih h
  ·cases hc
variable {r:Go.Reach}{b0:Nat}
theorem d2H{S:List TypeId}(hS:closed P S=true){t:TypeId}(ht:t∈S){v:Value}{d:DataW H}{pl:List MemPlace}(hv:∃cs:Array Value,v=.agg cs)(h:DataW.Trod enc P w 0 spare held t v d pl) :
  ∃n ps,Rep (hpOf w) [] (.agg ps) v/\a1i P n t ps/\PV.wts ps<=a8p d:=by
 obtain⟨cs,rfl⟩:=hv;obtain⟨fuel,h⟩:=h;obtain⟨ps,h1,h2,_,h4⟩:=c4d hS fuel t _ _ ht h;refine⟨fuel,ps,⟨cs.toList,by simp,?_⟩,h2,h4⟩;exact h1
theorem c2M{S:List TypeId}(hS:closed P S=true){t:TypeId}(ht:t∈S){fs:Array Field}(hu:P.underlying t=some (.struct fs)){v:Value}{d:DataW H}{pl:List MemPlace}(hval:Value.okWide P w r b0 t v)(h:DataW.Trod enc P w 0 spare held t v d pl) :
  ∃n ps,Rep (hpOf w) [] (.agg ps) v/\a1i P n t ps/\PV.wts ps<=a8p d:=d2H hS ht (by obtain⟨cs,h,_⟩:=okWide_struct hu hval;exact⟨cs,h⟩) h
theorem c9X{S:List TypeId}(hS:closed P S=true){t:TypeId}(ht:t∈S){e:TypeId}(hu:P.underlying t=some (.slice e)){v:Value}{d:DataW H}{pl:List MemPlace}(hval:Value.okWide P w r b0 t v)(h:DataW.Trod enc P w 0 spare held t v d pl) :
  ∃n rows,Rep (hpOf w) [] (.sl (P.cellsOf e) rows) v/\(∀r∈rows,a1i P n e r)/\PV.wtss rows+1<=a8p d:=by
 obtain⟨a,len,cap,rfl⟩:=okWide_slice hu hval;obtain⟨fuel,h⟩:=h;obtain⟨ps,h1,h2,_,h4⟩:=c4d hS fuel t _ _ ht h;cases fuel with
 | zero=>exact h2.elim
 | succ fuel =>
 simp only[a1i,hu] at h2;obtain⟨rows,rfl,h2⟩:=h2;refine⟨fuel,rows,?_,h2.1,by simpa[PV.wts,PV.wt] using h4⟩;obtain⟨v,r,hvr,hrep,_⟩:=h1;have:(Value.slice a len cap).cells.toList=[.slice a len cap]:=rfl;rw[this] at hvr;simp only[List.cons.injEq] at hvr;rw[hvr.1];exact hrep
end
mutual
theorem PV.frz_low{k:Nat}{look:Nat->Option MO}:∀p:PV,p.low k=true->p.frz k look=some p
 | .int ..,_=>rfl
 | .bool _,_=>rfl
 | .str _,_=>rfl
 | .undef,_=>rfl
 | .nilS,_=>rfl
 | .nilF,_=>rfl
 | .nilP,_=>rfl
 | .nilI,_=>rfl
 | .nilM,_=>rfl
 | .sl n rows,h=>by simp only[PV.low] at h;simp[PV.frz,h]
 | .cell l o,h=>by simp only[PV.low] at h;simp[PV.frz,h]
 | .ref h' o,h=>by simp only[PV.low,decide_eq_true_eq] at h;simp[PV.frz,h]
 | .mp h',h=>by simp only[PV.low,decide_eq_true_eq] at h;simp[PV.frz,h]
 | .msl h' ..,h=>by simp only[PV.low,decide_eq_true_eq] at h;simp[PV.frz,h]
 | .rsl h' ..,h=>by simp only[PV.low,decide_eq_true_eq] at h;simp[PV.frz,h]
 | .rpl h' ..,h=>by simp only[PV.low,decide_eq_true_eq] at h;simp[PV.frz,h]
 | .eref h' ..,h=>by simp only[PV.low,decide_eq_true_eq] at h;simp[PV.frz,h]
 | .fn f l,h=>by simp only[PV.low] at h;simp[PV.frz,PV.frzs_low l h]
 | .agg l,h=>by simp only[PV.low] at h;simp[PV.frz,PV.frzs_low l h]
 | .tup l,h=>by simp only[PV.low] at h;simp[PV.frz,PV.frzs_low l h]
theorem PV.frzs_low{k:Nat}{look:Nat->Option MO}:∀l:List PV,PV.lows k l=true->PV.frzs k look l=some l
 | [],_=>rfl
 | p::l,h=>by
  simp only[PV.lows,Q6] at h;simp[PV.frzs,PV.frz_low p h.1,PV.frzs_low l h.2]
end
theorem a6Z{α:Type}(σ:List α)(A:α)(r:List α):(σ++A::r)[σ.length]?=some A:=by simp
theorem c0a{α:Type}(σ:List α)(A B:α)(r:List α):(σ++A::B::r)[σ.length+1]?=some B:=by
 rw[Qd (by omega)];simp
theorem b4U{α:Type}(σ:List α)(A X:α)(r:List α):(σ++A::r).set σ.length X=σ++X::r:=by simp
theorem c5r{α:Type}(σ:List α)(A B X:α)(r:List α):(σ++A::B::r).set (σ.length+1) X=σ++A::X::r:=by
 rw[Xz _ _ (by omega)];simp
theorem d2v{α:Type}(σ:List α)(A:α):(σ++[A]).length=σ.length+1:=by simp
theorem d2o{α:Type}(σ:List α)(A B:α):(σ++[A])++[B]=σ++[A,B]:=by simp
theorem a3d{Φ:Fns}{x y:PT}{ρ:PEnv}{r:Res}(hx:x.ev Φ ρ=some r)(hy:y.ev Φ ρ=some r):(PT.both x y).ev Φ ρ=some r:=by simp[PT.ev,hx,hy,Res.beq_self]
section
variable (Φ:Fns)(ρ:PEnv)(k x y:PT)
theorem a0j(gen:Bool)(v:SV)(H:List Blk):(PT.ret gen v H).ev Φ ρ=((v.pv ρ (b1b ρ H 3)).bind fun p=>(a0m ρ gen p).map fun r=>.ret r.1 r.2):=rfl
theorem a0d(c:BE):(PT.ite c x y).ev Φ ρ=(if c.safe ρ then(if c.pe ρ then x.ev Φ ρ else y.ev Φ ρ) else none):=rfl
theorem a0h(c:BE):(PT.need c k).ev Φ ρ=(if c.safe ρ then(if c.pe ρ then k.ev Φ ρ else none) else none):=rfl
theorem a0u(fl:Bool)(a:SV)(ks:List Kd):(PT.load fl a ks k).ev Φ ρ=((a0p ρ a).bind fun l=>(a0a ρ fl ks.length l).bind fun x=>(a0c ks x).bind fun r=>k.ev Φ (ρ.push r)):=rfl
theorem a7z(d:Option Nat)(src:Src)(size:Nat):(PT.app d src size k).ev Φ ρ=((match d with|none=>some []|some n=>(ρ.v[n]?).bind (PV.rowsOf size)).bind fun xs=>(a0W ρ size src).bind fun es =>
   if xs.length+es.length<=1000000 then k.ev Φ {ρ with v:=ρ.v++[PV.sl size (xs++es)]} else none):=rfl
theorem a5L(n:Nat)(lo hi:Option IE)(size:Nat):(PT.cut n lo hi size k).ev Φ ρ=(match (ρ.v[n]?).bind (PV.rowsOf size) with
  | some xs=>if 0<=a3c ρ lo/\a3c ρ lo<=a3b ρ hi xs.length/\a3b ρ hi xs.length<=xs.length then k.ev Φ {ρ with v:=ρ.v++[.sl size ((xs.take (a3b ρ hi xs.length).toNat).drop (a3c ρ lo).toNat)]} else none
  | none=>(b7u ρ lo hi size (ρ.v[n]?)).bind fun p=>k.ev Φ {ρ with v:=ρ.v++[p]}):=rfl
theorem a6g(n:Nat)(lo hi:Option IE):(PT.scut n lo hi k).ev Φ ρ=(match ρ.v[n]? with
  | some (.str l)=>if 0<=a3c ρ lo/\a3c ρ lo<=a3b ρ hi l.length/\a3b ρ hi l.length<=l.length then k.ev Φ {ρ with v:=ρ.v++[.str ((l.take (a3b ρ hi l.length).toNat).drop (a3c ρ lo).toNat)]} else none
  | _=>none):=rfl
theorem b0D(n size:Nat):(PT.chk n size k).ev Φ ρ=(((ρ.v[n]?).bind (PV.rowsOf size)).bind fun _=>k.ev Φ ρ):=rfl
theorem a5r(n:Nat)(src:Src)(size:Nat):(PT.appF n src size k).ev Φ ρ=(((ρ.v[n]?).bind (PV.rowsOf size)).bind fun xs=>(a0W ρ size src).bind fun es =>
   if es.length≠0/\xs.length+es.length<=1000000 then k.ev Φ {ρ with v:=ρ.v++[PV.sl size (xs++es)]} else none):=rfl
theorem a0n(f:Nat)(args:List SV)(H:List Blk)(shs:List Sh):(PT.call f args H shs k).ev Φ ρ=((SV.pvs ρ (b1b ρ H 3) args).bind fun ayq=>(Φ f ayq ρ.m).bind fun r=>(a0l shs r.1).bind fun x=>k.ev Φ {ρ.push x with m:=r.2}):=rfl
theorem a2l(n:Nat)(args:List SV)(shs:List Sh):(PT.callv n args shs k).ev Φ ρ=(match ρ.v[n]? with
  | some (.fn f cap)=>(SV.pvs ρ noOwn args).bind fun ayq=>(Φ f (ayq++cap) ρ.m).bind fun r=>(a0l shs r.1).bind fun x=>k.ev Φ {ρ.push x with m:=r.2}
  | _=>none):=rfl
theorem a5x(cs:List SV)(T:Nat):(PT.newM cs T k).ev Φ ρ=((SV.pvs ρ noOwn cs).bind fun l=>k.ev Φ {ρ with v:=ρ.v++[.ref ρ.m.length 0],m:=ρ.m++[.cells l T]}):=rfl
theorem a5K(n:IE)(zero:List SV)(T size bytes:Nat):(PT.mkM n zero T size bytes k).ev Φ ρ=((SV.pvs ρ noOwn zero).bind fun z =>
   if 0<=n.pe ρ/\n.pe ρ<=1000000/\bytes<=100000000 then k.ev Φ {ρ with v:=ρ.v++[.msl ρ.m.length 0 (n.pe ρ).toNat (n.pe ρ).toNat size],m:=ρ.m++[.cells (Q9 (n.pe ρ).toNat z).flatten T]} else none):=rfl
theorem a1P(a:SV)(cs:List SV):(PT.storeM a cs k).ev Φ ρ=(match a0p ρ a with
  | some (.obj h off)=>match ρ.m[h]? with
   | some (.cells l T)=>(SV.pvs ρ noOwn cs).bind fun new=>if off+new.length<=l.length then k.ev Φ {ρ with m:=ρ.m.set h (.cells (a2h l off new) T)} else none
   | _=>none
  | some (.elt h len i sz off)=>match ρ.m[h]? with
   | some (.row rows sz' T)=>if rows.length=len/\sz'=sz then(rows[i]?).bind fun r=>(SV.pvs ρ noOwn cs).bind fun new=>if off+new.length<=r.length/\new.all PV.one=true then k.ev Φ {ρ with m:=ρ.m.set h (.row (rows.set i (a2h r off new)) sz' T)} else none else none
   | _=>none
  | _=>none):=rfl
theorem a6r(d:SV)(src:Src)(size T:Nat):(PT.appM d src size T k).ev Φ ρ=((d.pv ρ noOwn).bind fun p=>(a0W ρ size src).bind fun es=>match p with
  | .nilS=>if es.length<=1000000 then(if es.length=0 then k.ev Φ {ρ with v:=ρ.v++[.nilS]} else k.ev Φ {ρ with v:=ρ.v++[.rsl ρ.m.length es.length size],m:=ρ.m++[.row es size T]}) else none
  | .rsl h len sz=>match ρ.m[h]? with
   | some (.row rows sz' T')=>if rows.length=len/\sz=size/\sz'=size/\T'=T/\len+es.length<=1000000 then
     (if es.length=0 then k.ev Φ {ρ with v:=ρ.v++[.rsl h len sz]} else k.ev Φ {ρ with v:=ρ.v++[.rsl h (len+es.length) size],m:=ρ.m.set h (.row (rows++es) size T)}) else none
   | _=>none
  | .msl h o len cap sz=>match ρ.m[h]? with
   | some (.cells l _)=>if len=cap/\sz=size/\len+es.length<=1000000 then(a4V size len (l.drop o)).bind fun rows =>
     if es.length=0 then k.ev Φ {ρ with v:=ρ.v++[.msl h o len cap sz]} else k.ev Φ {ρ with v:=ρ.v++[.rsl ρ.m.length (len+es.length) size],m:=ρ.m++[.row (rows++es) size T]} else none
   | _=>none
  | _=>none):=rfl
theorem a8P(K:IntKind):(PT.mkMap K k).ev Φ ρ=(k.ev Φ {ρ with v:=ρ.v++[.mp ρ.m.length],m:=ρ.m++[.mp [] [] K]}):=rfl
theorem a7k(n:Nat)(K:IntKind)(key:IE)(dflt:SV)(ok:Bool)(shs:List Sh):(PT.mapGet n K key dflt ok shs k).ev Φ ρ=(match ρ.v[n]? with
  | some (.mp h)=>match ρ.m[h]? with
   | some (.mp ks vs K')=>if K'=K then(dflt.pv ρ noOwn).bind fun d =>
     (a0l shs (if ok then .tup [(a2A ks vs (key.pe ρ)).getD d,.bool (a2A ks vs (key.pe ρ)).isSome] else(a2A ks vs (key.pe ρ)).getD d)).bind fun x=>k.ev Φ (ρ.push x) else none
   | _=>none
  | _=>none):=rfl
theorem a7i(n:Nat)(K:IntKind)(key:IE)(v:SV):(PT.mapSet n K key v k).ev Φ ρ=(match ρ.v[n]? with
  | some (.mp h)=>match ρ.m[h]? with
   | some (.mp ks vs K')=>if K'=K then(v.pv ρ noOwn).bind fun x=>k.ev Φ {ρ with m:=ρ.m.set h (.mp (a3R ks vs (key.pe ρ) x).1 (a3R ks vs (key.pe ρ) x).2 K)} else none
   | _=>none
  | _=>none):=rfl
theorem a7f(n:Nat):(PT.mapClr n k).ev Φ ρ=(match ρ.v[n]? with
  | some (.mp h)=>match ρ.m[h]? with
   | some (.mp _ _ K')=>k.ev Φ {ρ with m:=ρ.m.set h (.mp [] [] K')}
   | _=>none
  | _=>none):=rfl
theorem b9d(d x size:Nat):(PT.copyM d x size k).ev Φ ρ=(match ρ.v[d]? with
  | some (.msl h o len _ sz)=>match ρ.m[h]? with
   | some (.cells l T)=>(a5k ρ size x).bind fun sc=>if sz=size/\o+min sc.1 len*size<=l.length/\min sc.1 len*size<=sc.2.length/\sc.2.all PV.one=true then
     k.ev Φ {ρ.push ([((min sc.1 len:Nat):Int)],[],[]) with m:=ρ.m.set h (.cells (a2h l o (sc.2.take (min sc.1 len*size))) T)} else none
   | _=>none
  | _=>none):=rfl
theorem a0k(q:Nat)(is:List IE)(bs:List BE)(vs:List SV):(PT.jump q is bs vs).ev Φ ρ=((BE.all ρ bs).bind fun b=>(SV.pvs ρ noOwn vs).map fun v=>.jump q {i:=is.map (IE.pe ρ),b,v,m:=ρ.m,k:=ρ.k}):=rfl
end
theorem a1f{P:Program}{n:Nat}{t:TypeId}{k:IntKind}{ps:List PV}(hu:P.underlying t=some (.int k))(h:a1i P n t ps):∃z,ps=[.int k z]/\loI k<=z/\z<=hiI k:=by
 cases n with
 | zero=>exact h.elim
 | succ n=>simpa only[a1i,hu] using h
theorem c2p{P:Program}{n:Nat}{t:TypeId}{ps:List PV}(hu:P.underlying t=some .string)(h:a1i P n t ps):∃b,ps=[.str b]:=by
 cases n with
 | zero=>exact h.elim
 | succ n=>simpa only[a1i,hu] using h
theorem a4H{P:Program}{n:Nat}{t:TypeId}{fs:Array Field}{ps:List PV}(hu:P.underlying t=some (.struct fs))(h:a1i P n t ps):∃m,m<n/\a4g (a1i P m) (fs.toList.map (·.type)) ps:=by
 cases n with
 | zero=>exact h.elim
 | succ n=>exact⟨n,by omega,by simpa only[a1i,hu] using h⟩
theorem c5B{P:Program}{n:Nat}{t:TypeId}{k:Nat}{e:TypeId}{ps:List PV}(hu:P.underlying t=some (.array k e))(h:a1i P n t ps):∃m,m<n/\a4g (a1i P m) (Q9 k e) ps:=by
 cases n with
 | zero=>exact h.elim
 | succ n=>exact⟨n,by omega,by simpa only[a1i,hu] using h⟩
theorem b0Y{P:Program}{n:Nat}{t:TypeId}{e:TypeId}{ps:List PV}(hu:P.underlying t=some (.slice e))(h:a1i P n t ps):∃m rows,m<n/\ps=[.sl (P.cellsOf e) rows]/\∀r∈rows,a1i P m e r:=by
 cases n with
 | zero=>exact h.elim
 | succ n =>
  simp only[a1i,hu] at h;obtain⟨rows,h1,h2,_⟩:=h;exact⟨n,rows,by omega,h1,h2⟩
theorem lift_true{P:Program}{F:List PV->List MO->Option (PV×List MO)}{f:Nat}(hF:CtP P f F){ayq:List PV}(hev:F ayq []=some (.bool true,[])){W:World}{args:List Value}(hr:Reps (hpOf W) [] ayq args) :
  Calls P f args.toArray W fun e W'=>e=.returned (.bool true)/\Below W.heap.size W W':=by
 refine((hF ayq [] _ _ hev).2 (hpOf W) [] args rfl (Coh.of_none (by simp)) hr W (c6i W) ⟨List.nodup_nil,by simp,by simp⟩).mono fun e W' hh=>?_
 obtain⟨v,s',m',rfl,hg,_,_,_,_,_,_,hrep,_,_⟩:=hh;simp only[Rep] at hrep;subst hrep;exact⟨rfl,hg.os,hg.tape,hg.output,hg.size,fun k hk=>hg.block k hk (by simp[a0V])⟩
open Go.RowKit Go.Shelf
def c0O(P:Program)(f:FuncId)(T:TypeId)(sz:Nat):Prop :=
 ∀(w:World) (b off n c:Nat) (news:List Value),0<n->n<=1000000->news.length=n*sz->(∀(j:Nat) (u:Value),news[j]?=some u->w.cell? ⟨b,off+j,none⟩=some u)->(∀u∈news,u.oneCell'=true) ->
  Calls P f #[.slice (some ⟨b,off,none⟩) n c] w fun e w'=>∃v',e=.returned v'/\w'.ownsRow w.heap.size T sz v' n news/\Below w.heap.size w w'
def c2U(T sz:Nat):List PV->List MO->Option (PV×List MO)
 | [.msl h o len _ s'],σ=>match σ[h]? with
  | some (.cells l _)=>if s'=sz/\0<sz/\0<len/\len<=1000000 then(a4V sz len (l.drop o)).map fun rows=>(.rsl σ.length len sz,σ++[.row rows sz T]) else none
  | _=>none
 | _,_=>none
theorem c9F{P:Program}{f:FuncId}{T sz:Nat}(hD:c0O P f T sz)(ef:∀args w,(callFunc f args).run P w=.ok (.enter f args) w):CtP P f (c2U T sz):=by
 intro aa σ r σ' h;refine⟨ef,fun s m vs hm hcoh hv w hs hok=>?_⟩;unfold c2U at h;split at h
 case h_2=>cases h
 rename_i σ0 hd o len cap0 s';split at h
 case h_2=>cases h
 rename_i l T0 h0;split at h
 case isFalse=>cases h
 rename_i hc;obtain⟨rfl,hsz,hpos,hl6⟩:=hc;obtain⟨rows,hrows,h⟩:=Q2.1 h;simp only[Q3] at h;obtain⟨rfl,rfl⟩:=h;simp only[Reps,Rep] at hv;obtain⟨v1,_,rfl,⟨b,n0,k1,rfl⟩,rfl⟩:=hv;obtain⟨b',vs,g1,g2⟩:=hm.get h0;have hI:=a1r h0 g1;rw[hI] at k1;simp only[a1l,Q0,Q3] at k1;obtain⟨rfl,_⟩:=k1;obtain⟨xs,x1,x2,x3,x4,x5⟩:=b3n _ (g2.drop o) hrows;have hlx:xs.length=len:=by rw[x2.length];exact x4
 have hfl:xs.flatten.length=len*s':=by rw[a2G _ _ x1,hlx]
 have hb:=hok.is _ (Qq g1);simp only at hb
 have hcell:∀(j:Nat) (u:Value),xs.flatten[j]?=some u->w.cell? ⟨b',o+j,none⟩=some u:=by
  intro j u hj;have:=x5 j u hj;rw[Qf] at this;simp only[World.cell?,hb,XA,Qh,if_false];simpa using this
 have hcall:=hD w b' o len cap0 xs.flatten hpos hl6 hfl hcell (by
  intro u hu;obtain⟨x,hx,hu⟩:=List.mem_flatten.1 hu
  exact b7z x2 x3 x hx u hu)
 refine hcall.mono ?_;rintro e w' ⟨v',rfl,⟨hnl,hown⟩,hbel⟩;rcases hown with ⟨_,h0⟩|⟨g,cap',cur,rfl,hg,hblk,hc1,hc2,hc3,hc4⟩
 ·omega
 have hrep:EnvRep s {i:=[],b:=[],v:=[],m:=σ,k:=0} {i:=[],b:=[],v:=[],j:=[],m:=m,k:=0}:=⟨rfl,rfl,rfl,hm,rfl,by simp,hcoh⟩
 have hobj:a3k s (inf σ m) (.row rows s' T) (g,.cells cur T (0,0)):=by
  refine⟨cur,rfl,by intro h9;rw[h9] at x4;simp at x4;omega,hsz,⟨cap',hc3,by omega,hc2⟩,x3,xs,x2,x1,fun j u hj=>?_⟩;have hjl:j<len*s':=by rw[<- hfl];exact(Q4.1 hj).1
  rw[<- hc4,Qj,if_pos hjl] at hj;simpa using hj
 obtain⟨hle,he⟩:=hrep.newM hobj;have hml:=hm.length
 have hlt:∀b2 o u,s b2 o=some u->b2<w.heap.size:=by
  intro b2 o u hu;have hc:=hs b2 o u hu;simp only[World.cell?] at hc;cases hh:w.heap[b2]? with
  | none=>rw[hh] at hc;cases hc
  | some _=>exact(Xa.1 hh).1
 have hold:∀x∈m,x.1<w.heap.size:=fun x hx=>(Xa.1 (hok.is x hx)).1
 refine⟨_,s,m++[(g,.cells cur T (0,0))],rfl,⟨hbel.os,hbel.tape,hbel.output,hbel.size,fun k hk _=>hbel.block k hk⟩,Hp.le_refl s,?_,(fun b o u h1 h2=>by rw[h1] at h2;cases h2),⟨by simp,?_⟩,⟨?_,?_,?_⟩,hle,?_,he.m,he.coh⟩
 ·intro b2 o u hu
  have hc:=hs b2 o u hu;simp only[World.cell?,hbel.block b2 (hlt b2 o u hu)];exact hc
 ·intro i x hx
  by_cases hi:i<m.length
  ·rw[Q7 hi] at hx
   exact .inl ⟨x,hx,rfl⟩
  ·rw[Qd (by omega)] at hx
   have:x=(g,.cells cur T (0,0)):=by
    cases hk:i-m.length with
    | zero=>rw[hk] at hx;simpa using hx.symm
    | succ k=>rw[hk] at hx;simp at hx
   subst this;exact .inr hg
 ·unfold a0V
  rw[Xb,Xc];refine⟨hok.nd,by simp,fun a ha b hb=>?_⟩;obtain⟨x,hx,rfl⟩:=Qb.1 ha;have:=hold x hx;simp only[Qk,Xd,QH] at hb;omega
 ·intro x hx
  rcases Qe.1 hx with hx|hx
  ·rw[hbel.block _ (hold x hx)];exact hok.is x hx
  ·rw[QH.1 hx];exact hblk
 ·intro x hx o
  rcases Qe.1 hx with hx|hx
  ·exact hok.un x hx o
  ·rw[QH.1 hx]
   cases hu:s g o with
   | none=>rfl
   | some u=>have:=hlt g o u hu;omega
 ·have hget:(inf (σ++[.row rows s' T]) (m++[(g,.cells cur T (0,0))]))[σ.length]?=some (g,cur.size,len):=by
   have hA:(σ++[MO.row rows s' T])[σ.length]?=some (.row rows s' T):=by simp
   have hB:(m++[(g,Obj.cells cur T (0,0))])[σ.length]?=some (g,.cells cur T (0,0)):=by rw[<- hml];simp
   rw[a1r hA hB];simp only[a1l,a2X,x4]
  simp only[Rep];exact⟨hpos,g,cap',rfl,g,cur.size,len,hget,Qa _,fun _=>⟨rfl,hc3,hc1⟩⟩
open Go.RowKit
section
variable {P:Program}{f:Nat}{aa:List PV}{σ:List MO}
theorem CtD.swap{R:PV->List MO->Prop}(hct:CtD P f aa σ R){r:PV}{h:Nat}{l0 l1 l2:List PV}{T:Nat}{x y:MO}(h0:σ[h]?=some (.cells l0 T))(hlow:σ.all (MO.low σ.length)=true)
  (hx:x.low σ.length=true) (hy:y.low σ.length=true) (hr:r.low σ.length=true)
  (hl:∀(s:Hp) (B B':Inf) (vs:List Value),B.take σ.length <+: B'->B'[σ.length]?=B[σ.length+1]?->B'[σ.length+1]?=B[σ.length]?->Reps s B l2 vs->Reps s B' l1 vs)
  (hll:PV.lows (σ.length+2) l1=true)
  (hR:∀r' σ',R r' σ'->r'=r/\(σ'=σ.set h (.cells l1 T)++[x,y]\/σ'=σ.set h (.cells l2 T)++[y,x])):CtD P f aa σ (fun r' σ'=>r'=r/\σ'=σ.set h (.cells l1 T)++[x,y]):=by
 refine⟨hct.1,fun s m vs a b c w hs hm=>(hct.2 s m vs a b c w hs hm).mono ?_⟩;rintro e w' ⟨v,s',m',e1,e2,e3,e4,e5,e6,e7,r',σ',hr',hle,hrep,hrm,hcoh⟩;obtain⟨rfl,rfl|rfl⟩:=hR _ _ hr'
 ·exact⟨v,s',m',e1,e2,e3,e4,e5,e6,e7,_,_,⟨rfl,rfl⟩,hle,hrep,hrm,hcoh⟩
 have hlt:=(Q4.1 h0).1;have hml:m.length=σ.length:=a.length;have hm'l:m'.length=σ.length+2:=by simpa using hrm.length
 generalize hk:σ.length=k at *
 have hlt':h<σ.length:=by rw[hk];exact hlt
 have hgk:(σ.set h (.cells l2 T)++[y,x])[k]?=some y:=by rw[Qd (by simp[hk])];simp[hk]
 have hgk1:(σ.set h (.cells l2 T)++[y,x])[k+1]?=some x:=by rw[Qd (by simp[hk])];simp[hk]
 obtain⟨X,hX,oX⟩:=hrm.obj hgk;obtain⟨Y,hY,oY⟩:=hrm.obj hgk1
 have hm':m'=m'.take k++[X,Y]:=by
  conv=>lhs;rw[<- Qz k m']
  congr 1
  apply QP;intro i;rw[Qf]
  match i with
  | 0=>simpa using hX
  | 1=>simpa using hY
  | i+2=>rw[X9 (by omega)];simp
 generalize hm0:m'.take k=m0 at *
 have hm0l:m0.length=k:=by rw[<- hm0,Qn];omega
 subst hm';have hS1:(σ.set h (.cells l1 T)).length=m0.length:=by simp[hk,hm0l]
 have hS2:(σ.set h (.cells l2 T)).length=m0.length:=by simp[hk,hm0l]
 have hB2:inf (σ.set h (.cells l2 T)++[y,x]) (m0++[X,Y])=inf σ m0++[a1l y X,a1l x Y]:=by
  rw[<- c7F (m:=m0) h0 (o':=.cells l2 T) (fun _=>rfl)];unfold inf;rw[QY hS2];rfl
 have hB1:inf (σ.set h (.cells l1 T)++[x,y]) (m0++[Y,X])=inf σ m0++[a1l x Y,a1l y X]:=by
  rw[<- c7F (m:=m0) h0 (o':=.cells l1 T) (fun _=>rfl)];unfold inf;rw[QY hS1];rfl
 have hB0:(inf σ m0).length=k:=by simp[inf,hk,hm0l]
 rw[hB2] at hrep hrm oX oY
 have hpre:(inf σ m0++[a1l y X,a1l x Y]).take k <+: inf σ m0++[a1l x Y,a1l y X]:=by
  rw[Xe (by omega),X1 (by omega)];exact⟨_,rfl⟩
 have up:∀{o:MO} {z:Nat×Obj},a3k s' (inf σ m0++[a1l y X,a1l x Y]) o z->o.low k=true->a3k s' (inf σ m0++[a1l x Y,a1l y X]) o z:=fun h1 h2=>(MO.low_obj h1 h2).mono (fun _ _ _ h=>h) (BLe.pre hpre)
 have hgh:(σ.set h (.cells l2 T)++[y,x])[h]?=some (.cells l2 T):=by rw[Q7 (by simpa using hlt')];exact Qw hlt'
 obtain⟨Z,hZ,oZ⟩:=hrm.obj hgh;rw[Q7 (by omega)] at hZ
 have oZ1:a3k s' (inf σ m0++[a1l x Y,a1l y X]) (.cells l1 T) Z:=by
  obtain⟨vz,q1,q2⟩:=oZ;exact⟨vz,q1,hl s' _ _ _ hpre (by rw[Qd (by omega),Qd (by omega)];simp[hB0]) (by rw[Qd (by omega),Qd (by omega)];simp[hB0]) q2⟩
 have hrd:a0D s' (inf σ m0++[a1l x Y,a1l y X]) (σ.set h (.cells l1 T)) m0:=by
  have h1:=hrm.take k;rw[Xe (by simp[hk]),X1 (by simp[hk]),Xe (by omega),X1 (by omega)] at h1;have h2:=a0D.set (i:=h) (o:=.dead) (x:=Z) h1 (by simpa using hlt') trivial;rw[List.set_set,c5Z hZ] at h2
  have h3:(σ.set h .dead).all (MO.low k)=true:=List.all_eq_true.2 fun o ho=>by
   rcases QQ ho with ho|rfl
   ·exact List.all_eq_true.1 hlow o ho
   ·rfl
  have h4:=a0D.mono (fun _ _ _ h=>h) (BLe.pre hpre) _ _ (MO.low_rep _ _ h2 h3);have h5:=a0D.set (i:=h) (o:=.cells l1 T) (x:=Z) h4 (by simpa using hlt') oZ1
  rwa [List.set_set,c5Z hZ] at h5
 have g1:∀i,i<k->(m0++[Y,X])[i]?=(m0++[X,Y])[i]?:=fun i hi=>by rw[Q7 (by omega),Q7 (by omega)]
 have hperm:(m0++[Y,X]).Perm (m0++[X,Y]):=(List.Perm.swap X Y []).append_left m0;refine⟨v,s',m0++[Y,X],e1,e2,e3,e4,e5,⟨by simp;omega,?_⟩,⟨?_,?_,?_⟩,r',_,⟨rfl,rfl⟩,⟨?_,?_⟩,?_,?_,?_⟩
 ·intro i x' hi
  by_cases h1:i<k
  ·rw[g1 i h1] at hi;exact e6.2 i x' hi
  ·have hno:∀j,k<=j->m[j]?=none:=fun j hj=>X9 (by omega)
   rw[Qd (by omega)] at hi
   have h2:i-m0.length=0\/i-m0.length=1:=by
    have:=(Q4.1 hi).1;simp at this;omega
   rcases h2 with h2|h2
   ·rw[h2] at hi;simp only[QN,Q0] at hi;subst hi
    rcases e6.2 (k+1) Y hY with ⟨_,q,_⟩|q
    ·rw[hno _ (by omega)] at q;cases q
    ·exact .inr q
   ·rw[h2] at hi;simp only[List.getElem?_cons_succ,QN,Q0] at hi;subst hi
    rcases e6.2 k X hX with ⟨_,q,_⟩|q
    ·rw[hno _ (by omega)] at q;cases q
    ·exact .inr q
 ·exact(hperm.map _).nodup_iff.2 e7.nd
 ·exact fun z hz=>e7.is z (hperm.mem_iff.1 hz)
 ·exact fun z hz=>e7.un z (hperm.mem_iff.1 hz)
 ·rw[hB1]
  have:=hle.ble;rw[hB2] at this;intro i z hz;have hi:i<k:=by have:=(Q4.1 hz).1;simp[inf,hk] at this;omega
  obtain⟨z',q1,q2⟩:=this i z hz;exact⟨z',by rw[Q7 (by omega)] at q1 ⊢;exact q1,q2⟩
 ·intro i o ho
  have hi:i<k:=by have:=(Q4.1 ho).1;omega
  by_cases hih:i=h
  ·subst hih
   rw[h0] at ho;simp only[Q0] at ho;subst ho;exact⟨.cells l1 T,by rw[Q7 (by simp[hk];exact hi)];exact Qw hlt',trivial⟩
  ·obtain⟨o',k1,k2⟩:=hle.stay i o ho
   rw[Q7 (by simp[hk];exact hi),Qs (Ne.symm hih)] at k1;exact⟨o',by rw[Q7 (by simp[hk];exact hi),Qs (Ne.symm hih)];exact k1,by rw[g1 i hi];exact k2⟩
 ·rw[hB1]
  exact Rep.mono (fun _ _ _ h=>h) (BLe.pre hpre) _ _ (PV.low_rep _ _ hrep hr)
 ·rw[hB1]
  refine a0D.append hrd (a2q.2 ⟨_,_,rfl,up oY hx,a2q.2 ⟨_,_,rfl,up oX hy,rfl⟩⟩)
 ·refine d2W (k:=k+2) (List.all_eq_true.2 fun o ho=>?_)
  rcases Qe.1 ho with ho|ho
  ·rcases QQ ho with ho|rfl
   ·exact MO.low_mono (by omega) (List.all_eq_true.1 hlow o ho)
   ·exact hll
  ·simp only[Q8,X3,or_false] at ho
   rcases ho with rfl|rfl
   ·exact MO.low_mono (by omega) hx
   ·exact MO.low_mono (by omega) hy
end
end Go.Sx
namespace Go.Bf
def upd{α:Type}(f:Nat->α)(b:Nat)(x:α):Nat->α:=fun i=>if i=b then x else f i
theorem a3X{α:Type}(f:Nat->α)(b:Nat)(x:α):upd f b x b=x:=if_pos rfl
theorem a1V{α:Type}(f:Nat->α){b i:Nat}(x:α)(h:i≠b):upd f b x i=f i:=if_neg h
structure Inv (n:Nat)(g:Nat->Nat->Int)(v f:Nat->Int)(c t:Nat->Nat)(T r a b:Nat):Prop where
 par:∀x,x<n->c x≠0->∃p:Nat,p<n/\f x=(p:Int)/\p≠x/\v p+g p x<=v x/\(t x<t p->v p+g p x<v x)/\c x<=c p+1
 uniq:∀x y,x<n->y<n->c x≠0->c y≠0->t x=t y->x=y
 tle:∀x,x<n->t x<=T
 cle:∀x,x<n->c x<=r
 done:∀x y,x<n->y<n->(x<a\/(x=a/\y<b))->v y<=v x+g x y\/c x=r
 todo:∀x y,x<n->y<n->v y<=v x+g x y\/r<=c x+1
 low:∀x,x<n->-(24000000*(T:Int))<=v x/\v x<=0
variable {n:Nat}{g:Nat->Nat->Int}{v f:Nat->Int}{c t:Nat->Nat}{T r a b:Nat}
theorem Inv.start(n:Nat)(g:Nat->Nat->Int)(v f:Nat->Int)(hv:∀x,x<n->v x=0):Inv n g v f (fun _=>0) (fun _=>0) 0 1 0 0 where
 par:=fun x _ h=>absurd rfl h
 uniq:=fun x y _ _ h=>absurd rfl h
 tle:=fun x _=>Qa _
 cle:=fun x _=>Nat.zero_le _
 done:=fun x y _ _ h=>by omega
 todo:=fun x y _ _=>.inr (by omega)
 low:=fun x hx=>by rw[hv x hx];omega
theorem Inv.keep(h:Inv n g v f c t T r a b)(hb:v b<=v a+g a b):Inv n g v f c t (T+1) r a (b+1) where
 par:=h.par
 uniq:=h.uniq
 tle:=fun x hx=>XC (h.tle x hx)
 cle:=h.cle
 done:=fun x y hx hy hd=>by
  by_cases hy2:x=a/\y=b
  ·obtain⟨rfl,rfl⟩:=hy2;exact .inl hb
  ·exact h.done x y hx hy (by omega)
 todo:=h.todo
 low:=fun x hx=>by have:=h.low x hx;omega
theorem Inv.lower(h:Inv n g v f c t T r a b)(ha:a<n)(hbn:b<n)(hr:1<=r)(hg:-24000000<=g a b)(hd:g a a=0)(hb:v a+g a b<v b) :
  Inv n g (upd v b (v a+g a b)) (upd f b (a:Int)) (upd c b r) (upd t b (T+1)) (T+1) r a (b+1):=by
 have hab:a≠b:=by rintro rfl;omega
 have hcr:r<=c a+1:=by
  rcases h.todo a b ha hbn with h1|h1
  ·omega
  ·exact h1
 refine⟨?_,?_,?_,?_,?_,?_,?_⟩
 ·intro x hx hcx
  by_cases hxb:x=b
  ·subst hxb
   refine⟨a,ha,a3X _ _ _,hab,?_,?_,?_⟩
   ·rw[a3X,a1V v _ hab];omega
   ·intro ht
    rw[a3X,a1V t _ hab] at ht;have:=h.tle a ha;omega
   ·rw[a3X,a1V c _ hab];exact hcr
  ·rw[a1V c _ hxb] at hcx
   obtain⟨p,p1,p2,p3,p4,p5,p6⟩:=h.par x hx hcx;refine⟨p,p1,by rw[a1V f _ hxb];exact p2,p3,?_,?_,?_⟩
   ·rw[a1V v _ hxb]
    by_cases hpb:p=b
    ·subst hpb;rw[a3X];omega
    ·rw[a1V v _ hpb];exact p4
   ·rw[a1V v _ hxb,a1V t _ hxb]
    by_cases hpb:p=b
    ·subst hpb;rw[a3X,a3X];intro _;omega
    ·rw[a1V v _ hpb,a1V t _ hpb];exact p5
   ·rw[a1V c _ hxb]
    by_cases hpb:p=b
    ·subst hpb;rw[a3X];have:=h.cle x hx;omega
    ·rw[a1V c _ hpb];exact p6
 ·intro x y hx hy hcx hcy ht
  by_cases hxb:x=b
  ·by_cases hyb:y=b
   ·omega
   ·rw[hxb,a3X,a1V t _ hyb] at ht
    have:=h.tle y hy;omega
  ·by_cases hyb:y=b
   ·rw[hyb,a3X,a1V t _ hxb] at ht
    have:=h.tle x hx;omega
   ·rw[a1V t _ hxb,a1V t _ hyb] at ht
    rw[a1V c _ hxb] at hcx;rw[a1V c _ hyb] at hcy;exact h.uniq x y hx hy hcx hcy ht
 ·intro x hx
  by_cases hxb:x=b
  ·rw[hxb,a3X];omega
  ·rw[a1V t _ hxb];have:=h.tle x hx;omega
 ·intro x hx
  by_cases hxb:x=b
  ·rw[hxb,a3X];omega
  ·rw[a1V c _ hxb];exact h.cle x hx
 ·intro x y hx hy hdn
  by_cases hxb:x=b
  ·right;rw[hxb,a3X]
  ·rw[a1V c _ hxb,a1V v _ hxb]
   by_cases hyb:y=b
   ·subst hyb
    rw[a3X];by_cases hxa:x=a
    ·subst hxa;left;omega
    ·rcases h.done x y hx hy (by omega) with h1|h1
     ·left;omega
     ·exact .inr h1
   ·rw[a1V v _ hyb]
    exact h.done x y hx hy (by omega)
 ·intro x y hx hy
  by_cases hxb:x=b
  ·right;rw[hxb,a3X];omega
  ·rw[a1V c _ hxb,a1V v _ hxb]
   by_cases hyb:y=b
   ·subst hyb
    rw[a3X];rcases h.todo x y hx hy with h1|h1
    ·left;omega
    ·exact .inr h1
   ·rw[a1V v _ hyb];exact h.todo x y hx hy
 ·intro x hx
  have h1:=h.low a ha;have h2:=h.low b hbn;by_cases hxb:x=b
  ·rw[hxb,a3X];omega
  ·rw[a1V v _ hxb];have:=h.low x hx;omega
theorem Inv.row(h:Inv n g v f c t T r a n):Inv n g v f c t T r (a+1) 0 where
 par:=h.par
 uniq:=h.uniq
 tle:=h.tle
 cle:=h.cle
 done:=fun x y hx hy hd=>h.done x y hx hy (by omega)
 todo:=h.todo
 low:=h.low
theorem Inv.round(h:Inv n g v f c t T r n 0):Inv n g v f c t T (r+1) 0 0 where
 par:=h.par
 uniq:=h.uniq
 tle:=h.tle
 cle:=fun x hx=>XC (h.cle x hx)
 done:=fun x y hx hy hd=>by omega
 todo:=fun x y hx hy=>by
  rcases h.done x y hx hy (.inl hx) with h1|h1
  ·exact .inl h1
  ·right;omega
 low:=h.low
theorem Inv.stable(h:Inv n g v f c t T r n 0)(hc:∀x,x<n->c x≠r):∀x y,x<n->y<n->v y<=v x+g x y:=by
 intro x y hx hy;rcases h.done x y hx hy (.inl hx) with h1|h1
 ·exact h1
 ·exact absurd h1 (hc x hx)
theorem few:∀(n:Nat) (l:List Nat),l.Nodup->(∀x∈l,x<n)->l.length<=n
 | 0,l,_,h=>by
  cases l with
  | nil=>exact Qa _
  | cons x l=>exact absurd (h x (Xw)) (by omega)
 | n+1,l,hn,h=>by
  have h1:=few n (l.erase n) (hn.erase n) (fun x hx=>by
   have h2:=(hn.mem_erase_iff).1 hx;have:=h x h2.2;have:=h2.1
   omega)
  by_cases hm:n∈l
  ·have:=List.length_erase_of_mem hm;omega
  ·rw[List.erase_of_not_mem hm] at h1;omega
def a0q(f:Nat->Int)(z:Nat):Nat->Nat
 | 0=>z
 | i+1=>(f (a0q f z i)).toNat
structure Fin (n:Nat)(g:Nat->Nat->Int)(v f:Nat->Int)(c t:Nat->Nat)(z:Nat):Prop where
 par:∀x,x<n->c x≠0->∃p:Nat,p<n/\f x=(p:Int)/\p≠x/\v p+g p x<=v x/\(t x<t p->v p+g p x<v x)/\c x<=c p+1
 uniq:∀x y,x<n->y<n->c x≠0->c y≠0->t x=t y->x=y
 hz:z<n
 cz:n<=c z
variable {z:Nat}
theorem Fin.at_lt(h:Fin n g v f c t z):∀i,i<=n->a0q f z i<n/\n<=c (a0q f z i)+i
 | 0,_=>⟨h.hz,h.cz⟩
 | i+1,hi=>by
  obtain⟨h1,h2⟩:=h.at_lt i (by omega);obtain⟨p,p1,p2,_,_,_,p6⟩:=h.par _ h1 (by omega);simp only[a0q,p2,XD];exact⟨p1,by omega⟩
theorem Fin.link(h:Fin n g v f c t z){i:Nat}(hi:i<n):f (a0q f z i)=(a0q f z (i+1):Int)/\a0q f z (i+1)≠a0q f z i /\
  v (a0q f z (i+1))+g (a0q f z (i+1)) (a0q f z i)<=v (a0q f z i) /\
  (t (a0q f z i)<t (a0q f z (i+1))->v (a0q f z (i+1))+g (a0q f z (i+1)) (a0q f z i)<v (a0q f z i))/\c (a0q f z i)≠0:=by
 obtain⟨h1,h2⟩:=h.at_lt i (by omega);obtain⟨p,p1,p2,p3,p4,p5,p6⟩:=h.par _ h1 (by omega);simp only[a0q,p2,XD,true_and];exact⟨p3,p4,p5,by omega⟩
theorem Fin.short(h:Fin n g v f c t z){k:Nat}(hk:k<=n)(hn:((QJ k).map (a0q f z)).Nodup)(hx:a0q f z k∉(QJ k).map (a0q f z)):k<n:=by
 have hk1:((QJ (k+1)).map (a0q f z)).Nodup:=by
  rw[XE,Xb,Xc];refine⟨hn,by simp,?_⟩;intro a ha b hb;simp only[Qk,Xd,QH] at hb;rintro rfl;subst hb;exact hx ha
 have:=few n _ hk1 (fun x hx=>by
  obtain⟨i,hi,rfl⟩:=Qb.1 hx
  exact(h.at_lt i (by have:=Xf.1 hi;omega)).1)
 have h2:k+1<=n:=by simpa using this
 exact h2
theorem Fin.strict(h:Fin n g v f c t z){j k:Nat}(hjk:j<k)(hk:k<=n)(e:a0q f z k=a0q f z j):∃i,j<=i/\i<k/\v (a0q f z (i+1))+g (a0q f z (i+1)) (a0q f z i)<v (a0q f z i):=by
 refine Classical.byContradiction fun hne=>?_
 have hle:∀i,j<=i->i<k->t (a0q f z (i+1))<=t (a0q f z i):=fun i h1 h2=>by
  refine Nat.le_of_not_lt fun hlt=>hne ⟨i,h1,h2,(h.link (by omega)).2.2.2.1 hlt⟩
 have hdown:∀d i,j<=i->i+d<=k->t (a0q f z (i+d))<=t (a0q f z i):=by
  intro d
  induction d with
  | zero=>intro i _ _;exact Qa _
  | succ d ih =>
   intro i h1 h2;have:=ih i h1 (by omega);have:=hle (i+d) (by omega) (by omega);rw[show i+(d+1)=i+d+1 from rfl];omega
 have e1:=hle j (Qa _) hjk;have e2:=hdown (k-(j+1)) (j+1) (by omega) (by omega);rw[show j+1+(k-(j+1))=k by omega,e] at e2;have hte:t (a0q f z (j+1))=t (a0q f z j):=by omega
 have l0:=h.link (i:=j) (by omega);have a0:=h.at_lt j (by omega);have a1:=h.at_lt (j+1) (by omega)
 have hc1:c (a0q f z (j+1))≠0:=by
  by_cases hj:j+1<n
  ·exact(h.link hj).2.2.2.2
  ·have:k=j+1:=by omega
   subst this;rw[e];exact l0.2.2.2.2
 exact l0.2.1 (h.uniq _ _ a1.1 a0.1 hc1 l0.2.2.2.2 hte)
theorem Fin.closes(h:Fin n g v f c t z):∃j k,j<k/\k<=n/\a0q f z k=a0q f z j:=by
 refine Classical.byContradiction fun hne=>?_
 have nd:∀k,k<=n+1->((QJ k).map (a0q f z)).Nodup:=by
  intro k
  induction k with
  | zero=>intro _;simp
  | succ k ih =>
   intro hk;rw[XE,Xb,Xc];refine⟨ih (by omega),by simp,?_⟩;intro a ha b hb;simp only[Qk,Xd,QH] at hb;rintro rfl;subst hb;obtain⟨i,hi,e⟩:=Qb.1 ha;have:=Xf.1 hi;exact hne ⟨i,k,this,by omega,e.symm⟩
 have:=few n _ (nd (n+1) (Qa _)) (fun x hx=>by
  obtain⟨i,hi,rfl⟩:=Qb.1 hx
  exact(h.at_lt i (by have:=Xf.1 hi;omega)).1)
 rw[QA,List.length_range] at this;omega
theorem Fin.none(h:Fin n g v f c t z)(π:Nat->Int)(hp:∀x y,x<n->y<n->π y<=π x+g x y):False:=by
 obtain⟨j,k,hjk,hk,e⟩:=h.closes;obtain⟨i,h1,h2,h3⟩:=h.strict hjk hk e
 have hle:∀m,m<k->v (a0q f z (m+1))-π (a0q f z (m+1))<=v (a0q f z m)-π (a0q f z m):=fun m hm=>by
  have l0:=h.link (i:=m) (by omega);have:=hp _ _ (h.at_lt (m+1) (by omega)).1 (h.at_lt m (by omega)).1;omega
 have hdown:∀d m,m+d<=k->v (a0q f z (m+d))-π (a0q f z (m+d))<=v (a0q f z m)-π (a0q f z m):=by
  intro d
  induction d with
  | zero=>intro m _;exact Int.le_refl _
  | succ d ih =>
   intro m h2;have:=ih m (by omega);have:=hle (m+d) (by omega);rw[show m+(d+1)=m+d+1 from rfl];omega
 have d1:=hdown (i-j) j (by omega);have d2:=hdown (k-(i+1)) (i+1) (by omega);have:=hp _ _ (h.at_lt (i+1) (by omega)).1 (h.at_lt i (by omega)).1;rw[show j+(i-j)=i by omega] at d1;rw[show i+1+(k-(i+1))=k by omega,e] at d2;omega
end Go.Bf
namespace Go.Sx
def a0O(l:List Int):List PV:=l.map (PV.int .i64)
def a2o(l:List Int):List (List PV):=l.map fun z=>[.int .i64 z]
theorem b2j(l:List Int):(a0O l).length=l.length:=by simp[a0O]
theorem a6T{l:List Int}{i:Nat}{z:Int}(h:l[i]?=some z):List.drop i (a0O l)=.int .i64 z::a0O (l.drop (i+1)):=by
 unfold a0O;rw[<- List.map_drop,a5T h];rfl
theorem b2q{l:List Int}{i:Nat}(z:Int)(h:i<l.length):a2h (a0O l) i [.int .i64 z]=a0O (l.set i z):=by
 unfold a2h a0O;rw[List.set_eq_take_append_cons_drop,if_pos h];simp[List.map_drop,List.map_take]
theorem c4P(n:Nat)(z:Int):(Q9 n [PV.int .i64 z]).flatten=a0O (Q9 n z):=by
 induction n with
 | zero=>rfl
 | succ n ih=>rw[QC,QX,ih];rfl
theorem a5h{i len h o cap sz off:Nat}(hi:i<len):a3E (i:Int) sz off (.msl h o len cap sz)=some (.obj h (o+(i*sz+off))):=by
 simp[a3E,hi]
theorem c9l{i len h sz off:Nat}(hi:i<len):a3E (i:Int) sz off (.rsl h len sz)=some (.elt h len i sz off):=by
 simp[a3E,hi]
theorem c2H(k:Nat)(l:List Int):PV.lows k (a0O l)=true:=by
 induction l with
 | nil=>rfl
 | cons z l ih=>simpa[a0O,PV.lows,PV.low] using ih
theorem c3e(k:Nat)(look:Nat->Option MO)(l:List Int):PV.frzs k look (a0O l)=some (a0O l):=PV.frzs_low _ (c2H k l)
theorem c1b(l:List Int):a4V 1 l.length (a0O l)=some (a2o l):=by
 induction l with
 | nil=>rfl
 | cons z l ih =>
  have e1:a0O (z::l)=PV.int .i64 z::a0O l:=rfl;rw[Qt,a4V,e1];have e2:List.drop 1 (PV.int .i64 z::a0O l)=a0O l:=rfl;have e3:List.take 1 (PV.int .i64 z::a0O l)=[PV.int .i64 z]:=rfl;rw[e2,e3,ih,if_pos ⟨by simp,by simp[PV.one]⟩];rfl
def b1a(σ:List MO):Prop:=∀k,σ.length<=k->σ.all (MO.low k)=true
theorem b1a.snoc{σ:List MO}(h:b1a σ)(l:List Int)(T:Nat):b1a (σ++[.cells (a0O l) T]):=fun k hk=>by
 rw[List.all_append,h k (by simp at hk;omega)];simp[MO.low,c2H]
theorem d2s{α:Type}(σ:List α)(A B C:α)(r:List α):(σ++A::B::C::r)[σ.length+2]?=some C:=by
 rw[Qd (by omega)];simp
theorem d4J{α:Type}(σ:List α)(A B C X:α)(r:List α):(σ++A::B::C::r).set (σ.length+2) X=σ++A::B::X::r:=by
 rw[Xz _ _ (by omega)];simp
theorem c7P{α:Type}{σ r:List α}{h:Nat}{A:α}(e:σ[h]?=some A):(σ++r)[h]?=some A:=by
 rw[Q7 (Q4.1 e).1];exact e
theorem b9k(ks:List Int)(x:PV)(z:Int):a2A ks (Q9 ks.length x) z=if z∈ks then some x else none:=by
 induction ks with
 | nil=>rfl
 | cons k ks ih =>
  rw[Qt,QC,a2A,ih];by_cases h:k=z
  ·subst h;simp
  ·have:¬z=k:=fun e=>h e.symm
   simp[h,this]
theorem c6p(ks:List Int)(x:PV)(z:Int)(h:z∉ks):a3R ks (Q9 ks.length x) z x=(ks++[z],Q9 (ks.length+1) x):=by
 induction ks with
 | nil=>rfl
 | cons k ks ih =>
  rw[Q8,not_or] at h;have:¬k=z:=fun e=>h.1 e.symm
  rw[Qt,QC,a3R,ih h.2,if_neg this];simp[QC]
def at'(l:List Int)(i:Nat):Int:=(l[i]?).getD 0
theorem a9c{l:List Int}{i:Nat}(h:i<l.length):l[i]?=some (at' l i):=by simp[at',h]
theorem d3g{l:List Int}{b:Nat}(x:Int)(h:b<l.length)(i:Nat):at' (l.set b x) i=if i=b then x else at' l i:=by
 simp only[at',Qy];by_cases e:b=i
 ·subst e;simp[h]
 ·have:¬i=b:=fun q=>e q.symm
  simp[e,this]
theorem c5w{α:Type}(l:List α):l.take l.length=l:=by simp
theorem a1q(i:Nat):((i+1:Nat):Int)=(i:Int)+1:=by omega
theorem a1C(n:Nat)(r:List (List PV)):(PV.sl n r).rowsOf n=some r:=by simp[PV.rowsOf]
theorem b6z:(1:Nat)<=1000000:=by decide
theorem le0(i:Nat):leB 0 (i:Int)=true:=by simp[leB]
theorem a3I{i:Nat}(h:i<=1000000000):(leB (-9223372036854775808) ((i:Int)+1)&&leB ((i:Int)+1) 9223372036854775807)=true:=by simp[leB];omega
theorem a0C{z:Int}(h:-9000000000000000000<=z/\z<=9000000000000000000):(leB (-9223372036854775808) z&&leB z 9223372036854775807)=true:=by simp[leB];omega
theorem a0U{α:Type}{l:List α}{i:Nat}(h:i<l.length):∃x,l[i]?=some x:=⟨_,QK h⟩
end Go.Sx
namespace Go.Bf
structure EInv (n m:Nat)(src dst:Nat->Nat)(ed:Nat->Prop)(wt:Nat->Int)(u:Nat->Int)(c t pe:Nat->Nat)(T r q:Nat):Prop where
 par:∀x,x<n->c x≠0->pe x<m/\ed (pe x)/\dst (pe x)=x/\src (pe x)<n/\src (pe x)≠x/\u (src (pe x))+wt (pe x)<=u x/\(t x<t (src (pe x))->u (src (pe x))+wt (pe x)<u x)/\c x<=c (src (pe x))+1
 uniq:∀x y,x<n->y<n->c x≠0->c y≠0->t x=t y->x=y
 tle:∀x,x<n->t x<=T
 cle:∀x,x<n->c x<=r
 done:∀e,e<q->ed e->u (dst e)<=u (src e)+wt e\/c (src e)=r
 todo:∀e,e<m->ed e->u (dst e)<=u (src e)+wt e\/r<=c (src e)+1
 low:∀x,x<n->-(24000000*(T:Int))<=u x/\u x<=0
section
variable {n m:Nat}{src dst:Nat->Nat}{ed:Nat->Prop}{wt:Nat->Int}{u:Nat->Int}{c t pe:Nat->Nat}{T r q:Nat}
end
end Go.Bf
namespace Go.Sx
open Go.RowKit
mutual
def PV.plain:PV->Bool
 | .int ..|.bool ..|.str ..|.undef|.nilS|.nilF|.nilP|.nilI|.nilM=>true
 | .agg l=>PV.plains l
 | .tup l=>PV.plains l
 | _=>false
def PV.plains:List PV->Bool
 | []=>true
 | p::l=>p.plain&&PV.plains l
end
mutual
theorem c4w{s t:Hp}{B C:Inf}:∀(p:PV) (v:Value),p.plain=true->Rep s B p v->Rep t C p v
 | .int ..,_,_,h=>h
 | .bool ..,_,_,h=>h
 | .str ..,_,_,h=>h
 | .undef,_,_,h=>h
 | .nilS,_,_,h=>h
 | .nilF,_,_,h=>h
 | .nilP,_,_,h=>h
 | .nilI,_,_,h=>h
 | .nilM,_,_,h=>h
 | .agg l,v,hp,h=>by
  simp only[PV.plain] at hp;simp only[Rep] at h ⊢;obtain⟨vs,h1,h2⟩:=h;exact⟨vs,h1,b7B l vs hp h2⟩
 | .tup l,v,hp,h=>by
  simp only[PV.plain] at hp;simp only[Rep] at h ⊢;obtain⟨vs,h1,h2⟩:=h;exact⟨vs,h1,b7B l vs hp h2⟩
theorem b7B{s t:Hp}{B C:Inf}:∀(l:List PV) (vs:List Value),PV.plains l=true->Reps s B l vs->Reps t C l vs
 | [],_,_,h=>h
 | p::l,vs,hp,h=>by
  simp only[PV.plains,Q6] at hp;simp only[Reps] at h ⊢;obtain⟨v,r,h1,h2,h3⟩:=h;exact⟨v,r,h1,c4w p v hp.1 h2,b7B l r hp.2 h3⟩
end
def c8G(σ:List MO):PV->Option PV
 | .rsl h len sz=>(σ[h]?).bind fun o=>(o.elts len sz).bind fun rows=>if PV.lowss 0 rows then some (.sl sz rows) else none
 | .rpl h len r sz=>(σ[h]?).bind fun o=>(o.elts r sz).bind fun rows=>if PV.lowss 0 rows then some (.sl sz (rows.take len)) else none
 | p=>if p.low 0 then some p else none
def b6I(σ:List MO):List PV->Option (List PV)
 | []=>some []
 | p::l=>(c8G σ p).bind fun q=>(b6I σ l).map (q::·)
theorem c4q{s:Hp}{B:Inf}{σ:List MO}{m:MS}{w:World}(hm:a0D s B σ m)(hok:MOk s m w){h len sz:Nat}{o:MO}{rows:List (List PV)}(ho:σ[h]?=some o)(he:o.elts len sz=some rows) :
  ∃b cur T xs,m[h]?=some (b,.cells cur T (0,0))/\rows.length=len/\a1l o (b,.cells cur T (0,0))=(b,cur.size,len)/\a0B s B rows xs/\(∀r∈rows,∀p∈r,p.one=true)/\(∀x∈xs,x.length=sz)/\(∀(i:Nat) x,xs[i]?=some x->∀(j:Nat) u,x[j]?=some u->hpOf w b (0+i*sz+j)=some u):=by
 cases o<;>simp only[MO.elts,reduceCtorEq] at he
 rename_i rows' sz' T;split at he
 case isFalse=>cases he
 rename_i hc;obtain⟨rfl,rfl⟩:=hc;simp only[Q0] at he;subst he;obtain⟨⟨b,ob⟩,h1,cur,h2,a1,a2,a3,a4,xs,a5,a6,a7⟩:=hm.obj ho;simp only at h2;subst h2;refine⟨b,cur,T,xs,h1,rfl,rfl,a5,a4,a6,fun i x hi j u hj=>?_⟩;have hcell:=hok.is _ (Qq h1);simp only at hcell;have:=a7 _ u (a7A _ xs a6 i x j u hi hj);simp only[hpOf,World.cell?,hcell,Qm,XA,Qh,if_false];exact this
theorem d1B{s:Hp}{B:Inf}{w:World}(hs:Sub s w){p:PV}{v:Value}(h:Rep s B p v)(hl:p.low 0=true):Rep (hpOf w) [] p v:=by
 have:=PV.low_rep (k:=0) p v h hl;rw[XF] at this;exact Rep.mono (fun b o u hu=>hs b o u hu) (BLe.refl _) p v this
theorem c3p{s:Hp}{B:Inf}{w:World}(hs:Sub s w){rows:List (List PV)}{xs:List (List Value)}(h:a0B s B rows xs)(hl:PV.lowss 0 rows=true):a0B (hpOf w) [] rows xs:=by
 have:=PV.lowss_rep (k:=0) rows xs h hl;rw[XF] at this;exact a0B.mono (fun b o u hu=>hs b o u hu) (BLe.refl _) rows xs this
theorem c9x{s:Hp}{σ:List MO}{m:MS}{w:World}(hs:Sub s w)(hok:MOk s m w)(hm:a0D s (inf σ m) σ m){p q:PV}{v:Value}(h:Rep s (inf σ m) p v)(hq:c8G σ p=some q):Rep (hpOf w) [] q v:=by
 have other:(if p.low 0 then some p else none)=some q->Rep (hpOf w) [] q v:=fun hq=>by
  split at hq
  ·rename_i hl
   simp only[Q0] at hq;subst hq;exact d1B hs h hl
  ·cases hq
 cases p<;>simp only[c8G] at hq
 case rsl hd len sz =>
  simp only[Q1] at hq;obtain⟨o,ho,rows,he,hq⟩:=hq;split at hq
  case isFalse=>cases hq
  rename_i hl;simp only[Q0] at hq;subst hq;obtain⟨b,cur,T,xs,h1,h2,h3,h4,h5,h6,h7⟩:=c4q hm hok ho he;have hI:=a1r ho h1;simp only[Rep] at h ⊢;obtain⟨h0,b1,cap,rfl,b',n,r,k1,k2,k3⟩:=h;rw[hI,h3] at k1;simp only[Q0,Q3] at k1;obtain⟨rfl,rfl,rfl⟩:=k1;obtain⟨rfl,_,hcap⟩:=k3 rfl;have hlx:=h4.length;exact⟨xs,⟨h6,some ⟨b,0,none⟩,cap,by rw[hlx,h2],by rw[hlx,h2];exact hcap,fun _=>⟨b,0,rfl,h7⟩⟩,c3p hs h4 hl,h5⟩
 case rpl hd len r0 sz =>
  simp only[Q1] at hq;obtain⟨o,ho,rows,he,hq⟩:=hq;split at hq
  case isFalse=>cases hq
  rename_i hl;simp only[Q0] at hq;subst hq;obtain⟨b,cur,T,xs,h1,h2,h3,h4,h5,h6,h7⟩:=c4q hm hok ho he;have hI:=a1r ho h1;simp only[Rep] at h ⊢;obtain⟨h0,hlr,b1,cap,rfl,b',n,r,k1,k2,k3⟩:=h;rw[hI,h3] at k1;simp only[Q0,Q3] at k1;obtain⟨rfl,rfl,rfl⟩:=k1;obtain⟨rfl,_,hcap⟩:=k3 rfl;have hlx:=h4.length;refine⟨xs.take len,⟨fun x hx=>h6 x (Qr hx),some ⟨b,0,none⟩,cap,by rw[Qn,hlx,h2,QW hlr],by rw[Qn,hlx];omega,fun _=>⟨b,0,rfl,fun i x hi j u hj=>?_⟩⟩,(c3p hs h4 hl).take len,fun r hr=>h5 r (Qr hr)⟩
  have hi':xs[i]?=some x:=by
   rw[Qj] at hi;split at hi
   ·exact hi
   ·cases hi
  exact h7 i x hi' j u hj
 all_goals exact other hq
theorem c2B{s:Hp}{σ:List MO}{m:MS}{w:World}(hs:Sub s w)(hok:MOk s m w)(hm:a0D s (inf σ m) σ m):∀{l q:List PV} {vs:List Value},Reps s (inf σ m) l vs->b6I σ l=some q->Reps (hpOf w) [] q vs
 | [],q,vs,h,hq=>by simp only[b6I,Q0] at hq;subst hq;exact h
 | p::l,q,vs,h,hq=>by
  simp only[b6I,Q1,Q2] at hq;obtain⟨p',h1,l',h2,rfl⟩:=hq;simp only[Reps] at h ⊢;obtain⟨v,r,h3,h4,h5⟩:=h;exact⟨v,r,h3,c9x hs hok hm h4 h1,c2B hs hok hm h5 h2⟩
def c5t(F:List PV->List MO->Option (PV×List MO))(aa:List PV)(σ:List MO):Option (PV×List MO) :=
 (b6I σ aa).bind fun aa'=>match F aa' [] with
  | some (r,[])=>if r.plain=true then some (r,σ) else none
  | _=>none
theorem d2A{P:Program}{f:Nat}{F:List PV->List MO->Option (PV×List MO)}(hF:CtP P f F):CtP P f (c5t F):=by
 intro aa σ r σ' h;unfold c5t at h;rw[Q1] at h;obtain⟨aa',ha,h⟩:=h;split at h
 case h_2=>cases h
 rename_i r0 hr;split at h
 case isFalse=>cases h
 rename_i hp;simp only[Q0,Q3] at h;obtain⟨rfl,rfl⟩:=h;refine⟨(hF _ _ _ _ hr).1,fun s m vs hm hcoh hv w hs hok=>?_⟩;have hrep:=c2B hs hok hm hv ha;have hc:=(hF _ _ _ _ hr).2 (hpOf w) [] vs rfl (Coh.of_none (by simp)) hrep w (c6i w) ⟨by simp[a0V],by simp,by simp⟩;refine hc.mono ?_;rintro e w' ⟨v,s',m',he,hg,hle,hsub,hnew,hpos,hmok,hq⟩;refine⟨v,s,m,he,⟨hg.os,hg.tape,hg.output,hg.size,fun k hk _=>hg.block k hk (by simp[a0V])⟩,Hp.le_refl s,fun b o u hu=>hsub b o u (hle b o u (hs b o u hu)),(fun b o u h1 h2=>by rw[h1] at h2;cases h2),⟨Qa _,fun i x hx=>.inl ⟨x,hx,rfl⟩⟩,⟨hok.nd,fun x hx=>?_,hok.un⟩,Le2.refl _ _,?_,hm,hcoh⟩
 ·have h1:=hok.is x hx
  rw[hg.block x.1 (Xa.1 h1).1 (by simp[a0V])];exact h1
 ·exact c4w r0 v hp hq.2.1
end Go.Sx
