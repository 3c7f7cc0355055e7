/- TX: a range over a function: from frame to frame, in the machine. -/
import Derived.Test.YtmekflfjaflmkaaGreatHTxc
import Derived.RangeFuncRecord
import Derived.RangeFuncIn
import Derived.RangeFuncLeaves
import Derived.Test.YtmekflfjaflmkaaGreatProg
import Derived.Below
import Derived.Shelf.RegionOpenPlain
import Derived.Test.YtmekflfjaflmkaaGreatHTxa
set_option linter.unusedSimpArgs false
set_option linter.unusedVariables false
set_option linter.unusedSectionVars false
open Option.some renaming injEq → Q0
open Option renaming bind_eq_some_iff → Q1, map_eq_some_iff → Q2, getD_some → Qp, isSome_iff_exists → Xp, bind_some → Xy, isSome_none → XD
open Prod.mk renaming injEq → Q3
open List renaming getElem?_eq_some_iff → Q4, length_append → Q5, replicate → Q7, getElem?_append_left → Q8, mem_cons → Q9, mem_map → Qb, getElem?_append_right → Qd, mem_append → Qe, getElem?_drop → Qf, getElem?_take → Qj, map_cons → Qk, length_take → Qn, mem_of_getElem? → Qq, mem_of_mem_take → Qr, getElem?_set_ne → Qs, length_cons → Qt, size_toArray → Qv, getElem?_set_self → Qw, getElem?_set → Qy, take_append_drop → Qz, length_map → QA, mem_iff_getElem? → QB, replicate_succ → QC, mem_filter → QE, mem_singleton → QH, range → QJ, getElem?_eq_getElem → QK, getElem?_take_of_lt → QM, getElem?_cons_zero → QN, ext_getElem? → QP, mem_or_eq_of_mem_set → QQ, nodup_cons → QU, flatten_cons → QX, zipWith_append → QY, take_of_length_le → X1, map_congr_left → X2, eq_nil_of_length_eq_zero → X3, getElem_mem → X5, all_cons → X6, length_eq_zero_iff → X7, getElem?_append → X8, getElem?_eq_none → X9, map_append → Xb, nodup_append → Xc, map_nil → Xd, take_append_of_le_length → Xe, mem_range → Xf, zipWith_cons_cons → Xg, getElem?_map → Xh, getElem?_zipWith → Xj, length_drop → Xk, mem_of_mem_drop → Xn, filter_cons → Xq, filter_eq_self → Xr, flatten_append → Xt, length_zipWith → Xu, length_nil → Xv, mem_cons_self → Xw, not_mem_nil → Xx, append_assoc → Xz, set_append_right → XC, range_succ → XF, take_zero → XG
open Bool renaming and_eq_true → Q6, false_eq_true → Qh, not_eq_true' → QV, not_eq_true → Xs
open Nat renaming le_refl → Qa, add_assoc → Qg, zero_add → Qm, add_mul → Qu, mul_le_mul → QD, add_zero → QL, one_mul → QS, min_eq_left → QW, le_succ_of_le → X4, add_right_cancel_iff → XA
open Array renaming toList_filter → QZ, length_toList → X0, getElem?_eq_some_iff → Xa
open Int renaming toNat_natCast → XE
open Go.Sx.PT renaming wp → XH, ev → XL, prune → Kf, ite → KC
open _root_ renaming if_pos → XJ, decide_eq_true_eq → XQ, if_neg → XS, absurd → XW, if_false → XX, true_and → Kq, beq_iff_eq → Ku, if_true → Kw, decide_eq_false_iff_not → KA
open Go.Sx.PV renaming low → XK, frz → XN, lows → K1, lowss → K3, one → K5, rowsOf → Ka, frzs → Kh, int → Kn, frzss → Kr
open Go.Sx.SV renaming dens → XM, den → XU, pvs → XY, pvs_rep → Kb, pv_rep → KB, eq_of_beq → KJ
open Go.Sx.PEnv renaming push → XP
open Go.Sx.IE renaming pe_den → XR, pe → K9, den → Kp
open Go.Obj renaming cells → XT, map → Kc
open Go.Sx.Hp renaming le_refl → XV
open Go.Sx.MO renaming elts → XZ, low → K4, list → Kg, Step → Kj
open Go.DataW renaming trod → Ke, Trod → KK
open Go.Sx.a1v renaming mono → Kk, set → Kt, append → KH
open Go.Sx.BLe renaming refl → Km, pre → Ks
open Go.Sx.Coh renaming of_none → Kv
open Go.Sx.a1t renaming mono → Kx
open Go.Loc.obj renaming injEq → Ky
open Go.Sx.BE renaming all → Kz, pe_den → KG
open Go.Sx.Sys renaming loop → KD
open Go.Sx.Env renaming push → KE
open Go.Sx.Loc.elt renaming injEq → KF
open Go.Sx.Loc.row renaming injEq → KL
open Go.Sx.MO.it renaming injEq → KM
open Go.Value renaming okWide → KN
open Bool renaming false → ff, true → tt
open Option renaming some → sm, none → nn
namespace Go.Sx
variable {P:Program}
end Go.Sx
namespace Go.Sx
open Go.RowKit
variable {P:Program}
def f7K(E E':Nat->Prop)(w w':World):Prop:=∀i,E' i->(E i\/w.heap.size<=i)/\∃o,w'.heap[i]?=sm o
def f5P(E:Nat->Prop)(w w':World):Prop:=w.heap.size<=w'.heap.size/\∀i,E i->w'.heap[i]?=w.heap[i]?
structure Yielder (P:Program)(L:Nat)(ys:List (List Value))(s:Hp)(J:Nat->(Nat->Prop)->World->Prop):Prop where
 sub:∀k E w,J k E w->Sub s w
 stab:∀k E E' w w',J k E w->Grows E w w'->f7K E E' w w'->J k E' w'
 call:∀k E w args,ys[k]?=sm args->J k E w->∃r:Loop,w.heap[L]?=sm (.loop r)/\args.length=r.params.size /\
  a9h P (r.fn,sm L) (fun e w'=>f5P E w w'/\e=.returned (.bool tt)/\J (k+1) E w')
   [.code r.assign,.beginRound,.code r.body] {tmps:=(r.params.zip args.toArray).foldl (fun tmps (t,a)=>tmps.setIfInBounds t a) r.tmps,defers:=[]} w
def yv(L:Nat):Value:=.func (.yield L) #[] #[]
abbrev Inv:=List Int->List Bool->List Value->MS->Hp->Prop
section
variable (P)(f:FuncId)(Q:Value->Hp->MS->Prop)(body:Code)(w0:World)(s0:Hp)(m0:MS)(Ds:List Nat)
abbrev f7M (g:Cfg)(ρ:Env)(s:Hp):Prop:=d1I P (f,nn) (Ret Q s0 m0 w0) body w0 s0 (Xm (a2d m0) Ds) g ρ s
end
section
variable {c:Ctx}{f:FuncId}{fn:FnC}{Q:Value->Hp->MS->Prop}{w0:World}{s0:Hp}{m0:MS}{Ds:List Nat}
end
end Go.Sx
namespace Go.Sx
open Go.RowKit
variable {P:Program}
def f7f(w:World)(B:Nat):World:={w with heap:=w.heap.extract 0 B}
def f7n(ρ:Env)(β:Nat->Nat)(H:List Blk):Nat->Prop:=fun i=>∃k b,H[k]?=sm b/\act ρ b/\β k=i
def XB(w:World)(B:Nat)(E:Nat->Prop):Fx:={K:=fun x=>B<=x.1/\¬E x.1/\w.heap[x.1]?=sm x.2,sz:=w.heap.size}
structure RelI (s:Hp)(B:Nat)(ρ:Env)(β:Nat->Nat)(g:Cfg)(a:Act)(w:World):Prop where
 sz:B<=w.heap.size
 lo:∀b o u,s b o=sm u->b<B
 m:ρ.m=[]
 k:ρ.k=0
 rel:Rel (f7f w B) s (XB w B (f7n ρ β g.H)) ρ s β g a w
section
variable (P:Program)(F:FuncId)(body:Code)(s:Hp)(B:Nat)(R:Ending->World->Prop)
end
section
variable {c:Ctx}{F:FuncId}{fn:FnC}{s:Hp}{B:Nat}{R:Ending->World->Prop}{J:(Nat->Prop)->World->Prop}{Q:Value->Hp->MS->Prop}
end
section
variable {P:Program}{F:FuncId}{fn:FnC}{s:Hp}{B:Nat}{R:Ending->World->Prop}
end
end Go.Sx
namespace Go.Sx
open Go.RowKit
def QF(σ0:List MO)(m0:MS)(r:PV)(σ:List MO):Value->Hp->MS->Prop:=fun v s m=>Le2 σ0 m0 σ m/\Rep s (inf σ m) r v/\a1v s (inf σ m) σ m/\Coh σ m
def CtP(P:Program)(f:Nat)(F:List PV->List MO->Option (PV×List MO)):Prop :=
 ∀ayq σ r σ',F ayq σ=sm (r,σ')->(∀args w,(callFunc f args).run P w=.ok (.enter f args) w) /\
  ∀s m vs,a1v s (inf σ m) σ m->Coh σ m->Reps s (inf σ m) ayq vs->Ct P f vs s m (QF σ m r σ')
structure At (e:Env)(ni nb nv:Nat)(is:List Int)(bs:List Bool)(vs:List Value):Prop where
 i:∀j z,is[j]?=sm z->e.i[ni+j]?=sm z
 b:∀j z,bs[j]?=sm z->e.b[nb+j]?=sm z
 v:∀j z,vs[j]?=sm z->e.v[nv+j]?=sm z
theorem At.push{ρ:Env}{ni nb nv:Nat}(h1:ρ.i.length=ni)(h2:ρ.b.length=nb)(h3:ρ.v.length=nv)(is:List Int)(bs:List Bool)(vs:List Value):At (ρ.push is bs vs) ni nb nv is bs vs:=by
 subst h1 h2 h3;refine⟨fun j z h=>?_,fun j z h=>?_,fun j z h=>?_⟩<;>simp only[KE]<;>rw[Qd (by omega)]<;>simpa using h
theorem At.split{e:Env}{ni nb nv:Nat}{is is':List Int}{bs bs':List Bool}{vs vs':List Value}(h:At e ni nb nv (is++is') (bs++bs') (vs++vs')) :
  At e ni nb nv is bs vs/\At e (ni+is.length) (nb+bs.length) (nv+vs.length) is' bs' vs':=by
 refine⟨⟨fun j z k=>h.i j z ?_,fun j z k=>h.b j z ?_,fun j z k=>h.v j z ?_⟩,⟨fun j z k=>?_,fun j z k=>?_,fun j z k=>?_⟩⟩
 ·rw[Q8 (Q4.1 k).1];exact k
 ·rw[Q8 (Q4.1 k).1];exact k
 ·rw[Q8 (Q4.1 k).1];exact k
 ·rw[Qg];exact h.i _ z (by rw[Qd (by omega)];simpa using k)
 ·rw[Qg];exact h.b _ z (by rw[Qd (by omega)];simpa using k)
 ·rw[Qg];exact h.v _ z (by rw[Qd (by omega)];simpa using k)
theorem d5y{α:Type}{l:List α}{n:Nat}{d z:α}(h:l[n]?=sm z):l.getD n d=z:=by simp[List.getD_eq_getElem?_getD,h]
abbrev b6z (s:Hp)(B:Inf)(r:List Int×List Bool×List PV)(vvs:List Value):Prop:=Reps s B r.2.2 vvs/\∀p∈r.2.2,p.one=tt
theorem b6z.fine{s:Hp}{B:Inf}{r:List Int×List Bool×List PV}{vvs:List Value}(h:b6z s B r vvs):vvs.all a7A=tt:=by
 rw[List.all_eq_true];intro x hx;obtain⟨i,hi⟩:=QB.1 hx;have hl:=h.1.length;have hlt:=(Q4.1 hi).1;obtain⟨v,h1,h2⟩:=h.1.get (QK (l:=r.2.2) (i:=i) (by omega));rw[hi] at h1;simp only[Q0] at h1;subst h1;exact h2.fine (h.2 _ (X5 _))
section
variable {s:Hp}{B:Inf}
theorem b6v:∀(ks:List Kd) (l:List PV) {r} (xs:List Value),a0c ks l=sm r->Reps s B l xs->∃vvs,b6z s B r vvs/\∀ni nb nv,
  (a1V ks ni nb nv).2=(ni+r.1.length,nb+r.2.1.length,nv+vvs.length)/\∀(e:Env) (β:Nat->Nat),At e ni nb nv r.1 r.2.1 vvs->XM e β (a1V ks ni nb nv).1=xs
 | [],[],r,xs,h,k=>by
  simp only[a0c,Q0] at h;subst h;simp only[Reps] at k;subst k;exact⟨[],⟨rfl,by simp⟩,fun ni nb nv=>⟨by simp[a1V],fun e β _=>rfl⟩⟩
 | .int kd::ks,p::l,r,xs,h,k=>by
  cases p<;>simp only[a0c,reduceCtorEq] at h
  rename_i kd' z;split at h
  case isFalse=>cases h
  rename_i hk;subst hk;simp only[Q2] at h;obtain⟨r',h1,rfl⟩:=h;simp only[Reps] at k;obtain⟨v,xs',rfl,hv,k⟩:=k;simp only[Rep] at hv;subst hv;obtain⟨vvs,b1,b2⟩:=b6v ks l xs' h1 k;refine⟨vvs,b1,fun ni nb nv=>?_⟩;obtain⟨c1,c2⟩:=b2 (ni+1) nb nv;refine⟨by simp only[a1V,c1,Qt];congr 1;omega,fun e β ha=>?_⟩;simp only[a1V,XM,XU,Kp];have h0:=ha.i 0 z rfl;rw[QL] at h0;rw[d5y h0,c2 e β ⟨fun j y hj=>by have:=ha.i (j+1) y (by simpa using hj);rw[show ni+(j+1)=ni+1+j by omega] at this;exact this,ha.b,ha.v⟩]
 | .bool::ks,p::l,r,xs,h,k=>by
  cases p<;>simp only[a0c,reduceCtorEq] at h
  rename_i z;simp only[Q2] at h;obtain⟨r',h1,rfl⟩:=h;simp only[Reps] at k;obtain⟨v,xs',rfl,hv,k⟩:=k;simp only[Rep] at hv;subst hv;obtain⟨vvs,b1,b2⟩:=b6v ks l xs' h1 k;refine⟨vvs,b1,fun ni nb nv=>?_⟩;obtain⟨c1,c2⟩:=b2 ni (nb+1) nv;refine⟨by simp only[a1V,c1,Qt,Q3,Kq,and_true];omega,fun e β ha=>?_⟩;simp only[a1V,XM,XU,BE.den];have h0:=ha.b 0 z rfl;rw[QL] at h0;rw[d5y h0,c2 e β ⟨ha.i,fun j y hj=>by have:=ha.b (j+1) y (by simpa using hj);rw[show nb+(j+1)=nb+1+j by omega] at this;exact this,ha.v⟩]
 | .val::ks,p::l,r,xs,h,k=>by
  simp only[a0c] at h;split at h
  case isFalse=>cases h
  rename_i hone;simp only[Q2] at h;obtain⟨r',h1,rfl⟩:=h;simp only[Reps] at k;obtain⟨v,xs',rfl,hv,k⟩:=k;obtain⟨vvs,b1,b2⟩:=b6v ks l xs' h1 k;refine⟨v::vvs,⟨⟨v,vvs,rfl,hv,b1.1⟩,fun q hq=>?_⟩,fun ni nb nv=>?_⟩
  ·rcases Q9.1 hq with rfl|hq
   ·exact hone
   ·exact b1.2 q hq
  obtain⟨c1,c2⟩:=b2 ni nb (nv+1);refine⟨by simp only[a1V,c1,Qt,Q3,Kq];omega,fun e β ha=>?_⟩;simp only[a1V,XM,XU];have h0:=ha.v 0 v rfl;rw[QL] at h0;rw[d5y h0,c2 e β ⟨ha.i,ha.b,fun j y hj=>by have:=ha.v (j+1) y (by simpa using hj);rw[show nv+(j+1)=nv+1+j by omega] at this;exact this⟩]
 | [],_::_,r,xs,h,_=>by simp[a0c] at h
 | .int _::_,[],r,xs,h,_=>by simp[a0c] at h
 | .bool::_,[],r,xs,h,_=>by simp[a0c] at h
 | .val::_,[],r,xs,h,_=>by simp[a0c] at h
theorem d2M{sh:Sh}{p:PV} {r}{x:Value}(h:a0m sh p=sm r)(k:Rep s B p x):∃vvs,b6z s B r vvs/\∀ni nb nv,
  (a2e [sh] ni nb nv).2=(ni+r.1.length,nb+r.2.1.length,nv+vvs.length)/\∀(e:Env) (β:Nat->Nat),At e ni nb nv r.1 r.2.1 vvs->XM e β (a2e [sh] ni nb nv).1=[x]:=by
 cases sh with
 | one kd =>
  simp only[a0m] at h;obtain⟨vvs,b1,b2⟩:=b6v [kd] [p] [x] h ⟨x,[],rfl,k,rfl⟩;refine⟨vvs,b1,fun ni nb nv=>?_⟩;obtain⟨c1,c2⟩:=b2 ni nb nv;refine⟨by simp only[a2e];exact c1,fun e β ha=>?_⟩;simp only[a2e,List.append_nil];exact c2 e β ha
 | agg ks =>
  cases p<;>simp only[a0m,reduceCtorEq] at h
  rename_i l;simp only[Rep] at k;obtain⟨xs,rfl,k⟩:=k;obtain⟨vvs,b1,b2⟩:=b6v ks l xs h k;refine⟨vvs,b1,fun ni nb nv=>?_⟩;obtain⟨c1,c2⟩:=b2 ni nb nv;refine⟨by simp only[a2e];exact c1,fun e β ha=>?_⟩;simp only[a2e,XM,XU,c2 e β ha]
theorem e5E(sh:Sh)(shs:List Sh)(a b c:Nat):a2e (sh::shs) a b c =
  ((a2e [sh] a b c).1++(a2e shs (a2e [sh] a b c).2.1 (a2e [sh] a b c).2.2.1 (a2e [sh] a b c).2.2.2).1,(a2e shs (a2e [sh] a b c).2.1 (a2e [sh] a b c).2.2.1 (a2e [sh] a b c).2.2.2).2):=by
 cases sh<;>simp[a2e]
theorem e4K(e:Env)(β:Nat->Nat)(l m:List SV):XM e β (l++m)=XM e β l++XM e β m:=by simp[SV.dens_map]
theorem b6z.append{r r':List Int×List Bool×List PV}{v v':List Value}(h:b6z s B r v)(h':b6z s B r' v'):b6z s B (r.1++r'.1,r.2.1++r'.2.1,r.2.2++r'.2.2) (v++v') :=
 ⟨h.1.append h'.1,fun p hp=>(Qe.1 hp).elim (h.2 p) (h'.2 p)⟩
theorem d5t:∀(shs:List Sh) (l:List PV) {r} (xs:List Value),a1J shs l=sm r->Reps s B l xs->∃vvs,b6z s B r vvs/\∀ni nb nv,
  (a2e shs ni nb nv).2=(ni+r.1.length,nb+r.2.1.length,nv+vvs.length)/\∀(e:Env) (β:Nat->Nat),At e ni nb nv r.1 r.2.1 vvs->XM e β (a2e shs ni nb nv).1=xs
 | [],[],r,xs,h,k=>by
  simp only[a1J,Q0] at h;subst h;simp only[Reps] at k;subst k;exact⟨[],⟨rfl,by simp⟩,fun ni nb nv=>⟨by simp[a2e],fun e β _=>rfl⟩⟩
 | sh::shs,p::l,r,xs,h,k=>by
  simp only[a1J,Q1,Q2] at h;obtain⟨a,h1,r',h2,rfl⟩:=h;simp only[Reps] at k;obtain⟨x,xs',rfl,k1,k2⟩:=k;obtain⟨v1,b1,b2⟩:=d2M h1 k1;obtain⟨v2,d1,d2⟩:=d5t shs l xs' h2 k2;refine⟨v1++v2,b1.append d1,fun ni nb nv=>?_⟩;obtain⟨c1,c2⟩:=b2 ni nb nv;obtain⟨e1,e2⟩:=d2 (ni+a.1.length) (nb+a.2.1.length) (nv+v1.length);rw[e5E];simp only[c1,Q5];refine⟨by rw[e1];simp only[Qg],fun e β ha=>?_⟩;obtain⟨ha1,ha2⟩:=ha.split;rw[e4K,c2 e β ha1,e2 e β ha2];rfl
 | [],_::_,r,xs,h,_=>by simp[a1J] at h
 | _::_,[],r,xs,h,_=>by simp[a1J] at h
theorem d4q{shs:List Sh}{l:List PV} {r}{x:Value}(hne:∀sh,shs≠[sh])(h:a1J shs l=sm r)(k:Rep s B (.tup l) x):∃vvs,b6z s B r vvs/\∀ni nb nv,
  (a2e shs ni nb nv).2=(ni+r.1.length,nb+r.2.1.length,nv+vvs.length)/\∀(e:Env) (β:Nat->Nat),At e ni nb nv r.1 r.2.1 vvs->(a3V (a2e shs ni nb nv).1).den e β=x:=by
 simp only[Rep] at k;obtain⟨xs,rfl,k⟩:=k;obtain⟨vvs,b1,b2⟩:=d5t shs l xs h k;refine⟨vvs,b1,fun ni nb nv=>?_⟩;obtain⟨c1,c2⟩:=b2 ni nb nv;refine⟨c1,fun e β ha=>?_⟩;have:=c2 e β ha
 have hlen:(a2e shs ni nb nv).1.length≠1:=by
  intro hl;have hl2:=congrArg List.length this;rw[a1D,k.length,hl] at hl2
  match shs,l,h,hl2 with
  | [],[p],h,_=>simp[a1J] at h
  | [sh],[p],h,_=>exact hne sh rfl
  | sh1::sh2::shs,[p],h,_=>simp[a1J] at h
 generalize (a2e shs ni nb nv).1=L at this hlen ⊢
 match L,hlen with
 | [],_=>simp[a3V,XU,<- this]
 | [y],hl=>exact XW rfl hl
 | y1::y2::L,_=>simp[a3V,XU,<- this]
theorem c6L{shs:List Sh}{p:PV} {r}{x:Value}(h:a0w shs p=sm r)(k:Rep s B p x):∃vvs,b6z s B r vvs/\∀ni nb nv,
  (a2e shs ni nb nv).2=(ni+r.1.length,nb+r.2.1.length,nv+vvs.length)/\∀(e:Env) (β:Nat->Nat),At e ni nb nv r.1 r.2.1 vvs->(a3V (a2e shs ni nb nv).1).den e β=x:=by
 match shs,h with
 | [sh],h =>
  obtain⟨vvs,b1,b2⟩:=d2M h k;refine⟨vvs,b1,fun ni nb nv=>?_⟩;obtain⟨c1,c2⟩:=b2 ni nb nv;refine⟨c1,fun e β ha=>?_⟩;have:=c2 e β ha;generalize (a2e [sh] ni nb nv).1=L at this ⊢
  match L,this with
  | [y],this=>simpa[a3V,XM] using this
  | [],this=>simp[XM] at this
  | y1::y2::L,this=>simp[XM] at this
 | [],h =>
  cases p<;>simp only[a0w,reduceCtorEq] at h
  exact d4q (by simp) h k
 | sh1::sh2::shs,h =>
  cases p<;>simp only[a0w,reduceCtorEq] at h
  exact d4q (by simp) h k
theorem c9J:∀(shs:List PSh) (l:List PV) {r} (xs:List Value),a0i shs l=sm r->Reps s B l xs->∃vvs,b6z s B r vvs/\∀ni nb nv,
  (b8V shs ni nb nv).2=(ni+r.1.length,nb+r.2.1.length,nv+vvs.length)/\∀(e:Env) (β:Nat->Nat),At e ni nb nv r.1 r.2.1 vvs->XM e β (b8V shs ni nb nv).1=xs
 | [],[],r,xs,h,k=>by
  simp only[a0i,Q0] at h;subst h;simp only[Reps] at k;subst k;exact⟨[],⟨rfl,by simp⟩,fun ni nb nv=>⟨by simp[b8V],fun e β _=>rfl⟩⟩
 | .sh sh::shs,p::l,r,xs,h,k=>by
  simp only[a0i,Q1,Q2] at h;obtain⟨a,h1,r',h2,rfl⟩:=h;simp only[Reps] at k;obtain⟨x,xs',rfl,k1,k2⟩:=k;obtain⟨v1,b1,b2⟩:=d2M h1 k1;obtain⟨v2,d1,d2⟩:=c9J shs l xs' h2 k2;refine⟨v1++v2,b1.append d1,fun ni nb nv=>?_⟩;obtain⟨c1,c2⟩:=b2 ni nb nv;obtain⟨e1,e2⟩:=d2 (ni+a.1.length) (nb+a.2.1.length) (nv+v1.length);simp only[b8V,c1,Q5];refine⟨by rw[e1];simp only[Qg],fun e β ha=>?_⟩;obtain⟨ha1,ha2⟩:=ha.split;rw[e4K,c2 e β ha1,e2 e β ha2];rfl
 | .ptr::shs,p::l,r,xs,h,k=>by
  simp only[a0i] at h;split at h
  case isFalse=>cases h
  rename_i hp;simp only[Q2] at h;obtain⟨r',h2,rfl⟩:=h;simp only[Reps] at k;obtain⟨x,xs',rfl,k1,k2⟩:=k;obtain⟨v2,d1,d2⟩:=c9J shs l xs' h2 k2
  have hx:∃b o,x=.pointer (sm ⟨b,o,nn⟩):=by
   cases p<;>simp only[PV.isPtr,Qh] at hp<;>simp only[Rep] at k1
   ·obtain⟨b,base,_,h,_⟩:=k1;exact⟨_,_,h⟩
   ·obtain⟨b,_,_,h⟩:=k1;exact⟨_,_,h⟩
   ·obtain⟨_,b,h,_⟩:=k1;exact⟨_,_,h⟩
  have hone:p.one=tt:=by cases p<;>first|rfl|(simp[PV.isPtr] at hp)
  refine⟨x::v2,⟨⟨x,v2,rfl,k1,d1.1⟩,fun q hq=>?_⟩,fun ni nb nv=>?_⟩
  ·rcases Q9.1 hq with rfl|hq
   ·exact hone
   ·exact d1.2 q hq
  obtain⟨e1,e2⟩:=d2 ni nb (nv+1);simp only[b8V,Qt];refine⟨by rw[e1];simp only[Q3,Kq];omega,fun e β ha=>?_⟩;have h0:=ha.v 0 x rfl;rw[QL] at h0;rw[XM,e2 e β ⟨ha.i,ha.b,fun j y hj=>by have:=ha.v (j+1) y (by simpa using hj);rw[show nv+(j+1)=nv+1+j by omega] at this;exact this⟩];obtain⟨b,o,rfl⟩:=hx;simp only[XU,d5y h0,a3y,Qp,b0m,QL]
 | [],_::_,r,xs,h,_=>by simp[a0i] at h
 | .sh _::_,[],r,xs,h,_=>by simp[a0i] at h
 | .ptr::_,[],r,xs,h,_=>by simp[a0i] at h
end
section
variable {s:Hp}{ρp:PEnv}{ρ:Env}
theorem EnvRep.push(h:EnvRep s ρp ρ){r:List Int×List Bool×List PV}{vvs:List Value}(hb:b6z s (inf ρp.m ρ.m) r vvs):EnvRep s (ρp.push r) (ρ.push r.1 r.2.1 vvs) :=
 ⟨by simp[XP,KE,h.i],by simp[XP,KE,h.b],h.v.append hb.1,h.m,h.k,fun p hp=>(Qe.1 hp).elim (h.one p) (hb.2 p),h.coh⟩
theorem EnvRep.turn(h:EnvRep s ρp ρ){t:Hp}(hst:s.le t){m':MS}{σ:List MO}(hpre:Le2 ρp.m ρ.m σ m')(hm:a1v t (inf σ m') σ m')(hc:Coh σ m'):EnvRep t {ρp with m:=σ} {ρ with m:=m'} :=
 ⟨h.i,h.b,Reps.mono hst hpre.ble _ _ h.v,hm,h.k,h.one,hc⟩
theorem e8k(h:EnvRep s ρp ρ){a:SV}{hd len i sz off:Nat}(hl:a0H ρp a=sm (.elt hd len i sz off)){b n0:Nat}(hB:(inf ρp.m ρ.m)[hd]?=sm (b,n0,len)):a3y (a.den ρ id)=sm ⟨b,i*sz+off,nn⟩/\i<len:=by
 cases a<;>simp only[a0H,reduceCtorEq,Q1] at hl
 case ea q i' size off' =>
  obtain⟨p,h1,h2⟩:=hl;obtain⟨v,_,h3,h4⟩:=h.get h1;cases p<;>simp only[a4f,reduceCtorEq] at h2
  case sl=>split at h2<;>simp at h2
  case msl=>split at h2<;>simp at h2
  case rsl hh len' sz' =>
   split at h2
   case isFalse=>cases h2
   rename_i hc;simp only[Q0,KF] at h2;obtain⟨rfl,rfl,rfl,rfl,rfl⟩:=h2;obtain⟨c1,c2,rfl⟩:=hc;simp only[Rep] at h4;obtain⟨_,b',cap,rfl,b2,n2,r2,k1,_,k2⟩:=h4;rw[hB] at k1;simp only[Q0,Q3] at k1;obtain⟨rfl,rfl,rfl⟩:=k1;obtain⟨rfl,_⟩:=k2 rfl;refine⟨?_,by omega⟩;simp only[XU,h3,a3y,Qp,XR h,b0m,Qm]
  case rpl hh len' r' sz' =>
   split at h2
   case isFalse=>cases h2
   rename_i hc;simp only[Q0,KF] at h2;obtain⟨rfl,rfl,rfl,rfl,rfl⟩:=h2;obtain⟨c1,c2,c3,rfl⟩:=hc;simp only[Rep] at h4;obtain⟨_,_,b',cap,rfl,b2,n2,r2,k1,_,k2⟩:=h4;rw[hB] at k1;simp only[Q0,Q3] at k1;obtain⟨rfl,rfl,rfl⟩:=k1;obtain⟨rfl,_⟩:=k2 rfl;refine⟨?_,by omega⟩;simp only[XU,h3,a3y,Qp,XR h,b0m,Qm]
 case pa q off' =>
  obtain⟨p,h1,h2⟩:=hl;obtain⟨v,_,h3,h4⟩:=h.get h1;cases p<;>simp only[a2p,reduceCtorEq,Q0,KF] at h2
  case eref hh r0 i0 sz0 o0 =>
   obtain⟨rfl,rfl,rfl,rfl,rfl⟩:=h2;simp only[Rep] at h4;obtain⟨hi,b',rfl,b2,n2,r2,k1,_,k2⟩:=h4;rw[hB] at k1;simp only[Q0,Q3] at k1;obtain⟨rfl,rfl,rfl⟩:=k1;obtain rfl:=k2 rfl;refine⟨?_,hi⟩;simp only[XU,h3,a3y,Qp,b0m,Qg]
theorem f0W(h:EnvRep s ρp ρ){a:SV}{l:Loc}(hl:a0H ρp a=sm l){fl:Bool}{n:Nat}{x:List PV}(hx:a0x ρp fl n l=sm x) :
  x.length=n/\∃vals,e3E s (if fl then [] else ρ.m) (a.den ρ id) vals/\Reps s (inf ρp.m ρ.m) x vals:=by
 have tk:∀{l:List PV},a1g n l=sm x->x=l.take n/\x.length=n:=by
  intro l h;simp only[a1g] at h;split at h
  ·simp only[Q0] at h;subst h
   exact⟨rfl,by simp;omega⟩
  ·cases h
 cases l with
 | row l off =>
  simp only[a0x] at hx;obtain⟨rfl,hn⟩:=tk hx;refine⟨hn,?_⟩;cases a<;>simp only[a0H,reduceCtorEq,Q1] at hl
  case ea q i size off' =>
   obtain⟨p,h1,h2⟩:=hl;obtain⟨v,_,h3,h4⟩:=h.get h1;cases p<;>simp only[a4f,reduceCtorEq] at h2
   case sl sz rows =>
    split at h2
    case isFalse=>cases h2
    rename_i hc;obtain⟨rfl,hi0⟩:=hc;simp only[Q2,KL] at h2;obtain⟨r,hr,rfl,rfl⟩:=h2;simp only[Rep] at h4;obtain⟨xs,⟨hsz,a,cap,rfl,_,hcell⟩,hrs,_⟩:=h4;obtain⟨xv,g1,g2⟩:=hrs.get hr;obtain⟨b,o,rfl,hc⟩:=hcell (by intro h0;subst h0;simp at g1);refine⟨(xv.drop off').take n,⟨b,o+(i.pe ρp).toNat*sz+off',?_,.inl fun j u hj=>?_⟩,(g2.drop off').take n⟩
    ·simp only[XU,h3,a3y,Qp,XR h,b0m]
    ·have hj':xv[off'+j]?=sm u:=by
      rw[Qj] at hj;split at hj
      ·rw[Qf] at hj;exact hj
      ·cases hj
     have:=hc _ xv g1 (off'+j) u hj';rw[show o+(i.pe ρp).toNat*sz+(off'+j)=o+(i.pe ρp).toNat*sz+off'+j by omega] at this;exact this
   case msl=>split at h2<;>simp at h2
   case rsl=>split at h2<;>simp at h2
   case rpl=>split at h2<;>simp at h2
  case pa q off' =>
   obtain⟨p,h1,h2⟩:=hl;obtain⟨v,_,h3,h4⟩:=h.get h1;cases p<;>simp only[a2p,reduceCtorEq,Q0,KL] at h2
   case cell l' o =>
    obtain⟨rfl,rfl⟩:=h2;simp only[Rep] at h4;obtain⟨b,base,vs,rfl,g1,g2⟩:=h4;refine⟨(vs.drop (o+off')).take n,⟨b,base+(o+off'),?_,.inl fun j u hj=>?_⟩,(g1.drop _).take n⟩
    ·simp only[XU,h3,a3y,Qp,b0m,Qg]
    ·rw[Qj] at hj
     split at hj
     ·rw[Qf] at hj
      have:=g2 _ u hj;rw[<- Qg] at this;exact this
     ·cases hj
 | obj hd off =>
  simp only[a0x] at hx;cases fl with
  | true=>simp at hx
  | false =>
  simp only[Qh,XX,Q1] at hx ⊢;obtain⟨o,ho,l,hol,hx⟩:=hx;cases o<;>simp only[Kg,reduceCtorEq,Q0] at hol
  rename_i l' T;subst hol;obtain⟨b,vs,g1,g2⟩:=h.m.get ho;obtain⟨rfl,hn⟩:=tk hx;have hB:=a3a ho g1;simp only[a2P] at hB
  have key:a3y (a.den ρ id)=sm ⟨b,off,nn⟩:=by
   cases a<;>simp only[a0H,reduceCtorEq,Q1] at hl
   case ea q i size off' =>
    obtain⟨p,h1,h2⟩:=hl;obtain⟨v,_,h3,h4⟩:=h.get h1;cases p<;>simp only[a4f,reduceCtorEq] at h2
    case sl=>split at h2<;>simp at h2
    case rsl=>split at h2<;>simp at h2
    case rpl=>split at h2<;>simp at h2
    case msl hh o len cap sz =>
     split at h2
     case isFalse=>cases h2
     simp only[Q0,Ky] at h2;obtain⟨rfl,rfl⟩:=h2;simp only[Rep] at h4;obtain⟨b',n',k1,rfl⟩:=h4;rw[hB] at k1;simp only[Q0,Q3] at k1;obtain⟨rfl,_⟩:=k1;simp only[XU,h3,a3y,Qp,XR h,b0m,Qg]
   case pa q off' =>
    obtain⟨p,h1,h2⟩:=hl;obtain⟨v,_,h3,h4⟩:=h.get h1;cases p<;>simp only[a2p,reduceCtorEq,Q0,Ky] at h2
    case ref hh o =>
     obtain⟨rfl,rfl⟩:=h2;simp only[Rep] at h4;obtain⟨b',n',k1,rfl⟩:=h4;rw[hB] at k1;simp only[Q0,Q3] at k1;obtain⟨rfl,_⟩:=k1;simp only[XU,h3,a3y,Qp,b0m]
  refine⟨hn,(vs.drop off).take n,⟨b,off,key,.inr ⟨vs.toArray,T,(0,0),Qq g1,fun j u hj=>?_⟩⟩,(g2.drop off).take n⟩;rw[Qj] at hj;split at hj
  ·rw[Qf] at hj
   simpa using hj
  ·cases hj
 | elt hd len i sz off =>
  simp only[a0x] at hx;cases fl with
  | true=>simp at hx
  | false =>
  simp only[Qh,XX,Q1] at hx ⊢;obtain⟨o,ho,rows,hrows,r,hr,hx⟩:=hx;cases o<;>simp only[XZ,reduceCtorEq] at hrows
  rename_i rows' sz' T;split at hrows
  case isFalse=>cases hrows
  rename_i hc;obtain⟨hc1,hc2⟩:=hc;simp only[Q0] at hrows;subst hrows;subst hc2;obtain⟨⟨b,ob⟩,g1,cur,g2,a1,a2,a3,a4,xs,a5,a6,a7⟩:=h.m.obj ho;simp only at g2;subst g2;have hB:=a3a ho g1;simp only[a2P,a6k,hc1] at hB;obtain⟨rfl,hn⟩:=tk hx;obtain⟨hadr,hi⟩:=e8k h hl hB;obtain⟨xv,g3,g4⟩:=a5.get hr;refine⟨hn,(xv.drop off).take n,⟨b,i*sz'+off,hadr,.inr ⟨cur,T,(0,0),Qq g1,fun j u hj=>?_⟩⟩,(g4.drop off).take n⟩;rw[Qj] at hj;split at hj
  ·rw[Qf] at hj
   have:=a7 _ u (b4i sz' xs a6 i xv (off+j) u g3 hj);rw[<- Qg] at this;exact this
  ·cases hj
theorem f4a(h:EnvRep s ρp ρ){a:SV}{hd off b n0:Nat}(hl:a0H ρp a=sm (.obj hd off))(hB:(inf ρp.m ρ.m)[hd]?=sm (b,n0,0)):a3y (a.den ρ id)=sm ⟨b,off,nn⟩:=by
 cases a<;>simp only[a0H,reduceCtorEq,Q1] at hl
 case ea q i size off' =>
  obtain⟨p,h1,h2⟩:=hl;obtain⟨v,_,h3,h4⟩:=h.get h1;cases p<;>simp only[a4f,reduceCtorEq] at h2
  case sl=>split at h2<;>simp at h2
  case rsl=>split at h2<;>simp at h2
  case rpl=>split at h2<;>simp at h2
  case msl hh o len cap sz =>
   split at h2
   case isFalse=>cases h2
   simp only[Q0,Ky] at h2;obtain⟨rfl,rfl⟩:=h2;simp only[Rep] at h4;obtain⟨b',n',k1,rfl⟩:=h4;rw[hB] at k1;simp only[Q0,Q3] at k1;obtain⟨rfl,_⟩:=k1;simp only[XU,h3,a3y,Qp,XR h,b0m,Qg]
 case pa q off' =>
  obtain⟨p,h1,h2⟩:=hl;obtain⟨v,_,h3,h4⟩:=h.get h1;cases p<;>simp only[a2p,reduceCtorEq,Q0,Ky] at h2
  case ref hh o =>
   obtain⟨rfl,rfl⟩:=h2;simp only[Rep] at h4;obtain⟨b',n',k1,rfl⟩:=h4;rw[hB] at k1;simp only[Q0,Q3] at k1;obtain⟨rfl,_⟩:=k1;simp only[XU,h3,a3y,Qp,b0m]
theorem b8Q{B:Inf}{p:PV}{v:Value}{size:Nat}{rows:List (List PV)}(h:Rep s B p v)(hr:p.rowsOf size=sm rows):∃xs,a3i s size v xs/\a1t s B rows xs/\∀r∈rows,∀p∈r,p.one=tt:=by
 cases p<;>simp only[Ka,reduceCtorEq,Q0] at hr
 case nilS =>
  subst hr;simp only[Rep] at h;subst h;exact⟨[],⟨by simp,nn,0,rfl,Qa _,by simp⟩,rfl,by simp⟩
 case sl n rows =>
  split at hr
  ·rename_i hn
   simp only[Q0] at hr;subst hr hn;simpa only[Rep] using h
  ·cases hr
end
section
variable {s:Hp}{B:Inf}{k:Nat}
theorem b3g{i:Nat}{b:Nat×Nat×Nat}(h:B[i]?=sm b)(hi:i<k):(B.take k)[i]?=sm b:=by rw[QM hi];exact h
mutual
theorem PV.low_rep:∀(p:PV) (v:Value),Rep s B p v->p.low k=tt->Rep s (B.take k) p v
 | .int ..,v,h,_=>h
 | .bool ..,v,h,_=>h
 | .str ..,v,h,_=>h
 | .undef,v,h,_=>h
 | .nilS,v,h,_=>h
 | .nilF,v,h,_=>h
 | .nilP,v,h,_=>h
 | .nilI,v,h,_=>h
 | .nilM,v,h,_=>h
 | .sl n rows,v,h,hl=>by
  simp only[Rep,XK] at h hl ⊢;obtain⟨xs,h1,h2,h3⟩:=h;exact⟨xs,h1,PV.lowss_rep rows xs h2 hl,h3⟩
 | .cell l off,v,h,hl=>by
  simp only[Rep,XK] at h hl ⊢;obtain⟨b,base,vs,h1,h2,h3⟩:=h;exact⟨b,base,vs,h1,PV.lows_rep l vs h2 hl,h3⟩
 | .ref i off,v,h,hl=>by
  simp only[Rep,XK,XQ] at h hl ⊢;obtain⟨b,n,h1,h2⟩:=h;exact⟨b,n,b3g h1 hl,h2⟩
 | .mp i,v,h,hl=>by
  simp only[Rep,XK,XQ] at h hl ⊢;obtain⟨b,n,h1,h2⟩:=h;exact⟨b,n,b3g h1 hl,h2⟩
 | .msl i off len cap _,v,h,hl=>by
  simp only[Rep,XK,XQ] at h hl ⊢;obtain⟨b,n,h1,h2⟩:=h;exact⟨b,n,b3g h1 hl,h2⟩
 | .rsl i len sz,v,h,hl=>by
  simp only[Rep,XK,XQ] at h hl ⊢;obtain⟨h0,b,cap,h1,b',n,r,h2,h3,h4⟩:=h;exact⟨h0,b,cap,h1,b',n,r,b3g h2 hl,h3,h4⟩
 | .rpl i len r0 sz,v,h,hl=>by
  simp only[Rep,XK,XQ] at h hl ⊢;obtain⟨h0,hlr,b,cap,h1,b',n,r,h2,h3,h4⟩:=h;exact⟨h0,hlr,b,cap,h1,b',n,r,b3g h2 hl,h3,h4⟩
 | .eref i r0 j sz off,v,h,hl=>by
  simp only[Rep,XK,XQ] at h hl ⊢;obtain⟨h0,b,h1,b',n,r,h2,h3,h4⟩:=h;exact⟨h0,b,h1,b',n,r,b3g h2 hl,h3,h4⟩
 | .fn f l,v,h,hl=>by
  simp only[Rep,XK] at h hl ⊢;obtain⟨vs,h1,h2⟩:=h;exact⟨vs,h1,PV.lows_rep l vs h2 hl⟩
 | .agg l,v,h,hl=>by
  simp only[Rep,XK] at h hl ⊢;obtain⟨vs,h1,h2⟩:=h;exact⟨vs,h1,PV.lows_rep l vs h2 hl⟩
 | .tup l,v,h,hl=>by
  simp only[Rep,XK] at h hl ⊢;obtain⟨vs,h1,h2⟩:=h;exact⟨vs,h1,PV.lows_rep l vs h2 hl⟩
theorem PV.lows_rep:∀(l:List PV) (v:List Value),Reps s B l v->K1 k l=tt->Reps s (B.take k) l v
 | [],v,h,_=>h
 | p::l,v,h,hl=>by
  simp only[K1,Q6] at hl;simp only[Reps] at h ⊢;obtain⟨x,r,h1,h2,h3⟩:=h;exact⟨x,r,h1,PV.low_rep p x h2 hl.1,PV.lows_rep l r h3 hl.2⟩
theorem PV.lowss_rep:∀(l:List (List PV)) (v:List (List Value)),a1t s B l v->K3 k l=tt->a1t s (B.take k) l v
 | [],v,h,_=>h
 | p::l,v,h,hl=>by
  simp only[K3,Q6] at hl;simp only[a1t] at h ⊢;obtain⟨x,r,h1,h2,h3⟩:=h;exact⟨x,r,h1,PV.lows_rep p x h2 hl.1,PV.lowss_rep l r h3 hl.2⟩
end
theorem MO.low_obj{o:MO}{x:Nat×Obj}(h:a6P s B o x)(hl:o.low k=tt):a6P s (B.take k) o x:=by
 cases o with
 | cells l T=>obtain⟨vs,h1,h2⟩:=h;exact⟨vs,h1,PV.lows_rep l vs h2 hl⟩
 | row rows sz T=>obtain⟨cur,h1,a1,a2,a3,a4,xs,a5,a6,a7⟩:=h;exact⟨cur,h1,a1,a2,a3,a4,xs,PV.lowss_rep rows xs a5 hl,a6,a7⟩
 | mp ks vs K=>obtain⟨es,clock,vv,h1,h2,h3⟩:=h;exact⟨es,clock,vv,h1,h2,PV.lows_rep vs vv h3 hl⟩
 | mq kv ver=>exact h
 | it hd ver seen=>simp[K4] at hl
 | dead=>exact h
theorem MO.low_rep:∀(σ:List MO) (m:MS),a1v s B σ m->σ.all (K4 k)=tt->a1v s (B.take k) σ m
 | [],m,h,_=>h
 | o::σ,m,h,hl=>by
  simp only[X6,Q6] at hl;obtain⟨x,r,rfl,h1,h2⟩:=a4Z.1 h;exact a4Z.2 ⟨x,r,rfl,MO.low_obj h1 hl.1,MO.low_rep σ r h2 hl.2⟩
theorem e2S{sz b:Nat}:∀(n:Nat) (l:List PV) (vs:List Value) (o:Nat) {rows},a8y sz n l=sm rows->Reps s B l vs->(∀j u,vs[j]?=sm u->s b (o+j)=sm u) ->
  ∃xs,xs.length=n/\(∀x∈xs,x.length=sz)/\a1t s B rows xs/\(∀r∈rows,∀p∈r,p.one=tt)/\∀i x,xs[i]?=sm x->∀j u,x[j]?=sm u->s b (o+i*sz+j)=sm u
 | 0,l,vs,o,rows,h,_,_=>by
  simp only[a8y,Q0] at h;subst h;exact⟨[],rfl,by simp,rfl,by simp,by simp⟩
 | n+1,l,vs,o,rows,h,hr,hc=>by
  simp only[a8y] at h;split at h
  case isFalse=>cases h
  rename_i hcond;simp only[Q2] at h;obtain⟨rows',h1,rfl⟩:=h
  obtain⟨xs,e1,e2,e3,e4,e5⟩:=e2S n (l.drop sz) (vs.drop sz) (o+sz) h1 (hr.drop sz) (fun j u hj=>by
   rw[Qf] at hj;have:=hc _ u hj
   rw[<- Qg] at this;exact this)
  have hlen:sz<=vs.length:=by rw[hr.length];exact hcond.1
  refine⟨vs.take sz::xs,by simp[e1],fun x hx=>?_,⟨_,_,rfl,hr.take sz,e3⟩,fun r hr'=>?_,fun i x hi j u hj=>?_⟩
  ·rcases Q9.1 hx with rfl|hx
   ·simp;omega
   ·exact e2 x hx
  ·rcases Q9.1 hr' with rfl|hr'
   ·exact fun p hp=>List.all_eq_true.1 hcond.2 p hp
   ·exact e4 r hr'
  ·cases i with
   | zero =>
    simp only[QN,Q0] at hi;subst hi;rw[Qj] at hj;split at hj
    ·simpa using hc j u hj
    ·cases hj
   | succ i =>
    have:=e5 i x (by simpa using hi) j u hj;rw[show o+(i+1)*sz+j=o+sz+i*sz+j by rw[Qu];omega];exact this
def d0M(s:Hp)(B:Inf)(k:Nat)(look:Nat->Option MO):Prop:=∀h o,k<=h->look h=sm o->match o with
 | .cells l _=>∃b n vs,B[h]?=sm (b,n,0)/\Reps s (B.take k) l vs/\∀o u,vs[o]?=sm u->s b o=sm u
 | .row rows sz _=>∃b n xs,B[h]?=sm (b,n,rows.length)/\a1t s (B.take k) rows xs/\(∀r∈rows,∀p∈r,p.one=tt)/\(∀x∈xs,x.length=sz)/\∀o u,xs.flatten[o]?=sm u->s b o=sm u
 | .mp ..|.mq ..|.it ..|.dead=>False
mutual
theorem PV.frz_rep{look:Nat->Option MO}(hk:d0M s B k look):∀(p:PV) (v:Value) {q:PV},Rep s B p v->p.frz k look=sm q->Rep s (B.take k) q v
 | .int ..,v,q,h,hq=>by simp only[XN,Q0] at hq;subst hq;exact h
 | .bool ..,v,q,h,hq=>by simp only[XN,Q0] at hq;subst hq;exact h
 | .str ..,v,q,h,hq=>by simp only[XN,Q0] at hq;subst hq;exact h
 | .undef,v,q,h,hq=>by simp only[XN,Q0] at hq;subst hq;exact h
 | .nilS,v,q,h,hq=>by simp only[XN,Q0] at hq;subst hq;exact h
 | .nilF,v,q,h,hq=>by simp only[XN,Q0] at hq;subst hq;exact h
 | .nilP,v,q,h,hq=>by simp only[XN,Q0] at hq;subst hq;exact h
 | .nilI,v,q,h,hq=>by simp only[XN,Q0] at hq;subst hq;exact h
 | .nilM,v,q,h,hq=>by simp only[XN,Q0] at hq;subst hq;exact h
 | .sl n rows,v,q,h,hq=>by
  simp only[XN] at hq;split at hq
  ·rename_i hl
   simp only[Q0] at hq;subst hq;exact PV.low_rep _ _ h (by simpa[XK] using hl)
  ·rw[Q2] at hq
   obtain⟨rows',h1,rfl⟩:=hq;simp only[Rep] at h ⊢;obtain⟨xs,h2,h3,h4⟩:=h;obtain⟨e1,e2,_⟩:=PV.frzss_rep hk rows xs h3 h1;exact⟨xs,h2,e1,e2⟩
 | .cell l off,v,q,h,hq=>by
  simp only[XN] at hq;split at hq
  ·rename_i hl
   simp only[Q0] at hq;subst hq;exact PV.low_rep _ _ h (by simpa[XK] using hl)
  ·cases hq
 | .mp i,v,q,h,hq=>by
  simp only[XN] at hq;split at hq
  ·rename_i hl
   simp only[Q0] at hq;subst hq;exact PV.low_rep _ _ h (by simpa[XK] using hl)
  ·cases hq
 | .eref i r0 j sz off,v,q,h,hq=>by
  simp only[XN] at hq;split at hq
  ·rename_i hl
   simp only[Q0] at hq;subst hq;exact PV.low_rep _ _ h (by simpa[XK] using hl)
  ·cases hq
 | .ref i off,v,q,h,hq=>by
  simp only[XN] at hq;split at hq
  ·rename_i hl
   simp only[Q0] at hq;subst hq;exact PV.low_rep _ _ h (by simpa[XK] using hl)
  ·rename_i hl
   simp only[Q1,Q2] at hq;obtain⟨o,h1,l,hol,rfl⟩:=hq;cases o<;>simp only[Kg,reduceCtorEq,Q0] at hol
   subst hol;obtain⟨b,n,vs,h2,h3,h4⟩:=hk i _ (by omega) h1;simp only[Rep] at h ⊢;obtain⟨b',n',h5,rfl⟩:=h;rw[h2] at h5;simp only[Q0,Q3] at h5;obtain⟨rfl,_⟩:=h5;exact⟨b,0,vs,by simp,h3,fun o u hu=>by simpa using h4 o u hu⟩
 | .rsl i len sz,v,q,h,hq=>by
  simp only[XN] at hq;split at hq
  ·rename_i hl
   simp only[Q0] at hq;subst hq;exact PV.low_rep _ _ h (by simpa[XK] using hl)
  ·rename_i hl
   simp only[Q1,Q2] at hq;obtain⟨o,h1,rows,hol,rfl⟩:=hq;cases o<;>simp only[XZ,reduceCtorEq] at hol
   split at hol
   case isFalse=>cases hol
   rename_i hc;simp only[Q0] at hol;subst hol;obtain⟨hc1,rfl⟩:=hc;obtain⟨b,n,xs,h2,h3,h4,h5,h6⟩:=hk i _ (by omega) h1;simp only[Rep] at h ⊢;obtain⟨h0,b1,cap,rfl,b',n',r,h7,h8,h9⟩:=h;rw[h2] at h7;simp only[Q0,Q3] at h7;obtain⟨rfl,rfl,rfl⟩:=h7;obtain⟨rfl,_,hcap⟩:=h9 hc1;have hlx:=h3.length;refine⟨xs,⟨h5,sm ⟨b,0,nn⟩,cap,by rw[hlx,hc1],by rw[hlx,hc1];exact hcap,fun _=>⟨b,0,rfl,fun i x hi j u hj=>?_⟩⟩,h3,h4⟩;rw[Qm];exact h6 _ u (b4i _ xs h5 i x j u hi hj)
 | .rpl i len r0 sz,v,q,h,hq=>by
  simp only[XN] at hq;split at hq
  ·rename_i hl
   simp only[Q0] at hq;subst hq;exact PV.low_rep _ _ h (by simpa[XK] using hl)
  ·rename_i hl
   simp only[Q1,Q2] at hq;obtain⟨o,h1,rows,hol,rfl⟩:=hq;cases o<;>simp only[XZ,reduceCtorEq] at hol
   split at hol
   case isFalse=>cases hol
   rename_i hc;simp only[Q0] at hol;subst hol;obtain⟨hc1,rfl⟩:=hc;obtain⟨b,n,xs,h2,h3,h4,h5,h6⟩:=hk i _ (by omega) h1;simp only[Rep] at h ⊢;obtain⟨h0,hlr,b1,cap,rfl,b',n',r,h7,h8,h9⟩:=h;rw[h2] at h7;simp only[Q0,Q3] at h7;obtain⟨rfl,rfl,rfl⟩:=h7;obtain⟨rfl,_,hcap⟩:=h9 hc1;have hlx:=h3.length;refine⟨xs.take len,⟨fun x hx=>h5 x (Qr hx),sm ⟨b,0,nn⟩,cap,by rw[Qn,hlx,hc1,QW hlr],by rw[Qn,hlx];omega,fun _=>⟨b,0,rfl,fun i x hi j u hj=>?_⟩⟩,h3.take len,fun r hr=>h4 r (Qr hr)⟩;rw[Qm]
   have hi':xs[i]?=sm x:=by
    rw[Qj] at hi;split at hi
    ·exact hi
    ·cases hi
   exact h6 _ u (b4i _ xs h5 i x j u hi' hj)
 | .msl i off len cap sz,v,q,h,hq=>by
  simp only[XN] at hq;split at hq
  ·rename_i hl
   simp only[Q0] at hq;subst hq;exact PV.low_rep _ _ h (by simpa[XK] using hl)
  ·rename_i hl
   simp only[Q1,Q2] at hq;obtain⟨o,h1,l,hol,rows,h0,rfl⟩:=hq;cases o<;>simp only[Kg,reduceCtorEq,Q0] at hol
   subst hol;rename_i l T;split at h0
   case isFalse=>cases h0
   rename_i hcap;obtain⟨b,n,vs,h2,h3,h4⟩:=hk i _ (by omega) h1;simp only[Rep] at h ⊢;obtain⟨b',n',h5,rfl⟩:=h;rw[h2] at h5;simp only[Q0,Q3] at h5;obtain⟨rfl,_⟩:=h5;obtain⟨xs,e1,e2,e3,e4,e5⟩:=e2S (b:=b) len (l.drop off) (vs.drop off) off h0 (h3.drop off) (fun j u hj=>by rw[Qf] at hj;exact h4 _ u hj);exact⟨xs,⟨e2,sm ⟨b,off,nn⟩,cap,by rw[e1],by rw[e1];exact hcap,fun _=>⟨b,off,rfl,e5⟩⟩,e3,e4⟩
 | .fn f l,v,q,h,hq=>by
  simp only[XN,Q2] at hq;obtain⟨l',h1,rfl⟩:=hq;simp only[Rep] at h ⊢;obtain⟨vs,h2,h3⟩:=h;exact⟨vs,h2,PV.frzs_rep hk l vs h3 h1⟩
 | .agg l,v,q,h,hq=>by
  simp only[XN,Q2] at hq;obtain⟨l',h1,rfl⟩:=hq;simp only[Rep] at h ⊢;obtain⟨vs,h2,h3⟩:=h;exact⟨vs,h2,PV.frzs_rep hk l vs h3 h1⟩
 | .tup l,v,q,h,hq=>by
  simp only[XN,Q2] at hq;obtain⟨l',h1,rfl⟩:=hq;simp only[Rep] at h ⊢;obtain⟨vs,h2,h3⟩:=h;exact⟨vs,h2,PV.frzs_rep hk l vs h3 h1⟩
theorem PV.frzs_rep{look:Nat->Option MO}(hk:d0M s B k look):∀(l:List PV) (v:List Value) {q:List PV},Reps s B l v->Kh k look l=sm q->Reps s (B.take k) q v
 | [],v,q,h,hq=>by simp only[Kh,Q0] at hq;subst hq;exact h
 | p::l,v,q,h,hq=>by
  simp only[Kh,Q1,Q2] at hq;obtain⟨p',h1,l',h2,rfl⟩:=hq;simp only[Reps] at h ⊢;obtain⟨x,r,h3,h4,h5⟩:=h;exact⟨x,r,h3,PV.frz_rep hk p x h4 h1,PV.frzs_rep hk l r h5 h2⟩
theorem PV.frzss_rep{look:Nat->Option MO}(hk:d0M s B k look):∀(l:List (List PV)) (v:List (List Value)) {q:List (List PV)},a1t s B l v->Kr k look l=sm q->a1t s (B.take k) q v/\(∀r∈q,∀p∈r,p.one=tt)/\q.length=l.length
 | [],v,q,h,hq=>by simp only[Kr,Q0] at hq;subst hq;exact⟨h,by simp,rfl⟩
 | p::l,v,q,h,hq=>by
  simp only[Kr,Q1] at hq;obtain⟨p',h1,hq⟩:=hq;split at hq
  case isFalse=>cases hq
  rename_i hone;simp only[Q2] at hq;obtain⟨l',h2,rfl⟩:=hq;simp only[a1t] at h;obtain⟨x,r,rfl,h4,h5⟩:=h;obtain⟨e1,e2,e3⟩:=PV.frzss_rep hk l r h5 h2;refine⟨⟨x,r,rfl,PV.frzs_rep hk p x h4 h1,e1⟩,fun r' hr'=>?_,by simp[e3]⟩;rcases Q9.1 hr' with rfl|hr'
  ·exact fun p hp=>List.all_eq_true.1 hone p hp
  ·exact e2 r' hr'
end
end
theorem d3z{s:Hp}{ρp:PEnv}{ρ:Env}(h:EnvRep s ρp ρ)(ht:e9x (ρ.m.drop ρ.k) s):∀d,d0M s (inf ρp.m ρ.m) ρp.k (a6e ρp d)
 | 0,_,_,_,hl=>by simp only[a6e] at hl;cases hl
 | d+1,i,o,hi,hl=>by
  simp only[a6e,Q1] at hl;obtain⟨o',h1,h2⟩:=hl
  have told:∀{b:Nat} {cur:Array Value} {T:TypeId},ρ.m[i]?=sm (b,.cells cur T (0,0))->∀o u,cur[o]?=sm u->s b o=sm u:=by
   intro b cur T g1 o u hu;refine ht (b,.cells cur T (0,0)) ?_ _ _ _ rfl o u hu;rw[QB];exact⟨i-ρ.k,by rw[Qf,show ρ.k+(i-ρ.k)=i by rw[h.k];omega];exact g1⟩
  cases o' with
  | cells l T =>
   simp only[Q2] at h2;obtain⟨l',h3,rfl⟩:=h2;obtain⟨b,vs,g1,g2⟩:=h.m.get h1;have hB:=a3a h1 g1;exact⟨b,_,vs,hB,PV.frzs_rep (d3z h ht d) l vs g2 h3,fun o u hu=>told g1 o u (by simpa using hu)⟩
  | row rows sz T =>
   simp only[Q2] at h2;obtain⟨rows',h3,rfl⟩:=h2;obtain⟨⟨b,ob⟩,g1,cur,g2,a1,a2,a3,a4,xs,a5,a6,a7⟩:=h.m.obj h1;simp only at g2;subst g2;have hB:=a3a h1 g1;obtain⟨e1,e2,e3⟩:=PV.frzss_rep (d3z h ht d) rows xs a5 h3;exact⟨b,_,xs,by rw[e3];exact hB,e1,e2,a6,fun o u hu=>told g1 o u (a7 o u hu)⟩
  | mp ks vs K=>simp at h2
  | mq kv ver=>simp at h2
  | it hd ver seen=>simp at h2
  | dead=>simp at h2
theorem MO.frzM_obj{s:Hp}{B:Inf}{k:Nat}{look:Nat->Option MO}(hk:d0M s B k look){o o':MO}{x:Nat×Obj}(h:a6P s B o x)(hf:o.frzM k look=sm o') :
  a6P s (B.take k) o' x/\(∀y,a2P o' y=a2P o y)/\o'.isIt=ff/\∀p:Prop,p->Kj o o' p:=by
 have other:∀{o:MO},(if o.low k then sm o else nn)=sm o'->a6P s B o x->a6P s (B.take k) o' x/\(∀y,a2P o' y=a2P o y)/\o'.isIt=ff/\∀p:Prop,p->Kj o o' p:=by
  intro o hf h;split at hf
  ·rename_i hl
   simp only[Q0] at hf;subst hf;exact⟨MO.low_obj h hl,fun _=>rfl,by cases o<;>first|rfl|simp[K4] at hl,fun p hp=>MO.Step.refl o hp⟩
  ·cases hf
 cases o with
 | cells l T =>
  simp only[MO.frzM,Q2] at hf;obtain⟨l',h1,rfl⟩:=hf;obtain⟨vs,h2,h3⟩:=h;exact⟨⟨vs,h2,PV.frzs_rep hk l vs h3 h1⟩,fun _=>rfl,rfl,fun _ _=>trivial⟩
 | row rows sz T =>
  simp only[MO.frzM,Q2] at hf;obtain⟨rows',h1,rfl⟩:=hf;obtain⟨cur,g2,a1,a2,⟨cap,a31,a32,a33⟩,a4,xs,a5,a6,a7⟩:=h;obtain⟨e1,e2,e3⟩:=PV.frzss_rep hk rows xs a5 h1;refine⟨⟨cur,g2,?_,a2,⟨cap,a31,by omega,a33⟩,e2,xs,e1,a6,a7⟩,fun y=>by simp only[a2P,e3],rfl,fun _ _=>trivial⟩;rintro rfl;exact a1 (X7.1 e3.symm)
 | mp ks vs K=>exact other hf h
 | mq kv ver=>exact other hf h
 | it hd ver seen=>exact other hf h
 | dead=>exact other hf h
theorem e2Y{s:Hp}{B:Inf}{k:Nat}{look:Nat->Option MO}(hk:d0M s B k look):∀(σ:List MO) (m:MS) {σ':List MO},a1v s B σ m->d9c k look σ=sm σ' ->
  a1v s (B.take k) σ' m/\inf σ' m=inf σ m/\(∀o∈σ',o.isIt=ff)/\∀(i:Nat) o,σ[i]?=sm o->∃o',σ'[i]?=sm o'/\∀p:Prop,p->Kj o o' p
 | [],m,σ',h,hf=>by simp only[d9c,Q0] at hf;subst hf;exact⟨h,rfl,by simp,by simp⟩
 | o::σ,m,σ',h,hf=>by
  simp only[d9c,Q1,Q2] at hf;obtain⟨o',h1,σ2,h2,rfl⟩:=hf;obtain⟨x,r,rfl,h3,h4⟩:=a4Z.1 h;obtain⟨e1,e2,e3,e4⟩:=MO.frzM_obj hk h3 h1;obtain⟨f1,f2,f3,f4⟩:=e2Y hk σ r h4 h2;refine⟨a4Z.2 ⟨x,r,rfl,e1,f1⟩,?_,fun q hq=>?_,fun i q hq=>?_⟩
  ·unfold inf at f2 ⊢
   rw[Xg,Xg,f2,e2]
  ·rcases Q9.1 hq with rfl|hq
   ·exact e3
   ·exact f3 q hq
  ·cases i with
   | zero=>simp only[QN,Q0] at hq;subst hq;exact⟨o',rfl,e4⟩
   | succ i=>simpa using f4 i q (by simpa using hq)
theorem VC.mono{P:Program}{Q Q':Value->Hp->MS->Prop}{T T':Cfg->Env->Hp->Prop}(hQ:∀v s m,Q v s m->Q' v s m)(hT:∀g ρ s,T g ρ s->T' g ρ s):∀(o:Out) (ρ:Env) (s:Hp),VC P Q T o ρ s->VC P Q' T' o ρ s
 | .ret ..,ρ,s,h=>fun β s' h1 h2 h3=>hQ _ _ _ (h β s' h1 h2 h3)
 | .ite c x y,ρ,s,h=>⟨fun hc=>VC.mono hQ hT x ρ s (h.1 hc),fun hc=>VC.mono hQ hT y ρ s (h.2 hc)⟩
 | .need c k,ρ,s,h=>⟨h.1,fun hc=>VC.mono hQ hT k ρ s (h.2 hc)⟩
 | .load _ _ _ _ _ _ k,ρ,s,h=>by
  obtain⟨is,bs,vs,h1,h2,h3,h4,h5,h6⟩:=h;exact⟨is,bs,vs,h1,h2,h3,h4,h5,VC.mono hQ hT k _ s h6⟩
 | .app _ _ _ _ k,ρ,s,h=>by
  obtain⟨xs,es,h1,h2,h3,h4,h5⟩:=h;exact⟨xs,es,h1,h2,h3,h4,fun v s' a b=>VC.mono hQ hT k _ _ (h5 v s' a b)⟩
 | .cut _ _ _ _ k,ρ,s,h=>by
  rcases h with ⟨xs,h1,h2,h3,h4,h5⟩|⟨b,o,len,cap,e,h1,h2,h3,h4,h5,h6,h7⟩
  ·exact .inl ⟨xs,h1,h2,h3,h4,fun v a=>VC.mono hQ hT k _ _ (h5 v a)⟩
  ·exact .inr ⟨b,o,len,cap,e,h1,h2,h3,h4,h5,h6,VC.mono hQ hT k _ _ h7⟩
 | .scut _ _ _ k,ρ,s,h=>by
  obtain⟨l,h1,h2,h3,h4,h5⟩:=h;exact⟨l,h1,h2,h3,h4,VC.mono hQ hT k _ _ h5⟩
 | .chk _ _ k,ρ,s,h=>⟨h.1,VC.mono hQ hT k _ s h.2⟩
 | .appF _ _ _ _ k,ρ,s,h=>by
  obtain⟨xs,es,h1,h2,h3,h4,h5,h6⟩:=h;exact⟨xs,es,h1,h2,h3,h4,h5,fun v s' a b=>VC.mono hQ hT k _ _ (h6 v s' a b)⟩
 | .hole _ _ _ k,ρ,s,h=>by
  obtain⟨xs,h1,h2,h3,h5⟩:=h;exact⟨xs,h1,h2,h3,fun v v' s' a b c=>VC.mono hQ hT k _ _ (h5 v v' s' a b c)⟩
 | .fill _ _ _ _ k,ρ,s,h=>by
  obtain⟨xs,h1,h2,h3,h5⟩:=h;exact⟨xs,h1,h2,h3,fun s' a b=>VC.mono hQ hT k _ _ (h5 s' a b)⟩
 | .call _ _ _ _ _ _ _ k,ρ,s,h=>fun β s1 a b=>by
  obtain⟨Qc,h1,h2⟩:=h β s1 a b;refine⟨Qc,h1,fun v s' m' a c=>?_⟩;obtain⟨is,bs,vs,e1,e2,e3,e4,e5,e6⟩:=h2 v s' m' a c;exact⟨is,bs,vs,e1,e2,e3,e4,e5,VC.mono hQ hT k _ _ e6⟩
 | .callv _ _ _ _ _ _ k,ρ,s,h=>by
  obtain⟨F,caps,Qc,h0,h1,h2,h3⟩:=h;refine⟨F,caps,Qc,h0,h1,h2,fun v s' m' a c=>?_⟩;obtain⟨is,bs,vs,e1,e2,e3,e4,e5,e6⟩:=h3 v s' m' a c;exact⟨is,bs,vs,e1,e2,e3,e4,e5,VC.mono hQ hT k _ _ e6⟩
 | .newM _ _ k,ρ,s,h=>fun b hb=>VC.mono hQ hT k _ _ (h b hb)
 | .mkM _ _ _ _ _ k,ρ,s,h=>by
  obtain⟨h1,h2,h3,h4⟩:=h;exact⟨h1,h2,h3,fun b hb=>VC.mono hQ hT k _ _ (h4 b hb)⟩
 | .appM _ _ _ _ _ k,ρ,s,h=>by
  obtain⟨i,xs,es,h1,h2,h3,h4,h5,h6,h7⟩:=h;exact⟨i,xs,es,h1,h2,h3,h4,h5,fun he=>VC.mono hQ hT k _ _ (h6 he),fun he b' cap' cur' e1 e2 e3 e4 e5=>VC.mono hQ hT k _ _ (h7 he b' cap' cur' e1 e2 e3 e4 e5)⟩
 | .storeM _ _ k,ρ,s,h=>by
  obtain⟨i,b,o,cur,T,h1,h2,h3,h4⟩:=h;exact⟨i,b,o,cur,T,h1,h2,h3,VC.mono hQ hT k _ _ h4⟩
 | .mkMap _ k,ρ,s,h=>fun b hb=>VC.mono hQ hT k _ _ (h b hb)
 | .mapGet _ _ _ _ _ _ _ _ _ k,ρ,s,h=>by
  obtain⟨i,b,es,clock,ks,l,h1,h2,h3,is,bs,vs,e1,e2,e3,e4,e5,e6⟩:=h;exact⟨i,b,es,clock,ks,l,h1,h2,h3,is,bs,vs,e1,e2,e3,e4,e5,VC.mono hQ hT k _ _ e6⟩
 | .mapSet _ _ _ _ k,ρ,s,h=>by
  obtain⟨i,b,es,clock,ks,l,h1,h2,h3,h4⟩:=h;exact⟨i,b,es,clock,ks,l,h1,h2,h3,fun es' clock' hm=>VC.mono hQ hT k _ _ (h4 es' clock' hm)⟩
 | .mapClr _ k,ρ,s,h=>by
  obtain⟨i,b,es,clock,h1,h2,h3⟩:=h;exact⟨i,b,es,clock,h1,h2,VC.mono hQ hT k _ _ h3⟩
 | .mkQ k,ρ,s,h=>fun b hb=>VC.mono hQ hT k _ _ (h b hb)
 | .qGet _ _ _ k,ρ,s,h=>by
  obtain⟨i,b,es,clock,kv,h1,h2,h3,h4,h5⟩:=h;exact⟨i,b,es,clock,kv,h1,h2,h3,h4,VC.mono hQ hT k _ _ h5⟩
 | .qSet _ _ _ k,ρ,s,h=>by
  obtain⟨i,b,es,clock,kv,h1,h2,h3,h4,h5,h6⟩:=h;exact⟨i,b,es,clock,kv,h1,h2,h3,h4,h5,fun es' c' a b=>VC.mono hQ hT k _ _ (h6 es' c' a b)⟩
 | .qDel _ _ k,ρ,s,h=>by
  obtain⟨i,b,es,clock,kv,h1,h2,h3,h4,h5,h6⟩:=h;exact⟨i,b,es,clock,kv,h1,h2,h3,h4,h5,fun es' c' a b=>VC.mono hQ hT k _ _ (h6 es' c' a b)⟩
 | .qLen _ k,ρ,s,h=>by
  obtain⟨i,b,es,clock,h1,h2,h3⟩:=h;exact⟨i,b,es,clock,h1,h2,VC.mono hQ hT k _ _ h3⟩
 | .rng _ k,ρ,s,h=>by
  obtain⟨i,b,es,clock,h1,h2,h3⟩:=h;exact⟨i,b,es,clock,h1,h2,fun b' hb'=>VC.mono hQ hT k _ _ (h3 b' hb')⟩
 | .next _ _ x y,ρ,s,h=>by
  obtain⟨i,b',j,b,since,c0,clock,seen,es,kv,h1,h2,h3,h4,h5,h6,h7,h8,h9⟩:=h;exact⟨i,b',j,b,since,c0,clock,seen,es,kv,h1,h2,h3,h4,h5,h6,h7,fun h0=>VC.mono hQ hT x _ _ (h8 h0),fun e he key v a b c=>VC.mono hQ hT y _ _ (h9 e he key v a b c)⟩
 | .entry _ _ k,ρ,s,h=>by
  obtain⟨i,b',j,b,since,clock,seen,es,e,key,v,h1,h2,h3,h4,h5,h6,h7,h8,h9⟩:=h;exact⟨i,b',j,b,since,clock,seen,es,e,key,v,h1,h2,h3,h4,h5,h6,h7,h8,VC.mono hQ hT k _ _ h9⟩
 | .copyM _ _ _ k,ρ,s,h=>by
  obtain⟨i,b,o,dl,dcap,sl,cap,a,cur,T,vals,h1,h2,h3,h4,h5,h6,h7,h8⟩:=h;exact⟨i,b,o,dl,dcap,sl,cap,a,cur,T,vals,h1,h2,h3,h4,h5,h6,h7,VC.mono hQ hT k _ _ h8⟩
 | .both x y,ρ,s,h=>⟨VC.mono hQ hT x ρ s h.1,VC.mono hQ hT y ρ s h.2⟩
 | .stop c,ρ,s,h=>hT _ _ _ h
 | .fail _,ρ,s,h=>h.elim
theorem f3U{α:Type}(z:List α)(N:Nat):∀i,i<N*z.length->((Q7 N z).flatten)[i]?=z[i % z.length]?:=by
 induction N with
 | zero=>intro i hi;simp at hi
 | succ N ih =>
  intro i hi;rw[QC,QX,X8];split
  ·rename_i h;rw[Nat.mod_eq_of_lt h]
  ·rename_i h
   rw[ih (i-z.length) (by rw[Qu] at hi;omega)]
   congr 1
   rw[<- Nat.mod_eq_sub_mod (by omega)]
theorem e4k(z:List Value)(N:Nat):madeCells z.toArray (N*z.length)=((Q7 N z).flatten).toArray:=by
 apply Array.ext';apply QP;intro i;simp only[madeCells,Array.toList_map,Xh,Qv];rcases Nat.lt_or_ge i (N*z.length) with h|h
 ·have hz:0<z.length:=by
   rcases Nat.eq_zero_or_pos z.length with h0|h0
   ·rw[h0] at h;simp at h
   ·exact h0
  have hm:=Nat.mod_lt i hz;rw[f3U z N i h];simp[h,hm]
 ·rw[X9 (l:=(Q7 N z).flatten) (by simp;exact h)]
  simp[h]
theorem e2N{s:Hp}{B:Inf}{z:List PV}{v:List Value}(h:Reps s B z v):∀N,Reps s B (Q7 N z).flatten (Q7 N v).flatten
 | 0=>rfl
 | N+1=>by simp only[QC,QX];exact h.append (e2N h N)
variable {P:Program}
def QR(σ0:List MO)(m0:MS)(R:Res->Prop):Value->Hp->MS->Prop:=fun v s m=>∃r σ,R (.ret r σ)/\QF σ0 m0 r σ v s m
def TR(σ0:List MO)(m0:MS)(pats:List Cfg)(R:Res->Prop):Cfg->Env->Hp->Prop:=fun g ρ s=>∃q A t ρp,R (.jump q ρp)/\Le2 σ0 m0 ρp.m ρ.m/\σ0.length<=ρp.k/\pats[q]?=sm t/\d5l t=tt/\fits ⟨0,0,0,0⟩ A t g=tt /\
 ∀js,EnvRep s ρp {i:=A.is.map (Kp ρ),b:=A.bs.map (BE.den ρ),v:=XM ρ id A.vs,j:=js,m:=ρ.m,k:=ρ.k}
theorem d9z{g:Cfg}:∀(l:List Cfg) (q:Nat) {r},d9u g l q=sm r->∃t,q<=r.1/\l[r.1-q]?=sm t/\fits ⟨0,0,0,0⟩ r.2 t g=tt/\d5l t=tt
 | [],q,r,h=>by simp[d9u] at h
 | t::l,q,r,h=>by
  simp only[d9u] at h;split at h
  ·rename_i hc
   simp only[Q0] at h;subst h;simp only[Q6] at hc;exact⟨t,Qa _,by simp,hc.1.2,hc.2⟩
  ·obtain⟨t',h1,h2,h3⟩:=d9z l (q+1) h
   refine⟨t',by omega,?_,h3⟩;rw[show r.1-q=(r.1-(q+1))+1 by omega];simpa using h2
theorem BE.all_spec{s:Hp}{ρp:PEnv}{ρ:Env}(h:EnvRep s ρp ρ):∀(l:List BE) {r},Kz ρp l=sm r->l.map (BE.den ρ)=r
 | [],r,hr=>by simp only[Kz,Q0] at hr;subst hr;rfl
 | b::l,r,hr=>by
  simp only[Kz] at hr;split at hr
  ·rename_i hs
   simp only[Q2] at hr;obtain⟨r',h1,rfl⟩:=hr;rw[Qk,KG h b hs,BE.all_spec h l h1]
  ·cases hr
theorem e0p{s:Hp}{ρp:PEnv}{ρ:Env}(h:EnvRep s ρp ρ){own:Nat->Option (List PV)}:∀(l:List SV) {r},XY ρp own l=sm r->l.all SV.flat=tt->∀p∈r,p.one=tt
 | [],r,hr,_,p,hp=>by simp only[XY,Q0] at hr;subst hr;simp at hp
 | x::l,r,hr,hf,p,hp=>by
  simp only[XY,Q1,Q2] at hr;obtain⟨q,h1,r',h2,rfl⟩:=hr;simp only[X6,Q6] at hf;rcases Q9.1 hp with rfl|hp
  ·exact e2J h hf.1 h1
  ·exact e0p h l h2 hf.2 p hp
theorem d2O{s:Hp}{ρp:PEnv}{ρ:Env}(h:EnvRep s ρp ρ):∀(l:List (List SV)) {rows},l.mapM (XY ρp noOwn)=sm rows->(l.all fun x=>x.all SV.flat)=tt ->
  a1t s (inf ρp.m ρ.m) rows (l.map (XM ρ id))/\∀r∈rows,∀p∈r,p.one=tt
 | [],rows,hr,_=>by simp at hr;subst hr;exact⟨rfl,by simp⟩
 | x::l,rows,hr,hf=>by
  simp only[List.mapM_cons,Option.bind_eq_bind,Q1,Option.pure_def,Q0] at hr;obtain⟨r,h1,rows',h2,rfl⟩:=hr;simp only[X6,Q6] at hf;obtain⟨a,b⟩:=d2O h l h2 hf.2;refine⟨⟨_,_,rfl,Kb h (a8u s _ id) x r h1,a⟩,fun r' hr'=>?_⟩;rcases Q9.1 hr' with rfl|hr'
  ·exact e0p h x h1 hf.1
  ·exact b r' hr'
theorem d2U{s:Hp}{B:Inf}:∀{rows:List (List PV)} {xs:List (List Value)},a1t s B rows xs->(∀r∈rows,∀p∈r,p.one=tt)->∀e∈xs,∀u∈e,u.oneCell'=tt
 | [],xs,h,_=>by simp only[a1t] at h;subst h;simp
 | r::rows,xs,h,hone=>by
  simp only[a1t] at h;obtain⟨x,xs',rfl,h1,h2⟩:=h;intro e he u hu;rcases Q9.1 he with rfl|he
  ·obtain⟨i,hi⟩:=QB.1 hu
   have hl:=h1.length;have hlt:=(Q4.1 hi).1;obtain⟨v,e1,e2⟩:=h1.get (QK (l:=r) (i:=i) (by omega));rw[hi] at e1;simp only[Q0] at e1;subst e1;exact b4X (e2.fine (hone r (by simp) _ (X5 _)))
  ·exact d2U h2 (fun r' hr'=>hone r' (by simp[hr'])) e he u hu
theorem d8a{s:Hp}{B:Inf}{l new:List PV}{vs nv:List Value}(h:Reps s B l vs)(h':Reps s B new nv)(o:Nat):Reps s B (a3Y l o new) (a7U vs o nv):=by
 unfold a3Y a7U;have hl:=h'.length;rw[hl];exact((h.take o).append h').append (h.drop _)
theorem EnvRep.pushV{s:Hp}{ρp:PEnv}{ρ:Env}(h:EnvRep s ρp ρ){p:PV}{v:Value}(hp:Rep s (inf ρp.m ρ.m) p v)(h1:p.one=tt):EnvRep s {ρp with v:=ρp.v++[p]} (ρ.push [] [] [v]):=by
 have:=h.push (r:=([],[],[p])) (vvs:=[v]) ⟨⟨v,[],rfl,hp,rfl⟩,by simpa using h1⟩;simpa[XP] using this
theorem EnvRep.newM{s:Hp}{ρp:PEnv}{ρ:Env}(h:EnvRep s ρp ρ){o:MO}{x:Nat×Obj}(ho:a6P s (inf ρp.m ρ.m) o x)(hit:o.isIt=ff:=by rfl):Le2 ρp.m ρ.m (ρp.m++[o]) (ρ.m++[x])/\EnvRep s {ρp with m:=ρp.m++[o]} {ρ with m:=ρ.m++[x]}:=by
 have hml:=h.m.length
 have hpre:BLe (inf ρp.m ρ.m) (inf (ρp.m++[o]) (ρ.m++[x])):=by
  refine Ks ⟨[a2P o x],?_⟩;simp only[inf];rw[QY (by omega)];rfl
 have hle:Le2 ρp.m ρ.m (ρp.m++[o]) (ρ.m++[x]):=⟨hpre,b9A.append _ _ hml⟩;refine⟨hle,h.turn (XV s) hle ?_ (h.coh.append hit hml)⟩;exact KH (Kk (XV s) hpre _ _ h.m) (a4Z.2 ⟨x,[],rfl,ho.mono (XV s) hpre,rfl⟩)
theorem EnvRep.setMle{s:Hp}{ρp:PEnv}{ρ:Env}(h:EnvRep s ρp ρ){i:Nat}{o o0:MO}{x x0:Nat×Obj}(h0:ρp.m[i]?=sm o0)(h1:ρ.m[i]?=sm x0)
  (hi:a2P o x=a2P o0 x0\/(1<=(a2P o0 x0).2.2/\(a2P o0 x0).2.2<(a2P o x).2.2)) (hst:Kj o0 o False):Le2 ρp.m ρ.m (ρp.m.set i o) (ρ.m.set i x):=by
 have hml:=h.m.length;have hlt:=(Q4.1 h0).1;refine⟨?_,b9A.set h0 hst⟩;intro j y hj;by_cases hji:j=i
 ·subst hji
  have hI:=a3a h0 h1;rw[hj] at hI;simp only[Q0] at hI;subst hI;exact⟨_,a3a (o:=o) (x:=x) (by rw[Qw hlt]) (by rw[Qw (by omega)]),hi⟩
 ·refine⟨y,?_,.inl rfl⟩
  simp only[inf,Xj,Qs (Ne.symm hji)] at hj ⊢;exact hj
theorem EnvRep.setM{s:Hp}{ρp:PEnv}{ρ:Env}(h:EnvRep s ρp ρ){i:Nat}{o o0:MO}{x x0:Nat×Obj}(h0:ρp.m[i]?=sm o0)(h1:ρ.m[i]?=sm x0)(ho:a6P s (inf ρp.m ρ.m) o x)
  (hi:a2P o x=a2P o0 x0\/(1<=(a2P o0 x0).2.2/\(a2P o0 x0).2.2<(a2P o x).2.2)) (hst:Kj o0 o False:=by trivial) (hit:o.isIt=ff:=by rfl) (hit0:o0.isIt=ff:=by rfl):Le2 ρp.m ρ.m (ρp.m.set i o) (ρ.m.set i x)/\EnvRep s {ρp with m:=ρp.m.set i o} {ρ with m:=ρ.m.set i x}:=by
 have hlt:=(Q4.1 h0).1;have hle:=h.setMle h0 h1 hi hst;exact⟨hle,h.turn (XV s) hle (Kt (Kk (XV s) hle.ble _ _ h.m) hlt (ho.mono (XV s) hle.ble)) (h.coh.set h0 hit hit0 hst)⟩
theorem d2p(l new:List Value)(o:Nat)(h:o+new.length<=l.length):(a7U l o new).length=l.length:=by
 simp only[a7U,Q5,Qn,Xk];omega
theorem f1V{l new:List PV}{o:Nat}{p:PV}(h:p∈a3Y l o new):p∈l\/p∈new:=by
 simp only[a3Y,Qe] at h;rcases h with (h|h)|h
 ·exact .inl (Qr h)
 ·exact .inr h
 ·exact .inl (Xn h)
theorem e3c{s:Hp}{B:Inf}:∀{rows:List (List PV)} {xs:List (List Value)} (_:a1t s B rows xs) (i:Nat) {r:List PV} {x:List Value} (_:Reps s B r x),a1t s B (rows.set i r) (xs.set i x)
 | [],xs,h,i,r,x,_=>by simp only[a1t] at h;subst h;rfl
 | y::rows,xs,h,i,r,x,hr=>by
  simp only[a1t] at h;obtain⟨z,zs,rfl,h1,h2⟩:=h;cases i with
  | zero=>exact⟨x,zs,rfl,hr,h2⟩
  | succ i=>exact⟨z,_,rfl,h1,e3c h2 i hr⟩
theorem e4j(l new:List Value)(o j:Nat)(h:o+new.length<=l.length):(a7U l o new)[j]?=if o<=j/\j<o+new.length then new[j-o]? else l[j]?:=by
 simp only[a7U,X8,Q5,Qn,Qj,Qf];have hm:min o l.length=o:=QW (by omega);rw[hm];by_cases h1:j<o
 ·rw[XJ (by omega),XJ h1,XJ h1,XS (by omega)]
 ·by_cases h2:j<o+new.length
  ·rw[XJ h2,XS h1,XJ ⟨by omega,h2⟩]
  ·rw[XS h2,XS (by omega)]
   congr 1;omega
theorem d3g{sz i off:Nat}{xs:List (List Value)}{xv new:List Value}{cur:List Value}(hl:∀x∈xs,x.length=sz)(hx:xs[i]?=sm xv)(hxl:xv.length=sz)(hsl:(a7U xv off new).length=sz)(hoff:off+new.length<=sz)
  (hpre:∀(j:Nat) (u:Value),xs.flatten[j]?=sm u->cur[j]?=sm u) (hcur:i*sz+sz<=cur.length) {j:Nat} {u:Value} (hj:(xs.set i (a7U xv off new)).flatten[j]?=sm u):(a7U cur (i*sz+off) new)[j]?=sm u:=by
 have hl':∀x∈xs.set i (a7U xv off new),x.length=sz:=fun x hx'=>by
  rcases QQ hx' with h1|rfl
  ·exact hl x h1
  ·exact hsl
 obtain⟨q,z,r,hq,hz,rfl⟩:=b5K sz _ hl' j u hj;have hr:r<sz:=by have:=(Q4.1 hz).1;rw[hl' z (Qq hq)] at this;exact this
 rw[e4j _ _ _ _ (by omega)];rw[Qy] at hq;split at hq
 ·rename_i hiq
  subst hiq;split at hq
  case isFalse=>cases hq
  simp only[Q0] at hq;subst hq;rw[e4j _ _ _ _ (by omega)] at hz;split at hz
  ·rename_i h1
   rw[XJ (by omega),show i*sz+r-(i*sz+off)=r-off by omega];exact hz
  ·rename_i h1
   rw[XS (by omega)];exact hpre _ u (b4i sz xs hl i xv r u hx hz)
 ·rename_i hiq
  have hne:¬(i*sz+off<=q*sz+r/\q*sz+r<i*sz+off+new.length):=by
   rintro⟨h1,h2⟩;rcases Nat.lt_or_gt_of_ne hiq with h3|h3
   ·have:(i+1)*sz<=q*sz:=QD h3 (Qa _)
    rw[Qu,QS] at this;omega
   ·have:(q+1)*sz<=i*sz:=QD h3 (Qa _)
    rw[Qu,QS] at this;omega
  rw[XS hne];exact hpre _ u (b4i sz xs hl q z r u hq hz)
theorem c5j{s:Hp}{B:Inf}{sz:Nat}:∀(n:Nat) {l:List PV} {vs:List Value} {rows:List (List PV)},Reps s B l vs->a8y sz n l=sm rows ->
  ∃xs,(∀x∈xs,x.length=sz)/\a1t s B rows xs/\(∀r∈rows,∀p∈r,p.one=tt)/\rows.length=n/\∀(j:Nat) (u:Value),xs.flatten[j]?=sm u->vs[j]?=sm u
 | 0,l,vs,rows,hr,h=>by
  simp only[a8y,Q0] at h;subst h;exact⟨[],by simp,rfl,by simp,rfl,by simp⟩
 | n+1,l,vs,rows,hr,h=>by
  simp only[a8y] at h;split at h
  case isFalse=>cases h
  rename_i hc;simp only[Q2] at h;obtain⟨rows',h1,rfl⟩:=h;obtain⟨xs,e1,e2,e3,e4,e5⟩:=c5j n (hr.drop sz) h1;have hl:=hr.length;have hvl:(vs.take sz).length=sz:=by rw[Qn];omega
  refine⟨vs.take sz::xs,?_,⟨_,_,rfl,hr.take sz,e2⟩,?_,by simp[e4],fun j u hj=>?_⟩
  ·intro x hx
   rcases Q9.1 hx with rfl|hx
   ·exact hvl
   ·exact e1 x hx
  ·intro r hr' p hp
   rcases Q9.1 hr' with rfl|hr'
   ·exact List.all_eq_true.1 hc.2 p hp
   ·exact e3 r hr' p hp
  ·rw[QX] at hj
   by_cases hjs:j<sz
   ·rw[Q8 (by omega),Qj,XJ hjs] at hj
    exact hj
   ·rw[Qd (by omega),hvl] at hj
    have:=e5 _ u hj;rw[Qf,show sz+(j-sz)=j by omega] at this;exact this
theorem f0w{s:Hp}{ρp:PEnv}{ρ:Env}(h:EnvRep s ρp ρ){lo hi:Option IE}{size:Nat}{p q:PV}{v:Value}(h4:Rep s (inf ρp.m ρ.m) q v)(hp:d2L ρp lo hi size (sm q)=sm p) :
  ∃(b o len cap:Nat) (e:IE),lo=nn/\hi=sm e/\v=.slice (sm ⟨b,o,nn⟩) len cap/\0<=e.den ρ/\e.den ρ<=len/\len<=cap/\Rep s (inf ρp.m ρ.m) p (.slice (sm ⟨b,o,nn⟩) (e.den ρ).toNat cap)/\p.one=tt:=by
 have row:∀{h0 len sz:Nat},((ρp.m[h0]?).bind (XZ len sz)).isSome=tt->∃b n,(inf ρp.m ρ.m)[h0]?=sm (b,n,len):=by
  intro h0 len sz hs;obtain⟨rows,hr⟩:=Xp.1 hs;obtain⟨o,ho,hr⟩:=Q1.1 hr;cases o<;>simp only[XZ,reduceCtorEq] at hr
  split at hr
  case isFalse=>cases hr
  rename_i hc;obtain⟨⟨b,ob⟩,g1,_⟩:=h.m.obj ho;have:=a3a ho g1;simp only[a2P,hc.1] at this;exact⟨b,_,this⟩
 cases q<;>simp only[d2L,reduceCtorEq] at hp
 case rsl h0 len sz =>
  split at hp
  case h_2=>cases hp
  rename_i e;split at hp
  case isFalse=>cases hp
  rename_i hc;obtain⟨c1,c2,rfl,c3⟩:=hc;simp only[Q0] at hp;subst hp;obtain⟨b2,n2,hB⟩:=row c3;have h4':=h4;simp only[Rep] at h4';obtain⟨hpos,b,cap,rfl,b',n,r,k1,k2,k3⟩:=h4';rw[hB] at k1;simp only[Q0,Q3] at k1;obtain⟨rfl,rfl,rfl⟩:=k1;obtain⟨rfl,k4,k5⟩:=k3 rfl;rw[<- XR h] at c1 c2;refine⟨b2,0,len,cap,e,rfl,rfl,rfl,c1,c2,k5,?_,rfl⟩;simp only[Rep];rw[<- XR h];exact⟨hpos,by omega,b2,cap,rfl,b2,n2,len,hB,Qa _,fun _=>⟨rfl,k4,k5⟩⟩
 case rpl h0 len r0 sz =>
  split at hp
  case h_2=>cases hp
  rename_i e;split at hp
  case isFalse=>cases hp
  rename_i hc;obtain⟨c1,c2,c4,rfl,c3⟩:=hc;simp only[Q0] at hp;subst hp;obtain⟨b2,n2,hB⟩:=row c3;have h4':=h4;simp only[Rep] at h4';obtain⟨hpos,hle,b,cap,rfl,b',n,r,k1,k2,k3⟩:=h4';rw[hB] at k1;simp only[Q0,Q3] at k1;obtain⟨rfl,rfl,rfl⟩:=k1;obtain⟨rfl,k4,k5⟩:=k3 rfl;rw[<- XR h] at c1 c2;refine⟨b2,0,len,cap,e,rfl,rfl,rfl,c1,c2,by omega,?_,rfl⟩;simp only[Rep];rw[<- XR h];exact⟨hpos,by omega,b2,cap,rfl,b2,n2,r0,hB,Qa _,fun _=>⟨rfl,k4,k5⟩⟩
 case msl h0 o len cap sz =>
  split at hp
  case h_2=>cases hp
  rename_i e;split at hp
  case isFalse=>cases hp
  rename_i hc;obtain⟨c1,c2,c3,rfl⟩:=hc;simp only[Q0] at hp;subst hp;simp only[Rep] at h4;obtain⟨b,n,hB,rfl⟩:=h4;rw[<- XR h] at c1 c2;refine⟨b,o,len,cap,e,rfl,rfl,rfl,c1,c2,c3,?_,rfl⟩;simp only[Rep];rw[<- XR h];exact⟨b,n,hB,rfl⟩
theorem e4w{s:Hp}{B:Inf}:∀(ks:List Int) (vs:List PV) (vv:List Value),Reps s B vs vv->∀z,(a5o ks vs z=nn/\a5o ks vv z=nn)\/∃p v,a5o ks vs z=sm p/\a5o ks vv z=sm v/\Rep s B p v
 | [],vs,vv,h,z=>.inl ⟨by cases vs<;>rfl,by cases vv<;>rfl⟩
 | k::ks,[],vv,h,z=>by simp only[Reps] at h;subst h;exact .inl ⟨rfl,rfl⟩
 | k::ks,p::vs,vv,h,z=>by
  simp only[Reps] at h;obtain⟨v,r,rfl,h1,h2⟩:=h;simp only[a5o];split
  ·exact .inr ⟨p,v,rfl,rfl,h1⟩
  ·exact e4w ks vs r h2 z
theorem e6i{s:Hp}{B:Inf}:∀(ks:List Int) (vs:List PV) (vv:List Value),Reps s B vs vv->∀z (x:PV) (y:Value),Rep s B x y->(a7V ks vs z x).1=(a7V ks vv z y).1/\Reps s B (a7V ks vs z x).2 (a7V ks vv z y).2
 | [],vs,vv,h,z,x,y,hx=>by
  have e1:a7V [] vs z x=([z],[x]):=by cases vs<;>rfl
  have e2:a7V [] vv z y=([z],[y]):=by cases vv<;>rfl
  rw[e1,e2];exact⟨rfl,y,[],rfl,hx,rfl⟩
 | k::ks,[],vv,h,z,x,y,hx=>by
  simp only[Reps] at h;subst h;exact⟨rfl,y,[],rfl,hx,rfl⟩
 | k::ks,p::vs,vv,h,z,x,y,hx=>by
  simp only[Reps] at h;obtain⟨v,r,rfl,h1,h2⟩:=h;simp only[a7V];split
  ·exact⟨rfl,y,r,rfl,hx,h2⟩
  ·obtain⟨i1,i2⟩:=e6i ks vs r h2 z x y hx
   exact⟨by rw[i1],v,_,rfl,h1,i2⟩
theorem EnvRep.map{s:Hp}{ρp:PEnv}{ρ:Env}(h:EnvRep s ρp ρ){n hd:Nat}{ks:List Int}{vs:List PV}{K:IntKind}(hn:ρp.v[n]?=sm (.mp hd))(hm:ρp.m[hd]?=sm (.mp ks vs K)) :
  ∃b es clock vv,ρ.m[hd]?=sm (b,.map es clock)/\ρ.v.getD n vd=.map (sm b)/\c5o K es ks vv/\Reps s (inf ρp.m ρ.m) vs vv:=by
 obtain⟨v,_,g1,g2⟩:=h.get hn;obtain⟨⟨b,o⟩,m1,es,clock,vv,m2,m3,m4⟩:=h.m.obj hm;simp only at m2;subst m2;have hI:=a3a hm m1;simp only[Rep] at g2;obtain⟨b',n',g3,rfl⟩:=g2;rw[hI] at g3;simp only[a2P,Q0,Q3] at g3;obtain⟨rfl,_⟩:=g3;exact⟨_,es,clock,vv,m1,g1,m3,m4⟩
theorem c8F{n:Nat}{kv kv':KV}(h:kv'.Perm kv)(hw:c8t n kv=tt):d2c n kv':=fun p hp=>by
 have:=List.all_eq_true.1 hw p (h.mem_iff.1 hp);simpa using this
theorem c5b{kv:KV}{k:List Int}{v:Int}(hn:(kv.map (·.1)).Nodup):a4l kv k=sm v↔(k,v)∈kv:=by
 induction kv with
 | nil=>simp[a4l]
 | cons p kv ih =>
  simp only[Qk,QU] at hn;simp only[a4l,Q9];split
  ·rename_i hk
   subst hk;constructor
   ·intro h;simp only[Q0] at h;exact .inl (by rw[<- h])
   ·rintro (h|h)
    ·rw[<- h]
    ·exact XW (Qb.2 ⟨_,h,rfl⟩) hn.1
  ·rename_i hk
   rw[ih hn.2];constructor
   ·exact .inr
   ·rintro (h|h)
    ·exact XW (by rw[<- h]) hk
    ·exact h
theorem d9T{kv:KV}{k:List Int}:a4l kv k=nn↔∀v,(k,v)∉kv:=by
 induction kv with
 | nil=>simp[a4l]
 | cons p kv ih =>
  simp only[a4l,Q9,not_or];split
  ·rename_i hk
   subst hk;simp only[reduceCtorEq,false_iff];intro h;exact(h p.2).1 rfl
  ·rename_i hk
   rw[ih];exact⟨fun h v=>⟨fun he=>hk (by rw[<- he]),h v⟩,fun h v=>(h v).2⟩
theorem e9S{kv kv':KV}(h:kv'.Perm kv)(hn:(kv.map (·.1)).Nodup)(k:List Int):a4l kv' k=a4l kv k:=by
 have hn':(kv'.map (·.1)).Nodup:=(h.map _).nodup_iff.2 hn;cases hk:a4l kv k with
 | none=>exact d9T.2 fun v hv=>d9T.1 hk v (h.mem_iff.1 hv)
 | some v=>exact(c5b hn').2 (h.mem_iff.2 ((c5b hn).1 hk))
theorem d4B:∀(kv:KV) (p:List Int×Int),(e8U kv p).Perm (p::kv)
 | [],p=>.refl _
 | q::kv,p=>by
  simp only[e8U];split
  ·exact .refl _
  ·exact((d4B kv p).cons q).trans (.swap p q kv)
theorem e4r:∀(kv:KV) (k:List Int) (v:Int),(kv.map (·.1)).Nodup->(c6r kv k v).Perm ((k,v)::c1h kv k)
 | [],k,v,_=>.refl _
 | p::kv,k,v,hn=>by
  simp only[Qk,QU] at hn;simp only[c6r,c1h,Xq];split
  ·rename_i hk
   subst hk;simp only[decide_true,Bool.not_true,Qh,XX]
   have:kv.filter (fun q=>!decide (q.1=p.1))=kv:=Xr.2 fun q hq=>by
    simp only[QV,KA];intro he;exact hn.1 (Qb.2 ⟨q,hq,he⟩)
   rw[this]
  ·rename_i hk
   have:(!decide (p.1=k))=tt:=by simp only[QV,KA];exact fun h=>hk h.symm
   rw[this,XJ rfl];exact((e4r kv k v hn.2).cons p).trans (.swap _ _ _)
theorem d9x{kv:KV}{k:List Int}(hn:(kv.map (·.1)).Nodup):((c1h kv k).map (·.1)).Nodup:=hn.sublist ((List.filter_sublist).map _)
theorem f2A{kv:KV}{k:List Int}:k∉(c1h kv k).map (·.1):=by
 intro h;obtain⟨p,hp,rfl⟩:=Qb.1 h;simp[c1h] at hp
theorem e9Z{kv:KV}{k:List Int}{v:Int}(hn:(kv.map (·.1)).Nodup):((d8p kv k v).map (·.1)).Nodup:=by
 have:=((d4B (c1h kv k) (k,v)).map (·.1)).nodup_iff;unfold d8p;rw[this];simp only[Qk,QU];exact⟨f2A,d9x hn⟩
theorem f0q{kv kv':KV}(h:kv'.Perm kv)(hn:(kv.map (·.1)).Nodup)(k:List Int)(v:Int):(c6r kv' k v).Perm (d8p kv k v)/\((d8p kv k v).map (·.1)).Nodup:=by
 refine⟨?_,e9Z hn⟩;have hn':(kv'.map (·.1)).Nodup:=(h.map _).nodup_iff.2 hn;exact(e4r kv' k v hn').trans (((h.filter _).cons _).trans (d4B _ _).symm)
theorem e6t:∀(kv:KV) (k:List Int),(kv.map (·.1)).Nodup->c4b kv k=c1h kv k
 | [],k,_=>rfl
 | p::kv,k,hn=>by
  simp only[Qk,QU] at hn;simp only[c4b,c1h,Xq];split
  ·rename_i hk
   subst hk;simp only[decide_true,Bool.not_true,Qh,XX]
   exact(Xr.2 fun q hq=>by
    simp only[QV,KA]
    intro he;exact hn.1 (Qb.2 ⟨q,hq,he⟩)).symm
  ·rename_i hk
   have:(!decide (p.1=k))=tt:=by simp only[QV,KA];exact fun h=>hk h.symm
   rw[this,XJ rfl,e6t kv k hn.2];rfl
theorem f1h{kv kv':KV}(h:kv'.Perm kv)(hn:(kv.map (·.1)).Nodup)(k:List Int):(c4b kv' k).Perm (c1h kv k)/\((c1h kv k).map (·.1)).Nodup:=by
 have hn':(kv'.map (·.1)).Nodup:=(h.map _).nodup_iff.2 hn;refine⟨?_,d9x hn⟩;rw[e6t kv' k hn'];exact h.filter _
theorem d8i{es:Array MapEntry}{kv kv':KV}(m3:QIs es kv')(m4:kv'.Perm kv){e:MapEntry}(he:e∈es.toList):∃p∈kv,e.key=qkey p.1/\e.val=.int .i64 p.2:=by
 have:(e.key,e.val)∈es.toList.map (fun e=>(e.key,e.val)):=Qb.2 ⟨e,he,rfl⟩;rw[m3] at this;obtain⟨p,hp,he⟩:=Qb.1 this;simp only[encE,Q3] at he;exact⟨p,m4.mem_iff.1 hp,he.1.symm,he.2.symm⟩
theorem f2p{es:Array MapEntry}{kv kv':KV}(m3:QIs es kv')(m4:kv'.Perm kv){p:List Int×Int}(hp:p∈kv):∃e∈es.toList,e.key=qkey p.1/\e.val=.int .i64 p.2:=by
 have:encE p∈kv'.map encE:=Qb.2 ⟨p,m4.mem_iff.2 hp,rfl⟩;rw[<- m3] at this;obtain⟨e,he,h⟩:=Qb.1 this;simp only[encE,Q3] at h;exact⟨e,he,h.1,h.2⟩
theorem d5e{α β:Type}{f:α->β}:∀{l:List α},(l.map f).Nodup->∀{a b:α},a∈l->b∈l->f a=f b->a=b
 | [],_,a,b,ha,_,_=>by simp at ha
 | x::l,hn,a,b,ha,hb,he=>by
  simp only[Qk,QU] at hn;rcases Q9.1 ha with h1|h1
  ·rcases Q9.1 hb with h2|h2
   ·rw[h1,h2]
   ·exact XW (Qb.2 ⟨b,h2,by rw[<- he,h1]⟩) hn.1
  ·rcases Q9.1 hb with h2|h2
   ·exact XW (Qb.2 ⟨a,h1,by rw[he,h2]⟩) hn.1
   ·exact d5e hn.2 h1 h2 he
theorem e9B{es:Array MapEntry}{kv kv':KV}(m3:QIs es kv')(m4:kv'.Perm kv)(m5:(kv.map (·.1)).Nodup):(es.toList.map (·.key)).Nodup:=by
 have h1:es.toList.map (·.key)=(kv'.map (·.1)).map qkey:=by
  have:=congrArg (List.map Prod.fst) m3;simp only[List.map_map] at this ⊢;exact this
 rw[h1];exact List.Pairwise.map _ (fun a b hab h=>hab (d3q h)) ((m4.map _).nodup_iff.2 m5)
theorem f5e{es:Array MapEntry}{kv kv':KV}(m3:QIs es kv')(m4:kv'.Perm kv)(m5:(kv.map (·.1)).Nodup){e:MapEntry}(he:e∈es.toList){key:List Int}(hk:e.key=qkey key){v:Int}(hv:a4l kv key=sm v):e.val=.int .i64 v:=by
 obtain⟨p,hp,h1,h2⟩:=d8i m3 m4 he;have:p.1=key:=d3q (h1.symm.trans hk);have h3:=(c5b m5).1 hv;have h4:=(c5b (v:=p.2) m5).2 (show (key,p.2)∈kv by rw[<- this];exact hp);rw[hv] at h4;simp only[Q0] at h4;rw[h2,h4]
theorem d8F{es:Array MapEntry}{kv kv':KV}{sn:Array Nat}{seen:List (List Int)}(m3:QIs es kv')(m4:kv'.Perm kv)(i5:∀e∈es.toList,sn.contains e.born=tt↔∃k∈seen,e.key=qkey k){e:MapEntry}(he:e∈es.toList){p:List Int×Int}(hp:e.key=qkey p.1) :
  e∈(leftOf es sn).toList↔(seen.any fun k=>decide (k=p.1))=ff:=by
 simp only[leftOf,QZ,QE,QV,he,Kq];rw[<- Xs,i5 e he,<- Xs,List.any_eq_true];constructor
 ·rintro h ⟨k,hk,hkp⟩
  exact h ⟨k,hk,by rw[hp,of_decide_eq_true hkp]⟩
 ·rintro h ⟨k,hk,hkp⟩
  exact h ⟨k,hk,dT0 (d3q (hkp.symm.trans hp))⟩
theorem f2o{es:Array MapEntry}{kv kv':KV}{sn:Array Nat}{seen:List (List Int)}(m3:QIs es kv')(m4:kv'.Perm kv)(i5:∀e∈es.toList,sn.contains e.born=tt↔∃k∈seen,e.key=qkey k):(leftOf es sn).size=0↔d2f kv seen=[]:=by
 constructor
 ·intro h
  refine List.filter_eq_nil_iff.2 fun p hp=>?_
  obtain⟨e,he,h1,_⟩:=f2p m3 m4 hp;intro hc;have:=(d8F m3 m4 i5 he h1).2 (by simpa using hc);have h0:(leftOf es sn).toList=[]:=X7.1 (by simpa using h);rw[h0] at this;simp at this
 ·intro h
  rw[<- X0];refine X7.2 (List.eq_nil_iff_forall_not_mem.2 fun e he=>?_)
  have hee:e∈es.toList:=by
   simp only[leftOf,QZ,QE] at he;exact he.1
  obtain⟨p,hp,h1,_⟩:=d8i m3 m4 hee;have:=(d8F m3 m4 i5 hee h1).1 he;have hm:p∈d2f kv seen:=QE.2 ⟨hp,by simp[this]⟩;rw[h] at hm;simp at hm
theorem f1O{es:Array MapEntry}{kv kv':KV}{sn:Array Nat}{seen:List (List Int)}(m3:QIs es kv')(m4:kv'.Perm kv)(i5:∀e∈es.toList,sn.contains e.born=tt↔∃k∈seen,e.key=qkey k){e:MapEntry}(he:e∈(leftOf es sn).toList)
  {key:List Int} {v:Int} (hk:e.key=qkey key) (hv:e.val=.int .i64 v):(key,v)∈d2f kv seen/\d2f kv seen≠[]:=by
 have hee:e∈es.toList:=by
  simp only[leftOf,QZ,QE] at he;exact he.1
 obtain⟨p,hp,h1,h2⟩:=d8i m3 m4 hee;have e1:p.1=key:=d3q (h1.symm.trans hk);have e2:p.2=v:=by rw[hv] at h2;simpa using h2.symm
 have:=(d8F m3 m4 i5 hee h1).1 he;have hm:(key,v)∈d2f kv seen:=QE.2 ⟨by rw[<- e1,<- e2];exact hp,by rw[<- e1];simp[this]⟩;exact⟨hm,fun h=>by rw[h] at hm;simp at hm⟩
theorem EnvRep.mapQ{s:Hp}{ρp:PEnv}{ρ:Env}(h:EnvRep s ρp ρ){n hd:Nat}{kv:KV}{ver:Nat}(hn:ρp.v[n]?=sm (.mp hd))(hm:ρp.m[hd]?=sm (.mq kv ver)) :
  ∃b es clock kv',ρ.m[hd]?=sm (b,.map es clock)/\ρ.v.getD n vd=.map (sm b)/\QIs es kv'/\kv'.Perm kv/\(kv.map (·.1)).Nodup/\b9O es clock:=by
 obtain⟨v,_,g1,g2⟩:=h.get hn;obtain⟨⟨b,o⟩,m1,es,clock,m2,kv',m3,m4,m5,m6⟩:=h.m.obj hm;simp only at m2;subst m2;have hI:=a3a hm m1;simp only[Rep] at g2;obtain⟨b',n',g3,rfl⟩:=g2;rw[hI] at g3;simp only[a2P,Q0,Q3] at g3;obtain⟨rfl,_⟩:=g3;exact⟨_,es,clock,kv',m1,g1,m3,m4,m5,m6⟩
theorem EnvRep.iter{s:Hp}{ρp:PEnv}{ρ:Env}(h:EnvRep s ρp ρ){n ii hd ver:Nat}{seen:List (List Int)}{kv:KV}(hn:ρp.v[n]?=sm (.ref ii 0))(hit:ρp.m[ii]?=sm (.it hd ver seen))(hm:ρp.m[hd]?=sm (.mq kv ver)) :
  ∃b' b clock sn es kv',ρ.m[ii]?=sm (b',.mapIter (sm b) clock sn clock)/\ρ.m[hd]?=sm (b,.map es clock)/\ρ.v.getD n vd=.pointer (sm ⟨b',0,nn⟩)/\(∀e∈es.toList,e.born<clock) /\
   (∀e∈es.toList,sn.contains e.born=tt↔∃k∈seen,e.key=qkey k)/\(∀k,seen.getLast?=sm k->∃e∈es.toList,∃sn':Array Nat,sn=sn'.push e.born/\e.key=qkey k) /\
   QIs es kv'/\kv'.Perm kv/\(kv.map (·.1)).Nodup/\b9O es clock:=by
 obtain⟨kv2,ver',c1,c2,c3⟩:=h.coh ii hd ver seen hit;rw[hm] at c1;simp only[Q0,MO.mq.injEq] at c1;obtain⟨x,y,x1,y1,b',b,clock,sn,es,rfl,rfl,d1,d2,d3⟩:=c3 c1.2;obtain⟨⟨b2,o⟩,m1,es2,clock2,m2,kv',m3,m4,m5,m6⟩:=h.m.obj hm;simp only at m2;subst m2;rw[y1] at m1;simp only[Q0,Q3,Obj.map.injEq] at m1;obtain⟨_,rfl,rfl⟩:=m1;obtain⟨v,_,g1,g2⟩:=h.get hn;have hI:=a3a hit x1;simp only[Rep] at g2;obtain⟨b3,n',g3,rfl⟩:=g2;rw[hI] at g3;simp only[a2P,Q0,Q3] at g3;obtain⟨rfl,_⟩:=g3;exact⟨_,b,clock,sn,es,kv',x1,y1,g1,d1,d2,d3,m3,m4,m5,m6⟩
theorem EnvRep.newIt{s:Hp}{ρp:PEnv}{ρ:Env}(h:EnvRep s ρp ρ){hd ver b clock:Nat}{kv:KV}{es:Array MapEntry}(hm:ρp.m[hd]?=sm (.mq kv ver))(m1:ρ.m[hd]?=sm (b,.map es clock))(m6:b9O es clock)(b':Nat) :
  Le2 ρp.m ρ.m (ρp.m++[.it hd ver []]) (ρ.m++[(b',.mapIter (sm b) clock #[] clock)])/\EnvRep s {ρp with m:=ρp.m++[.it hd ver []]} {ρ with m:=ρ.m++[(b',.mapIter (sm b) clock #[] clock)]}:=by
 have hml:=h.m.length
 have hpre:BLe (inf ρp.m ρ.m) (inf (ρp.m++[.it hd ver []]) (ρ.m++[(b',.mapIter (sm b) clock #[] clock)])):=by
  refine Ks ⟨[a2P (.it hd ver []) (b',.mapIter (sm b) clock #[] clock)],?_⟩;simp only[inf];rw[QY (by omega)];rfl
 have hle:Le2 ρp.m ρ.m (ρp.m++[.it hd ver []]) (ρ.m++[(b',.mapIter (sm b) clock #[] clock)]):=⟨hpre,b9A.append _ _ hml⟩;refine⟨hle,h.turn (XV s) hle ?_ ?_⟩
 ·exact KH (Kk (XV s) hpre _ _ h.m) (a4Z.2 ⟨_,[],rfl,⟨_,_,_,_,rfl⟩,rfl⟩)
 ·intro i hd2 ver2 seen hi
  have hlt:=(Q4.1 hm).1;rw[X8] at hi;split at hi
  ·rename_i hil
   obtain⟨kv2,ver',c1,c2,c3⟩:=h.coh i hd2 ver2 seen hi;have hlt2:=(Q4.1 c1).1;refine⟨kv2,ver',by rw[Q8 hlt2];exact c1,c2,fun he=>?_⟩;obtain⟨x',y',e1,e2,e3⟩:=c3 he;exact⟨x',y',by rw[Q8 (by omega)];exact e1,by rw[Q8 (by omega)];exact e2,e3⟩
  ·rename_i hil
   have hieq:i=ρp.m.length:=by
    have:=(Q4.1 hi).1;simp only[List.length_singleton] at this;omega
   subst hieq;simp only[Nat.sub_self,QN,Q0,KM] at hi;obtain⟨rfl,rfl,rfl⟩:=hi;refine⟨kv,ver,by rw[Q8 hlt];exact hm,Qa _,fun _=>?_⟩;refine⟨(b',.mapIter (sm b) clock #[] clock),(b,.map es clock),by rw[<- hml];simp,by rw[Q8 (by omega)];exact m1,b',b,clock,#[],es,rfl,rfl,m6.2,fun e _=>by simp,fun k hk=>by simp at hk⟩
theorem f0C{α:Type}{l:List α}{i:Nat}{x:α}(h:l[i]?=sm x):l.set i x=l:=by
 apply QP;intro j;rw[Qy];split
 ·rename_i he;subst he
  rw[XJ (Q4.1 h).1,h]
 ·rfl
theorem EnvRep.killIt{s:Hp}{ρp:PEnv}{ρ:Env}(h:EnvRep s ρp ρ){ii hd ver:Nat}{seen:List (List Int)}{x:Nat×Obj}(hit:ρp.m[ii]?=sm (.it hd ver seen))(i1:ρ.m[ii]?=sm x) :
  Le2 ρp.m ρ.m (ρp.m.set ii .dead) ρ.m/\EnvRep s {ρp with m:=ρp.m.set ii .dead} ρ:=by
 have hlt:=(Q4.1 hit).1;have hle:=h.setMle (o:=.dead) (x:=x) hit i1 (.inl rfl) (by simp[Kj]);rw[f0C i1] at hle;refine⟨hle,?_⟩;have hm:=Kt (i:=ii) (o:=.dead) (x:=x) (Kk (XV s) hle.ble _ _ h.m) hlt trivial;rw[f0C i1] at hm
 have hc:Coh (ρp.m.set ii .dead) ρ.m:=by
  intro i hd2 ver2 seen2 hi;rw[Qy] at hi;split at hi
  ·simp at hi
  ·rename_i hne
   obtain⟨kv2,ver',c1,c2,c3⟩:=h.coh i hd2 ver2 seen2 hi;have hne2:ii≠hd2:=by rintro rfl;rw[hit] at c1;simp at c1
   exact⟨kv2,ver',by rw[Qs hne2];exact c1,c2,c3⟩
 exact h.turn (m':=ρ.m) (XV s) hle hm hc
theorem EnvRep.stepIt{s:Hp}{ρp:PEnv}{ρ:Env}(h:EnvRep s ρp ρ){ii hd ver b' b clock:Nat}{seen:List (List Int)}{kv:KV}{sn:Array Nat}{es:Array MapEntry}(hit:ρp.m[ii]?=sm (.it hd ver seen))(hm:ρp.m[hd]?=sm (.mq kv ver))
  (i1:ρ.m[ii]?=sm (b',.mapIter (sm b) clock sn clock)) (i2:ρ.m[hd]?=sm (b,.map es clock)) (i4:∀e∈es.toList,e.born<clock)
  (i5:∀e∈es.toList,sn.contains e.born=tt↔∃k∈seen,e.key=qkey k) (i6:∀k,seen.getLast?=sm k->∃e∈es.toList,∃sn':Array Nat,sn=sn'.push e.born/\e.key=qkey k)
  {kv':KV} (m3:QIs es kv') (m4:kv'.Perm kv) (m5:(kv.map (·.1)).Nodup) (m6:b9O es clock)
  {e:MapEntry} (he:e∈(leftOf es sn).toList) {key:List Int} (hk:e.key=qkey key) :
  Le2 ρp.m ρ.m (ρp.m.set ii (.it hd ver (seen++[key]))) (ρ.m.set ii (b',.mapIter (sm b) clock (sn.push e.born) clock)) /\
   EnvRep s {ρp with m:=ρp.m.set ii (.it hd ver (seen++[key]))} {ρ with m:=ρ.m.set ii (b',.mapIter (sm b) clock (sn.push e.born) clock)}:=by
 have hee:e∈es.toList:=by
  simp only[leftOf,QZ,QE] at he;exact he.1
 have hlt:=(Q4.1 hit).1;have hml:=h.m.length;have hle:=h.setMle (o:=.it hd ver (seen++[key])) (x:=(b',.mapIter (sm b) clock (sn.push e.born) clock)) hit i1 (.inl rfl) ⟨rfl,rfl,by simp,fun h=>by simp at h⟩;have hne:ii≠hd:=fun he=>by rw[he,hm] at hit;simp at hit
 have hborn:∀e'∈es.toList,(e'.born=e.born↔e'=e):=fun e' he'=>⟨fun h=>d5e m6.1 he' hee h,fun h=>by rw[h]⟩
 have hkeys:∀e'∈es.toList,∀e2∈es.toList,e'.key=e2.key->e'=e2:=fun e' he' e2 he2 h=>d5e (e9B m3 m4 m5) he' he2 h
 ·refine⟨hle,h.turn (XV s) hle (Kt (Kk (XV s) hle.ble _ _ h.m) hlt ⟨_,_,_,_,rfl⟩) ?_⟩
  intro i hd2 ver2 seen2 hi;rw[Qy] at hi;split at hi
  ·rename_i hieq
   subst hieq;simp only[Q0,KM] at hi;obtain⟨rfl,rfl,rfl⟩:=hi;refine⟨kv,ver,by rw[Qs hne];exact hm,Qa _,fun _=>?_⟩;refine⟨_,_,by rw[Qw (by omega)],by rw[Qs hne];exact i2,b',b,clock,sn.push e.born,es,rfl,rfl,i4,fun e' he'=>?_,fun k hk'=>?_⟩
   ·have h5:=i5 e' he'
    simp only[Array.contains_push,Bool.or_eq_true,Ku,Qe,QH,hborn e' he',h5];constructor
    ·rintro (⟨k,h1,h2⟩|rfl)
     ·exact⟨k,.inl h1,h2⟩
     ·exact⟨key,.inr rfl,hk⟩
    ·rintro⟨k,h1|rfl,h2⟩
     ·exact .inl ⟨k,h1,h2⟩
     ·exact .inr (hkeys e' he' e hee (h2.trans hk.symm))
   ·simp only[List.getLast?_append,List.getLast?_singleton,Option.some_or,Q0] at hk'
    subst hk';exact⟨e,hee,sn,rfl,hk⟩
  ·rename_i hieq
   obtain⟨kv2,ver',c1,c2,c3⟩:=h.coh i hd2 ver2 seen2 hi;have hne2:ii≠hd2:=fun he=>by rw[<- he,hit] at c1;simp at c1
   refine⟨kv2,ver',by rw[Qs hne2];exact c1,c2,fun he=>?_⟩;obtain⟨x',y',e1,e2,e3⟩:=c3 he;exact⟨x',y',by rw[Qs hieq];exact e1,by rw[Qs hne2];exact e2,e3⟩
theorem c4W{s:Hp}{B:Inf}:∀{rows:List (List PV)} {xs:List (List Value)},a1t s B rows xs->Reps s B rows.flatten xs.flatten
 | [],xs,h=>by simp only[a1t] at h;subst h;rfl
 | r::rows,xs,h=>by
  simp only[a1t] at h;obtain⟨x,xs',rfl,h1,h2⟩:=h;exact h1.append (c4W h2)
theorem e5r{s:Hp}{ρp:PEnv}{ρ:Env}(h:EnvRep s ρp ρ){size:Nat}{p:PV}{v:Value}(hv:Rep s (inf ρp.m ρ.m) p v){es:List (List PV)}(hs:p.rowsAt ρp.m size=sm es) :
  ∃ev,f3i ρ size v ev/\a1t s (inf ρp.m ρ.m) es ev/\∀r∈es,∀p∈r,p.one=tt:=by
 have row:∀{hd len:Nat} {rows:List (List PV)},(ρp.m[hd]?).bind (XZ len size)=sm rows->∃(b:Nat) (cur:Array Value) (T:TypeId) (xs:List (List Value)),ρ.m[hd]?=sm (b,.cells cur T (0,0))/\(inf ρp.m ρ.m)[hd]?=sm (b,cur.size,len)/\rows.length=len/\a1t s (inf ρp.m ρ.m) rows xs/\(∀r∈rows,∀p∈r,p.one=tt)/\(∀x∈xs,x.length=size)/\∀(j:Nat) (u:Value),xs.flatten[j]?=sm u->cur[j]?=sm u:=by
  intro hd len rows hb;simp only[Q1] at hb;obtain⟨ob,hob,hrows⟩:=hb;cases ob<;>simp only[XZ,reduceCtorEq] at hrows
  rename_i rows' sz' T;split at hrows
  case isFalse=>cases hrows
  rename_i hc;obtain⟨hc1,hc2⟩:=hc;simp only[Q0] at hrows;subst hrows;subst hc2;obtain⟨⟨b,ob⟩,m1,cur,m2,a1,a2,a3,a4,xs,a5,a6,a7⟩:=h.m.obj hob;simp only at m2;subst m2;have hB:=a3a hob m1;simp only[a2P,a6k,hc1] at hB;exact⟨b,cur,T,xs,m1,hB,hc1,a5,a4,a6,a7⟩
 cases p<;>simp only[PV.rowsAt,reduceCtorEq] at hs
 case msl hd o len cap sz =>
  split at hs
  case isFalse=>cases hs
  rename_i hn;subst hn;simp only[Q1] at hs;obtain⟨ob,hob,l,hl,hs⟩:=hs;cases ob<;>simp only[Kg,reduceCtorEq,Q0] at hl
  subst hl;rename_i l T;obtain⟨b,vs,m1,m2⟩:=h.m.get hob;have hB:=a3a hob m1;simp only[Rep] at hv;obtain⟨b',n',k1,rfl⟩:=hv;rw[hB] at k1;simp only[a2P,Q0,Q3] at k1;obtain⟨rfl,_⟩:=k1;obtain⟨xs,x1,x2,x3,x4,x5⟩:=c5j _ (m2.drop o) hs;refine⟨xs,⟨x1,b,o,cap,hd,vs.toArray,T,by rw[x2.length,x4],m1,fun j u hj=>?_⟩,x2,x3⟩;have:=x5 j u hj;rw[Qf] at this;simpa using this
 case rsl hd len sz =>
  split at hs
  case isFalse=>cases hs
  rename_i hn;subst hn;obtain⟨b,cur,T,xs,m1,hB,hc1,a5,a4,a6,a7⟩:=row hs;simp only[Rep] at hv;obtain⟨_,b',cap,rfl,b2,n2,r2,k1,_,k2⟩:=hv;rw[hB] at k1;simp only[Q0,Q3] at k1;obtain⟨rfl,rfl,rfl⟩:=k1;obtain⟨rfl,_⟩:=k2 rfl;exact⟨xs,⟨a6,_,0,cap,hd,cur,T,by rw[a5.length,hc1],m1,fun j u hj=>by rw[Qm];exact a7 j u hj⟩,a5,a4⟩
 case rpl hd len r sz =>
  split at hs
  case isFalse=>cases hs
  rename_i hn;obtain⟨hn,hlr⟩:=hn;subst hn;rw[Q2] at hs;obtain⟨rows,hs,rfl⟩:=hs;obtain⟨b,cur,T,xs,m1,hB,hc1,a5,a4,a6,a7⟩:=row hs;simp only[Rep] at hv;obtain⟨_,_,b',cap,rfl,b2,n2,r2,k1,_,k2⟩:=hv;rw[hB] at k1;simp only[Q0,Q3] at k1;obtain⟨rfl,rfl,rfl⟩:=k1;obtain⟨rfl,_⟩:=k2 rfl;have hxl:=a5.length;refine⟨xs.take len,⟨fun e he=>a6 e (Qr he),_,0,cap,hd,cur,T,by rw[Qn,hxl,hc1,QW hlr],m1,fun j u hj=>?_⟩,a5.take len,fun q hq=>a4 q (Qr hq)⟩;rw[Qm];refine a7 j u ?_;rw[<- Qz len xs,Xt,Q8 (Q4.1 hj).1];exact hj
theorem e3R{s:Hp}{ρp:PEnv}{ρ:Env}(h:EnvRep s ρp ρ){size n:Nat}{es:List (List PV)}(hs:a1O ρp size (.va n)=sm es) :
  ∃ev,c1l ρ s size ev (.va n)/\a1t s (inf ρp.m ρ.m) es ev/\(∀r∈es,∀p∈r,p.one=tt)/\∀x∈ev,x.length=size:=by
 simp only[a1O,Q1] at hs;obtain⟨p,h1,h2⟩:=hs;obtain⟨v,_,h3,h4⟩:=h.get h1;split at h2
 ·rename_i x hx
  simp only[Q0] at h2;subst h2;obtain⟨ev,e1,e2,e3⟩:=b8Q h4 hx;exact⟨ev,⟨.inl (by rw[h3];exact e1),d2U e2 e3⟩,e2,e3,e1.1⟩
 ·obtain⟨ev,e1,e2,e3⟩:=e5r h h4 h2
  exact⟨ev,⟨.inr (by rw[h3];exact e1),d2U e2 e3⟩,e2,e3,e1.1⟩
theorem e3q{s:Hp}{ρp:PEnv}{ρ:Env}(h:EnvRep s ρp ρ){size x:Nat}{sc:Nat×List PV}(hs:b0r ρp size x=sm sc) :
  ∃a cap vs,ρ.v.getD x vd=.slice a sc.1 cap/\Reps s (inf ρp.m ρ.m) sc.2 vs/\(vs=[]\/e3E s ρ.m (ρ.v.getD x vd) vs):=by
 unfold b0r at hs;split at hs
 ·rename_i hx
  simp only[Q0] at hs;subst hs;obtain⟨v,_,g1,g2⟩:=h.get hx;simp only[Rep] at g2;exact⟨nn,0,[],by rw[g1,g2],rfl,.inl rfl⟩
 ·rename_i n rows hx
  split at hs
  case isFalse=>cases hs
  rename_i hn;subst hn;simp only[Q0] at hs;subst hs;obtain⟨v,_,g1,g2⟩:=h.get hx;simp only[Rep] at g2;obtain⟨xs,⟨h1,a,cap,rfl,h2,h3⟩,h4,h5⟩:=g2;refine⟨a,cap,xs.flatten,by rw[g1,h4.length],c4W h4,?_⟩;by_cases h0:xs=[]
  ·subst h0;exact .inl rfl
  ·obtain⟨b,o,rfl,h6⟩:=h3 h0
   refine .inr ⟨b,o,by rw[g1];rfl,.inl fun j u hj=>?_⟩;obtain⟨i,z,r,hi,hz,rfl⟩:=b5K n xs h1 j u hj;rw[<- Qg];exact h6 i z hi r u hz
 ·rename_i hd o len cap sz hx
  split at hs
  case isFalse=>cases hs
  rename_i hn;subst hn;simp only[Q1] at hs;obtain⟨ob,hob,l,hl,hs⟩:=hs;split at hs
  case isFalse=>cases hs
  rename_i hle;simp only[Q0] at hs;subst hs;cases ob<;>simp only[Kg,reduceCtorEq,Q0] at hl
  subst hl;rename_i l T;obtain⟨v,_,g1,g2⟩:=h.get hx;obtain⟨b,vs,m1,m2⟩:=h.m.get hob;have hB:=a3a hob m1;simp only[Rep] at g2;obtain⟨b',n',k1,rfl⟩:=g2;rw[hB] at k1;simp only[a2P,Q0,Q3] at k1;obtain⟨rfl,_⟩:=k1;refine⟨_,cap,(vs.drop o).take (len*sz),g1,(m2.drop o).take _,.inr ⟨b,o,by rw[g1];rfl,.inr ⟨vs.toArray,T,(0,0),Qq m1,fun j u hj=>?_⟩⟩⟩;rw[Qj] at hj;split at hj
  ·rw[Qf] at hj
   simpa using hj
  ·cases hj
 ·rename_i hd len sz hx
  split at hs
  case isFalse=>cases hs
  rename_i hn;subst hn;simp only[Q1,Q2] at hs;obtain⟨ob,hob,rows,hrows,rfl⟩:=hs;cases ob<;>simp only[XZ,reduceCtorEq] at hrows
  rename_i rows' sz' T;split at hrows
  case isFalse=>cases hrows
  rename_i hc;obtain⟨hc1,hc2⟩:=hc;simp only[Q0] at hrows;subst hrows;subst hc2;obtain⟨⟨b,ob⟩,m1,cur,m2,a1,a2,a3,a4,xs,a5,a6,a7⟩:=h.m.obj hob;simp only at m2;subst m2;have hB:=a3a hob m1;simp only[a2P,a6k,hc1] at hB;obtain⟨v,_,g1,g2⟩:=h.get hx;simp only[Rep] at g2;obtain⟨_,b',cap,rfl,b2,n2,r2,k1,_,k2⟩:=g2;rw[hB] at k1;simp only[Q0,Q3] at k1;obtain⟨rfl,rfl,rfl⟩:=k1;obtain⟨rfl,_⟩:=k2 rfl;refine⟨_,cap,xs.flatten,g1,c4W a5,.inr ⟨_,0,by rw[g1];rfl,.inr ⟨cur,T,(0,0),Qq m1,fun j u hj=>?_⟩⟩⟩;rw[Qm];exact a7 j u hj
 ·rename_i hd len r0 sz hx
  split at hs
  case isFalse=>cases hs
  rename_i hn;obtain⟨hn,hlr⟩:=hn;subst hn;simp only[Q1,Q2] at hs;obtain⟨ob,hob,rows,hrows,rfl⟩:=hs;cases ob<;>simp only[XZ,reduceCtorEq] at hrows
  rename_i rows' sz' T;split at hrows
  case isFalse=>cases hrows
  rename_i hc;obtain⟨hc1,hc2⟩:=hc;simp only[Q0] at hrows;subst hrows;subst hc2;obtain⟨⟨b,ob⟩,m1,cur,m2,a1,a2,a3,a4,xs,a5,a6,a7⟩:=h.m.obj hob;simp only at m2;subst m2;have hB:=a3a hob m1;simp only[a2P,a6k,hc1] at hB;obtain⟨v,_,g1,g2⟩:=h.get hx;simp only[Rep] at g2;obtain⟨_,_,b',cap,rfl,b2,n2,r2,k1,_,k2⟩:=g2;rw[hB] at k1;simp only[Q0,Q3] at k1;obtain⟨rfl,rfl,rfl⟩:=k1;obtain⟨rfl,_⟩:=k2 rfl;refine⟨_,cap,(xs.take len).flatten,g1,c4W (a5.take len),.inr ⟨_,0,by rw[g1];rfl,.inr ⟨cur,T,(0,0),Qq m1,fun j u hj=>?_⟩⟩⟩;rw[Qm];apply a7 j u;rw[<- Qz len xs,Xt,Q8 (Q4.1 hj).1];exact hj
 ·cases hs
theorem f3a{s:Hp}{B:Inf}{cs:List PV}{vs:List Value}(h:Reps s B cs vs)(h1:cs.all K5=tt):∀u∈vs,u.oneCell'=tt:=by
 intro u hu;obtain⟨i,hi⟩:=QB.1 hu;have hl:=h.length;have hlt:=(Q4.1 hi).1;obtain⟨v,e1,e2⟩:=h.get (QK (l:=cs) (i:=i) (by omega));rw[hi] at e1;simp only[Q0] at e1;subst e1;exact b4X (e2.fine (List.all_eq_true.1 h1 _ (X5 _)))
theorem a1Z{Φ:Fns}(hΦ:∀f,CtP P f (Φ f)){σ0:List MO}{m0:MS}{pats:List Cfg}:∀(o:Out) (ni nb nv:Nat) (t:PT) (ρp:PEnv) (ρ:Env) (s:Hp) (R:Res->Prop),comp pats o ni nb nv=sm t->t.wp Φ ρp R->EnvRep s ρp ρ->Le2 σ0 m0 ρp.m ρ.m->σ0.length<=ρp.k ->
  ρp.i.length=ni->ρp.b.length=nb->ρp.v.length=nv->VC P (QR σ0 m0 R) (TR σ0 m0 pats R) o ρ s
 | .ret gen v H,ni,nb,nv,t,ρp,ρ,s,R,hc,he,h,hB,hk0,l1,l2,l3=>by
  simp only[comp,Q0] at hc;subst hc;simp only[XH] at he;obtain⟨p,hp,r,hr,hR⟩:=he;intro β s' hs hsh ht;have h':=h.mono hs;have hrep:=KB h' (d3n h' hsh 3) v p hp;refine⟨r.1,r.2,hR,?_⟩;unfold a0n at hr;have hml:=h.m.length;split at hr
  ·rename_i hg
   simp only[Q0] at hr;subst hr
   have hm:(if gen=tt then ρ.m else ρ.m.take ρ.k)=ρ.m:=by
    split
    ·rfl
    ·rename_i hgen
     rcases hg with hg|hg
     ·exact XW hg hgen
     ·rw[X1];rw[hml,h.k];omega
   rw[hm];exact⟨hB,hrep,h'.m,h'.coh⟩
  ·rename_i hg
   have hgen:gen=ff:=by cases gen<;>simp_all
   subst hgen;have hI:inf (ρp.m.take ρp.k) (ρ.m.take ρ.k)=(inf ρp.m ρ.m).take ρp.k:=by rw[<- h.k];exact f1U _ _ _
   split at hr
   case isFalse =>
    simp only[Q1,Q2] at hr;obtain⟨σ',hσ',q,hq,rfl⟩:=hr;simp only[Qh,XX];have hL:=d3z h' (ht rfl) 3;have hT:=a1v.take ρp.k h'.m;rw[<- h.k] at hT;obtain⟨f1,f2,f3,f4⟩:=e2Y hL _ (ρ.m.take ρ.k) (by rw[h.k] at hT ⊢;exact hT) hσ';refine⟨⟨?_,?_⟩,?_,?_,Kv f3⟩
    ·rw[f2,hI]
     intro i x hx;obtain⟨x',h1,h2⟩:=hB.ble i x hx;have:=(Q4.1 hx).1;have hl2:(inf σ0 m0).length<=σ0.length:=by simp only[inf,Xu];omega
     exact⟨x',b3g h1 (by omega),h2⟩
    ·intro i o ho
     obtain⟨o',h1,h2⟩:=hB.stay i o ho;have:=(Q4.1 ho).1;obtain⟨o2,k1,k2⟩:=f4 i o' (by rw[QM (by omega)];exact h1);refine⟨o2,k1,?_⟩;rw[QM (by rw[h.k];omega)];exact h2.trans (k2 True trivial) (fun a _=>a)
    ·rw[f2,hI]
     exact PV.frz_rep hL p _ hrep hq
    ·rw[f2,hI]
     exact f1
   rename_i hlow;simp only[Q2] at hr;obtain⟨q,hq,rfl⟩:=hr;simp only[Qh,XX];refine⟨⟨?_,?_⟩,?_,?_,?_⟩
   ·rw[hI]
    intro i x hx;obtain⟨x',h1,h2⟩:=hB.ble i x hx;have:=(Q4.1 hx).1;have hl2:(inf σ0 m0).length<=σ0.length:=by simp only[inf,Xu];omega
    exact⟨x',b3g h1 (by omega),h2⟩
   ·intro i o ho
    obtain⟨o',h1,h2⟩:=hB.stay i o ho;have:=(Q4.1 ho).1;refine⟨o',by rw[QM (by omega)];exact h1,?_⟩;rw[QM (by rw[h.k];omega)];exact h2
   ·rw[hI]
    exact PV.frz_rep (d3z h' (ht rfl) 3) p _ hrep hq
   ·rw[hI]
    have:=MO.low_rep (k:=ρp.k) _ _ (a1v.take ρp.k h'.m) hlow;rw[h.k];exact this
   ·refine Kv fun o ho=>?_
    have:=List.all_eq_true.1 hlow o ho;cases o<;>first|rfl|simp[K4] at this
 | .ite c x y,ni,nb,nv,t,ρp,ρ,s,R,hc,he,h,hB,hk0,l1,l2,l3=>by
  simp only[comp,Q1,Q2] at hc;obtain⟨tx,hx,ty,hy,rfl⟩:=hc;simp only[XH] at he;split at he
  case isFalse=>exact⟨fun _=>a1Z hΦ x ni nb nv tx ρp ρ s R hx he.1 h hB hk0 l1 l2 l3,fun _=>a1Z hΦ y ni nb nv ty ρp ρ s R hy he.2 h hB hk0 l1 l2 l3⟩
  rename_i hs;have hb:=KG h c hs;refine⟨fun hcond=>?_,fun hcond=>?_⟩<;>rw[hb] at hcond<;>rw[hcond] at he<;>simp only[Kw,Qh,XX] at he
  ·exact a1Z hΦ x ni nb nv tx ρp ρ s R hx he h hB hk0 l1 l2 l3
  ·exact a1Z hΦ y ni nb nv ty ρp ρ s R hy he h hB hk0 l1 l2 l3
 | .need c k,ni,nb,nv,t,ρp,ρ,s,R,hc,he,h,hB,hk0,l1,l2,l3=>by
  simp only[comp,Q2] at hc;obtain⟨tk,hk,rfl⟩:=hc;simp only[XH] at he;split at he
  case isFalse=>cases he
  rename_i hs;split at he
  case isFalse=>cases he
  rename_i hcond;have hb:=KG h c hs;exact⟨by rw[hb];exact hcond,fun _=>a1Z hΦ k ni nb nv tk ρp ρ s R hk he h hB hk0 l1 l2 l3⟩
 | .load fl a cs di db dv k,ni,nb,nv,t,ρp,ρ,s,R,hc,he,h,hB,hk0,l1,l2,l3=>by
  simp only[comp,Q1] at hc;obtain⟨ks,hks,hc⟩:=hc;split at hc
  case isFalse=>cases hc
  rename_i hfill;simp only[Q6,XQ] at hfill;obtain⟨hf1,hf2⟩:=hfill;have hf1:=SV.eq_of_beqs _ _ hf1;simp only[Q2] at hc;obtain⟨tk,hk,rfl⟩:=hc;simp only[XH] at he;obtain⟨loc,hl,x,hx,r,hr,he⟩:=he;obtain⟨hn,vals,hrd,hrep⟩:=f0W h hl hx;obtain⟨vvs,hb,hspec⟩:=b6v ks x vals hr hrep;obtain⟨c1,c2⟩:=hspec ni nb nv;rw[hf2] at c1;simp only[Q3] at c1;obtain⟨d1,d2,d3⟩:=c1;have hi:ρ.i.length=ni:=by rw[h.i];exact l1
  have hbl:ρ.b.length=nb:=by rw[h.b];exact l2
  have hvl:ρ.v.length=nv:=by rw[h.v.length];exact l3
  have hden:=c2 (ρ.push r.1 r.2.1 vvs) id (At.push hi hbl hvl _ _ _);rw[hf1] at hden;refine⟨r.1,r.2.1,vvs,by omega,by omega,by omega,hb.fine,by rw[hden];exact hrd,?_⟩;refine a1Z hΦ k _ _ _ tk _ _ s R hk he (h.push hb) hB hk0 ?_ ?_ ?_
  ·simp only[XP,Q5];omega
  ·simp only[XP,Q5];omega
  ·have:=hb.1.length;simp only[XP,Q5];omega
 | .app d src size bytes k,ni,nb,nv,t,ρp,ρ,s,R,hc,he,h,hB,hk0,l1,l2,l3=>by
  simp only[comp] at hc;split at hc
  case isFalse=>cases hc
  rename_i hflat;simp only[Q6,XQ] at hflat;simp only[Q2] at hc;obtain⟨tk,hk,rfl⟩:=hc;simp only[XH] at he;obtain⟨xs,hxs,es,hes,he⟩:=he;unfold c8T at hxs;split at he
  case isFalse=>cases he
  rename_i hlen
  have hd:∃xv,c3x ρ s size xv d/\a1t s (inf ρp.m ρ.m) xs xv/\∀r∈xs,∀p∈r,p.one=tt:=by
   cases d with
   | none=>simp only[Q0] at hxs;subst hxs;exact⟨[],rfl,rfl,by simp⟩
   | some n =>
    simp only[Q1] at hxs;obtain⟨p,h1,h2⟩:=hxs;obtain⟨v,_,h3,h4⟩:=h.get h1;obtain⟨xv,e1,e2,e3⟩:=b8Q h4 h2;exact⟨xv,by simp only[c3x,h3];exact e1,e2,e3⟩
  have hsrc:∃ev,c1l ρ s size ev src/\a1t s (inf ρp.m ρ.m) es ev/\∀r∈es,∀p∈r,p.one=tt:=by
   cases src with
   | lit l =>
    simp only[a1O] at hes;obtain⟨a,b⟩:=d2O h l hes hflat.1;exact⟨_,rfl,a,b⟩
   | va n =>
    obtain⟨ev,e1,e2,e3,_⟩:=e3R h hes;exact⟨ev,e1,e2,e3⟩
  obtain⟨xv,a1,a2,a3⟩:=hd;obtain⟨ev,b1,b2,b3⟩:=hsrc;have e1:=a2.length;have e2:=b2.length;refine⟨xv,ev,a1,b1,?_,by simp only[maxLen];omega,fun v s' hs hsl=>?_⟩
  ·rw[e1,e2]
   calc (xs.length+es.length)*bytes<=1000000*100000000:=QD hlen hflat.2
    _<=140737488355328:=by decide
  ·refine a1Z hΦ k _ _ _ tk _ _ s' R hk he ((h.mono hs).pushV (p:=.sl size (xs++es)) ?_ rfl) hB hk0 l1 l2 (by simp[l3])
   simp only[Rep];refine⟨xv++ev,hsl,(Kx hs (Km _) _ _ a2).append (Kx hs (Km _) _ _ b2),fun r hr=>?_⟩;exact(Qe.1 hr).elim (a3 r) (b3 r)
 | .cut n lo hi size k,ni,nb,nv,t,ρp,ρ,s,R,hc,he,h,hB,hk0,l1,l2,l3=>by
  simp only[comp,Q2] at hc;obtain⟨tk,hk,rfl⟩:=hc;simp only[XH] at he;split at he
  case h_2 =>
   obtain⟨p,hp,he⟩:=he
   obtain⟨q,hq⟩:∃q,ρp.v[n]?=sm q:=by
    cases hq:ρp.v[n]? with
    | none=>rw[hq] at hp;simp[d2L] at hp
    | some q=>exact⟨q,rfl⟩
   rw[hq] at hp;obtain⟨v,_,h3,h4⟩:=h.get hq;obtain⟨b,o,len,cap,e,e1,e2,e3,e4,e5,e6,e7,e8⟩:=f0w h h4 hp;refine .inr ⟨b,o,len,cap,e,e1,e2,by rw[h3];exact e3,e4,e5,e6,?_⟩;exact a1Z hΦ k _ _ _ tk _ _ s R hk he (h.pushV (p:=p) e7 e8) hB hk0 l1 l2 (by simp[l3])
  rename_i xs hxs;obtain⟨p,h1,h2⟩:=Q1.1 hxs;split at he
  case isFalse=>cases he
  rename_i hcond;obtain⟨v,_,h3,h4⟩:=h.get h1;obtain⟨xv,e1,e2,e3⟩:=b8Q h4 h2;have hlo:b4y ρ lo=a5M ρp lo:=by cases lo<;>simp only[b4y,a5M,XR h]
  have hhi:∀n,b4B ρ hi n=a5P ρp hi n:=by intro n;cases hi<;>simp only[b4B,a5P,XR h]
  have hl:=e2.length;refine .inl ⟨xv,by rw[h3];exact e1,by rw[hlo];exact hcond.1,by rw[hlo,hhi,hl];exact hcond.2.1,by rw[hhi,hl];exact hcond.2.2,fun v' hv'=>?_⟩;refine a1Z hΦ k _ _ _ tk _ _ s R hk he (h.pushV (p:=.sl size ((xs.take (a5P ρp hi xs.length).toNat).drop (a5M ρp lo).toNat)) ?_ rfl) hB hk0 l1 l2 (by simp[l3]);rw[hlo,hhi,hl] at hv';simp only[Rep];exact⟨_,hv',(e2.take _).drop _,fun r hr=>e3 r (Qr (Xn hr))⟩
 | .scut n lo hi k,ni,nb,nv,t,ρp,ρ,s,R,hc,he,h,hB,hk0,l1,l2,l3=>by
  simp only[comp,Q2] at hc;obtain⟨tk,hk,rfl⟩:=hc;simp only[XH] at he;split at he
  case h_2=>cases he
  rename_i l h1;split at he
  case isFalse=>cases he
  rename_i hcond;obtain⟨v,_,h3,h4⟩:=h.get h1;simp only[Rep] at h4;have hlo:b4y ρ lo=a5M ρp lo:=by cases lo<;>simp only[b4y,a5M,XR h]
  have hhi:∀n,b4B ρ hi n=a5P ρp hi n:=by intro n;cases hi<;>simp only[b4B,a5P,XR h]
  refine⟨l,by rw[h3];exact h4,by rw[hlo];exact hcond.1,by rw[hlo,hhi];exact hcond.2.1,by rw[hhi];exact hcond.2.2,?_⟩;refine a1Z hΦ k _ _ _ tk _ _ s R hk he (h.pushV (p:=.str ((l.take (a5P ρp hi l.length).toNat).drop (a5M ρp lo).toNat)) ?_ rfl) hB hk0 l1 l2 (by simp[l3]);rw[hlo,hhi];simp only[Rep]
 | .chk n size k,ni,nb,nv,t,ρp,ρ,s,R,hc,he,h,hB,hk0,l1,l2,l3=>by
  simp only[comp,Q2] at hc;obtain⟨tk,hk,rfl⟩:=hc;simp only[XH,Q1] at he;obtain⟨xs,⟨p,h1,h2⟩,he⟩:=he;obtain⟨v,_,h3,h4⟩:=h.get h1;obtain⟨xv,e1,e2,e3⟩:=b8Q h4 h2;exact⟨⟨xv,by rw[h3];exact e1⟩,a1Z hΦ k _ _ _ tk _ _ s R hk he h hB hk0 l1 l2 l3⟩
 | .appF n src size bytes k,ni,nb,nv,t,ρp,ρ,s,R,hc,he,h,hB,hk0,l1,l2,l3=>by
  simp only[comp] at hc;split at hc
  case isFalse=>cases hc
  rename_i hflat;simp only[Q6,XQ] at hflat;simp only[Q2] at hc;obtain⟨tk,hk,rfl⟩:=hc;simp only[XH,Q1] at he;obtain⟨xs,⟨p0,hp1,hp2⟩,es,hes,he⟩:=he;split at he
  case isFalse=>cases he
  rename_i hlen
  have hsrc:∃ev,c1l ρ s size ev src/\a1t s (inf ρp.m ρ.m) es ev/\∀r∈es,∀p∈r,p.one=tt:=by
   cases src with
   | lit l =>
    simp only[a1O] at hes;obtain⟨a,b⟩:=d2O h l hes hflat.1;exact⟨_,rfl,a,b⟩
   | va n =>
    obtain⟨ev,e1,e2,e3,_⟩:=e3R h hes;exact⟨ev,e1,e2,e3⟩
  obtain⟨v0,_,hv3,hv4⟩:=h.get hp1;obtain⟨xv,a1,a2,a3⟩:=b8Q hv4 hp2;obtain⟨ev,b1,b2,b3⟩:=hsrc;have e1:=a2.length;have e2:=b2.length;refine⟨xv,ev,by rw[hv3];exact a1,fun hev=>hlen.1 (by rw[<- e2,hev];rfl),b1,?_,by simp only[maxLen];omega,fun v s' hs hsl=>?_⟩
  ·rw[e1,e2]
   calc (xs.length+es.length)*bytes<=1000000*100000000:=QD hlen.2 hflat.2
    _<=140737488355328:=by decide
  ·refine a1Z hΦ k _ _ _ tk _ _ s' R hk he ((h.mono hs).pushV (p:=.sl size (xs++es)) ?_ rfl) hB hk0 l1 l2 (by simp[l3])
   simp only[Rep];refine⟨xv++ev,hsl,(Kx hs (Km _) _ _ a2).append (Kx hs (Km _) _ _ b2),fun r hr=>?_⟩;exact(Qe.1 hr).elim (a3 r) (b3 r)
 | .hole ..,ni,nb,nv,t,ρp,ρ,s,R,hc,he,h,hB,hk0,l1,l2,l3=>by simp only[comp,Q0] at hc;subst hc;simp[XH] at he
 | .fill ..,ni,nb,nv,t,ρp,ρ,s,R,hc,he,h,hB,hk0,l1,l2,l3=>by simp only[comp,Q0] at hc;subst hc;simp[XH] at he
 | .call f args H rs di db dv k,ni,nb,nv,t,ρp,ρ,s,R,hc,he,h,hB,hk0,l1,l2,l3=>by
  simp only[comp,Q1] at hc;obtain⟨shs,hshs,hc⟩:=hc;split at hc
  case isFalse=>cases hc
  rename_i hfill;simp only[Q6,XQ] at hfill;obtain⟨hf1,hf2⟩:=hfill;have hf1:=KJ _ _ hf1;simp only[Q2] at hc;obtain⟨tk,hk,rfl⟩:=hc;simp only[XH] at he;obtain⟨ayq,has,⟨r0,σ'⟩,hΦr,x,hx,he⟩:=he;intro β s1 hs1 hsh;have h1:=h.mono hs1;obtain⟨_,hct⟩:=hΦ f ayq ρp.m r0 σ' hΦr;refine⟨_,hct s1 ρ.m _ h1.m h1.coh (Kb h1 (d3n h1 hsh 3) args ayq has),fun v s' m' hs' hq=>?_⟩;obtain⟨hpre,q1,q2,q3⟩:=hq;obtain⟨vvs,hb,hspec⟩:=c6L hx q1;obtain⟨c1,c2⟩:=hspec ni nb nv;rw[hf2] at c1;simp only[Q3] at c1;obtain⟨d1,d2,d3⟩:=c1;have hi:ρ.i.length=ni:=by rw[h.i];exact l1
  have hbl:ρ.b.length=nb:=by rw[h.b];exact l2
  have hvl:ρ.v.length=nv:=by rw[h.v.length];exact l3
  have hden:=c2 (ρ.push x.1 x.2.1 vvs) id (At.push hi hbl hvl _ _ _);rw[hf1] at hden;have h2:=(h1.turn hs' hpre q2 q3).push (r:=x) (vvs:=vvs) hb;refine⟨x.1,x.2.1,vvs,by omega,by omega,by omega,hb.fine,hden.symm,?_⟩;refine a1Z hΦ k _ _ _ tk _ _ s' R hk he h2 (hB.trans hpre) hk0 ?_ ?_ ?_
  ·simp only[XP,Q5];omega
  ·simp only[XP,Q5];omega
  ·have:=hb.1.length;simp only[XP,Q5];omega
 | .callv n args rs di db dv k,ni,nb,nv,t,ρp,ρ,s,R,hc,he,h,hB,hk0,l1,l2,l3=>by
  simp only[comp,Q1] at hc;obtain⟨shs,hshs,hc⟩:=hc;split at hc
  case isFalse=>cases hc
  rename_i hfill;simp only[Q6,XQ] at hfill;obtain⟨hf1,hf2⟩:=hfill;have hf1:=KJ _ _ hf1;simp only[Q2] at hc;obtain⟨tk,hk,rfl⟩:=hc;simp only[XH] at he;split at he
  case h_2=>cases he
  rename_i f cap hf;obtain⟨ayq,has,⟨r0,σ'⟩,hΦr,x,hx,he⟩:=he;obtain⟨v,_,g1,g2⟩:=h.get hf;simp only[Rep] at g2;obtain⟨caps,rfl,g2⟩:=g2;obtain⟨hen,hct⟩:=hΦ f (ayq++cap) ρp.m r0 σ' hΦr;refine⟨f,caps.toArray,_,g1,hen,hct s ρ.m _ h.m h.coh (by simpa using (Kb h (a8u s _ id) args ayq has).append g2),fun v s' m' hs' hq=>?_⟩;obtain⟨hpre,q1,q2,q3⟩:=hq;obtain⟨vvs,hb,hspec⟩:=c6L hx q1;obtain⟨c1,c2⟩:=hspec ni nb nv;rw[hf2] at c1;simp only[Q3] at c1;obtain⟨d1,d2,d3⟩:=c1;have hi:ρ.i.length=ni:=by rw[h.i];exact l1
  have hbl:ρ.b.length=nb:=by rw[h.b];exact l2
  have hvl:ρ.v.length=nv:=by rw[h.v.length];exact l3
  have hden:=c2 (ρ.push x.1 x.2.1 vvs) id (At.push hi hbl hvl _ _ _);rw[hf1] at hden;have h2:=(h.turn hs' hpre q2 q3).push (r:=x) (vvs:=vvs) hb;refine⟨x.1,x.2.1,vvs,by omega,by omega,by omega,hb.fine,hden.symm,?_⟩;refine a1Z hΦ k _ _ _ tk _ _ s' R hk he h2 (hB.trans hpre) hk0 ?_ ?_ ?_
  ·simp only[XP,Q5];omega
  ·simp only[XP,Q5];omega
  ·have:=hb.1.length;simp only[XP,Q5];omega
 | .newM cs T k,ni,nb,nv,t,ρp,ρ,s,R,hc,he,h,hB,hk0,l1,l2,l3=>by
  simp only[comp,Q2] at hc;obtain⟨tk,hk,rfl⟩:=hc;simp only[XH] at he;obtain⟨l,hl,he⟩:=he;intro b hb;have hr:=Kb h (a8u s _ id) cs l hl;obtain⟨hpre,h1⟩:=h.newM (o:=.cells l T) (x:=(b,XT (XM ρ id cs).toArray T (0,0))) ⟨_,rfl,hr⟩;have hml:=h.m.length
  have h2:=h1.pushV (p:=.ref ρp.m.length 0) (v:=.pointer (sm ⟨b,0,nn⟩)) (by
   simp only[Rep]
   exact⟨b,_,a3a (o:=.cells l T) (x:=(b,XT (XM ρ id cs).toArray T (0,0))) (by simp) (by simp[<- hml]),rfl⟩) rfl
  exact a1Z hΦ k _ _ _ tk _ _ s R hk he h2 (hB.trans hpre) hk0 l1 l2 (by simp[l3])
 | .mkM n zero T size bytes k,ni,nb,nv,t,ρp,ρ,s,R,hc,he,h,hB,hk0,l1,l2,l3=>by
  simp only[comp] at hc;split at hc
  case isFalse=>cases hc
  rename_i hz;simp only[Q2] at hc;obtain⟨tk,hk,rfl⟩:=hc;simp only[XH] at he;obtain⟨z,hzp,he⟩:=he;split at he
  case isFalse=>cases he
  rename_i hcond;obtain⟨c1,c2,c3⟩:=hcond;have hn:=XR h n;refine⟨by rw[hn];exact c1,?_,by rw[hn];omega,fun b hb=>?_⟩
  ·rw[hn]
   calc n.pe ρp*(bytes:Int)<=1000000*100000000:=Int.mul_le_mul c2 (by omega) (by omega) (by omega)
    _<=140737488355328:=by decide
  ·rw[hn]
   have hzl:(XM ρ id zero).length=size:=by rw[a1D];exact hz
   have hmc:madeCells (XM ρ id zero).toArray ((n.pe ρp).toNat*size)=((Q7 (n.pe ρp).toNat (XM ρ id zero)).flatten).toArray:=by
    rw[<- hzl];exact e4k _ _
   rw[hmc];have hr:=e2N (Kb h (a8u s _ id) zero z hzp) (n.pe ρp).toNat;obtain⟨hpre,h1⟩:=h.newM (o:=.cells (Q7 (n.pe ρp).toNat z).flatten T) (x:=(b,XT ((Q7 (n.pe ρp).toNat (XM ρ id zero)).flatten).toArray T (0,0))) ⟨_,rfl,hr⟩;have hml:=h.m.length
   have h2:=h1.pushV (p:=.msl ρp.m.length 0 (n.pe ρp).toNat (n.pe ρp).toNat size) (v:=.slice (sm ⟨b,0,nn⟩) (n.pe ρp).toNat (n.pe ρp).toNat) (by
    simp only[Rep]
    exact⟨b,_,a3a (o:=.cells (Q7 (n.pe ρp).toNat z).flatten T) (x:=(b,XT ((Q7 (n.pe ρp).toNat (XM ρ id zero)).flatten).toArray T (0,0))) (by simp) (by simp[<- hml]),rfl⟩) rfl
   exact a1Z hΦ k _ _ _ tk _ _ s R hk he h2 (hB.trans hpre) hk0 l1 l2 (by simp[l3])
 | .storeM a cs k,ni,nb,nv,t,ρp,ρ,s,R,hc,he,h,hB,hk0,l1,l2,l3=>by
  simp only[comp,Q2] at hc;obtain⟨tk,hk,rfl⟩:=hc;simp only[XH] at he;split at he
  ·rename_i hd off hloc
   split at he
   case h_2=>cases he
   rename_i l T hm;obtain⟨new,hnew,he⟩:=he;split at he
   case isFalse=>cases he
   rename_i hle;obtain⟨b,vs,g1,g2⟩:=h.m.get hm;have hI:=a3a hm g1;have hr:=Kb h (a8u s _ id) cs new hnew;have hnl:=hr.length;rw[a1D] at hnl;refine⟨hd,b,off,vs.toArray,T,g1,f4a h hloc hI,by rw[Qv,g2.length,hnl];exact hle,?_⟩
   obtain⟨hpre,h2⟩:=h.setM (o:=.cells (a3Y l off new) T) (x:=(b,XT (a7U vs off (XM ρ id cs)).toArray T (0,0))) hm g1 ⟨_,rfl,d8a g2 hr off⟩ (.inl (by
    simp only[a2P,a6k,Qv,d2p vs (XM ρ id cs) off (by rw[a1D,g2.length,hnl];exact hle)]))
   exact a1Z hΦ k _ _ _ tk _ _ s R hk he h2 (hB.trans hpre) hk0 l1 l2 l3
  ·rename_i hd len i sz off hloc
   split at he
   case h_2=>cases he
   rename_i rows sz' T hm;split at he
   case isFalse=>cases he
   rename_i hc;obtain⟨hc1,rfl⟩:=hc;obtain⟨r,hrow,new,hnew,he⟩:=he;split at he
   case isFalse=>cases he
   rename_i hle;obtain⟨hle,hone⟩:=hle;obtain⟨⟨b,ob⟩,g1,cur,g2,a1,a2,⟨cap,a3,a3',a3''⟩,a4,xs,a5,a6,a7⟩:=h.m.obj hm;simp only at g2;subst g2;have hI:=a3a hm g1;simp only[a2P,a6k] at hI;have hI':=hI;rw[hc1] at hI';obtain⟨hadr,hilt⟩:=e8k h hloc hI';have hr:=Kb h (a8u s _ id) cs new hnew;have hnl:=hr.length;rw[a1D] at hnl;obtain⟨xv,x1,x2⟩:=a5.get hrow;have hxl:=a6 xv (Qq x1);have hrl:r.length=sz':=by rw[<- x2.length];exact hxl
   have hlx:=a5.length
   have hpos:i*sz'+sz'<=cur.size:=by
    rw[a3]
    calc i*sz'+sz'=(i+1)*sz':=by rw[Qu,QS]
     _<=cap*sz':=QD (by omega) (Qa _)
   refine⟨hd,b,i*sz'+off,cur,T,g1,hadr,by omega,?_⟩;have hset:=d8a x2 hr off;have hsl:(a7U xv off (XM ρ id cs)).length=sz':=by rw[d2p _ _ _ (by rw[a1D];omega)];exact hxl
   have hcs:(a7U cur.toList (i*sz'+off) (XM ρ id cs)).length=cur.size:=by rw[d2p _ _ _ (by have h9:cur.toList.length=cur.size:=X0;rw[a1D];omega)];exact X0
   obtain⟨hpre,h2⟩:=h.setM (o:=.row (rows.set i (a3Y r off new)) sz' T) (x:=(b,XT (a7U cur.toList (i*sz'+off) (XM ρ id cs)).toArray T (0,0))) hm g1
    ⟨_,rfl,by simpa using a1,a2,⟨cap,by simp only[Qv,hcs];exact a3,by simpa using a3',a3''⟩,fun r' hr' p hp=>by
     rcases QQ hr' with h1|rfl
     ·exact a4 r' h1 p hp
     ·rcases f1V hp with h1|h1
      ·exact a4 r (Qq hrow) p h1
      ·exact List.all_eq_true.1 hone p h1,xs.set i (a7U xv off (XM ρ id cs)),e3c a5 i hset,fun x hx=>by
     rcases QQ hx with h1|rfl
     ·exact a6 x h1
     ·exact hsl,fun j u hj=>by
     rw[List.getElem?_toArray]
     exact d3g a6 x1 hxl hsl (by rw[a1D];omega) (fun j u h9=>by rw[Array.getElem?_toList];exact a7 j u h9) (by simpa using hpos) hj⟩ (.inl (by simp only[a2P,a6k,Qv,hcs,List.length_set]))
   exact a1Z hΦ k _ _ _ tk _ _ s R hk he h2 (hB.trans hpre) hk0 l1 l2 l3
  ·cases he
 | .appM d src size bytes T k,ni,nb,nv,t,ρp,ρ,s,R,hc,he,h,hB,hk0,l1,l2,l3=>by
  simp only[comp] at hc;split at hc
  case isFalse=>cases hc
  rename_i hflat;simp only[Q6,XQ] at hflat;obtain⟨⟨⟨⟨hfl,hsl⟩,hby⟩,hpos⟩,hdf⟩:=hflat;simp only[Q2] at hc;obtain⟨tk,hk,rfl⟩:=hc;simp only[XH] at he;obtain⟨p,hp,es,hes,he⟩:=he;have hpr:=KB (t:=s) (β:=id) h (a8u s _ id) d p hp;have hpo:=e2J h hdf hp
  have hsrc:∃ev,c1l ρ s size ev src/\a1t s (inf ρp.m ρ.m) es ev/\(∀r∈es,∀p∈r,p.one=tt)/\∀x∈ev,x.length=size:=by
   cases src with
   | lit l =>
    simp only[a1O] at hes;obtain⟨a,b⟩:=d2O h l hes hfl;refine⟨_,rfl,a,b,fun x hx=>?_⟩;obtain⟨y,hy,rfl⟩:=Qb.1 hx;rw[a1D];simpa using List.all_eq_true.1 hsl y hy
   | va n =>
    exact e3R h hes
  obtain⟨ev,b1,b2,b3,b4⟩:=hsrc;have e2:=b2.length;have hml:=h.m.length
  have bnd:∀n:Nat,n<=1000000->n*bytes<=140737488355328:=fun n hn =>
   calc n*bytes<=1000000*100000000:=QD hn hby
    _<=140737488355328:=by decide
  split at he
  ·
   split at he
   case isFalse=>cases he
   rename_i hlen;simp only[Rep] at hpr;refine⟨ρ.m.length,[],ev,by simp,.inl ⟨rfl,.inl ⟨rfl,hpr⟩⟩,b1,by simpa[e2] using bnd _ hlen,by simp only[maxLen,Xv,e2];omega,fun h0=>?_,fun h0 b' cap' cur' f1 f2 f3 f4 f5=>?_⟩
   ·have hz:es.length=0:=by rw[<- e2,h0];rfl
    rw[XJ hz] at he;exact a1Z hΦ k _ _ _ tk _ _ s R hk he (h.pushV (p:=.nilS) (by simp only[Rep];exact hpr) rfl) hB hk0 l1 l2 (by simp[l3])
   ·have hz:¬es.length=0:=by rw[<- e2];simpa using h0
    rw[XS hz] at he;simp only[Nat.lt_irrefl,XX,Xv,Qm,List.nil_append] at f2 f5 ⊢;obtain⟨hpre,h1⟩:=h.newM (o:=.row es size T) (x:=(b',XT cur' T (0,0))) ⟨cur',rfl,by intro h9;rw[h9] at hz;simp at hz,hpos,⟨cap',f4,by omega,f3⟩,b3,ev,b2,b4,f5⟩;have hI:=a3a (σ:=ρp.m++[.row es size T]) (m:=ρ.m++[(b',XT cur' T (0,0))]) (i:=ρp.m.length) (o:=.row es size T) (x:=(b',XT cur' T (0,0))) (by simp) (by simp[<- hml])
    have h2:=h1.pushV (p:=.rsl ρp.m.length es.length size) (v:=.slice (sm ⟨b',0,nn⟩) ev.length cap') (by
     simp only[Rep]
     refine⟨by omega,b',cap',by rw[e2],b',_,_,hI,Qa _,fun _=>⟨rfl,f4,by omega⟩⟩) rfl
    exact a1Z hΦ k _ _ _ tk _ _ s R hk he h2 (hB.trans hpre) hk0 l1 l2 (by simp[l3])
  ·
   rename_i hd len sz;split at he
   case h_2=>cases he
   rename_i rows sz' T' hm;split at he
   case isFalse=>cases he
   rename_i hc;obtain⟨hc1,hs1,hs2,hs3,hc5⟩:=hc;have hs1:=hs1.symm;have hs2:=hs2.symm;have hs3:=hs3.symm;subst hs1 hs2 hs3;obtain⟨⟨b,ob⟩,g1,cur,g2,a1,a2,⟨cap,a3,a3',a3''⟩,a4,xs,a5,a6,a7⟩:=h.m.obj hm;simp only at g2;subst g2;have hI:=a3a hm g1;simp only[a2P,a6k] at hI;have hlx:=a5.length;have hpr0:=hpr;simp only[Rep] at hpr;obtain⟨hlen0,b1',cap1,hdv,b2',n2,r2,k1,k2,k3⟩:=hpr;rw[hI] at k1;simp only[Q0,Q3] at k1;obtain⟨rfl,rfl,rfl⟩:=k1;obtain⟨rfl,k4,k5⟩:=k3 hc1;have hcc:cap1=cap:=by rw[a3] at k4;exact(Nat.eq_of_mul_eq_mul_right a2 k4).symm
   subst hcc;have hltm:=(Q4.1 g1).1;refine⟨hd,xs,ev,a6,  .inr ⟨_,cap1,cur,by rw[hdv,hlx,hc1],g1,by omega,a3'',a3,a7⟩,b1,by rw[hlx,hc1,e2];exact bnd _ hc5,by simp only[maxLen];omega,fun h0=>?_,fun h0 b' cap' cur' f1 f2 f3 f4 f5=>?_⟩
   ·have hz:es.length=0:=by rw[<- e2,h0];rfl
    rw[XJ hz] at he;exact a1Z hΦ k _ _ _ tk _ _ s R hk he (h.pushV hpr0 rfl) hB hk0 l1 l2 (by simp[l3])
   ·have hz:¬es.length=0:=by rw[<- e2];simpa using h0
    rw[XS hz] at he;rw[XJ hltm];have hall:∀x∈xs++ev,x.length=size:=fun x hx=>(Qe.1 hx).elim (a6 x) (b4 x)
    obtain⟨hpre,h1⟩:=h.setM (o:=.row (rows++es) size T) (x:=(b',XT cur' T (0,0))) hm g1
     ⟨cur',rfl,by simp[a1],a2,⟨cap',f4,by simp only[Q5];omega,f3⟩,fun r hr=>(Qe.1 hr).elim (a4 r) (b3 r),xs++ev,a5.append b2,hall,f5⟩
     (.inr (by simp only[a2P,Q5];omega))
    have hI2:=a3a (σ:=ρp.m.set hd (.row (rows++es) size T)) (m:=ρ.m.set hd (b',XT cur' T (0,0))) (i:=hd) (o:=.row (rows++es) size T) (x:=(b',XT cur' T (0,0)))
     (by rw[Qw (by omega)]) (by rw[Qw hltm])
    simp only[a2P,a6k,Q5] at hI2
    have h2:=h1.pushV (p:=.rsl hd (len+es.length) size) (v:=.slice (sm ⟨b',0,nn⟩) (xs.length+ev.length) cap') (by
     simp only[Rep]
     refine⟨by omega,b',cap',by rw[hlx,hc1,e2],b',_,_,hI2,by omega,fun _=>⟨rfl,f4,by omega⟩⟩) rfl
    exact a1Z hΦ k _ _ _ tk _ _ s R hk he h2 (hB.trans hpre) hk0 l1 l2 (by simp[l3])
  ·
   rename_i hd o len cap sz;split at he
   case h_2=>cases he
   rename_i l T' hm;split at he
   case isFalse=>cases he
   rename_i hc;obtain⟨rfl,hs1,hc5⟩:=hc;subst hs1;obtain⟨rows,hrows,he⟩:=he;have hpr0:=hpr;simp only[Rep] at hpr;obtain⟨b,n0,k1,hdv⟩:=hpr;obtain⟨b',vs,g1,g2⟩:=h.m.get hm;have hI:=a3a hm g1;rw[hI] at k1;simp only[a2P,Q0,Q3] at k1;obtain⟨rfl,_⟩:=k1;obtain⟨xs,x1,x2,x3,x4,x5⟩:=c5j _ (g2.drop o) hrows;have hlx:xs.length=len:=by rw[x2.length];exact x4
   refine⟨ρ.m.length,xs,ev,x1,.inl ⟨rfl,.inr ⟨b',o,hd,vs.toArray,T',by rw[hdv,hlx],g1,fun j u hj=>?_⟩⟩,b1,by rw[hlx,e2];exact bnd _ hc5,by simp only[maxLen];omega,fun h0=>?_,fun h0 bb cap' cur' f1 f2 f3 f4 f5=>?_⟩
   ·have:=x5 j u hj
    rw[Qf] at this;simpa using this
   ·have hz:es.length=0:=by rw[<- e2,h0];rfl
    rw[XJ hz] at he;exact a1Z hΦ k _ _ _ tk _ _ s R hk he (h.pushV hpr0 rfl) hB hk0 l1 l2 (by simp[l3])
   ·have hz:¬es.length=0:=by rw[<- e2];simpa using h0
    rw[XS hz] at he;simp only[Nat.lt_irrefl,XX];have hall:∀x∈xs++ev,x.length=sz:=fun x hx=>(Qe.1 hx).elim (x1 x) (b4 x)
    have hrl:=x2.length;obtain⟨hpre,h1⟩:=h.newM (o:=.row (rows++es) sz T) (x:=(bb,XT cur' T (0,0))) ⟨cur',rfl,by intro h9;rw[List.append_eq_nil_iff] at h9;rw[h9.2] at hz;simp at hz,hpos,⟨cap',f4,by simp only[Q5];omega,f3⟩,fun r hr=>(Qe.1 hr).elim (x3 r) (b3 r),xs++ev,x2.append b2,hall,f5⟩;have hI:=a3a (σ:=ρp.m++[.row (rows++es) sz T]) (m:=ρ.m++[(bb,XT cur' T (0,0))]) (i:=ρp.m.length) (o:=.row (rows++es) sz T) (x:=(bb,XT cur' T (0,0))) (by simp) (by simp[<- hml]);simp only[a2P,a6k,Q5] at hI
    have h2:=h1.pushV (p:=.rsl ρp.m.length (len+es.length) sz) (v:=.slice (sm ⟨bb,0,nn⟩) (xs.length+ev.length) cap') (by
     simp only[Rep]
     refine⟨by omega,bb,cap',by rw[hlx,e2],bb,_,_,hI,by omega,fun _=>⟨rfl,f4,by omega⟩⟩) rfl
    exact a1Z hΦ k _ _ _ tk _ _ s R hk he h2 (hB.trans hpre) hk0 l1 l2 (by simp[l3])
  ·cases he
 | .mkMap K k,ni,nb,nv,t,ρp,ρ,s,R,hc,he,h,hB,hk0,l1,l2,l3=>by
  simp only[comp,Q2] at hc;obtain⟨tk,hk,rfl⟩:=hc;simp only[XH] at he;intro b hb;obtain⟨hpre,h1⟩:=h.newM (o:=.mp [] [] K) (x:=(b,Kc #[] 0)) ⟨#[],0,[],rfl,⟨rfl,rfl⟩,rfl⟩;have hml:=h.m.length
  have h2:=h1.pushV (p:=.mp ρp.m.length) (v:=.map (sm b)) (by
   simp only[Rep]
   exact⟨b,_,a3a (o:=.mp [] [] K) (x:=(b,Kc #[] 0)) (by simp) (by simp[<- hml]),rfl⟩) rfl
  exact a1Z hΦ k _ _ _ tk _ _ s R hk he h2 (hB.trans hpre) hk0 l1 l2 (by simp[l3])
 | .mapGet n K key dflt ok rs di db dv k,ni,nb,nv,t,ρp,ρ,s,R,hc,he,h,hB,hk0,l1,l2,l3=>by
  simp only[comp,Q1] at hc;obtain⟨shs,hshs,hc⟩:=hc;split at hc
  case isFalse=>cases hc
  rename_i hfill;simp only[Q6,XQ] at hfill;obtain⟨hf1,hf2⟩:=hfill;have hf1:=KJ _ _ hf1;simp only[Q2] at hc;obtain⟨tk,hk,rfl⟩:=hc;simp only[XH] at he;split at he
  case h_2=>cases he
  rename_i hd hn;split at he
  case h_2=>cases he
  rename_i ks vs K' hm;split at he
  case isFalse=>cases he
  rename_i hKK;subst hKK;obtain⟨d,hd',x,hx,he⟩:=he;obtain⟨b,es,clock,vv,m1,m2,m3,m4⟩:=h.map hn hm;have hdr:=KB h (a8u s _ id) dflt d hd'
  have hres:Rep s (inf ρp.m ρ.m) (if ok then .tup [(a5o ks vs (key.pe ρp)).getD d,.bool (a5o ks vs (key.pe ρp)).isSome] else(a5o ks vs (key.pe ρp)).getD d) (c6A ok (a5o ks vv (key.den ρ)) (dflt.den ρ id)):=by
   rw[XR h key];unfold c6A;rcases e4w ks vs vv m4 (key.pe ρp) with ⟨a1,a2⟩|⟨p,v,a1,a2,a3⟩
   ·rw[a1,a2]
    cases ok
    ·exact hdr
    ·exact⟨_,rfl,_,_,rfl,hdr,_,_,rfl,rfl,rfl⟩
   ·rw[a1,a2]
    cases ok
    ·exact a3
    ·exact⟨_,rfl,_,_,rfl,a3,_,_,rfl,rfl,rfl⟩
  obtain⟨vvs,hb,hspec⟩:=c6L hx hres;obtain⟨c1,c2⟩:=hspec ni nb nv;rw[hf2] at c1;simp only[Q3] at c1;obtain⟨d1,d2,d3⟩:=c1;have hi:ρ.i.length=ni:=by rw[h.i];exact l1
  have hbl:ρ.b.length=nb:=by rw[h.b];exact l2
  have hvl:ρ.v.length=nv:=by rw[h.v.length];exact l3
  have hden:=c2 (ρ.push x.1 x.2.1 vvs) id (At.push hi hbl hvl _ _ _);rw[hf1] at hden;have h2:=h.push (r:=x) (vvs:=vvs) hb;refine⟨hd,b,es,clock,ks,vv,m1,m2,m3,x.1,x.2.1,vvs,by omega,by omega,by omega,hb.fine,hden.symm,?_⟩;refine a1Z hΦ k _ _ _ tk _ _ s R hk he h2 hB hk0 ?_ ?_ ?_
  ·simp only[XP,Q5];omega
  ·simp only[XP,Q5];omega
  ·have:=hb.1.length;simp only[XP,Q5];omega
 | .mapSet n K key v k,ni,nb,nv,t,ρp,ρ,s,R,hc,he,h,hB,hk0,l1,l2,l3=>by
  simp only[comp,Q2] at hc;obtain⟨tk,hk,rfl⟩:=hc;simp only[XH] at he;split at he
  case h_2=>cases he
  rename_i hd hn;split at he
  case h_2=>cases he
  rename_i ks vs K' hm;split at he
  case isFalse=>cases he
  rename_i hKK;subst hKK;obtain⟨x,hx,he⟩:=he;obtain⟨b,es,clock,vv,m1,m2,m3,m4⟩:=h.map hn hm;have hxr:=KB h (a8u s _ id) v x hx;refine⟨hd,b,es,clock,ks,vv,m1,m2,m3,fun es' clock' hmi=>?_⟩;rw[XR h key] at hmi;obtain⟨p1,p2⟩:=e6i ks vs vv m4 (key.pe ρp) x (v.den ρ id) hxr;rw[<- p1] at hmi;obtain⟨hpre,h2⟩:=h.setM (o:=.mp (a7V ks vs (key.pe ρp) x).1 (a7V ks vs (key.pe ρp) x).2 K') (x:=(b,Kc es' clock')) hm m1 ⟨es',clock',_,rfl,hmi,p2⟩ (.inl rfl);exact a1Z hΦ k _ _ _ tk _ _ s R hk he h2 (hB.trans hpre) hk0 l1 l2 l3
 | .mapClr n k,ni,nb,nv,t,ρp,ρ,s,R,hc,he,h,hB,hk0,l1,l2,l3=>by
  simp only[comp,Q2] at hc;obtain⟨tk,hk,rfl⟩:=hc;simp only[XH] at he;split at he
  case h_2=>cases he
  rename_i hd hn;split at he
  case h_2=>cases he
  rename_i ks vs K' hm;obtain⟨b,es,clock,vv,m1,m2,m3,m4⟩:=h.map hn hm;refine⟨hd,b,es,clock,m1,m2,?_⟩;obtain⟨hpre,h2⟩:=h.setM (o:=.mp [] [] K') (x:=(b,Kc #[] clock)) hm m1 ⟨#[],clock,[],rfl,⟨rfl,rfl⟩,rfl⟩ (.inl rfl);exact a1Z hΦ k _ _ _ tk _ _ s R hk he h2 (hB.trans hpre) hk0 l1 l2 l3
 | .mkQ k,ni,nb,nv,t,ρp,ρ,s,R,hc,he,h,hB,hk0,l1,l2,l3=>by
  simp only[comp,Q2] at hc;obtain⟨tk,hk,rfl⟩:=hc;simp only[XH] at he;intro b hb;obtain⟨hpre,h1⟩:=h.newM (o:=.mq [] 0) (x:=(b,Kc #[] 0)) ⟨#[],0,rfl,[],rfl,.nil,by simp,by simp[b9O]⟩;have hml:=h.m.length
  have h2:=h1.pushV (p:=.mp ρp.m.length) (v:=.map (sm b)) (by
   simp only[Rep]
   exact⟨b,_,a3a (o:=.mq [] 0) (x:=(b,Kc #[] 0)) (by simp) (by simp[<- hml]),rfl⟩) rfl
  exact a1Z hΦ k _ _ _ tk _ _ s R hk he h2 (hB.trans hpre) hk0 l1 l2 (by simp[l3])
 | .qGet n key ok k,ni,nb,nv,t,ρp,ρ,s,R,hc,he,h,hB,hk0,l1,l2,l3=>by
  simp only[comp,Q2] at hc;obtain⟨tk,hk,rfl⟩:=hc;simp only[XH] at he;split at he
  case h_2=>cases he
  rename_i hd hn;split at he
  case h_2=>cases he
  rename_i kv ver hm;split at he
  case isFalse=>cases he
  rename_i hw;obtain⟨b,es,clock,kv',m1,m2,m3,m4,m5,m6⟩:=h.mapQ hn hm;have hkey:key.map (Kp ρ)=key.map (K9 ρp):=X2 (fun e _=>XR h e);refine⟨hd,b,es,clock,kv',m1,m2,m3,c8F m4 hw,?_⟩;rw[hkey,e9S m4 m5];have h2:=h.push (r:=([(a4l kv (key.map (K9 ρp))).getD 0],if ok then [(a4l kv (key.map (K9 ρp))).isSome] else [],[])) (vvs:=[]) ⟨rfl,by simp⟩;refine a1Z hΦ k _ _ _ tk _ _ s R hk he h2 hB hk0 ?_ ?_ ?_
  ·simp[XP,l1]
  ·cases ok<;>simp[XP,l2]
  ·simp[XP,l3]
 | .qSet n key v k,ni,nb,nv,t,ρp,ρ,s,R,hc,he,h,hB,hk0,l1,l2,l3=>by
  simp only[comp,Q2] at hc;obtain⟨tk,hk,rfl⟩:=hc;simp only[XH] at he;split at he
  case h_2=>cases he
  rename_i hd hn;split at he
  case h_2=>cases he
  rename_i kv ver hm;split at he
  case isFalse=>cases he
  rename_i hw;obtain⟨b,es,clock,kv',m1,m2,m3,m4,m5,m6⟩:=h.mapQ hn hm;have hkey:key.map (Kp ρ)=key.map (K9 ρp):=X2 (fun e _=>XR h e);refine⟨hd,b,es,clock,kv',m1,m2,m3,c8F m4 hw,m6,fun es' clock' hq hbn=>?_⟩;rw[hkey,XR h v] at hq;obtain⟨p1,p2⟩:=f0q m4 m5 (key.map (K9 ρp)) (v.pe ρp);obtain⟨hpre,h2⟩:=h.setM (o:=.mq (d8p kv (key.map (K9 ρp)) (v.pe ρp)) (ver+1)) (x:=(b,Kc es' clock')) hm m1 ⟨es',clock',rfl,_,hq,p1,p2,hbn⟩ (.inl rfl) ⟨by omega,fun h=>by omega⟩;exact a1Z hΦ k _ _ _ tk _ _ s R hk he h2 (hB.trans hpre) hk0 l1 l2 l3
 | .qDel n key k,ni,nb,nv,t,ρp,ρ,s,R,hc,he,h,hB,hk0,l1,l2,l3=>by
  simp only[comp,Q2] at hc;obtain⟨tk,hk,rfl⟩:=hc;simp only[XH] at he;split at he
  case h_2=>cases he
  rename_i hd hn;split at he
  case h_2=>cases he
  rename_i kv ver hm;split at he
  case isFalse=>cases he
  rename_i hw;obtain⟨b,es,clock,kv',m1,m2,m3,m4,m5,m6⟩:=h.mapQ hn hm;have hkey:key.map (Kp ρ)=key.map (K9 ρp):=X2 (fun e _=>XR h e);refine⟨hd,b,es,clock,kv',m1,m2,m3,c8F m4 hw,m6,fun es' clock' hq hbn=>?_⟩;rw[hkey] at hq;obtain⟨p1,p2⟩:=f1h m4 m5 (key.map (K9 ρp));obtain⟨hpre,h2⟩:=h.setM (o:=.mq (c1h kv (key.map (K9 ρp))) (ver+1)) (x:=(b,Kc es' clock')) hm m1 ⟨es',clock',rfl,_,hq,p1,p2,hbn⟩ (.inl rfl) ⟨by omega,fun h=>by omega⟩;exact a1Z hΦ k _ _ _ tk _ _ s R hk he h2 (hB.trans hpre) hk0 l1 l2 l3
 | .qLen n k,ni,nb,nv,t,ρp,ρ,s,R,hc,he,h,hB,hk0,l1,l2,l3=>by
  simp only[comp,Q2] at hc;obtain⟨tk,hk,rfl⟩:=hc;simp only[XH] at he;split at he
  case h_2=>cases he
  rename_i hd hn;split at he
  case h_2=>cases he
  rename_i kv ver hm;obtain⟨b,es,clock,kv',m1,m2,m3,m4,m5,m6⟩:=h.mapQ hn hm;refine⟨hd,b,es,clock,m1,m2,?_⟩
  have hsz:es.size=kv.length:=by
   have:=congrArg List.length m3;simp only[QA,X0] at this;rw[this,m4.length_eq]
  rw[hsz];have h2:=h.push (r:=([(kv.length:Int)],[],[])) (vvs:=[]) ⟨rfl,by simp⟩;exact a1Z hΦ k _ _ _ tk _ _ s R hk he h2 hB hk0 (by simp[XP,l1]) (by simp[XP,l2]) (by simp[XP,l3])
 | .rng n k,ni,nb,nv,t,ρp,ρ,s,R,hc,he,h,hB,hk0,l1,l2,l3=>by
  simp only[comp,Q2] at hc;obtain⟨tk,hk,rfl⟩:=hc;simp only[XH] at he;split at he
  case h_2=>cases he
  rename_i hd hn;split at he
  case h_2=>cases he
  rename_i kv ver hm;obtain⟨b,es,clock,kv',m1,m2,m3,m4,m5,m6⟩:=h.mapQ hn hm;refine⟨hd,b,es,clock,m1,m2,fun b' hb'=>?_⟩;obtain⟨hpre,h1⟩:=h.newIt hm m1 m6 b';have hml:=h.m.length
  have h2:=h1.pushV (p:=.ref ρp.m.length 0) (v:=.pointer (sm ⟨b',0,nn⟩)) (by
   simp only[Rep]
   exact⟨b',_,a3a (o:=.it hd ver []) (x:=(b',Obj.mapIter (sm b) clock #[] clock)) (by simp) (by simp[<- hml]),rfl⟩) rfl
  exact a1Z hΦ k _ _ _ tk _ _ s R hk he h2 (hB.trans hpre) hk0 l1 l2 (by simp[l3])
 | .next n w x y,ni,nb,nv,t,ρp,ρ,s,R,hc,he,h,hB,hk0,l1,l2,l3=>by
  simp only[comp,Q1,Q2] at hc;obtain⟨tx,hx,ty,hy,rfl⟩:=hc;simp only[XH] at he;split at he
  case h_2=>cases he
  rename_i ii hn;split at he
  case h_2=>cases he
  rename_i hd ver seen hit;split at he
  case h_2=>cases he
  rename_i kv ver' hm;split at he
  case isFalse=>cases he
  rename_i hcond;obtain⟨rfl,hw⟩:=hcond;obtain⟨b',b,clock,sn,es,kv',i1,i2,i3,i4,i5,i6,m3,m4,m5,m6⟩:=h.iter hn hit hm;refine⟨ii,b',hd,b,clock,clock,clock,sn,es,kv',i1,i3,i2,i4,Qa _,m3,c8F m4 hw,fun h0=>?_,fun e he' key v hk1 hk2 hkl=>?_⟩
  ·rw[XJ ((f2o m3 m4 i5).1 h0)] at he
   obtain⟨hpre,h1⟩:=h.killIt hit i1;exact a1Z hΦ x ni nb nv tx _ ρ s R hx he h1 (hB.trans hpre) hk0 l1 l2 l3
  ·obtain⟨hmem,hne⟩:=f1O m3 m4 i5 he' hk1 hk2
   rw[XS hne] at he;have he:=he _ hmem;obtain⟨hpre,h1⟩:=h.stepIt hit hm i1 i2 i4 i5 i6 m3 m4 m5 m6 he' hk1;have h2:=h1.push (r:=(key++[v],[],[])) (vvs:=[]) ⟨rfl,by simp⟩;refine a1Z hΦ y _ _ _ ty _ _ s R hy he h2 (hB.trans hpre) hk0 ?_ ?_ ?_
   ·simp[XP,l1,hkl]
   ·simp[XP,l2]
   ·simp[XP,l3]
 | .entry n w k,ni,nb,nv,t,ρp,ρ,s,R,hc,he,h,hB,hk0,l1,l2,l3=>by
  simp only[comp,Q2] at hc;obtain⟨tk,hk,rfl⟩:=hc;simp only[XH] at he;split at he
  case h_2=>cases he
  rename_i ii hn;split at he
  case h_2=>cases he
  rename_i hd ver seen hit;split at he
  case h_2=>cases he
  rename_i key hlast;split at he
  case h_2=>cases he
  rename_i kv ver' hm;split at he
  case isFalse=>cases he
  rename_i hvv;subst hvv;obtain⟨v,hv,he⟩:=he;split at he
  case isFalse=>cases he
  rename_i hkl;obtain⟨b',b,clock,sn,es,kv',i1,i2,i3,i4,i5,i6,m3,m4,m5,m6⟩:=h.iter hn hit hm;obtain⟨e,hee,sn',rfl,hek⟩:=i6 key hlast;refine⟨ii,b',hd,b,clock,clock,sn',es,e,key,v,i1,i3,i2,hee,m6.1,hek,f5e m3 m4 m5 hee hek hv,hkl,?_⟩;have h2:=h.push (r:=(key++[v],[],[])) (vvs:=[]) ⟨rfl,by simp⟩;refine a1Z hΦ k _ _ _ tk _ _ s R hk he h2 hB hk0 ?_ ?_ ?_
  ·simp[XP,l1,hkl]
  ·simp[XP,l2]
  ·simp[XP,l3]
 | .copyM d x size k,ni,nb,nv,t,ρp,ρ,s,R,hc,he,h,hB,hk0,l1,l2,l3=>by
  simp only[comp,Q2] at hc;obtain⟨tk,hk,rfl⟩:=hc;simp only[XH] at he;split at he
  case h_2=>cases he
  rename_i hd o len cap0 sz hn;split at he
  case h_2=>cases he
  rename_i l T hm;obtain⟨sc,hsc,he⟩:=he;split at he
  case isFalse=>cases he
  rename_i hcond;obtain⟨rfl,hc1,hc2,hc3⟩:=hcond;obtain⟨v,_,g1,g2⟩:=h.get hn;obtain⟨b,vs,m1,m2⟩:=h.m.get hm;have hI:=a3a hm m1;simp only[Rep] at g2;obtain⟨b',n',k1,rfl⟩:=g2;rw[hI] at k1;simp only[a2P,Q0,Q3] at k1;obtain⟨rfl,_⟩:=k1;obtain⟨a,cap,ws,e1,e2,e3⟩:=e3q h hsc;have e2':=e2.take (min sc.1 len*sz);have hwl:=e2.length;have htl:(ws.take (min sc.1 len*sz)).length=min sc.1 len*sz:=by rw[Qn];omega
  have hvl:=m2.length;refine⟨hd,b,o,len,cap0,sc.1,cap,a,vs.toArray,T,ws.take (min sc.1 len*sz),g1,m1,e1,htl,?_,fun u hu=>f3a e2 hc3 u (Qr hu),by simp only[Qv];omega,?_⟩
  ·rcases e3 with rfl|⟨b2,o2,f1,f2⟩
   ·exact .inl (by simp)
   ·refine .inr ⟨b2,o2,f1,?_⟩
    have tk:∀{j:Nat} {u:Value},(ws.take (min sc.1 len*sz))[j]?=sm u->ws[j]?=sm u:=by
     intro j u hj;rw[Qj] at hj;split at hj
     ·exact hj
     ·cases hj
    rcases f2 with f2|⟨cur,T2,fr,f3,f4⟩
    ·exact .inl fun j u hj=>f2 j u (tk hj)
    ·exact .inr ⟨cur,T2,fr,f3,fun j u hj=>f4 j u (tk hj)⟩
  ·obtain⟨hpre,h2⟩:=h.setM (o:=.cells (a3Y l o (sc.2.take (min sc.1 len*sz))) T) (x:=(b,XT (a7U vs o (ws.take (min sc.1 len*sz))).toArray T (0,0))) hm m1 ⟨_,rfl,d8a m2 e2' o⟩ (.inl (by
    simp only[a2P,a6k,Qv,d2p vs (ws.take (min sc.1 len*sz)) o (by omega)]))
   have h3:=h2.push (r:=([((min sc.1 len:Nat):Int)],[],[])) (vvs:=[]) ⟨rfl,by simp⟩;exact a1Z hΦ k _ _ _ tk _ _ s R hk he h3 (hB.trans hpre) hk0 (by simp[XP,l1]) (by simp[XP,l2]) (by simp[XP,l3])
 | .both x y,ni,nb,nv,t,ρp,ρ,s,R,hc,he,h,hB,hk0,l1,l2,l3=>by
  simp only[comp,Q1,Q2] at hc;obtain⟨tx,hx,ty,hy,rfl⟩:=hc;simp only[XH] at he;exact⟨a1Z hΦ x ni nb nv tx ρp ρ s R hx he.1 h hB hk0 l1 l2 l3,a1Z hΦ y ni nb nv ty ρp ρ s R hy he.2 h hB hk0 l1 l2 l3⟩
 | .stop g,ni,nb,nv,t,ρp,ρ,s,R,hc,he,h,hB,hk0,l1,l2,l3=>by
  simp only[comp,Q2] at hc;obtain⟨⟨q,A⟩,hq,rfl⟩:=hc;simp only[XH] at he;obtain⟨b,hb,v,hv,hR⟩:=he;obtain⟨t,_,h2,h3,h4⟩:=d9z pats 0 hq
  have hflat:A.vs.all SV.flat=tt:=by
   have h3':=h3;unfold Sx.fits at h3';simp only[Q6] at h3';exact h3'.1.2
  refine⟨q,A,t,_,hR,hB,hk0,by simpa using h2,h4,h3,fun js=>⟨?_,?_,?_,h.m,h.k,?_,h.coh⟩⟩
  ·exact X2 (fun e _=>XR h e)
  ·exact BE.all_spec h _ hb
  ·exact Kb h (a8u s _ id) _ v hv
  ·exact e0p h _ hv hflat
 | .fail _,ni,nb,nv,t,ρp,ρ,s,R,hc,he,h,hB,hk0,l1,l2,l3=>by simp only[comp,Q0] at hc;subst hc;simp[XH] at he
theorem a3X{Φ:Fns}{f:PT->PT}{k:PT}{ρ:PEnv}{R:Res->Prop}(h:(PT.wrap f k).wp Φ ρ R):(f k).wp Φ ρ R:=by
 cases k<;>first|exact h|(simp[PT.wrap,XH] at h)
theorem PT.prune_wp{Φ:Fns}:∀{t:PT} {ρ:PEnv} {R:Res->Prop},t.prune.wp Φ ρ R->t.wp Φ ρ R
 | .ret ..,ρ,R,h=>h
 | .ite c x y,ρ,R,h=>by
  have h2:(KC c x.prune y.prune).wp Φ ρ R:=by
   unfold PT.prune at h;split at h
   ·simp[XH] at h
   ·exact h
  simp only[XH] at h2 ⊢;split at h2
  ·rename_i hs
   rw[XJ hs];split at h2
   ·rename_i hc;rw[XJ hc];exact PT.prune_wp h2
   ·rename_i hc;rw[XS hc];exact PT.prune_wp h2
  ·rename_i hs
   rw[XS hs];exact⟨PT.prune_wp h2.1,PT.prune_wp h2.2⟩
 | .need c k,ρ,R,h=>by
  have h2:=a3X h;simp only[XH] at h2 ⊢;split at h2
  ·rename_i hs
   rw[XJ hs];split at h2
   ·rename_i hc;rw[XJ hc];exact PT.prune_wp h2
   ·cases h2
  ·cases h2
 | .load ..,ρ,R,h=>by
  have h2:=a3X h;simp only[XH] at h2 ⊢;obtain⟨a,ha,b,hb,c,hc,h2⟩:=h2;exact⟨a,ha,b,hb,c,hc,PT.prune_wp h2⟩
 | .app ..,ρ,R,h=>by
  have h2:=a3X h;simp only[XH] at h2 ⊢;obtain⟨a,ha,b,hb,h2⟩:=h2;refine⟨a,ha,b,hb,?_⟩;split at h2
  ·rename_i hs;rw[XJ hs];exact PT.prune_wp h2
  ·cases h2
 | .cut ..,ρ,R,h=>by
  have h2:=a3X h;simp only[XH] at h2 ⊢;split at h2
  ·split at h2
   ·rename_i hs;rw[XJ hs];exact PT.prune_wp h2
   ·cases h2
  ·obtain⟨p,hp,h2⟩:=h2
   exact⟨p,hp,PT.prune_wp h2⟩
 | .scut n lo hi k,ρ,R,h=>by
  have h2:=a3X h;rw[XH] at h2 ⊢;split at h2
  ·split at h2
   ·rename_i hs;rw[XJ hs];exact PT.prune_wp h2
   ·cases h2
  ·cases h2
 | .chk ..,ρ,R,h=>by
  have h2:=a3X h;simp only[XH,Q1] at h2 ⊢;obtain⟨a,ha,h2⟩:=h2;exact⟨a,ha,PT.prune_wp h2⟩
 | .appF ..,ρ,R,h=>by
  have h2:=a3X h;simp only[XH,Q1] at h2 ⊢;obtain⟨a,ha,b,hb,h2⟩:=h2;refine⟨a,ha,b,hb,?_⟩;split at h2
  ·rename_i hs;rw[XJ hs];exact PT.prune_wp h2
  ·cases h2
 | .call ..,ρ,R,h=>by
  have h2:=a3X h;simp only[XH] at h2 ⊢;obtain⟨a,ha,b,hb,c,hc,h2⟩:=h2;exact⟨a,ha,b,hb,c,hc,PT.prune_wp h2⟩
 | .callv n args shs k,ρ,R,h=>by
  have h2:=a3X h;rw[XH] at h2 ⊢;split at h2
  ·simp only[] at h2 ⊢
   obtain⟨a,ha,b,hb,c,hc,h2⟩:=h2;exact⟨a,ha,b,hb,c,hc,PT.prune_wp h2⟩
  ·cases h2
 | .newM ..,ρ,R,h=>by
  have h2:=a3X h;simp only[XH] at h2 ⊢;obtain⟨a,ha,h2⟩:=h2;exact⟨a,ha,PT.prune_wp h2⟩
 | .mkM ..,ρ,R,h=>by
  have h2:=a3X h;simp only[XH] at h2 ⊢;obtain⟨a,ha,h2⟩:=h2;refine⟨a,ha,?_⟩;split at h2
  ·rename_i hs;rw[XJ hs];exact PT.prune_wp h2
  ·cases h2
 | .storeM a cs k,ρ,R,h=>by
  have h2:=a3X h;rw[XH] at h2 ⊢;split at h2
  ·split at h2
   ·rename_i e1 _ _ _ e2
    obtain⟨a,ha,h2⟩:=h2;refine⟨a,ha,?_⟩;split at h2
    ·rename_i hs;rw[XJ hs];exact PT.prune_wp h2
    ·cases h2
   ·cases h2
  ·split at h2
   ·split at h2
    ·rename_i hs
     rw[XJ hs];obtain⟨a,ha,b,hb,h2⟩:=h2;refine⟨a,ha,b,hb,?_⟩;split at h2
     ·rename_i hs;rw[XJ hs];exact PT.prune_wp h2
     ·cases h2
    ·cases h2
   ·cases h2
  ·cases h2
 | .appM d src size T k,ρ,R,h=>by
  have h2:=a3X h;rw[XH] at h2 ⊢;obtain⟨a,ha,b,hb,h2⟩:=h2;refine⟨a,ha,b,hb,?_⟩;split at h2
  ·split at h2
   ·rename_i hs
    rw[XJ hs];split at h2
    ·rename_i hs;rw[XJ hs];exact PT.prune_wp h2
    ·rename_i hs;rw[XS hs];exact PT.prune_wp h2
   ·cases h2
  ·split at h2
   ·split at h2
    ·rename_i hs
     rw[XJ hs];split at h2
     ·rename_i hs;rw[XJ hs];exact PT.prune_wp h2
     ·rename_i hs;rw[XS hs];exact PT.prune_wp h2
    ·cases h2
   ·cases h2
  ·split at h2
   ·split at h2
    ·rename_i hs
     rw[XJ hs];obtain⟨rows,hr,h2⟩:=h2;refine⟨rows,hr,?_⟩;split at h2
     ·rename_i hs;rw[XJ hs];exact PT.prune_wp h2
     ·rename_i hs;rw[XS hs];exact PT.prune_wp h2
    ·cases h2
   ·cases h2
  ·cases h2
 | .mkMap ..,ρ,R,h=>by
  have h2:=a3X h;rw[XH] at h2 ⊢;exact PT.prune_wp h2
 | .mapGet n K key dflt ok shs k,ρ,R,h=>by
  have h2:=a3X h;rw[XH] at h2 ⊢;split at h2
  ·split at h2
   ·split at h2
    ·rename_i hs
     rw[XJ hs];obtain⟨a,ha,b,hb,h2⟩:=h2;exact⟨a,ha,b,hb,PT.prune_wp h2⟩
    ·cases h2
   ·cases h2
  ·cases h2
 | .mapSet n K key val k,ρ,R,h=>by
  have h2:=a3X h;rw[XH] at h2 ⊢;split at h2
  ·split at h2
   ·split at h2
    ·rename_i hs
     rw[XJ hs];obtain⟨a,ha,h2⟩:=h2;exact⟨a,ha,PT.prune_wp h2⟩
    ·cases h2
   ·cases h2
  ·cases h2
 | .mapClr n k,ρ,R,h=>by
  have h2:=a3X h;rw[XH] at h2 ⊢;split at h2
  ·split at h2
   ·exact PT.prune_wp h2
   ·cases h2
  ·cases h2
 | .mkQ _,ρ,R,h=>by
  have h2:=a3X h;rw[XH] at h2 ⊢;exact PT.prune_wp h2
 | .qGet n key ok k,ρ,R,h=>by
  have h2:=a3X h;rw[XH] at h2 ⊢;split at h2
  ·split at h2
   ·split at h2
    ·rename_i hs;rw[XJ hs];exact PT.prune_wp h2
    ·cases h2
   ·cases h2
  ·cases h2
 | .qSet n key v k,ρ,R,h=>by
  have h2:=a3X h;rw[XH] at h2 ⊢;split at h2
  ·split at h2
   ·split at h2
    ·rename_i hs;rw[XJ hs];exact PT.prune_wp h2
    ·cases h2
   ·cases h2
  ·cases h2
 | .qDel n key k,ρ,R,h=>by
  have h2:=a3X h;rw[XH] at h2 ⊢;split at h2
  ·split at h2
   ·split at h2
    ·rename_i hs;rw[XJ hs];exact PT.prune_wp h2
    ·cases h2
   ·cases h2
  ·cases h2
 | .qLen n k,ρ,R,h=>by
  have h2:=a3X h;rw[XH] at h2 ⊢;split at h2
  ·split at h2
   ·exact PT.prune_wp h2
   ·cases h2
  ·cases h2
 | .rng n k,ρ,R,h=>by
  have h2:=a3X h;rw[XH] at h2 ⊢;split at h2
  ·split at h2
   ·exact PT.prune_wp h2
   ·cases h2
  ·cases h2
 | .next n w x y,ρ,R,h=>by
  have h2:(PT.next n w x.prune y.prune).wp Φ ρ R:=by
   unfold PT.prune at h;split at h
   ·simp[XH] at h
   ·exact h
  rw[XH] at h2 ⊢;split at h2
  ·split at h2
   ·split at h2
    ·split at h2
     ·rename_i hs
      rw[XJ hs];split at h2
      ·rename_i h0;rw[XJ h0];exact PT.prune_wp h2
      ·rename_i h0;rw[XS h0];exact fun p hp=>PT.prune_wp (h2 p hp)
     ·cases h2
    ·cases h2
   ·cases h2
  ·cases h2
 | .entry n w k,ρ,R,h=>by
  have h2:=a3X h;rw[XH] at h2 ⊢;split at h2
  ·split at h2
   ·split at h2
    ·split at h2
     ·split at h2
      ·rename_i hs
       rw[XJ hs];obtain⟨v,hv,h2⟩:=h2;refine⟨v,hv,?_⟩;split at h2
       ·rename_i h0;rw[XJ h0];exact PT.prune_wp h2
       ·cases h2
      ·cases h2
     ·cases h2
    ·cases h2
   ·cases h2
  ·cases h2
 | .copyM d x size k,ρ,R,h=>by
  have h2:=a3X h;rw[XH] at h2 ⊢;split at h2
  ·split at h2
   ·obtain⟨a,ha,h2⟩:=h2
    refine⟨a,ha,?_⟩;split at h2
    ·rename_i hs;rw[XJ hs];exact PT.prune_wp h2
    ·cases h2
   ·cases h2
  ·cases h2
 | .both x y,ρ,R,h=>by
  have h2:(PT.both x.prune y.prune).wp Φ ρ R:=by
   unfold PT.prune at h;split at h
   ·simp[XH] at h
   ·simp[XH] at h
   ·exact h
  simp only[XH] at h2 ⊢;exact⟨PT.prune_wp h2.1,PT.prune_wp h2.2⟩
 | .jump ..,ρ,R,h=>h
 | .stuck,ρ,R,h=>h
theorem PT.ev_wp{Φ:Fns}{R:Res->Prop}:∀{t:PT} {ρ:PEnv} {r:Res},t.ev Φ ρ=sm r->R r->t.wp Φ ρ R
 | .ret ..,ρ,r,h2,hR=>by
  simp only[XL,Q1,Q2] at h2;obtain⟨p,hp,r',hr,rfl⟩:=h2;exact⟨p,hp,r',hr,hR⟩
 | .ite c x y,ρ,r,h2,hR=>by
  simp only[XL,XH] at h2 ⊢;split at h2
  ·rename_i hs
   rw[XJ hs];split at h2
   ·rename_i hc;rw[XJ hc];exact PT.ev_wp h2 hR
   ·rename_i hc;rw[XS hc];exact PT.ev_wp h2 hR
  ·cases h2
 | .need c k,ρ,r,h2,hR=>by
  simp only[XL,XH] at h2 ⊢;split at h2
  ·rename_i hs
   rw[XJ hs];split at h2
   ·rename_i hc;rw[XJ hc];exact PT.ev_wp h2 hR
   ·cases h2
  ·cases h2
 | .load ..,ρ,r,h2,hR=>by
  simp only[XL,XH,Q1] at h2 ⊢;obtain⟨a,ha,b,hb,c,hc,h2⟩:=h2;exact⟨a,ha,b,hb,c,hc,PT.ev_wp h2 hR⟩
 | .app ..,ρ,r,h2,hR=>by
  simp only[XL,XH,Q1] at h2 ⊢;obtain⟨a,ha,b,hb,h2⟩:=h2;refine⟨a,ha,b,hb,?_⟩;split at h2
  ·rename_i hs;rw[XJ hs];exact PT.ev_wp h2 hR
  ·cases h2
 | .cut ..,ρ,r,h2,hR=>by
  simp only[XL,XH] at h2 ⊢;split at h2
  ·split at h2
   ·rename_i hs;rw[XJ hs];exact PT.ev_wp h2 hR
   ·cases h2
  ·obtain⟨p,hp,h2⟩:=Q1.1 h2
   exact⟨p,hp,PT.ev_wp h2 hR⟩
 | .scut n lo hi k,ρ,r,h2,hR=>by
  rw[XL] at h2;rw[XH];split at h2
  ·split at h2
   ·rename_i hs;rw[XJ hs];exact PT.ev_wp h2 hR
   ·cases h2
  ·cases h2
 | .chk ..,ρ,r,h2,hR=>by
  simp only[XL,XH,Q1] at h2 ⊢;obtain⟨a,ha,h2⟩:=h2;exact⟨a,ha,PT.ev_wp h2 hR⟩
 | .appF ..,ρ,r,h2,hR=>by
  simp only[XL,XH,Q1] at h2 ⊢;obtain⟨a,ha,b,hb,h2⟩:=h2;refine⟨a,ha,b,hb,?_⟩;split at h2
  ·rename_i hs;rw[XJ hs];exact PT.ev_wp h2 hR
  ·cases h2
 | .call ..,ρ,r,h2,hR=>by
  simp only[XL,XH,Q1] at h2 ⊢;obtain⟨a,ha,b,hb,c,hc,h2⟩:=h2;exact⟨a,ha,b,hb,c,hc,PT.ev_wp h2 hR⟩
 | .callv n args shs k,ρ,r,h2,hR=>by
  rw[XL] at h2;rw[XH];split at h2
  ·try simp only[Q1] at h2 ⊢
   try simp only[Q1] at h2
   obtain⟨a,ha,b,hb,c,hc,h2⟩:=h2;exact⟨a,ha,b,hb,c,hc,PT.ev_wp h2 hR⟩
  ·cases h2
 | .newM ..,ρ,r,h2,hR=>by
  simp only[XL,XH,Q1] at h2 ⊢;obtain⟨a,ha,h2⟩:=h2;exact⟨a,ha,PT.ev_wp h2 hR⟩
 | .mkM ..,ρ,r,h2,hR=>by
  simp only[XL,XH,Q1] at h2 ⊢;obtain⟨a,ha,h2⟩:=h2;refine⟨a,ha,?_⟩;split at h2
  ·rename_i hs;rw[XJ hs];exact PT.ev_wp h2 hR
  ·cases h2
 | .storeM a cs k,ρ,r,h2,hR=>by
  rw[XL] at h2;rw[XH];split at h2
  ·split at h2
   ·rename_i e1 _ _ _ e2
    try simp only[Q1] at h2
    obtain⟨a,ha,h2⟩:=h2;refine⟨a,ha,?_⟩;split at h2
    ·rename_i hs;rw[XJ hs];exact PT.ev_wp h2 hR
    ·cases h2
   ·cases h2
  ·split at h2
   ·split at h2
    ·rename_i hs
     rw[XJ hs]
     try simp only[Q1] at h2
     obtain⟨a,ha,b,hb,h2⟩:=h2;refine⟨a,ha,b,hb,?_⟩;split at h2
     ·rename_i hs;rw[XJ hs];exact PT.ev_wp h2 hR
     ·cases h2
    ·cases h2
   ·cases h2
  ·cases h2
 | .appM d src size T k,ρ,r,h2,hR=>by
  rw[XL] at h2;rw[XH]
  try simp only[Q1] at h2
  obtain⟨a,ha,b,hb,h2⟩:=h2;refine⟨a,ha,b,hb,?_⟩;split at h2
  ·split at h2
   ·rename_i hs
    rw[XJ hs];split at h2
    ·rename_i hs;rw[XJ hs];exact PT.ev_wp h2 hR
    ·rename_i hs;rw[XS hs];exact PT.ev_wp h2 hR
   ·cases h2
  ·split at h2
   ·split at h2
    ·rename_i hs
     rw[XJ hs];split at h2
     ·rename_i hs;rw[XJ hs];exact PT.ev_wp h2 hR
     ·rename_i hs;rw[XS hs];exact PT.ev_wp h2 hR
    ·cases h2
   ·cases h2
  ·split at h2
   ·split at h2
    ·rename_i hs
     rw[XJ hs];obtain⟨rows,hr,h2⟩:=Q1.1 h2;refine⟨rows,hr,?_⟩;split at h2
     ·rename_i hs;rw[XJ hs];exact PT.ev_wp h2 hR
     ·rename_i hs;rw[XS hs];exact PT.ev_wp h2 hR
    ·cases h2
   ·cases h2
  ·cases h2
 | .mkMap ..,ρ,r,h2,hR=>by
  rw[XL] at h2;rw[XH];exact PT.ev_wp h2 hR
 | .mapGet n K key dflt ok shs k,ρ,r,h2,hR=>by
  rw[XL] at h2;rw[XH];split at h2
  ·split at h2
   ·split at h2
    ·rename_i hs
     rw[XJ hs]
     try simp only[Q1] at h2
     obtain⟨a,ha,b,hb,h2⟩:=h2;exact⟨a,ha,b,hb,PT.ev_wp h2 hR⟩
    ·cases h2
   ·cases h2
  ·cases h2
 | .mapSet n K key val k,ρ,r,h2,hR=>by
  rw[XL] at h2;rw[XH];split at h2
  ·split at h2
   ·split at h2
    ·rename_i hs
     rw[XJ hs]
     try simp only[Q1] at h2
     obtain⟨a,ha,h2⟩:=h2;exact⟨a,ha,PT.ev_wp h2 hR⟩
    ·cases h2
   ·cases h2
  ·cases h2
 | .mapClr n k,ρ,r,h2,hR=>by
  rw[XL] at h2;rw[XH];split at h2
  ·split at h2
   ·exact PT.ev_wp h2 hR
   ·cases h2
  ·cases h2
 | .mkQ _,ρ,r,h2,hR=>by
  rw[XL] at h2;rw[XH];exact PT.ev_wp h2 hR
 | .qGet n key ok k,ρ,r,h2,hR=>by
  rw[XL] at h2;rw[XH];split at h2
  ·split at h2
   ·split at h2
    ·rename_i hs;rw[XJ hs];exact PT.ev_wp h2 hR
    ·cases h2
   ·cases h2
  ·cases h2
 | .qSet n key v k,ρ,r,h2,hR=>by
  rw[XL] at h2;rw[XH];split at h2
  ·split at h2
   ·split at h2
    ·rename_i hs;rw[XJ hs];exact PT.ev_wp h2 hR
    ·cases h2
   ·cases h2
  ·cases h2
 | .qDel n key k,ρ,r,h2,hR=>by
  rw[XL] at h2;rw[XH];split at h2
  ·split at h2
   ·split at h2
    ·rename_i hs;rw[XJ hs];exact PT.ev_wp h2 hR
    ·cases h2
   ·cases h2
  ·cases h2
 | .qLen n k,ρ,r,h2,hR=>by
  rw[XL] at h2;rw[XH];split at h2
  ·split at h2
   ·exact PT.ev_wp h2 hR
   ·cases h2
  ·cases h2
 | .rng n k,ρ,r,h2,hR=>by
  rw[XL] at h2;rw[XH];split at h2
  ·split at h2
   ·exact PT.ev_wp h2 hR
   ·cases h2
  ·cases h2
 | .next ..,ρ,r,h2,hR=>by simp[XL] at h2
 | .entry n w k,ρ,r,h2,hR=>by
  rw[XL] at h2;rw[XH];split at h2
  ·split at h2
   ·split at h2
    ·split at h2
     ·split at h2
      ·rename_i hs
       rw[XJ hs]
       try simp only[Q1] at h2
       obtain⟨v,hv,h2⟩:=h2;refine⟨v,hv,?_⟩;split at h2
       ·rename_i h0;rw[XJ h0];exact PT.ev_wp h2 hR
       ·cases h2
      ·cases h2
     ·cases h2
    ·cases h2
   ·cases h2
  ·cases h2
 | .copyM d x size k,ρ,r,h2,hR=>by
  rw[XL] at h2;rw[XH];split at h2
  ·split at h2
   ·simp only[Q1] at h2
    obtain⟨a,ha,h2⟩:=h2;refine⟨a,ha,?_⟩;split at h2
    ·rename_i hs;rw[XJ hs];exact PT.ev_wp h2 hR
    ·cases h2
   ·cases h2
  ·cases h2
 | .both x y,ρ,r,h2,hR=>by
  simp only[XL,Q1] at h2;obtain⟨r1,h1,r2,h3,h2⟩:=h2;split at h2
  case isFalse=>cases h2
  rename_i hbeq;have hrr:=Res.beq_eq hbeq;subst hrr;simp only[Q0] at h2;subst h2;exact⟨PT.ev_wp h1 hR,PT.ev_wp h3 hR⟩
 | .jump ..,ρ,r,h2,hR=>by
  simp only[XL,Q1,Q2] at h2;obtain⟨b,hb,v,hv,rfl⟩:=h2;exact⟨b,hb,v,hv,hR⟩
 | .stuck,ρ,r,h2,hR=>by simp[XL] at h2
structure SysOk (P:Program)(f:FuncId)(S:Sys):Prop where
 ct:∀Φ:Fns,(∀f,CtP P f (Φ f))->∀n,CtP P f (S.run Φ n)
theorem d7x{t:Cfg}(h:d5l t=tt):∀p d ks k,t.todo≠.dreg p d ks::k:=by
 intro p d ks k he;simp[d5l,he] at h
def Sys.loopD(Φ:Fns)(S:Sys):Nat->Nat->PEnv->(PV->List MO->Prop)->Prop
 | 0,_,_,_=>False
 | n+1,q,ρ,R=>∃t,S.loops[q]?=sm t/\t.wp Φ ρ fun
  | .ret r σ=>R r σ
  | .jump q' ρ'=>S.loopD Φ n q' ρ' R
def Sys.runD(Φ:Fns)(S:Sys)(n:Nat)(ayq:List PV)(σ:List MO)(R:PV->List MO->Prop):Prop :=
 ∃r,a0i S.ps ayq=sm r/\S.start.wp Φ {i:=r.1,b:=r.2.1,v:=r.2.2,m:=σ,k:=σ.length} fun
  | .ret r σ=>R r σ
  | .jump q ρ=>S.loopD Φ n q ρ R
def CtD(P:Program)(f:Nat)(ayq:List PV)(σ:List MO)(R:PV->List MO->Prop):Prop :=
 (∀args w,(callFunc f args).run P w=.ok (.enter f args) w) /\
  ∀s m vs,a1v s (inf σ m) σ m->Coh σ m->Reps s (inf σ m) ayq vs->Ct P f vs s m (fun v s' m'=>∃r σ',R r σ'/\QF σ m r σ' v s' m')
theorem d9n{Φ:Fns}{S:Sys}{R:PV->List MO->Prop}:∀(n q:Nat) (ρ:PEnv) {r:PV} {σ:List MO},S.loop Φ n q ρ=sm (r,σ)->R r σ->S.loopD Φ n q ρ R
 | 0,q,ρ,r,σ,h,_=>by simp[KD] at h
 | n+1,q,ρ,r,σ,h,hR=>by
  simp only[KD,Q1] at h;obtain⟨t,ht,res,hres,h⟩:=h;refine⟨t,ht,PT.ev_wp hres ?_⟩;cases res with
  | ret r' σ'=>simp only[Q0,Q3] at h;obtain⟨rfl,rfl⟩:=h;exact hR
  | jump q' ρ'=>exact d9n n q' ρ' h hR
theorem f2B{Φ:Fns}{S:Sys}(hp:S.prim=nn)(hr:S.rg=nn){R:PV->List MO->Prop}{n:Nat}{ayq:List PV}{σ:List MO}{r:PV}{σ':List MO}(h:S.run Φ n ayq σ=sm (r,σ'))(hR:R r σ'):S.runD Φ n ayq σ R:=by
 unfold Sys.run at h;simp only[hp,hr] at h;simp only[Q1] at h;obtain⟨x,hx,res,hres,hfin⟩:=h;refine⟨x,hx,PT.ev_wp hres ?_⟩;cases res with
 | ret r' σ'=>simp only[Q0,Q3] at hfin;obtain⟨rfl,rfl⟩:=hfin;exact hR
 | jump q' ρ'=>exact d9n n q' ρ' hfin hR
structure SysIs (P:Program)(f:FuncId)(S:Sys):Prop where
 dm:∀Φ:Fns,(∀f,CtP P f (Φ f))->∀n ayq σ R,S.runD Φ n ayq σ R->CtD P f ayq σ R
theorem d0D{c:Ctx}{f:FuncId}{fnc:Func}(hP:ProgOk P c)(hf:P.funcs[f]?=sm fnc)(hen:∀args w,(callFunc f args).run P w=.ok (.enter f args) w)(hb:fnc.body.isSome=tt)
  (pats:List Cfg) (S:Sys) (fuel:Nat) {ni nb nv:Nat} {args:List SV} (hargs:b8V S.ps 0 0 0=(args,ni,nb,nv))
  (h0:(comp pats (run c (c8S fnc) fuel (b1C fnc.ntmps args ni nb nv)) ni nb nv).map Kf=sm S.start)
  (h1:pats.mapM (fun g=>(comp pats (run c (c8S fnc) fuel g) g.ni g.nb g.nv).map Kf)=sm S.loops):SysIs P f S where
 dm Φ hΦ n ayq σ R hrun:=by
  refine⟨hen,fun s m vs hm hcoh hvs=>?_⟩
  have hbody:fnc.body=sm (c8S fnc).body:=by
   cases hb':fnc.body with
   | none=>rw[hb'] at hb;cases hb
   | some x=>simp[c8S,hb']
  obtain⟨x,hx,hwp⟩:=hrun;obtain⟨vvs,hbd,hspec⟩:=c9J S.ps ayq vs hx hvs;obtain⟨c1,c2⟩:=hspec 0 0 0;rw[hargs] at c1 c2;simp only[Qm,Q3] at c1;obtain⟨d1,d2,d3⟩:=c1
  let ρ:Env:={i:=x.1,b:=x.2.1,v:=vvs,j:=[],m:=m,k:=m.length}
  have hat:At ρ 0 0 0 x.1 x.2.1 vvs:=⟨fun j z h=>by simpa[ρ] using h,fun j z h=>by simpa[ρ] using h,fun j z h=>by simpa[ρ] using h⟩;have hden:XM ρ id args=vs:=c2 ρ id hat;have hrep:EnvRep s {i:=x.1,b:=x.2.1,v:=x.2.2,m:=σ,k:=σ.length} ρ:=⟨rfl,rfl,hbd.1,hm,hm.length,hbd.2,hcoh⟩;rw[<- hden];have hvl:=hbd.1.length;refine f4O (ρ:=ρ) hP hf hbody rfl fuel hrep.ok rfl rfl (fun w0=>?_);have hl1:ρ.i.length=ni:=d1.symm;have hl2:ρ.b.length=nb:=d2.symm;have hl3:ρ.v.length=nv:=d3.symm;rw[hl1,hl2,hl3];have hpat:∀(q:Nat) (t:Cfg),pats[q]?=sm t->∃pt,S.loops[q]?=sm pt/\(comp pats (run c (c8S fnc) fuel t) t.ni t.nb t.nv).map Kf=sm pt:=fun q t hq=>(d2T h1).2 q t hq
  have loops:∀(n q:Nat) (ρp:PEnv),S.loopD Φ n q ρp R->∀(t:Cfg) (ρ1:Env) (s1:Hp),pats[q]?=sm t->EnvRep s1 ρp ρ1->Le2 σ m ρp.m ρ1.m->σ.length<=ρp.k->ρp.i.length=t.ni->ρp.b.length=t.nb->ρp.v.length=t.nv ->
    Reach P f (Ret (fun v s' m'=>∃r σ',R r σ'/\QF σ m r σ' v s' m') s m w0) (c8S fnc).body w0 s m t ρ1 s1:=by
   intro n
   induction n with
   | zero=>intro q ρp h;exact h.elim
   | succ n ih =>
    intro q ρp h t ρ1 s1 hq he hB hk0 e1 e2 e3;obtain⟨pt,hpt,hwp⟩:=h;obtain⟨pt',hpt',hcomp⟩:=hpat q t hq;rw[hpt] at hpt';simp only[Q0] at hpt';subst hpt';obtain⟨pt0,hcomp,hpr⟩:=Q2.1 hcomp;rw[<- hpr] at hwp;have hwp:=PT.prune_wp hwp;have hvc:=a1Z (σ0:=σ) (m0:=m) hΦ _ _ _ _ pt0 ρp ρ1 s1 _ hcomp hwp he hB hk0 e1 e2 e3;refine e2H (Q:=fun v s' m'=>∃r σ',R r σ'/\QF σ m r σ' v s' m') hP hf rfl ?_ fuel t ρ1 s1 (VC.mono ?_ (fun _ _ _ h=>h) _ _ _ hvc)
    ·rintro g ρ2 s2 ⟨q',A,t',ρp',hR',hB',hk',hq',hho,hfit,hE⟩
     refine e2P hfit (d7x hho) (fun js _=>?_);have hfit1:=hfit;unfold Sx.fits at hfit1;simp only[Q6,Ku] at hfit1;have hE':=hE js;have a1:=hE'.i;have a2:=hE'.b;have a3:=hE'.v.length;refine ih q' ρp' hR' t' _ s2 hq' hE' hB' hk' ?_ ?_ ?_
     ·rw[<- a1];simp only[QA];have:=hfit1.1.1.1.1.1.1.1.1.1.2;omega
     ·rw[<- a2];simp only[QA];have:=hfit1.1.1.1.1.1.1.1.1.2;omega
     ·rw[<- a3];simp only[a1D];have:=hfit1.1.1.1.1.1.1.1.2;omega
    ·exact fun v s' m' h=>h
  obtain⟨st0,h0,hpr⟩:=Q2.1 h0;rw[<- hpr] at hwp;have hwp:=PT.prune_wp hwp;have hvc:=a1Z (σ0:=σ) (m0:=m) hΦ _ _ _ _ st0 _ ρ s _ h0 hwp hrep (Le2.refl _ _) (Qa _) d1.symm d2.symm (by simp only;omega);refine VC.mono ?_ ?_ _ _ _ hvc
  ·exact fun v s' m' h=>h
  ·rintro g ρ2 s2 ⟨q',A,t',ρp',hR',hB',hk',hq',hho,hfit,hE⟩
   refine e2P hfit (d7x hho) (fun js _=>?_);have hfit1:=hfit;unfold Sx.fits at hfit1;simp only[Q6,Ku] at hfit1;have hE':=hE js;have a1:=hE'.i;have a2:=hE'.b;have a3:=hE'.v.length;refine loops n q' ρp' hR' t' _ s2 hq' hE' hB' hk' ?_ ?_ ?_
   ·rw[<- a1];simp only[QA];have:=hfit1.1.1.1.1.1.1.1.1.1.2;omega
   ·rw[<- a2];simp only[QA];have:=hfit1.1.1.1.1.1.1.1.1.2;omega
   ·rw[<- a3];simp only[a1D];have:=hfit1.1.1.1.1.1.1.1.2;omega
theorem CtD.one{f:Nat}{ayq:List PV}{σ:List MO}{r:PV}{σ':List MO}(h:CtD P f ayq σ (fun x y=>x=r/\y=σ')):(∀args w,(callFunc f args).run P w=.ok (.enter f args) w) /\
  ∀s m vs,a1v s (inf σ m) σ m->Coh σ m->Reps s (inf σ m) ayq vs->Ct P f vs s m (QF σ m r σ'):=by
 refine⟨h.1,fun s m vs a b c w hs hm=>(h.2 s m vs a b c w hs hm).mono ?_⟩;rintro e w' ⟨v,s',m',e1,e2,e3,e4,e5,e6,e7,r',σ'',⟨rfl,rfl⟩,hq⟩;exact⟨v,s',m',e1,e2,e3,e4,e5,e6,e7,hq⟩
theorem SysIs.ok{f:FuncId}{S:Sys}(h:SysIs P f S)(hp:S.prim=nn)(hr:S.rg=nn:=by rfl):SysOk P f S where
 ct Φ hΦ n ayq σ r σ' hrun:=(h.dm Φ hΦ n ayq σ _ (f2B hp hr hrun ⟨rfl,rfl⟩)).one
theorem f5y{c:Ctx}{f:FuncId}{fnc:Func}(hP:ProgOk P c)(hf:P.funcs[f]?=sm fnc)(hen:∀args w,(callFunc f args).run P w=.ok (.enter f args) w)(hb:fnc.body.isSome=tt)
  (pats:List Cfg) (S:Sys) (fuel:Nat) {ni nb nv:Nat} {args:List SV} (hargs:b8V S.ps 0 0 0=(args,ni,nb,nv))
  (h0:(comp pats (run c (c8S fnc) fuel (b1C fnc.ntmps args ni nb nv)) ni nb nv).map Kf=sm S.start)
  (h1:pats.mapM (fun g=>(comp pats (run c (c8S fnc) fuel g) g.ni g.nb g.nv).map Kf)=sm S.loops) (hp:S.prim=nn) (hr:S.rg=nn:=by rfl):SysOk P f S :=
 (d0D hP hf hen hb pats S fuel hargs h0 h1).ok hp hr
theorem evalF_good{Tab:Nat->Option Sys}(hT:∀f S,Tab f=sm S->SysOk P f S):∀n f,CtP P f (a0a Tab n f)
 | 0,f=>fun ayq σ r σ' h=>by simp[a0a] at h
 | n+1,f=>fun ayq σ r σ' h=>by
  simp only[a0a,Q1] at h;obtain⟨S,hS,h⟩:=h;exact(hT f S hS).ct _ (evalF_good hT n) n ayq σ r σ' h
end Go.Sx
namespace Go.Sx
open Go.RowKit
variable {P:Program}
def f7e(Φ:Fns)(G:Rg)(ρ:PEnv):Option (PV×List MO):=match ρ.v[G.n]? with
 | some (.fn f caps)=>(G.it f caps).bind fun ys=>(c6b Φ G ys ρ).bind fun ρ'=>(G.after.ev Φ ρ').bind fun
  | .ret r σ=>sm (r,σ)
  | .jump _ _=>nn
 | _=>nn
def RgR(Φ:Fns)(G:Rg)(r:PV)(σ':List MO):Res->Prop
 | .ret r1 σ1=>r1=r/\σ1=σ'
 | .jump _ ρ=>f7e Φ G ρ=sm (r,σ')
structure RgIs (P:Program)(f:FuncId)(S:Sys)(G:Rg):Prop where
 dm:∀Φ:Fns,(∀f,CtP P f (Φ f))->∀ayq σ r σ',(∃x,a0i S.ps ayq=sm x/\S.start.wp Φ {i:=x.1,b:=x.2.1,v:=x.2.2,m:=σ,k:=σ.length} (RgR Φ G r σ')) ->
  (∀args w,(callFunc f args).run P w=.ok (.enter f args) w)/\∀s m vs,a1v s (inf σ m) σ m->Coh σ m->Reps s (inf σ m) ayq vs->Ct P f vs s m (QF σ m r σ')
section
variable {c:Ctx}{fnc:Func}{f:FuncId}
end
end Go.Sx
namespace Go.Proofs.YtmekflfjaflmkaaGreat
open Go.Sx
open Tryz
@[reducible] def izR (n:Nat):List SV:=Q7 n (.int .i64 (.l 0))
@[reducible] def ikR (n:Nat):List Kd:=Q7 n (.int .i64)
def tabL:List (Nat×TI):=[
 (2,⟨.int .i64,1,8,[.int .i64 (.l 0)],[.int .i64],ff⟩),(3,⟨.int .i64,1,8,[.int .i64 (.l 0)],[.int .i64],ff⟩),(4,⟨.bool,1,1,[.bool (.t ff)],[.bool],ff⟩),(5,⟨.int .u8,1,1,[.int .u8 (.l 0)],[.int .u8],ff⟩),(9,⟨.str,1,16,[.str []],[.val],ff⟩),(12,⟨.int .u64,1,8,[.int .u64 (.l 0)],[.int .u64],ff⟩),(21,⟨.int .i32,1,4,[.int .i32 (.l 0)],[.int .i32],ff⟩),(22,⟨.slice 93,1,24,[.nilS],[.val],ff⟩),(23,⟨.slice 102,1,24,[.nilS],[.val],ff⟩),(24,⟨.slice 89,1,24,[.nilS],[.val],ff⟩),(25,⟨.slice 91,1,24,[.nilS],[.val],ff⟩),(26,⟨.st [(0,22),(1,23),(2,24),(3,25)],4,96,[.nilS,.nilS,.nilS,.nilS],[.val,.val,.val,.val],ff⟩),(27,⟨.st [(0,22),(1,23),(2,24),(3,25)],4,96,[.nilS,.nilS,.nilS,.nilS],[.val,.val,.val,.val],ff⟩),(28,⟨.st [(0,2),(1,3),(2,3),(3,3)],4,32,(izR 4),(ikR 4),tt⟩),(29,⟨.st [(0,2),(1,3),(2,3),(3,3)],4,32,(izR 4),(ikR 4),tt⟩),(32,⟨.ptr 79,1,8,[.nilP],[.val],ff⟩),(33,⟨.int .i64,1,8,[.int .i64 (.l 0)],[.int .i64],ff⟩),(36,⟨.slice 121,1,24,[.nilS],[.val],ff⟩),(37,⟨.arr 6 2,6,48,(izR 6),(ikR 6),tt⟩),(38,⟨.arr 6 2,6,48,(izR 6),(ikR 6),tt⟩),(39,⟨.slice 51,1,24,[.nilS],[.val],ff⟩),(40,⟨.slice 4,1,24,[.nilS],[.val],ff⟩),(41,⟨.st [(0,27),(4,29),(8,36),(9,38),(15,39),(16,40),(17,40),(18,4)],19,280,[.nilS,.nilS,.nilS,.nilS,.int .i64 (.l 0),.int .i64 (.l 0),.int .i64 (.l 0),.int .i64 (.l 0),.nilS,.int .i64 (.l 0),.int .i64 (.l 0),.int .i64 (.l 0),.int .i64 (.l 0),.int .i64 (.l 0),.int .i64 (.l 0),.nilS,.nilS,.nilS,.bool (.t ff)],[.val,.val,.val,.val,.int .i64,.int .i64,.int .i64,.int .i64,.val,.int .i64,.int .i64,.int .i64,.int .i64,.int .i64,.int .i64,.val,.val,.val,.bool],ff⟩),(42,⟨.st [(0,27),(4,29),(8,36),(9,38),(15,39),(16,40),(17,40),(18,4)],19,280,[.nilS,.nilS,.nilS,.nilS,.int .i64 (.l 0),.int .i64 (.l 0),.int .i64 (.l 0),.int .i64 (.l 0),.nilS,.int .i64 (.l 0),.int .i64 (.l 0),.int .i64 (.l 0),.int .i64 (.l 0),.int .i64 (.l 0),.int .i64 (.l 0),.nilS,.nilS,.nilS,.bool (.t ff)],[.val,.val,.val,.val,.int .i64,.int .i64,.int .i64,.int .i64,.val,.int .i64,.int .i64,.int .i64,.int .i64,.int .i64,.int .i64,.val,.val,.val,.bool],ff⟩),(47,⟨.slice 53,1,24,[.nilS],[.val],ff⟩),(50,⟨.arr 6 3,6,48,(izR 6),(ikR 6),tt⟩),(51,⟨.arr 6 3,6,48,(izR 6),(ikR 6),tt⟩),(52,⟨.st [(0,3),(1,3),(2,3),(3,51)],9,72,(izR 9),(ikR 9),tt⟩),(53,⟨.st [(0,3),(1,3),(2,3),(3,51)],9,72,(izR 9),(ikR 9),tt⟩),(62,⟨.slice 65,1,24,[.nilS],[.val],ff⟩),(64,⟨.st [(0,38),(6,39),(7,39),(8,40)],9,120,[.int .i64 (.l 0),.int .i64 (.l 0),.int .i64 (.l 0),.int .i64 (.l 0),.int .i64 (.l 0),.int .i64 (.l 0),.nilS,.nilS,.nilS],[.int .i64,.int .i64,.int .i64,.int .i64,.int .i64,.int .i64,.val,.val,.val],ff⟩),(65,⟨.st [(0,38),(6,39),(7,39),(8,40)],9,120,[.int .i64 (.l 0),.int .i64 (.l 0),.int .i64 (.l 0),.int .i64 (.l 0),.int .i64 (.l 0),.int .i64 (.l 0),.nilS,.nilS,.nilS],[.int .i64,.int .i64,.int .i64,.int .i64,.int .i64,.int .i64,.val,.val,.val],ff⟩),(72,⟨.slice 75,1,24,[.nilS],[.val],ff⟩),(74,⟨.st [(0,38),(6,51)],12,96,(izR 12),(ikR 12),tt⟩),(75,⟨.st [(0,38),(6,51)],12,96,(izR 12),(ikR 12),tt⟩),(78,⟨.st [(0,27),(4,29),(8,62),(9,38),(15,39),(16,40),(17,40),(18,4)],19,280,[.nilS,.nilS,.nilS,.nilS,.int .i64 (.l 0),.int .i64 (.l 0),.int .i64 (.l 0),.int .i64 (.l 0),.nilS,.int .i64 (.l 0),.int .i64 (.l 0),.int .i64 (.l 0),.int .i64 (.l 0),.int .i64 (.l 0),.int .i64 (.l 0),.nilS,.nilS,.nilS,.bool (.t ff)],[.val,.val,.val,.val,.int .i64,.int .i64,.int .i64,.int .i64,.val,.int .i64,.int .i64,.int .i64,.int .i64,.int .i64,.int .i64,.val,.val,.val,.bool],ff⟩),(79,⟨.st [(0,27),(4,29),(8,62),(9,38),(15,39),(16,40),(17,40),(18,4)],19,280,[.nilS,.nilS,.nilS,.nilS,.int .i64 (.l 0),.int .i64 (.l 0),.int .i64 (.l 0),.int .i64 (.l 0),.nilS,.int .i64 (.l 0),.int .i64 (.l 0),.int .i64 (.l 0),.int .i64 (.l 0),.int .i64 (.l 0),.int .i64 (.l 0),.nilS,.nilS,.nilS,.bool (.t ff)],[.val,.val,.val,.val,.int .i64,.int .i64,.int .i64,.int .i64,.val,.int .i64,.int .i64,.int .i64,.int .i64,.int .i64,.int .i64,.val,.val,.val,.bool],ff⟩),(88,⟨.st [(0,3),(1,3),(2,3)],3,24,(izR 3),(ikR 3),tt⟩),(89,⟨.st [(0,3),(1,3),(2,3)],3,24,(izR 3),(ikR 3),tt⟩),(90,⟨.st [(0,3),(1,3),(2,3)],3,24,(izR 3),(ikR 3),tt⟩),(91,⟨.st [(0,3),(1,3),(2,3)],3,24,(izR 3),(ikR 3),tt⟩),(92,⟨.st [(0,9),(1,3),(2,2),(3,3),(4,3)],5,48,[.str [],.int .i64 (.l 0),.int .i64 (.l 0),.int .i64 (.l 0),.int .i64 (.l 0)],[.val,.int .i64,.int .i64,.int .i64,.int .i64],ff⟩),(93,⟨.st [(0,9),(1,3),(2,2),(3,3),(4,3)],5,48,[.str [],.int .i64 (.l 0),.int .i64 (.l 0),.int .i64 (.l 0),.int .i64 (.l 0)],[.val,.int .i64,.int .i64,.int .i64,.int .i64],ff⟩),(101,⟨.st [(0,9),(1,3),(2,2),(3,3)],4,40,[.str [],.int .i64 (.l 0),.int .i64 (.l 0),.int .i64 (.l 0)],[.val,.int .i64,.int .i64,.int .i64],ff⟩),(102,⟨.st [(0,9),(1,3),(2,2),(3,3)],4,40,[.str [],.int .i64 (.l 0),.int .i64 (.l 0),.int .i64 (.l 0)],[.val,.int .i64,.int .i64,.int .i64],ff⟩),(121,⟨.st [(0,38),(6,39),(7,39),(8,40)],9,120,[.int .i64 (.l 0),.int .i64 (.l 0),.int .i64 (.l 0),.int .i64 (.l 0),.int .i64 (.l 0),.int .i64 (.l 0),.nilS,.nilS,.nilS],[.int .i64,.int .i64,.int .i64,.int .i64,.int .i64,.int .i64,.val,.val,.val],ff⟩),(128,⟨.st [(0,27),(4,3),(5,72)],6,128,[.nilS,.nilS,.nilS,.nilS,.int .i64 (.l 0),.nilS],[.val,.val,.val,.val,.int .i64,.val],ff⟩),(129,⟨.st [(0,27),(4,3),(5,72)],6,128,[.nilS,.nilS,.nilS,.nilS,.int .i64 (.l 0),.nilS],[.val,.val,.val,.val,.int .i64,.val],ff⟩),(138,⟨.arr 6 3,6,48,(izR 6),(ikR 6),tt⟩),(152,⟨.st [(0,3),(1,9),(2,2),(3,3)],4,40,[.int .i64 (.l 0),.str [],.int .i64 (.l 0),.int .i64 (.l 0)],[.int .i64,.val,.int .i64,.int .i64],ff⟩),(153,⟨.st [(0,3),(1,9),(2,2),(3,3)],4,40,[.int .i64 (.l 0),.str [],.int .i64 (.l 0),.int .i64 (.l 0)],[.int .i64,.val,.int .i64,.int .i64],ff⟩),(160,⟨.slice 3,1,24,[.nilS],[.val],ff⟩),(161,⟨.slice 2,1,24,[.nilS],[.val],ff⟩),(162,⟨.st [(0,160),(1,161)],2,48,[.nilS,.nilS],[.val,.val],ff⟩),(163,⟨.st [(0,160),(1,161)],2,48,[.nilS,.nilS],[.val,.val],ff⟩),(166,⟨.arr 2 39,2,48,[.nilS,.nilS],[.val,.val],ff⟩),(172,⟨.st [(0,22),(1,51)],7,72,[.nilS,.int .i64 (.l 0),.int .i64 (.l 0),.int .i64 (.l 0),.int .i64 (.l 0),.int .i64 (.l 0),.int .i64 (.l 0)],[.val,.int .i64,.int .i64,.int .i64,.int .i64,.int .i64,.int .i64],ff⟩),(173,⟨.st [(0,22),(1,51)],7,72,[.nilS,.int .i64 (.l 0),.int .i64 (.l 0),.int .i64 (.l 0),.int .i64 (.l 0),.int .i64 (.l 0),.int .i64 (.l 0)],[.val,.int .i64,.int .i64,.int .i64,.int .i64,.int .i64,.int .i64],ff⟩),(181,⟨.other,1,8,[.nilM],[.val],ff⟩),(188,⟨.int .u32,1,4,[.int .u32 (.l 0)],[.int .u32],ff⟩),(192,⟨.ptr 5,1,8,[.nilP],[.val],ff⟩)]
def retsL:List (Nat×List Nat):=[
 (2,[]),(3,[4]),(4,[4]),(5,[4]),(6,[4]),(7,[4]),(8,[4]),(9,[32,33]),(10,[42,33]),(11,[4]),(12,[4,33]),(13,[42,4,33]),(14,[38]),(15,[3]),(16,[4]),(17,[33]),(18,[33]),(19,[38]),(20,[62]),(21,[33]),(22,[32]),(23,[27]),(24,[33]),(25,[4,33]),(26,[72]),(27,[33]),(28,[33]),(29,[33]),(30,[27]),(31,[]),(32,[38]),(33,[4]),(34,[36]),(35,[72]),(36,[33]),(37,[33]),(38,[42,33]),(39,[42,33]),(40,[42,33]),(41,[42,33]),(42,[42,33]),(43,[33]),(44,[33]),(45,[62]),(46,[65]),(47,[4]),(48,[51,51]),(49,[51]),(50,[3,2,3]),(51,[39]),(52,[40]),(53,[4]),(54,[33]),(55,[33]),(56,[33]),(57,[51]),(58,[39,33]),(59,[39]),(60,[51]),(61,[38,33]),(62,[62]),(63,[33]),(64,[33]),(65,[33]),(66,[33]),(67,[22]),(68,[23]),(69,[24]),(70,[25]),(71,[33]),(72,[33]),(73,[39,33]),(74,[38,33]),(75,[42]),(76,[4]),(77,[4]),(78,[3,4]),(79,[33]),(80,[4]),(81,[2]),(82,[4]),(83,[4]),(84,[4]),(85,[33]),(86,[4]),(87,[4]),(88,[33]),(89,[39]),(90,[51]),(91,[4]),(92,[51]),(93,[51]),(94,[138]),(95,[140]),(96,[4]),(97,[4]),(98,[3,4]),(99,[4]),(100,[3]),(101,[3,4]),(102,[4]),(103,[2]),(104,[33]),(105,[4]),(106,[3]),(107,[3]),(108,[4]),(109,[4]),(110,[51]),(111,[4]),(112,[2]),(113,[4]),(114,[153,33]),(115,[51,51]),(116,[4]),(117,[51]),(118,[3]),(119,[3]),(120,[3]),(121,[163,4]),(122,[2]),(123,[33]),(124,[4]),(125,[9]),(126,[4]),(127,[51]),(128,[4]),(129,[4]),(130,[51]),(131,[2]),(132,[2]),(133,[3]),(134,[4]),(135,[161,160]),(136,[4]),(137,[4]),(138,[2]),(139,[4]),(140,[2]),(141,[160])]
def c0K{α:Type}(k:Nat):List (Nat×α)->Option α
 | []=>nn
 | (j,x)::l=>if Nat.beq j k then sm x else c0K k l
def f3g:List (Nat×MT):=[(181,⟨.i64,3,4,.bool (.t ff),.one .bool⟩)]
def f3k:List (Nat×QT):=[]
def cx(nw:Bool)(stops:List (List Bool))(cstops:List (List Bool×Nat)):Ctx :=
 {tab:=fun t=>c0K t tabL,rets:=fun f=>(c0K f retsL).getD [],fok:=fun f=>(c0K f retsL).isSome,nw,stops,cstops,mtab:=fun t=>c0K t f3g,qtab:=fun t=>c0K t f3k}
theorem f5Q:MT.Ok prog 181 ⟨.i64,3,4,.bool (.t ff),.one .bool⟩:=⟨underlying181,underlying3,⟨t4,_,by kernel_rfl,rfl,fun _ _=>rfl⟩⟩
theorem c6Q{α:Type}{k:Nat}{x:α}:∀{l:List (Nat×α)},c0K k l=sm x->(k,x)∈l
 | [],h=>by simp[c0K] at h
 | (j,y)::l,h=>by
  simp only[c0K] at h;split at h
  ·rename_i hj
   simp only[Q0] at h;rw[Nat.eq_of_beq_eq_true hj,h];exact Xw
  ·exact List.mem_cons_of_mem _ (c6Q h)
inductive AllC {α:Type} (P:α->Prop):List α->Prop
 | e:AllC P []
 | k {a:α} {l:List α}:P a->AllC P l->AllC P (a::l)
theorem AllC.mem{α:Type}{P:α->Prop}{l:List α}(h:AllC P l):∀{a:α},a∈l->P a:=by
 induction h with
 | e=>intro a h;cases h
 | k h1 _ ih=>intro a h;rcases Q9.1 h with rfl|h;exact h1;exact ih h
theorem tik{t:Nat}{i:TI}(inf:TypeInfo)(hu:match i.ty with
  | .int k=>prog.underlying t=sm (.int k)
  | .bool=>prog.underlying t=sm .bool
  | .str=>prog.underlying t=sm .string
  | .arr n e=>prog.underlying t=sm (.array n e)
  | .st fs=>∃fields:Array Field,prog.underlying t=sm (.struct fields)/\fields.toList.map (fun f=>(f.offset,f.type))=fs
  | .slice e=>prog.underlying t=sm (.slice e)
  | .ptr e=>prog.underlying t=sm (.pointer e)
  | .func=>∃p r v,prog.underlying t=sm (.func p r v)
  | .other=>∃d,prog.underlying t=sm d/\(match d with|.struct _|.array _ _=>False|_=>True))
  (e:i.eq=tt->prog.eqGuardType prog.depth t=ff/\∀(w:World) (zs us:List Int),zs.length=i.ks.length->us.length=i.ks.length->(Op.equal t (.agg (a1W i.ks zs).toArray) (.agg (a1W i.ks us).toArray)).run prog w=.ok (decide (zs=us)) w:=by exact fun h=>by simp at h)
  (h0:prog.info? t=sm inf:=by kernel_rfl) (h1:inf.size=i.size:=by exact rfl) (h2:inf.bytes=i.bytes:=by exact rfl)
  (h3:∃z,inf.zero=sm z/\∀ρ β,z.cells=(XM ρ β i.zero).toArray:=by exact⟨_,rfl,fun _ _=>rfl⟩)
  (h4:i.zero.length=i.size:=by exact rfl) (h5:i.isAgg=ff->i.size=1:=by first|exact fun _=>rfl|exact fun h=>by simp[TI.isAgg] at h):TI.Ok prog t i :=
 ⟨⟨inf,h3.choose,h0,h1,h2,h3.choose_spec⟩,h4,hu,h5,e⟩
theorem tiq{t:Nat}{ks ks':List Kd}(hg:prog.eqGuardType prog.depth t=ff)(hE:EqT prog 10000 t tt ks)(hk:ks=ks':=by exact rfl):prog.eqGuardType prog.depth t=ff/\∀(w:World) (zs us:List Int),zs.length=ks'.length->us.length=ks'.length->(Op.equal t (.agg (a1W ks' zs).toArray) (.agg (a1W ks' us).toArray)).run prog w=.ok (decide (zs=us)) w:=by
 subst hk;exact⟨hg,fun w zs us h1 h2=>hE.eq w zs us h1 h2⟩
theorem tii{t:Nat}{k:IntKind}(hu:prog.underlying t=sm (.int k))(hs:∀w,(sizeOf t).run prog w=.ok 1 w)(d:Nat)(hc:prog.cellsOf t=1:=by kernel_rfl):EqT prog (d+1) t ff [.int k]:=a2D hu hs hc d
theorem f7P:AllC (fun a=>TI.Ok prog a.1 a.2) tabL :=
 .k (tik t2 underlying2) <| .k (tik t3 underlying3) <| .k (tik t4 underlying4) <| .k (tik t5 underlying5) <| .k (tik t9 underlying9) <| .k (tik t12 underlying12) <| .k (tik t21 underlying21) <| .k (tik t22 underlying22) <| .k (tik t23 underlying23) <| .k (tik t24 underlying24) <| .k (tik t25 underlying25) <| .k (tik t26 ⟨_,underlying26,rfl⟩) <| .k (tik t27 ⟨_,underlying27,rfl⟩) <| .k (tik t28 ⟨_,underlying28,rfl⟩ (fun _=>tiq eqGuardType28 (a8A underlying28 (.cons (by decide) rfl (tii underlying2 sizeOf2 9998) (.cons (by decide) rfl (tii underlying3 sizeOf3 9998) (.cons (by decide) rfl (tii underlying3 sizeOf3 9998) (.cons (by decide) rfl (tii underlying3 sizeOf3 9998) (.nil _))))) (by kernel_rfl) (sizeOf28) (by kernel_rfl)))) <| .k (tik t29 ⟨_,underlying29,rfl⟩ (fun _=>tiq eqGuardType29 (a8A underlying29 (.cons (by decide) rfl (tii underlying2 sizeOf2 9998) (.cons (by decide) rfl (tii underlying3 sizeOf3 9998) (.cons (by decide) rfl (tii underlying3 sizeOf3 9998) (.cons (by decide) rfl (tii underlying3 sizeOf3 9998) (.nil _))))) (by kernel_rfl) (sizeOf29) (by kernel_rfl)))) <| .k (tik t32 underlying32) <| .k (tik t33 underlying33) <| .k (tik t36 underlying36) <| .k (tik t37 underlying37 (fun _=>tiq eqGuardType37 (a8I (inf:=t2) (tii underlying2 sizeOf2 9998) underlying37 (by kernel_rfl) (sizeOf37) (by kernel_rfl)))) <| .k (tik t38 underlying38 (fun _=>tiq eqGuardType38 (a8I (inf:=t2) (tii underlying2 sizeOf2 9998) underlying38 (by kernel_rfl) (sizeOf38) (by kernel_rfl)))) <| .k (tik t39 underlying39) <| .k (tik t40 underlying40) <| .k (tik t41 ⟨_,underlying41,rfl⟩) <| .k (tik t42 ⟨_,underlying42,rfl⟩) <| .k (tik t47 underlying47) <| .k (tik t50 underlying50 (fun _=>tiq eqGuardType50 (a8I (inf:=t3) (tii underlying3 sizeOf3 9998) underlying50 (by kernel_rfl) (sizeOf50) (by kernel_rfl)))) <| .k (tik t51 underlying51 (fun _=>tiq eqGuardType51 (a8I (inf:=t3) (tii underlying3 sizeOf3 9998) underlying51 (by kernel_rfl) (sizeOf51) (by kernel_rfl)))) <| .k (tik t52 ⟨_,underlying52,rfl⟩ (fun _=>tiq eqGuardType52 (a8A underlying52 (.cons (by decide) rfl (tii underlying3 sizeOf3 9998) (.cons (by decide) rfl (tii underlying3 sizeOf3 9998) (.cons (by decide) rfl (tii underlying3 sizeOf3 9998) (.cons (by decide) rfl (a8I (inf:=t3) (tii underlying3 sizeOf3 9997) underlying51 (by kernel_rfl) (sizeOf51) (by kernel_rfl)) (.nil _))))) (by kernel_rfl) (sizeOf52) (by kernel_rfl)))) <| .k (tik t53 ⟨_,underlying53,rfl⟩ (fun _=>tiq eqGuardType53 (a8A underlying53 (.cons (by decide) rfl (tii underlying3 sizeOf3 9998) (.cons (by decide) rfl (tii underlying3 sizeOf3 9998) (.cons (by decide) rfl (tii underlying3 sizeOf3 9998) (.cons (by decide) rfl (a8I (inf:=t3) (tii underlying3 sizeOf3 9997) underlying51 (by kernel_rfl) (sizeOf51) (by kernel_rfl)) (.nil _))))) (by kernel_rfl) (sizeOf53) (by kernel_rfl)))) <| .k (tik t62 underlying62) <| .k (tik t64 ⟨_,underlying64,rfl⟩) <| .k (tik t65 ⟨_,underlying65,rfl⟩) <| .k (tik t72 underlying72) <| .k (tik t74 ⟨_,underlying74,rfl⟩ (fun _=>tiq eqGuardType74 (a8A underlying74 (.cons (by decide) rfl (a8I (inf:=t2) (tii underlying2 sizeOf2 9997) underlying38 (by kernel_rfl) (sizeOf38) (by kernel_rfl)) (.cons (by decide) rfl (a8I (inf:=t3) (tii underlying3 sizeOf3 9997) underlying51 (by kernel_rfl) (sizeOf51) (by kernel_rfl)) (.nil _))) (by kernel_rfl) (sizeOf74) (by kernel_rfl)))) <| .k (tik t75 ⟨_,underlying75,rfl⟩ (fun _=>tiq eqGuardType75 (a8A underlying75 (.cons (by decide) rfl (a8I (inf:=t2) (tii underlying2 sizeOf2 9997) underlying38 (by kernel_rfl) (sizeOf38) (by kernel_rfl)) (.cons (by decide) rfl (a8I (inf:=t3) (tii underlying3 sizeOf3 9997) underlying51 (by kernel_rfl) (sizeOf51) (by kernel_rfl)) (.nil _))) (by kernel_rfl) (sizeOf75) (by kernel_rfl)))) <| .k (tik t78 ⟨_,underlying78,rfl⟩) <| .k (tik t79 ⟨_,underlying79,rfl⟩) <| .k (tik t88 ⟨_,underlying88,rfl⟩ (fun _=>tiq eqGuardType88 (a8A underlying88 (.cons (by decide) rfl (tii underlying3 sizeOf3 9998) (.cons (by decide) rfl (tii underlying3 sizeOf3 9998) (.cons (by decide) rfl (tii underlying3 sizeOf3 9998) (.nil _)))) (by kernel_rfl) (sizeOf88) (by kernel_rfl)))) <| .k (tik t89 ⟨_,underlying89,rfl⟩ (fun _=>tiq eqGuardType89 (a8A underlying89 (.cons (by decide) rfl (tii underlying3 sizeOf3 9998) (.cons (by decide) rfl (tii underlying3 sizeOf3 9998) (.cons (by decide) rfl (tii underlying3 sizeOf3 9998) (.nil _)))) (by kernel_rfl) (sizeOf89) (by kernel_rfl)))) <| .k (tik t90 ⟨_,underlying90,rfl⟩ (fun _=>tiq eqGuardType90 (a8A underlying90 (.cons (by decide) rfl (tii underlying3 sizeOf3 9998) (.cons (by decide) rfl (tii underlying3 sizeOf3 9998) (.cons (by decide) rfl (tii underlying3 sizeOf3 9998) (.nil _)))) (by kernel_rfl) (sizeOf90) (by kernel_rfl)))) <| .k (tik t91 ⟨_,underlying91,rfl⟩ (fun _=>tiq eqGuardType91 (a8A underlying91 (.cons (by decide) rfl (tii underlying3 sizeOf3 9998) (.cons (by decide) rfl (tii underlying3 sizeOf3 9998) (.cons (by decide) rfl (tii underlying3 sizeOf3 9998) (.nil _)))) (by kernel_rfl) (sizeOf91) (by kernel_rfl)))) <| .k (tik t92 ⟨_,underlying92,rfl⟩) <| .k (tik t93 ⟨_,underlying93,rfl⟩) <| .k (tik t101 ⟨_,underlying101,rfl⟩) <| .k (tik t102 ⟨_,underlying102,rfl⟩) <| .k (tik t121 ⟨_,underlying121,rfl⟩) <| .k (tik t128 ⟨_,underlying128,rfl⟩) <| .k (tik t129 ⟨_,underlying129,rfl⟩) <| .k (tik t138 underlying138 (fun _=>tiq eqGuardType138 (a8I (inf:=t3) (tii underlying3 sizeOf3 9998) underlying138 (by kernel_rfl) (sizeOf138) (by kernel_rfl)))) <| .k (tik t152 ⟨_,underlying152,rfl⟩) <| .k (tik t153 ⟨_,underlying153,rfl⟩) <| .k (tik t160 underlying160) <| .k (tik t161 underlying161) <| .k (tik t162 ⟨_,underlying162,rfl⟩) <| .k (tik t163 ⟨_,underlying163,rfl⟩) <| .k (tik t166 underlying166) <| .k (tik t172 ⟨_,underlying172,rfl⟩) <| .k (tik t173 ⟨_,underlying173,rfl⟩) <| .k (tik t181 ⟨_,underlying181,trivial⟩) <| .k (tik t188 underlying188) <| .k (tik t192 underlying192) <| .e
theorem f7N:AllC (fun a=>∀args w,(callFunc a.1 args).run prog w=.ok (.enter a.1 args) w) retsL :=
 .k call2 <| .k call3 <| .k call4 <| .k call5 <| .k call6 <| .k call7 <| .k call8 <| .k call9 <| .k call10 <| .k call11 <| .k call12 <| .k call13 <| .k call14 <| .k call15 <| .k call16 <| .k call17 <| .k call18 <| .k call19 <| .k call20 <| .k call21 <| .k call22 <| .k call23 <| .k call24 <| .k call25 <| .k call26 <| .k call27 <| .k call28 <| .k call29 <| .k call30 <| .k call31 <| .k call32 <| .k call33 <| .k call34 <| .k call35 <| .k call36 <| .k call37 <| .k call38 <| .k call39 <| .k call40 <| .k call41 <| .k call42 <| .k call43 <| .k call44 <| .k call45 <| .k call46 <| .k call47 <| .k call48 <| .k call49 <| .k call50 <| .k call51 <| .k call52 <| .k call53 <| .k call54 <| .k call55 <| .k call56 <| .k call57 <| .k call58 <| .k call59 <| .k call60 <| .k call61 <| .k call62 <| .k call63 <| .k call64 <| .k call65 <| .k call66 <| .k call67 <| .k call68 <| .k call69 <| .k call70 <| .k call71 <| .k call72 <| .k call73 <| .k call74 <| .k call75 <| .k call76 <| .k call77 <| .k call78 <| .k call79 <| .k call80 <| .k call81 <| .k call82 <| .k call83 <| .k call84 <| .k call85 <| .k call86 <| .k call87 <| .k call88 <| .k call89 <| .k call90 <| .k call91 <| .k call92 <| .k call93 <| .k call94 <| .k call95 <| .k call96 <| .k call97 <| .k call98 <| .k call99 <| .k call100 <| .k call101 <| .k call102 <| .k call103 <| .k call104 <| .k call105 <| .k call106 <| .k call107 <| .k call108 <| .k call109 <| .k call110 <| .k call111 <| .k call112 <| .k call113 <| .k call114 <| .k call115 <| .k call116 <| .k call117 <| .k call118 <| .k call119 <| .k call120 <| .k call121 <| .k call122 <| .k call123 <| .k call124 <| .k call125 <| .k call126 <| .k call127 <| .k call128 <| .k call129 <| .k call130 <| .k call131 <| .k call132 <| .k call133 <| .k call134 <| .k call135 <| .k call136 <| .k call137 <| .k call138 <| .k call139 <| .k call140 <| .k call141 <| .e
theorem f5H(nw:Bool)(stops:List (List Bool))(cstops:List (List Bool×Nat)):ProgOk prog (cx nw stops cstops) where
 mixed:=by kernel_rfl
 tab t i h:=f7P.mem (c6Q h)
 mtab t i h:=by
  have h:=c6Q h;simp only[f3g,Q9,Q3,Xx,or_false] at h;rcases h with ⟨rfl,rfl⟩
  ·exact f5Q
 qtab t i h:=by
  simp[cx,f3k,c0K] at h
 call f h args w:=by
  simp only[cx,Xp] at h;obtain⟨x,h⟩:=h;have h:=c6Q h;exact f7N.mem h args w
def cl(nw:Bool)(stops:List (List Bool))(cstops:List (List Bool×Nat)):Ctx:={cx nw stops cstops with leaf:=tt}
def ch(nw:Bool)(stops:List (List Bool))(cstops:List (List Bool×Nat)):Ctx:={cx nw stops cstops with leaf:=tt,hole:=tt,rowl:=ff}
theorem f0N{c c':Ctx}(h:ProgOk prog c)(h1:c'.tab=c.tab)(h2:c'.fok=c.fok)(h3:c'.mtab=c.mtab)(h4:c'.qtab=c.qtab):ProgOk prog c':=⟨by rw[h1];exact h.tab,h.mixed,by rw[h2];exact h.call,by rw[h3];exact h.mtab,by rw[h4];exact h.qtab⟩
def cg(stops:List (List Bool))(amb:List Nat)(vrets:List (Nat×List Nat))(nofl gen live:Bool)(nw:Bool:=tt)(joins:List (List Bool):=[])(noflT:List Nat:=[]):Ctx:={cx nw stops [] with rowl:=tt,amb,vrets,nofl,gen,live,joins,noflT}
theorem c5x(stops:List (List Bool))(amb:List Nat)(vrets:List (Nat×List Nat))(nofl gen live:Bool)(nw:Bool:=tt)(joins:List (List Bool):=[])(noflT:List Nat:=[]):ProgOk prog (cg stops amb vrets nofl gen live nw joins noflT):=f0N (f5H tt [] []) rfl rfl rfl rfl
theorem okg(f:FuncId)(S:Sx.Sys)(pats:List Cfg){fnc:Func}(hf:prog.funcs[f]?=sm fnc)(hen:∀args w,(callFunc f args).run prog w=.ok (.enter f args) w)(nofl gen:Bool)(stops:List (List Bool):=[])(amb:List Nat:=[])(vrets:List (Nat×List Nat):=[])(joins:List (List Bool):=[])(noflT:List Nat:=[])(live:Bool:=ff)(nw:Bool:=tt)
  (hb:fnc.body.isSome=tt:=by kernel_rfl)
  (h0:(comp pats (run (cg stops amb vrets nofl gen live nw joins noflT) (c8S fnc) 5000 (b1C fnc.ntmps (b8V S.ps 0 0 0).1 (b8V S.ps 0 0 0).2.1 (b8V S.ps 0 0 0).2.2.1 (b8V S.ps 0 0 0).2.2.2)) (b8V S.ps 0 0 0).2.1 (b8V S.ps 0 0 0).2.2.1 (b8V S.ps 0 0 0).2.2.2).map Kf=sm S.start:=by kernel_rfl)
  (h1:pats.mapM (fun g=>(comp pats (run (cg stops amb vrets nofl gen live nw joins noflT) (c8S fnc) 5000 g) g.ni g.nb g.nv).map Kf)=sm S.loops:=by kernel_rfl) (hp:S.prim=nn:=by rfl) (hr:S.rg=nn:=by rfl):SysOk prog f S:=f5y (c5x stops amb vrets nofl gen live nw joins noflT) hf hen hb pats S 5000 rfl h0 h1 hp hr
@[reducible] def treeB (x:IE):BE:=.and (.le (.l (-9223372036854775808)) x) (.le x (.l 9223372036854775807))
@[reducible] def treeI (x y:IE):BE:=.and (.le (.l 0) x) (.lt x y)
def jkR(b n:Nat):List SV:=(QJ n).map fun k=>.junk (b+k)
def udR(n:Nat):List SV:=Q7 n .undef
@[reducible] def jP (k:Nat):IE:=.add (.a k) (.l 1)
@[reducible] def jA (k:Nat):SV:=.int .i64 (.a k)
@[reducible] def jE (k:Int):SV:=.int .i64 (.l k)
@[reducible] def rF:PT:=.ret false (.bool (.t false)) []
@[reducible] def jD:Kd:=.int .i64
def tfR(n k:Nat):List Bool:=(QJ n).map fun i=>k.testBit i
end Go.Proofs.YtmekflfjaflmkaaGreat
namespace Go.Sx
open Go.RowKit
variable {P:Program}{f:Nat}{ayq:List PV}{σ:List MO}
theorem f3y{σ:List MO}{m:MS}{k:Nat}(h:σ.all (K4 k)=tt):Coh σ m:=Kv fun o ho=>by
 have:=List.all_eq_true.1 h o ho;cases o<;>first|rfl|simp[K4] at this
theorem e6O{σ:List MO}{m:MS}{h:Nat}{o o':MO}(h0:σ[h]?=sm o)(he:∀x,a2P o' x=a2P o x):inf (σ.set h o') m=inf σ m:=by
 unfold inf;apply QP;intro i;simp only[Xj,Qy];by_cases hi:h=i
 ·subst hi
  rw[XJ rfl,XJ (Q4.1 h0).1,h0];cases m[h]? with
  | none=>rfl
  | some x=>simp[he]
 ·rw[XS hi]
theorem e4n{α:Type}{l:List α}{i:Nat}{x:α}(h:l[i]?=sm x):l.set i x=l:=by
 apply QP;intro j;rw[Qy];split
 ·rename_i he;subst he
  rw[XJ (Q4.1 h).1,h]
 ·rfl
mutual
theorem PV.low_mono{k k':Nat}(hk:k<=k'):∀p:PV,p.low k=tt->p.low k'=tt
 | .ref h _,e=>by simp only[XK,XQ] at *;omega
 | .mp h,e=>by simp only[XK,XQ] at *;omega
 | .msl h _ _ _ _,e=>by simp only[XK,XQ] at *;omega
 | .rsl h _ _,e=>by simp only[XK,XQ] at *;omega
 | .rpl h _ _ _,e=>by simp only[XK,XQ] at *;omega
 | .eref h _ _ _ _,e=>by simp only[XK,XQ] at *;omega
 | .sl _ rows,e=>by simp only[XK] at *;exact PV.lowss_mono hk rows e
 | .cell l _,e=>by simp only[XK] at *;exact PV.lows_mono hk l e
 | .fn _ l,e=>by simp only[XK] at *;exact PV.lows_mono hk l e
 | .agg l,e=>by simp only[XK] at *;exact PV.lows_mono hk l e
 | .tup l,e=>by simp only[XK] at *;exact PV.lows_mono hk l e
 | .int ..,_=>rfl
 | .bool ..,_=>rfl
 | .str ..,_=>rfl
 | .undef,_=>rfl
 | .nilS,_=>rfl
 | .nilF,_=>rfl
 | .nilP,_=>rfl
 | .nilI,_=>rfl
 | .nilM,_=>rfl
theorem PV.lows_mono{k k':Nat}(hk:k<=k'):∀l:List PV,K1 k l=tt->K1 k' l=tt
 | [],_=>rfl
 | p::l,e=>by
  simp only[K1,Q6] at *
  exact⟨PV.low_mono hk p e.1,PV.lows_mono hk l e.2⟩
theorem PV.lowss_mono{k k':Nat}(hk:k<=k'):∀l:List (List PV),K3 k l=tt->K3 k' l=tt
 | [],_=>rfl
 | p::l,e=>by
  simp only[K3,Q6] at *
  exact⟨PV.lows_mono hk p e.1,PV.lowss_mono hk l e.2⟩
end
theorem MO.low_mono{k k':Nat}(hk:k<=k'){o:MO}(h:o.low k=tt):o.low k'=tt:=by
 cases o with
 | cells l T=>exact PV.lows_mono hk l h
 | row rows sz T=>exact PV.lowss_mono hk rows h
 | mp ks vs K=>exact PV.lows_mono hk vs h
 | mq kv ver=>rfl
 | it hd ver seen=>cases h
 | dead=>rfl
section
variable {Φ:Fns}{ρ:PEnv}{R:Res->Prop}{k x y:PT}
theorem f3P{fl:Bool}{a:SV}{ks:List Kd}{l:Loc}{z:List PV}{r:List Int×List Bool×List PV}(h1:a0H ρ a=sm l)(h2:a0x ρ fl ks.length l=sm z)(h3:a0c ks z=sm r)(hk:k.wp Φ (ρ.push r) R) :
  (PT.load fl a ks k).wp Φ ρ R:=⟨l,h1,z,h2,r,h3,hk⟩
theorem c5n{c:BE}(hs:c.safe ρ=tt)(hc:c.pe ρ=tt)(h:x.wp Φ ρ R):(KC c x y).wp Φ ρ R:=by simp only[XH,hs,hc,Kw];exact h
theorem c5r{c:BE}(hs:c.safe ρ=tt)(hc:c.pe ρ=ff)(h:y.wp Φ ρ R):(KC c x y).wp Φ ρ R:=by simp only[XH,hs,hc,Kw,Qh,XX];exact h
theorem b0d{c:BE}(hs:c.safe ρ=tt)(hc:c.pe ρ=tt)(h:k.wp Φ ρ R):(PT.need c k).wp Φ ρ R:=by simp only[XH,hs,hc,Kw];exact h
theorem f4x(hx:x.wp Φ ρ R)(hy:y.wp Φ ρ R):(PT.both x y).wp Φ ρ R:=⟨hx,hy⟩
theorem f5g{n h off:Nat}{l z:List PV}{T:Nat}(h1:ρ.m[h]?=sm (.cells l T))(h2:a1g n (l.drop off)=sm z):a0x ρ ff n (.obj h off)=sm z:=by
 simp only[a0x,Qh,XX,h1,Xy,Kg];exact h2
theorem f4m{v:SV}{H:List Blk}{p:PV}(h1:v.pv ρ (c1j ρ H 3)=sm p)(hR:R (.ret p ρ.m)):(PT.ret tt v H).wp Φ ρ R:=⟨p,h1,(p,ρ.m),by unfold a0n;rw[XJ (.inl rfl)],hR⟩
end
end Go.Sx
namespace Go.Sx
def OLe{α:Type}(x y:Option α):Prop:=∀r,x=sm r->y=sm r
theorem OLe.refl{α:Type}(x:Option α):OLe x x:=fun _ h=>h
theorem OLe.none{α:Type}(y:Option α):OLe nn y:=fun _ h=>by cases h
theorem OLe.bind{α β:Type}{x y:Option α}{f g:α->Option β}(h:OLe x y)(hf:∀a,OLe (f a) (g a)):OLe (x.bind f) (y.bind g):=fun r hr=>by
 rw[Q1] at *
 obtain⟨a,h1,h2⟩:=hr;exact⟨a,h a h1,hf a r h2⟩
theorem OLe.ite{α:Type}{c:Prop} [Decidable c] {x y x' y':Option α}(h:OLe x x')(k:OLe y y'):OLe (if c then x else y) (if c then x' else y'):=by
 split
 ·exact h
 ·exact k
def FLe(Φ Ψ:Fns):Prop:=∀f a m,OLe (Φ f a m) (Ψ f a m)
theorem d2b{Φ Ψ:Fns}(hF:FLe Φ Ψ):∀(t:PT) (ρ:PEnv),OLe (t.ev Φ ρ) (t.ev Ψ ρ):=by
 intro t
 induction t with
 | call f args H shs k ih=>intro ρ;simp only[XL];exact .bind (.refl _) fun _=>.bind (hF _ _ _) fun _=>.bind (.refl _) fun _=>ih _
 | callv n args shs k ih =>
  intro ρ;simp only[XL];split
  ·exact .bind (.refl _) fun _=>.bind (hF _ _ _) fun _=>.bind (.refl _) fun _=>ih _
  ·exact .none _
 | both x y ihx ihy=>intro ρ;simp only[XL];exact .bind (ihx _) fun _=>.bind (ihy _) fun _=>.refl _
 | ite c x y ihx ihy=>intro ρ;simp only[XL];exact .ite (.ite (ihx _) (ihy _)) (.refl _)
 | stuck=>intro ρ;exact .refl _
 | _ =>
  rename_i ih;intro ρ;simp only[XL]
  repeat' first
   | exact OLe.refl _
   | exact OLe.none _
   | exact ih _
   | refine OLe.bind (OLe.refl _) fun _=>?_
   | refine OLe.ite ?_ ?_
   | split
theorem e3b{Φ Ψ:Fns}(hF:FLe Φ Ψ)(S:Sys):∀(n q:Nat) (ρ:PEnv),OLe (S.loop Φ n q ρ) (S.loop Ψ n q ρ)
 | 0,q,ρ=>by simp only[KD];exact .refl _
 | n+1,q,ρ=>by
  simp only[KD];refine .bind (.refl _) fun t=>.bind (d2b hF t ρ) fun r=>?_
  cases r with
  | ret r σ=>exact .refl _
  | jump q' ρ'=>exact e3b hF S n q' ρ'
theorem d7H{Φ Ψ:Fns}(hF:FLe Φ Ψ)(G:Rg):∀(ys:List (List PV)) (ρ:PEnv),OLe (c6b Φ G ys ρ) (c6b Ψ G ys ρ)
 | [],ρ=>by simp only[c6b];exact .refl _
 | y::ys,ρ=>by
  simp only[c6b];refine .bind (.refl _) fun r=>.bind (d2b hF _ _) fun r=>?_
  split
  ·exact d7H hF G ys _
  ·exact .none _
theorem f2r{Φ Ψ:Fns}(hF:FLe Φ Ψ)(S:Sys)(n:Nat)(a:List PV)(m:List MO):OLe (S.run Φ n a m) (S.run Ψ n a m):=by
 unfold Sys.run;split
 ·exact .refl _
 split
 ·unfold f5f
  refine .bind (.refl _) fun r=>.bind (d2b hF _ _) fun r=>?_
  split
  ·exact .refl _
  ·split
   ·refine .bind (.refl _) fun ys=>.bind (d7H hF _ _ _) fun ρ'=>.bind (d2b hF _ _) fun r=>.refl _
   ·exact .none _
 ·refine .bind (.refl _) fun r=>.bind (d2b hF _ _) fun r=>?_
  split
  ·exact .refl _
  ·exact e3b hF S n _ _
theorem d9E{T T':Nat->Option Sys}(h:∀f S,T f=sm S->T' f=sm S):∀n,FLe (a0a T n) (a0a T' n)
 | 0=>fun f a m=>by simp only[a0a];exact .refl _
 | n+1=>fun f a m=>by
  simp only[a0a];exact .bind (fun S hS=>h f S hS) fun S=>f2r (d9E h n) S n a m
theorem a0b{x:PV}{rows:List (List PV)}{n:Nat}(h:x.rowsOf n=sm rows):x.len=rows.length/\x.isKind 0=tt/\x.one=tt:=by
 cases x<;>simp only[Ka,reduceCtorEq,Q0] at h
 ·subst h;exact⟨rfl,rfl,rfl⟩
 ·split at h
  ·simp only[Q0] at h;subst h;exact⟨rfl,rfl,rfl⟩
  ·cases h
theorem a0V{x:PV}{rows:List (List PV)}{n off:Nat}(h:x.rowsOf n=sm rows){i:Nat}{r:List PV}(hr:rows[i]?=sm r):a4f (i:Int) n off x=sm (.row r off):=by
 cases x<;>simp only[Ka,reduceCtorEq,Q0] at h
 ·subst h;simp at hr
 ·split at h
  ·rename_i hn
   simp only[Q0] at h;subst h;simp[a4f,hn,hr]
  ·cases h
theorem a0I(a b:Nat):ltB (a:Int) (b:Int)=decide (a<b):=by simp[ltB]
theorem a7Q{α:Type}{l:List α}{i:Nat}{x:α}(h:l[i]?=sm x):l.drop i=x::l.drop (i+1):=by
 rw[List.drop_eq_getElem?_toList_append (i:=i),h];rfl
open Go.RowKit Go.ChangeShapes Go.WideShapes
def a8r(sh:TypeId->List PV->Prop):List TypeId->List PV->Prop
 | [],ps=>ps=[]
 | t::ts,ps=>∃a b,ps=a++b/\sh t a/\a8r sh ts b
def a2G(P:Program):Nat->TypeId->List PV->Prop
 | 0,_,_=>False
 | n+1,t,ps=>match P.underlying t with
  | some .bool=>∃b,ps=[.bool b]
  | some (.int k)=>∃z,ps=[.int k z]/\loI k<=z/\z<=hiI k
  | some .string=>∃s,ps=[.str s]
  | some (.struct fs)=>a8r (a2G P n) (fs.toList.map (·.type)) ps
  | some (.array m e)=>a8r (a2G P n) (Q7 m e) ps
  | some (.slice e)=>∃rows,ps=[.sl (P.cellsOf e) rows]/\(∀r∈rows,a2G P n e r)/\rows.length<=9223372036854775807
  | _=>False
mutual
def PV.wt:PV->Nat
 | .sl _ rows=>PV.wtss rows+1
 | .str s=>s.length+1
 | _=>1
def PV.wts:List PV->Nat
 | []=>0
 | p::l=>p.wt+PV.wts l
def PV.wtss:List (List PV)->Nat
 | []=>0
 | l::ls=>PV.wts l+PV.wtss ls
end
theorem PV.wts_append:∀(l m:List PV),PV.wts (l++m)=PV.wts l+PV.wts m
 | [],m=>by simp[PV.wts]
 | p::l,m=>by simp only[List.cons_append,PV.wts,PV.wts_append l m];omega
mutual
def b5R{H:Type}:DataW H->Nat
 | .lit (.string bytes)=>bytes.length+1
 | .lit _=>1
 | .nil=>1
 | .ptr d=>b5R d+1
 | .slice elems spare=>c3w elems+c3w spare+1
 | .agg parts=>c3w parts+1
 | .iface _ d=>b5R d+1
 | .map entries=>f0V entries+1
 | .held _=>1
def c3w{H:Type}:List (DataW H)->Nat
 | []=>0
 | d::r=>b5R d+c3w r
def f0V{H:Type}:List (Lit×DataW H)->Nat
 | []=>0
 | x::r=>f5L x+f0V r
def f5L{H:Type}:Lit×DataW H->Nat
 | (.string bytes,d)=>bytes.length+b5R d+1
 | (_,d)=>b5R d+1
end
def b5o(P:Program):Nat->List Field->Option Nat
 | o,[]=>sm o
 | o,f::fs=>if f.offset=o then b5o P (o+P.cellsOf f.type) fs else nn
def e8a(P:Program)(S:List TypeId)(t:TypeId):Bool:=match P.underlying t with
 | some .bool|some (.int _)|some .string=>tt
 | some (.struct fs)=>fs.toList.all (fun f=>S.contains f.type)&&b5o P 0 fs.toList == sm (P.cellsOf t)
 | some (.array m e)=>S.contains e&&P.cellsOf t == m*P.cellsOf e
 | some (.slice e)=>S.contains e&&decide (0<P.cellsOf e)
 | _=>ff
def closed(P:Program)(S:List TypeId):Bool:=S.all (e8a P S)
theorem d7q{P:Program}:∀(fs:List Field) (o:Nat) {tot},b5o P o fs=sm tot->o<=tot
 | [],o,tot,h=>by simp only[b5o,Q0] at h;omega
 | f::fs,o,tot,h=>by
  simp only[b5o] at h;split at h
  ·have:=d7q fs _ h;omega
  ·cases h
section
variable {H:Type}{enc:TypeId×Value->H}{P:Program}{w:World}{spare:Nat->Bool}{held:Bool}
def c6v(P:Program)(w:World)(m:Nat)(t:TypeId)(cs:List Value)(d:DataW H)(ps:List PV):Prop :=
 Reps (hpOf w) [] ps cs/\a2G P m t ps/\(∀p∈ps,p.one=tt)/\PV.wts ps<=b5R d
theorem d7B{S:List TypeId}{m:Nat}(ih:∀t cs (x:DataW H×List MemPlace),t∈S->Ke enc P w 0 spare held m t cs=sm x->∃ps,c6v P w m t cs x.1 ps) :
  ∀(fs:List Field) (o:Nat) (A cs:List Value) (xs:List (DataW H×List MemPlace)) (tot:Nat),(∀f∈fs,f.type∈S)->b5o P o fs=sm tot->A.length=o->(A++cs).length=tot->xs.length=fs.length ->
   (∀(j:Nat) f,fs[j]?=sm f->Ke enc P w 0 spare held m f.type (((A++cs).drop f.offset).take (P.cellsOf f.type))=xs[j]?) ->
   ∃ps,Reps (hpOf w) [] ps cs/\a8r (a2G P m) (fs.map (·.type)) ps/\(∀p∈ps,p.one=tt)/\PV.wts ps<=c3w (xs.map (·.1))
 | [],o,A,cs,xs,tot,_,ht,hA,hl,hx,_=>by
  simp only[b5o,Q0] at ht;rw[Q5] at hl;have:cs=[]:=X3 (by omega);subst this;have:xs=[]:=X3 (by simpa using hx);subst this;exact⟨[],rfl,rfl,by simp,by simp[PV.wts]⟩
 | f::fs,o,A,cs,xs,tot,hS,ht,hA,hl,hx,hi=>by
  simp only[b5o] at ht;split at ht
  case isFalse=>cases ht
  rename_i ho;have hle:=d7q _ _ ht;have hl':=hl;rw[Q5] at hl'
  match xs,hx with
  | y::xs,hx =>
  have h0:=hi 0 f rfl;rw[ho,<- hA,List.drop_left] at h0;obtain⟨ps0,a1,a2,a3,a4⟩:=ih _ _ _ (hS f (by simp)) h0;have hcl:(cs.take (P.cellsOf f.type)).length=P.cellsOf f.type:=by rw[Qn];omega
  obtain⟨ps,b1,b2,b3,b4⟩:=d7B ih fs (o+P.cellsOf f.type) (A++cs.take (P.cellsOf f.type)) (cs.drop (P.cellsOf f.type)) xs tot (fun g hg=>hS g (by simp[hg])) ht
   (by rw[Q5,hcl,hA]) (by rw[Xz,Qz];exact hl) (by simpa using hx) (fun j g hg=>by
    rw[Xz,Qz];have:=hi (j+1) g (by simpa using hg)
    simpa using this)
  refine⟨ps0++ps,?_,⟨ps0,ps,rfl,a2,b2⟩,?_,?_⟩
  ·have:=Reps.append a1 b1
   rwa [Qz] at this
  ·intro p hp
   rcases Qe.1 hp with hp|hp
   ·exact a3 p hp
   ·exact b3 p hp
  ·rw[PV.wts_append];simp only[Qk,c3w];omega
theorem d9Q{S:List TypeId}{m:Nat}{e:TypeId}(he:e∈S)(ih:∀t cs (x:DataW H×List MemPlace),t∈S->Ke enc P w 0 spare held m t cs=sm x->∃ps,c6v P w m t cs x.1 ps) :
  ∀(n:Nat) (cs:List Value) (xs:List (DataW H×List MemPlace)),cs.length=n*P.cellsOf e->xs.length=n ->
   (∀i,i<n->Ke enc P w 0 spare held m e ((cs.drop (i*P.cellsOf e)).take (P.cellsOf e))=xs[i]?) ->
   ∃ps,Reps (hpOf w) [] ps cs/\a8r (a2G P m) (Q7 n e) ps/\(∀p∈ps,p.one=tt)/\PV.wts ps<=c3w (xs.map (·.1))
 | 0,cs,xs,hl,hx,_=>by
  have:cs=[]:=X3 (by omega);subst this;have:xs=[]:=X3 hx;subst this;exact⟨[],rfl,rfl,by simp,by simp[PV.wts]⟩
 | n+1,cs,xs,hl,hx,hi=>by
  rw[Qu,QS] at hl
  match xs,hx with
  | y::xs,hx =>
  have h0:=hi 0 (by omega);rw[Nat.zero_mul,List.drop_zero] at h0;obtain⟨ps0,a1,a2,a3,a4⟩:=ih _ _ _ he h0
  obtain⟨ps,b1,b2,b3,b4⟩:=d9Q he ih n (cs.drop (P.cellsOf e)) xs (by rw[Xk];omega) (by simpa using hx) (fun i hi'=>by
    have:=hi (i+1) (by omega);rw[Qu,QS,Nat.add_comm] at this;rw[List.drop_drop]
    simpa using this)
  refine⟨ps0++ps,?_,⟨ps0,ps,rfl,a2,b2⟩,?_,?_⟩
  ·have:=Reps.append a1 b1
   rwa [Qz] at this
  ·intro p hp
   rcases Qe.1 hp with hp|hp
   ·exact a3 p hp
   ·exact b3 p hp
  ·rw[PV.wts_append];simp only[Qk,c3w];omega
theorem e5c{s:Hp}{B:Inf}:∀(zs:List (List Value×List PV)),(∀z∈zs,Reps s B z.2 z.1)->a1t s B (zs.map (·.2)) (zs.map (·.1))
 | [],_=>rfl
 | z::zs,h=>⟨z.1,zs.map (·.1),rfl,h z (by simp),e5c zs (fun y hy=>h y (by simp[hy]))⟩
theorem e7B:∀(zs:List (List Value×List PV)) (ys:List (DataW H×List MemPlace)),zs.length=ys.length->(∀(i:Nat) z y,zs[i]?=sm z->ys[i]?=sm y->PV.wts z.2<=b5R y.1)->PV.wtss (zs.map (·.2))<=c3w (ys.map (·.1))
 | [],_,_,_=>by simp[PV.wtss]
 | z::zs,[],h,_=>by simp at h
 | z::zs,y::ys,h,hi=>by
  have h0:=hi 0 z y rfl rfl;have:=e7B zs ys (by simpa using h) (fun i z y hz hy=>hi (i+1) z y (by simpa using hz) (by simpa using hy));simp only[Qk,PV.wtss,c3w];omega
theorem f0l{S:List TypeId}{m:Nat}{t e:TypeId}(hu:P.underlying t=sm (.slice e))(he:e∈S)(hpos:0<P.cellsOf e)(ih:∀t cs (x:DataW H×List MemPlace),t∈S->Ke enc P w 0 spare held m t cs=sm x->∃ps,c6v P w m t cs x.1 ps)
  {cs:List Value} {x:DataW H×List MemPlace} (h:Ke enc P w 0 spare held (m+1) t cs=sm x):∃ps,c6v P w (m+1) t cs x.1 ps:=by
 unfold DataW.trod at h;rw[hu] at h;cases cs with
 | nil=>simp at h
 | cons v cs =>
 cases cs with
 | cons _ _=>cases v<;>simp at h
 | nil =>
 cases v<;>try (simp at h;done)
 rename_i a len cap;cases a with
 | none =>
  cases len<;>cases cap<;>simp at h
  subst h;refine⟨[.sl (P.cellsOf e) []],⟨_,[],rfl,⟨[],⟨by simp,nn,0,rfl,by simp,by simp⟩,rfl,by simp⟩,rfl⟩,?_,by simp[K5],by simp[PV.wts,PV.wt,PV.wtss,b5R]⟩;simp only[a2G,hu];exact⟨[],rfl,by simp,by simp⟩
 | some a =>
  simp only at h;split at h
  case isFalse=>simp at h
  rename_i hcond;simp only[Q1,Q2] at h;obtain⟨elems,hel,rest,_,rfl⟩:=h;obtain⟨h1,h2⟩:=d2T hel
  have key:∀i,i<len->∃z:List Value×List PV,z.1.length=P.cellsOf e/\(∀j u,z.1[j]?=sm u->w.cell? ((a.add (i*P.cellsOf e)).add j)=sm u)/\∃y,elems[i]?=sm y/\c6v P w m e z.1 y.1 z.2:=by
   intro i hi;obtain⟨y,hy1,hy2⟩:=h2 i i (by simp[hi]);simp only[Q1] at hy2;obtain⟨cs,hcs,htr⟩:=hy2;obtain⟨ps,hps⟩:=ih _ _ _ he htr;unfold World.cells? at hcs;split at hcs
   case isFalse=>simp at hcs
   obtain⟨c1,c2⟩:=d2T hcs;refine⟨(cs,ps),by simp only;rw[c1];simp,fun j u hj=>?_,y,hy1,hps⟩
   have hjl:j<P.cellsOf e:=by
    have:=(Q4.1 hj).1;simp only at this;rw[c1] at this;simpa using this
   obtain⟨y',hy',hc'⟩:=c2 j j (by simp[hjl]);simp only at hj;rw[hj] at hy';simp only[Q0] at hy';subst hy';exact hc'
  obtain⟨zs,e1,e2⟩:=e7z len key
  have hmem:∀z∈zs,∃y:DataW H×List MemPlace,c6v P w m e z.1 y.1 z.2:=fun z hz=>by
   obtain⟨i,hi⟩:=QB.1 hz;obtain⟨_,_,y,_,hy⟩:=e2 i z hi;exact⟨y,hy⟩
  refine⟨[.sl (P.cellsOf e) (zs.map (·.2))],⟨_,[],rfl,⟨zs.map (·.1),⟨?_,sm a,cap,by simp[e1],by simp[e1,hcond.2.1],fun hne=>?_⟩,e5c zs (fun z hz=>?_),?_⟩,rfl⟩,?_,by simp[K5],?_⟩
  ·intro x hx
   obtain⟨z,hz,rfl⟩:=Qb.1 hx;obtain⟨i,hi⟩:=QB.1 hz;exact(e2 i z hi).1
  ·have hsp:a.spot=nn:=by
    cases zs with
    | nil=>simp at hne
    | cons z zs =>
     obtain⟨hl,hcell,_⟩:=e2 0 z rfl;have:=hcell 0 (z.1[0]'(by omega)) (QK (by omega));have h3:(a.add (0*P.cellsOf e)).add 0=a:=by simp[Addr.add]
     rw[h3] at this;exact World.cell?_spot this
   obtain⟨b,o,sp⟩:=a;simp only at hsp;subst hsp;refine⟨b,o,rfl,fun i y hy j u hj=>?_⟩;rw[Xh,Q2] at hy;obtain⟨z,hz,rfl⟩:=hy;exact f2l (a:=⟨b,o,nn⟩) rfl ((e2 i z hz).2.1 j u hj)
  ·obtain⟨y,hy⟩:=hmem z hz
   exact hy.1
  ·intro r hr
   obtain⟨z,hz,rfl⟩:=Qb.1 hr;obtain⟨y,hy⟩:=hmem z hz;exact hy.2.2.1
  ·simp only[a2G,hu]
   refine⟨_,rfl,fun r hr=>?_,?_⟩
   ·obtain⟨z,hz,rfl⟩:=Qb.1 hr
    obtain⟨y,hy⟩:=hmem z hz;exact hy.2.1
   ·rw[QA,e1]
    exact Nat.le_trans hcond.2.1 hcond.2.2
  ·have:=e7B zs elems (by rw[e1,h1];simp) (fun i z y hz hy=>by
    obtain⟨_,_,y',hy',ho⟩:=e2 i z hz;rw[hy] at hy';simp only[Q0] at hy';subst hy'
    exact ho.2.2.2)
   simp only[PV.wts,PV.wt,b5R];omega
theorem e1q{S:List TypeId}(hS:closed P S=tt):∀(m:Nat) (t:TypeId) (cs:List Value) (x:DataW H×List MemPlace),t∈S->Ke enc P w 0 spare held m t cs=sm x->∃ps,c6v P w m t cs x.1 ps
 | 0,t,cs,x,_,h=>by simp[Ke] at h
 | m+1,t,cs,x,ht,h=>by
  have ih:=fun t cs x=>e1q hS m t cs x
  have hc:=List.all_eq_true.1 hS t ht;unfold e8a at hc;split at hc
  ·rename_i hu
   unfold DataW.trod at h;rw[hu] at h;cases cs with
   | nil=>simp at h
   | cons v cs =>
   cases cs with
   | cons _ _=>cases v<;>simp at h
   | nil =>
   cases v<;>try (simp at h;done)
   simp only[Q0] at h;subst h;exact⟨[.bool _],⟨_,[],rfl,rfl,rfl⟩,by simp only[a2G,hu];exact⟨_,rfl⟩,by simp[K5],by simp[PV.wts,PV.wt,b5R]⟩
  ·rename_i k hu
   obtain⟨n,rfl,rfl,hw⟩:=DataW.trod_int hu h;exact⟨[.int k n],⟨_,[],rfl,rfl,rfl⟩,by simp only[a2G,hu];exact⟨_,rfl,e4M hw⟩,by simp[K5],by simp[PV.wts,PV.wt,b5R]⟩
  ·rename_i hu
   unfold DataW.trod at h;rw[hu] at h;cases cs with
   | nil=>simp at h
   | cons v cs =>
   cases cs with
   | cons _ _=>cases v<;>simp at h
   | nil =>
   cases v<;>try (simp at h;done)
   rename_i s;simp only at h;split at h
   case isFalse=>cases h
   simp only[Q0] at h;subst h;refine⟨[.str s.data.toList],⟨_,[],rfl,?_,rfl⟩,by simp only[a2G,hu];exact⟨_,rfl⟩,by simp[K5],by simp[PV.wts,PV.wt,b5R]⟩;simp[Rep]
  ·rename_i fs hu
   simp only[Q6,List.all_eq_true,Ku] at hc;obtain⟨xs,n,hn,rfl,hl,hx,hi⟩:=DataW.trod_struct hu h;simp only[XA] at hn;subst hn;obtain⟨ps,a1,a2,a3,a4⟩:=d7B ih fs.toList 0 [] cs xs _ (fun f hf=>by simpa using hc.1 f hf) hc.2 rfl hl (by simpa using hx) (fun j f hj=>by simpa using hi j f (by simpa using hj));exact⟨ps,a1,by simp only[a2G,hu];exact a2,a3,by simp only[b5R];omega⟩
  ·rename_i n e hu
   simp only[Q6,Ku] at hc;obtain⟨xs,n',hn,rfl,hl,hx,hi⟩:=DataW.trod_array hu h;simp only[XA] at hn;subst hn;obtain⟨ps,a1,a2,a3,a4⟩:=d9Q (by simpa using hc.1) ih n cs xs (by rw[hl,hc.2]) hx hi;exact⟨ps,a1,by simp only[a2G,hu];exact a2,a3,by simp only[b5R];omega⟩
  ·rename_i e hu
   simp only[Q6,XQ] at hc;exact f0l hu (by simpa using hc.1) hc.2 ih h
  ·cases hc
variable {r:Go.Reach}{b0:Nat}
theorem f4c{S:List TypeId}(hS:closed P S=tt){t:TypeId}(ht:t∈S){v:Value}{d:DataW H}{pl:List MemPlace}(hv:∃cs:Array Value,v=.agg cs)(h:KK enc P w 0 spare held t v d pl) :
  ∃n ps,Rep (hpOf w) [] (.agg ps) v/\a2G P n t ps/\PV.wts ps<=b5R d:=by
 obtain⟨cs,rfl⟩:=hv;obtain⟨fuel,h⟩:=h;obtain⟨ps,h1,h2,_,h4⟩:=e1q hS fuel t _ _ ht h;refine⟨fuel,ps,⟨cs.toList,by simp,?_⟩,h2,h4⟩;exact h1
theorem d8U{S:List TypeId}(hS:closed P S=tt){t:TypeId}(ht:t∈S){fs:Array Field}(hu:P.underlying t=sm (.struct fs)){v:Value}{d:DataW H}{pl:List MemPlace}(hval:KN P w r b0 t v)(h:KK enc P w 0 spare held t v d pl) :
  ∃n ps,Rep (hpOf w) [] (.agg ps) v/\a2G P n t ps/\PV.wts ps<=b5R d:=f4c hS ht (by obtain⟨cs,h,_⟩:=okWide_struct hu hval;exact⟨cs,h⟩) h
theorem f1t{S:List TypeId}(hS:closed P S=tt){t:TypeId}(ht:t∈S){e:TypeId}(hu:P.underlying t=sm (.slice e)){v:Value}{d:DataW H}{pl:List MemPlace}(hval:KN P w r b0 t v)(h:KK enc P w 0 spare held t v d pl) :
  ∃n rows,Rep (hpOf w) [] (.sl (P.cellsOf e) rows) v/\(∀r∈rows,a2G P n e r)/\PV.wtss rows+1<=b5R d:=by
 obtain⟨a,len,cap,rfl⟩:=okWide_slice hu hval;obtain⟨fuel,h⟩:=h;obtain⟨ps,h1,h2,_,h4⟩:=e1q hS fuel t _ _ ht h;cases fuel with
 | zero=>exact h2.elim
 | succ fuel =>
 simp only[a2G,hu] at h2;obtain⟨rows,rfl,h2⟩:=h2;refine⟨fuel,rows,?_,h2.1,by simpa[PV.wts,PV.wt] using h4⟩;obtain⟨v,r,hvr,hrep,_⟩:=h1;have:(Value.slice a len cap).cells.toList=[.slice a len cap]:=rfl;rw[this] at hvr;simp only[List.cons.injEq] at hvr;rw[hvr.1];exact hrep
end
mutual
theorem PV.frz_low{k:Nat}{look:Nat->Option MO}:∀p:PV,p.low k=tt->p.frz k look=sm p
 | .int ..,_=>rfl
 | .bool _,_=>rfl
 | .str _,_=>rfl
 | .undef,_=>rfl
 | .nilS,_=>rfl
 | .nilF,_=>rfl
 | .nilP,_=>rfl
 | .nilI,_=>rfl
 | .nilM,_=>rfl
 | .sl n rows,h=>by simp only[XK] at h;simp[XN,h]
 | .cell l o,h=>by simp only[XK] at h;simp[XN,h]
 | .ref h' o,h=>by simp only[XK,XQ] at h;simp[XN,h]
 | .mp h',h=>by simp only[XK,XQ] at h;simp[XN,h]
 | .msl h' ..,h=>by simp only[XK,XQ] at h;simp[XN,h]
 | .rsl h' ..,h=>by simp only[XK,XQ] at h;simp[XN,h]
 | .rpl h' ..,h=>by simp only[XK,XQ] at h;simp[XN,h]
 | .eref h' ..,h=>by simp only[XK,XQ] at h;simp[XN,h]
 | .fn f l,h=>by simp only[XK] at h;simp[XN,PV.frzs_low l h]
 | .agg l,h=>by simp only[XK] at h;simp[XN,PV.frzs_low l h]
 | .tup l,h=>by simp only[XK] at h;simp[XN,PV.frzs_low l h]
theorem PV.frzs_low{k:Nat}{look:Nat->Option MO}:∀l:List PV,K1 k l=tt->Kh k look l=sm l
 | [],_=>rfl
 | p::l,h=>by
  simp only[K1,Q6] at h;simp[Kh,PV.frz_low p h.1,PV.frzs_low l h.2]
end
theorem PV.frzss_low{k:Nat}{look:Nat->Option MO}:∀ls:List (List PV),K3 k ls=tt->(∀l∈ls,l.all K5=tt)->Kr k look ls=sm ls
 | [],_,_=>rfl
 | l::ls,h,h1=>by
  simp only[K3,Q6] at h;simp only[Kr,PV.frzs_low l h.1,Xy,h1 l (by simp),Kw,PV.frzss_low ls h.2 (fun l hl=>h1 l (by simp[hl])),Option.map_some]
theorem b3i{α:Type}(σ:List α)(A:α)(r:List α):(σ++A::r)[σ.length]?=sm A:=by simp
theorem d6g{α:Type}(σ:List α)(A B:α)(r:List α):(σ++A::B::r)[σ.length+1]?=sm B:=by
 rw[Qd (by omega)];simp
theorem c5i{α:Type}(σ:List α)(A X:α)(r:List α):(σ++A::r).set σ.length X=σ++X::r:=by simp
theorem e3J{α:Type}(σ:List α)(A B X:α)(r:List α):(σ++A::B::r).set (σ.length+1) X=σ++A::X::r:=by
 rw[XC _ _ (by omega)];simp
theorem f3f{α:Type}(σ:List α)(A:α):(σ++[A]).length=σ.length+1:=by simp
theorem f3n{α:Type}(σ:List α)(A B:α):(σ++[A])++[B]=σ++[A,B]:=by simp
theorem a4n{Φ:Fns}{x y:PT}{ρ:PEnv}{r:Res}(hx:x.ev Φ ρ=sm r)(hy:y.ev Φ ρ=sm r):(PT.both x y).ev Φ ρ=sm r:=by simp[XL,hx,hy,Res.beq_self]
section
variable (Φ:Fns)(ρ:PEnv)(k x y:PT)
theorem a0j(gen:Bool)(v:SV)(H:List Blk):(PT.ret gen v H).ev Φ ρ=((v.pv ρ (c1j ρ H 3)).bind fun p=>(a0n ρ gen p).map fun r=>.ret r.1 r.2):=rfl
theorem a0e(c:BE):(KC c x y).ev Φ ρ=(if c.safe ρ then(if c.pe ρ then x.ev Φ ρ else y.ev Φ ρ) else nn):=rfl
theorem a0h(c:BE):(PT.need c k).ev Φ ρ=(if c.safe ρ then(if c.pe ρ then k.ev Φ ρ else nn) else nn):=rfl
theorem a0F(fl:Bool)(a:SV)(ks:List Kd):(PT.load fl a ks k).ev Φ ρ=((a0H ρ a).bind fun l=>(a0x ρ fl ks.length l).bind fun x=>(a0c ks x).bind fun r=>k.ev Φ (ρ.push r)):=rfl
theorem a2j(d:Option Nat)(src:Src)(size:Nat):(PT.app d src size k).ev Φ ρ=((match d with|none=>sm []|some n=>(ρ.v[n]?).bind (Ka size)).bind fun xs=>(a1O ρ size src).bind fun es =>
   if xs.length+es.length<=1000000 then k.ev Φ {ρ with v:=ρ.v++[PV.sl size (xs++es)]} else nn):=rfl
theorem b0i(n:Nat)(lo hi:Option IE)(size:Nat):(PT.cut n lo hi size k).ev Φ ρ=(match (ρ.v[n]?).bind (Ka size) with
  | some xs=>if 0<=a5M ρ lo/\a5M ρ lo<=a5P ρ hi xs.length/\a5P ρ hi xs.length<=xs.length then k.ev Φ {ρ with v:=ρ.v++[.sl size ((xs.take (a5P ρ hi xs.length).toNat).drop (a5M ρ lo).toNat)]} else nn
  | none=>(d2L ρ lo hi size (ρ.v[n]?)).bind fun p=>k.ev Φ {ρ with v:=ρ.v++[p]}):=rfl
theorem a6z(n:Nat)(lo hi:Option IE):(PT.scut n lo hi k).ev Φ ρ=(match ρ.v[n]? with
  | some (.str l)=>if 0<=a5M ρ lo/\a5M ρ lo<=a5P ρ hi l.length/\a5P ρ hi l.length<=l.length then k.ev Φ {ρ with v:=ρ.v++[.str ((l.take (a5P ρ hi l.length).toNat).drop (a5M ρ lo).toNat)]} else nn
  | _=>nn):=rfl
theorem b9W(n size:Nat):(PT.chk n size k).ev Φ ρ=(((ρ.v[n]?).bind (Ka size)).bind fun _=>k.ev Φ ρ):=rfl
theorem b5E(n:Nat)(src:Src)(size:Nat):(PT.appF n src size k).ev Φ ρ=(((ρ.v[n]?).bind (Ka size)).bind fun xs=>(a1O ρ size src).bind fun es =>
   if es.length≠0/\xs.length+es.length<=1000000 then k.ev Φ {ρ with v:=ρ.v++[PV.sl size (xs++es)]} else nn):=rfl
theorem a0A(f:Nat)(args:List SV)(H:List Blk)(shs:List Sh):(PT.call f args H shs k).ev Φ ρ=((XY ρ (c1j ρ H 3) args).bind fun ayq=>(Φ f ayq ρ.m).bind fun r=>(a0w shs r.1).bind fun x=>k.ev Φ {ρ.push x with m:=r.2}):=rfl
theorem a7P(n:Nat)(args:List SV)(shs:List Sh):(PT.callv n args shs k).ev Φ ρ=(match ρ.v[n]? with
  | some (.fn f cap)=>(XY ρ noOwn args).bind fun ayq=>(Φ f (ayq++cap) ρ.m).bind fun r=>(a0w shs r.1).bind fun x=>k.ev Φ {ρ.push x with m:=r.2}
  | _=>nn):=rfl
theorem a2E(cs:List SV)(T:Nat):(PT.newM cs T k).ev Φ ρ=((XY ρ noOwn cs).bind fun l=>k.ev Φ {ρ with v:=ρ.v++[.ref ρ.m.length 0],m:=ρ.m++[.cells l T]}):=rfl
theorem a2v(n:IE)(zero:List SV)(T size bytes:Nat):(PT.mkM n zero T size bytes k).ev Φ ρ=((XY ρ noOwn zero).bind fun z =>
   if 0<=n.pe ρ/\n.pe ρ<=1000000/\bytes<=100000000 then k.ev Φ {ρ with v:=ρ.v++[.msl ρ.m.length 0 (n.pe ρ).toNat (n.pe ρ).toNat size],m:=ρ.m++[.cells (Q7 (n.pe ρ).toNat z).flatten T]} else nn):=rfl
theorem a1s(a:SV)(cs:List SV):(PT.storeM a cs k).ev Φ ρ=(match a0H ρ a with
  | some (.obj h off)=>match ρ.m[h]? with
   | some (.cells l T)=>(XY ρ noOwn cs).bind fun new=>if off+new.length<=l.length then k.ev Φ {ρ with m:=ρ.m.set h (.cells (a3Y l off new) T)} else nn
   | _=>nn
  | some (.elt h len i sz off)=>match ρ.m[h]? with
   | some (.row rows sz' T)=>if rows.length=len/\sz'=sz then(rows[i]?).bind fun r=>(XY ρ noOwn cs).bind fun new=>if off+new.length<=r.length/\new.all K5=tt then k.ev Φ {ρ with m:=ρ.m.set h (.row (rows.set i (a3Y r off new)) sz' T)} else nn else nn
   | _=>nn
  | _=>nn):=rfl
theorem a2w(d:SV)(src:Src)(size T:Nat):(PT.appM d src size T k).ev Φ ρ=((d.pv ρ noOwn).bind fun p=>(a1O ρ size src).bind fun es=>match p with
  | .nilS=>if es.length<=1000000 then(if es.length=0 then k.ev Φ {ρ with v:=ρ.v++[.nilS]} else k.ev Φ {ρ with v:=ρ.v++[.rsl ρ.m.length es.length size],m:=ρ.m++[.row es size T]}) else nn
  | .rsl h len sz=>match ρ.m[h]? with
   | some (.row rows sz' T')=>if rows.length=len/\sz=size/\sz'=size/\T'=T/\len+es.length<=1000000 then
     (if es.length=0 then k.ev Φ {ρ with v:=ρ.v++[.rsl h len sz]} else k.ev Φ {ρ with v:=ρ.v++[.rsl h (len+es.length) size],m:=ρ.m.set h (.row (rows++es) size T)}) else nn
   | _=>nn
  | .msl h o len cap sz=>match ρ.m[h]? with
   | some (.cells l _)=>if len=cap/\sz=size/\len+es.length<=1000000 then(a8y size len (l.drop o)).bind fun rows =>
     if es.length=0 then k.ev Φ {ρ with v:=ρ.v++[.msl h o len cap sz]} else k.ev Φ {ρ with v:=ρ.v++[.rsl ρ.m.length (len+es.length) size],m:=ρ.m++[.row (rows++es) size T]} else nn
   | _=>nn
  | _=>nn):=rfl
theorem a2X(d x size:Nat):(PT.copyM d x size k).ev Φ ρ=(match ρ.v[d]? with
  | some (.msl h o len _ sz)=>match ρ.m[h]? with
   | some (.cells l T)=>(b0r ρ size x).bind fun sc=>if sz=size/\o+min sc.1 len*size<=l.length/\min sc.1 len*size<=sc.2.length/\sc.2.all K5=tt then
     k.ev Φ {ρ.push ([((min sc.1 len:Nat):Int)],[],[]) with m:=ρ.m.set h (.cells (a3Y l o (sc.2.take (min sc.1 len*size))) T)} else nn
   | _=>nn
  | _=>nn):=rfl
theorem a0s(q:Nat)(is:List IE)(bs:List BE)(vs:List SV):(PT.jump q is bs vs).ev Φ ρ=((Kz ρ bs).bind fun b=>(XY ρ noOwn vs).map fun v=>.jump q {i:=is.map (K9 ρ),b,v,m:=ρ.m,k:=ρ.k}):=rfl
end
theorem d8q(x:Int):eqB x x=tt:=by simp[eqB]
theorem a2z{P:Program}{n:Nat}{t:TypeId}{k:IntKind}{ps:List PV}(hu:P.underlying t=sm (.int k))(h:a2G P n t ps):∃z,ps=[.int k z]/\loI k<=z/\z<=hiI k:=by
 cases n with
 | zero=>exact h.elim
 | succ n=>simpa only[a2G,hu] using h
theorem d8P{P:Program}{n:Nat}{t:TypeId}{ps:List PV}(hu:P.underlying t=sm .string)(h:a2G P n t ps):∃b,ps=[.str b]:=by
 cases n with
 | zero=>exact h.elim
 | succ n=>simpa only[a2G,hu] using h
theorem a9c{P:Program}{n:Nat}{t:TypeId}{fs:Array Field}{ps:List PV}(hu:P.underlying t=sm (.struct fs))(h:a2G P n t ps):∃m,m<n/\a8r (a2G P m) (fs.toList.map (·.type)) ps:=by
 cases n with
 | zero=>exact h.elim
 | succ n=>exact⟨n,by omega,by simpa only[a2G,hu] using h⟩
theorem e3N{P:Program}{n:Nat}{t:TypeId}{k:Nat}{e:TypeId}{ps:List PV}(hu:P.underlying t=sm (.array k e))(h:a2G P n t ps):∃m,m<n/\a8r (a2G P m) (Q7 k e) ps:=by
 cases n with
 | zero=>exact h.elim
 | succ n=>exact⟨n,by omega,by simpa only[a2G,hu] using h⟩
theorem c1p{P:Program}{n:Nat}{t:TypeId}{e:TypeId}{ps:List PV}(hu:P.underlying t=sm (.slice e))(h:a2G P n t ps):∃m rows,m<n/\ps=[.sl (P.cellsOf e) rows]/\∀r∈rows,a2G P m e r:=by
 cases n with
 | zero=>exact h.elim
 | succ n =>
  simp only[a2G,hu] at h;obtain⟨rows,h1,h2,_⟩:=h;exact⟨n,rows,by omega,h1,h2⟩
theorem lift_true{P:Program}{F:List PV->List MO->Option (PV×List MO)}{f:Nat}(hF:CtP P f F){ayq:List PV}(hev:F ayq []=sm (.bool tt,[])){W:World}{args:List Value}(hr:Reps (hpOf W) [] ayq args) :
  Calls P f args.toArray W fun e W'=>e=.returned (.bool tt)/\Below W.heap.size W W':=by
 refine((hF ayq [] _ _ hev).2 (hpOf W) [] args rfl (Kv (by simp)) hr W (e3U W) ⟨List.nodup_nil,by simp,by simp⟩).mono fun e W' hh=>?_
 obtain⟨v,s',m',rfl,hg,_,_,_,_,_,_,hrep,_,_⟩:=hh;simp only[Rep] at hrep;subst hrep;exact⟨rfl,hg.os,hg.tape,hg.output,hg.size,fun k hk=>hg.block k hk (by simp[a2d])⟩
open Go.RowKit Go.Shelf
def d7o(P:Program)(f:FuncId)(T:TypeId)(sz:Nat):Prop :=
 ∀(w:World) (b off n c:Nat) (news:List Value),0<n->n<=1000000->news.length=n*sz->(∀(j:Nat) (u:Value),news[j]?=sm u->w.cell? ⟨b,off+j,nn⟩=sm u)->(∀u∈news,u.oneCell'=tt) ->
  Calls P f #[.slice (sm ⟨b,off,nn⟩) n c] w fun e w'=>∃v',e=.returned v'/\w'.ownsRow w.heap.size T sz v' n news/\Below w.heap.size w w'
def d9v(T sz:Nat):List PV->List MO->Option (PV×List MO)
 | [.msl h o len _ s'],σ=>match σ[h]? with
  | some (.cells l _)=>if s'=sz/\0<sz/\0<len/\len<=1000000 then(a8y sz len (l.drop o)).map fun rows=>(.rsl σ.length len sz,σ++[.row rows sz T]) else nn
  | _=>nn
 | _,_=>nn
theorem f0Y{P:Program}{f:FuncId}{T sz:Nat}(hD:d7o P f T sz)(ef:∀args w,(callFunc f args).run P w=.ok (.enter f args) w):CtP P f (d9v T sz):=by
 intro aa σ r σ' h;refine⟨ef,fun s m vs hm hcoh hv w hs hok=>?_⟩;unfold d9v at h;split at h
 case h_2=>cases h
 rename_i σ0 hd o len cap0 s';split at h
 case h_2=>cases h
 rename_i l T0 h0;split at h
 case isFalse=>cases h
 rename_i hc;obtain⟨rfl,hsz,hpos,hl6⟩:=hc;obtain⟨rows,hrows,h⟩:=Q2.1 h;simp only[Q3] at h;obtain⟨rfl,rfl⟩:=h;simp only[Reps,Rep] at hv;obtain⟨v1,_,rfl,⟨b,n0,k1,rfl⟩,rfl⟩:=hv;obtain⟨b',vs,g1,g2⟩:=hm.get h0;have hI:=a3a h0 g1;rw[hI] at k1;simp only[a2P,Q0,Q3] at k1;obtain⟨rfl,_⟩:=k1;obtain⟨xs,x1,x2,x3,x4,x5⟩:=c5j _ (g2.drop o) hrows;have hlx:xs.length=len:=by rw[x2.length];exact x4
 have hfl:xs.flatten.length=len*s':=by rw[a5y _ _ x1,hlx]
 have hb:=hok.is _ (Qq g1);simp only at hb
 have hcell:∀(j:Nat) (u:Value),xs.flatten[j]?=sm u->w.cell? ⟨b',o+j,nn⟩=sm u:=by
  intro j u hj;have:=x5 j u hj;rw[Qf] at this;simp only[World.cell?,hb,XD,Qh,XX];simpa using this
 have hcall:=hD w b' o len cap0 xs.flatten hpos hl6 hfl hcell (by
  intro u hu;obtain⟨x,hx,hu⟩:=List.mem_flatten.1 hu
  exact d2U x2 x3 x hx u hu)
 refine hcall.mono ?_;rintro e w' ⟨v',rfl,⟨hnl,hown⟩,hbel⟩;rcases hown with ⟨_,h0⟩|⟨g,cap',cur,rfl,hg,hblk,hc1,hc2,hc3,hc4⟩
 ·omega
 have hrep:EnvRep s {i:=[],b:=[],v:=[],m:=σ,k:=0} {i:=[],b:=[],v:=[],j:=[],m:=m,k:=0}:=⟨rfl,rfl,rfl,hm,rfl,by simp,hcoh⟩
 have hobj:a6P s (inf σ m) (.row rows s' T) (g,.cells cur T (0,0)):=by
  refine⟨cur,rfl,by intro h9;rw[h9] at x4;simp at x4;omega,hsz,⟨cap',hc3,by omega,hc2⟩,x3,xs,x2,x1,fun j u hj=>?_⟩;have hjl:j<len*s':=by rw[<- hfl];exact(Q4.1 hj).1
  rw[<- hc4,Qj,XJ hjl] at hj;simpa using hj
 obtain⟨hle,he⟩:=hrep.newM hobj;have hml:=hm.length
 have hlt:∀b2 o u,s b2 o=sm u->b2<w.heap.size:=by
  intro b2 o u hu;have hc:=hs b2 o u hu;simp only[World.cell?] at hc;cases hh:w.heap[b2]? with
  | none=>rw[hh] at hc;cases hc
  | some _=>exact(Xa.1 hh).1
 have hold:∀x∈m,x.1<w.heap.size:=fun x hx=>(Xa.1 (hok.is x hx)).1
 refine⟨_,s,m++[(g,.cells cur T (0,0))],rfl,⟨hbel.os,hbel.tape,hbel.output,hbel.size,fun k hk _=>hbel.block k hk⟩,XV s,?_,(fun b o u h1 h2=>by rw[h1] at h2;cases h2),⟨by simp,?_⟩,⟨?_,?_,?_⟩,hle,?_,he.m,he.coh⟩
 ·intro b2 o u hu
  have hc:=hs b2 o u hu;simp only[World.cell?,hbel.block b2 (hlt b2 o u hu)];exact hc
 ·intro i x hx
  by_cases hi:i<m.length
  ·rw[Q8 hi] at hx
   exact .inl ⟨x,hx,rfl⟩
  ·rw[Qd (by omega)] at hx
   have:x=(g,.cells cur T (0,0)):=by
    cases hk:i-m.length with
    | zero=>rw[hk] at hx;simpa using hx.symm
    | succ k=>rw[hk] at hx;simp at hx
   subst this;exact .inr hg
 ·unfold a2d
  rw[Xb,Xc];refine⟨hok.nd,by simp,fun a ha b hb=>?_⟩;obtain⟨x,hx,rfl⟩:=Qb.1 ha;have:=hold x hx;simp only[Qk,Xd,QH] at hb;omega
 ·intro x hx
  rcases Qe.1 hx with hx|hx
  ·rw[hbel.block _ (hold x hx)];exact hok.is x hx
  ·rw[QH.1 hx];exact hblk
 ·intro x hx o
  rcases Qe.1 hx with hx|hx
  ·exact hok.un x hx o
  ·rw[QH.1 hx]
   cases hu:s g o with
   | none=>rfl
   | some u=>have:=hlt g o u hu;omega
 ·have hget:(inf (σ++[.row rows s' T]) (m++[(g,.cells cur T (0,0))]))[σ.length]?=sm (g,cur.size,len):=by
   have hA:(σ++[MO.row rows s' T])[σ.length]?=sm (.row rows s' T):=by simp
   have hB:(m++[(g,XT cur T (0,0))])[σ.length]?=sm (g,.cells cur T (0,0)):=by rw[<- hml];simp
   rw[a3a hA hB];simp only[a2P,a6k,x4]
  simp only[Rep];exact⟨hpos,g,cap',rfl,g,cur.size,len,hget,Qa _,fun _=>⟨rfl,hc3,hc1⟩⟩
open Go.RowKit
section
variable {P:Program}{f:Nat}{aa:List PV}{σ:List MO}
theorem CtD.swap{R:PV->List MO->Prop}(hct:CtD P f aa σ R){r:PV}{h:Nat}{l0 l1 l2:List PV}{T:Nat}{x y:MO}(h0:σ[h]?=sm (.cells l0 T))(hlow:σ.all (K4 σ.length)=tt)
  (hx:x.low σ.length=tt) (hy:y.low σ.length=tt) (hr:r.low σ.length=tt)
  (hl:∀(s:Hp) (B B':Inf) (vs:List Value),B.take σ.length <+: B'->B'[σ.length]?=B[σ.length+1]?->B'[σ.length+1]?=B[σ.length]?->Reps s B l2 vs->Reps s B' l1 vs)
  (hll:K1 (σ.length+2) l1=tt)
  (hR:∀r' σ',R r' σ'->r'=r/\(σ'=σ.set h (.cells l1 T)++[x,y]\/σ'=σ.set h (.cells l2 T)++[y,x])):CtD P f aa σ (fun r' σ'=>r'=r/\σ'=σ.set h (.cells l1 T)++[x,y]):=by
 refine⟨hct.1,fun s m vs a b c w hs hm=>(hct.2 s m vs a b c w hs hm).mono ?_⟩;rintro e w' ⟨v,s',m',e1,e2,e3,e4,e5,e6,e7,r',σ',hr',hle,hrep,hrm,hcoh⟩;obtain⟨rfl,rfl|rfl⟩:=hR _ _ hr'
 ·exact⟨v,s',m',e1,e2,e3,e4,e5,e6,e7,_,_,⟨rfl,rfl⟩,hle,hrep,hrm,hcoh⟩
 have hlt:=(Q4.1 h0).1;have hml:m.length=σ.length:=a.length;have hm'l:m'.length=σ.length+2:=by simpa using hrm.length
 generalize hk:σ.length=k at *
 have hlt':h<σ.length:=by rw[hk];exact hlt
 have hgk:(σ.set h (.cells l2 T)++[y,x])[k]?=sm y:=by rw[Qd (by simp[hk])];simp[hk]
 have hgk1:(σ.set h (.cells l2 T)++[y,x])[k+1]?=sm x:=by rw[Qd (by simp[hk])];simp[hk]
 obtain⟨X,hX,oX⟩:=hrm.obj hgk;obtain⟨Y,hY,oY⟩:=hrm.obj hgk1
 have hm':m'=m'.take k++[X,Y]:=by
  conv=>lhs;rw[<- Qz k m']
  congr 1
  apply QP;intro i;rw[Qf]
  match i with
  | 0=>simpa using hX
  | 1=>simpa using hY
  | i+2=>rw[X9 (by omega)];simp
 generalize hm0:m'.take k=m0 at *
 have hm0l:m0.length=k:=by rw[<- hm0,Qn];omega
 subst hm';have hS1:(σ.set h (.cells l1 T)).length=m0.length:=by simp[hk,hm0l]
 have hS2:(σ.set h (.cells l2 T)).length=m0.length:=by simp[hk,hm0l]
 have hB2:inf (σ.set h (.cells l2 T)++[y,x]) (m0++[X,Y])=inf σ m0++[a2P y X,a2P x Y]:=by
  rw[<- e6O (m:=m0) h0 (o':=.cells l2 T) (fun _=>rfl)];unfold inf;rw[QY hS2];rfl
 have hB1:inf (σ.set h (.cells l1 T)++[x,y]) (m0++[Y,X])=inf σ m0++[a2P x Y,a2P y X]:=by
  rw[<- e6O (m:=m0) h0 (o':=.cells l1 T) (fun _=>rfl)];unfold inf;rw[QY hS1];rfl
 have hB0:(inf σ m0).length=k:=by simp[inf,hk,hm0l]
 rw[hB2] at hrep hrm oX oY
 have hpre:(inf σ m0++[a2P y X,a2P x Y]).take k <+: inf σ m0++[a2P x Y,a2P y X]:=by
  rw[Xe (by omega),X1 (by omega)];exact⟨_,rfl⟩
 have up:∀{o:MO} {z:Nat×Obj},a6P s' (inf σ m0++[a2P y X,a2P x Y]) o z->o.low k=tt->a6P s' (inf σ m0++[a2P x Y,a2P y X]) o z:=fun h1 h2=>(MO.low_obj h1 h2).mono (fun _ _ _ h=>h) (Ks hpre)
 have hgh:(σ.set h (.cells l2 T)++[y,x])[h]?=sm (.cells l2 T):=by rw[Q8 (by simpa using hlt')];exact Qw hlt'
 obtain⟨Z,hZ,oZ⟩:=hrm.obj hgh;rw[Q8 (by omega)] at hZ
 have oZ1:a6P s' (inf σ m0++[a2P x Y,a2P y X]) (.cells l1 T) Z:=by
  obtain⟨vz,q1,q2⟩:=oZ;exact⟨vz,q1,hl s' _ _ _ hpre (by rw[Qd (by omega),Qd (by omega)];simp[hB0]) (by rw[Qd (by omega),Qd (by omega)];simp[hB0]) q2⟩
 have hrd:a1v s' (inf σ m0++[a2P x Y,a2P y X]) (σ.set h (.cells l1 T)) m0:=by
  have h1:=hrm.take k;rw[Xe (by simp[hk]),X1 (by simp[hk]),Xe (by omega),X1 (by omega)] at h1;have h2:=Kt (i:=h) (o:=.dead) (x:=Z) h1 (by simpa using hlt') trivial;rw[List.set_set,e4n hZ] at h2
  have h3:(σ.set h .dead).all (K4 k)=tt:=List.all_eq_true.2 fun o ho=>by
   rcases QQ ho with ho|rfl
   ·exact List.all_eq_true.1 hlow o ho
   ·rfl
  have h4:=Kk (fun _ _ _ h=>h) (Ks hpre) _ _ (MO.low_rep _ _ h2 h3);have h5:=Kt (i:=h) (o:=.cells l1 T) (x:=Z) h4 (by simpa using hlt') oZ1
  rwa [List.set_set,e4n hZ] at h5
 have g1:∀i,i<k->(m0++[Y,X])[i]?=(m0++[X,Y])[i]?:=fun i hi=>by rw[Q8 (by omega),Q8 (by omega)]
 have hperm:(m0++[Y,X]).Perm (m0++[X,Y]):=(List.Perm.swap X Y []).append_left m0;refine⟨v,s',m0++[Y,X],e1,e2,e3,e4,e5,⟨by simp;omega,?_⟩,⟨?_,?_,?_⟩,r',_,⟨rfl,rfl⟩,⟨?_,?_⟩,?_,?_,?_⟩
 ·intro i x' hi
  by_cases h1:i<k
  ·rw[g1 i h1] at hi;exact e6.2 i x' hi
  ·have hno:∀j,k<=j->m[j]?=nn:=fun j hj=>X9 (by omega)
   rw[Qd (by omega)] at hi
   have h2:i-m0.length=0\/i-m0.length=1:=by
    have:=(Q4.1 hi).1;simp at this;omega
   rcases h2 with h2|h2
   ·rw[h2] at hi;simp only[QN,Q0] at hi;subst hi
    rcases e6.2 (k+1) Y hY with ⟨_,q,_⟩|q
    ·rw[hno _ (by omega)] at q;cases q
    ·exact .inr q
   ·rw[h2] at hi;simp only[List.getElem?_cons_succ,QN,Q0] at hi;subst hi
    rcases e6.2 k X hX with ⟨_,q,_⟩|q
    ·rw[hno _ (by omega)] at q;cases q
    ·exact .inr q
 ·exact(hperm.map _).nodup_iff.2 e7.nd
 ·exact fun z hz=>e7.is z (hperm.mem_iff.1 hz)
 ·exact fun z hz=>e7.un z (hperm.mem_iff.1 hz)
 ·rw[hB1]
  have:=hle.ble;rw[hB2] at this;intro i z hz;have hi:i<k:=by have:=(Q4.1 hz).1;simp[inf,hk] at this;omega
  obtain⟨z',q1,q2⟩:=this i z hz;exact⟨z',by rw[Q8 (by omega)] at q1 ⊢;exact q1,q2⟩
 ·intro i o ho
  have hi:i<k:=by have:=(Q4.1 ho).1;omega
  by_cases hih:i=h
  ·subst hih
   rw[h0] at ho;simp only[Q0] at ho;subst ho;exact⟨.cells l1 T,by rw[Q8 (by simp[hk];exact hi)];exact Qw hlt',trivial⟩
  ·obtain⟨o',k1,k2⟩:=hle.stay i o ho
   rw[Q8 (by simp[hk];exact hi),Qs (Ne.symm hih)] at k1;exact⟨o',by rw[Q8 (by simp[hk];exact hi),Qs (Ne.symm hih)];exact k1,by rw[g1 i hi];exact k2⟩
 ·rw[hB1]
  exact Rep.mono (fun _ _ _ h=>h) (Ks hpre) _ _ (PV.low_rep _ _ hrep hr)
 ·rw[hB1]
  refine KH hrd (a4Z.2 ⟨_,_,rfl,up oY hx,a4Z.2 ⟨_,_,rfl,up oX hy,rfl⟩⟩)
 ·refine f3y (k:=k+2) (List.all_eq_true.2 fun o ho=>?_)
  rcases Qe.1 ho with ho|ho
  ·rcases QQ ho with ho|rfl
   ·exact MO.low_mono (by omega) (List.all_eq_true.1 hlow o ho)
   ·exact hll
  ·simp only[Q9,Xx,or_false] at ho
   rcases ho with rfl|rfl
   ·exact MO.low_mono (by omega) hx
   ·exact MO.low_mono (by omega) hy
end
theorem d8W{α β:Type}(f:β->α->β)(a:β){l:List α}{i:Nat}{x:α}(h:l[i]?=sm x):(l.take (i+1)).foldl f a=f ((l.take i).foldl f a) x:=by
 rw[List.take_add_one,h];simp
theorem c6t{α:Type}(l:List α):l.take l.length=l:=by simp
theorem a1o(i:Nat):((i+1:Nat):Int)=(i:Int)+1:=by omega
theorem a1x(n:Nat)(r:List (List PV)):(PV.sl n r).rowsOf n=sm r:=by simp[Ka]
theorem d5w:(1:Nat)<=1000000:=by decide
theorem le0(i:Nat):leB 0 (i:Int)=tt:=by simp[leB]
theorem a2N{i:Nat}(h:i<=1000000000):(leB (-9223372036854775808) ((i:Int)+1)&&leB ((i:Int)+1) 9223372036854775807)=tt:=by simp[leB];omega
theorem a1K{z:Int}(h:-9000000000000000000<=z/\z<=9000000000000000000):(leB (-9223372036854775808) z&&leB z 9223372036854775807)=tt:=by simp[leB];omega
theorem a0S{α:Type}{l:List α}{i:Nat}(h:i<l.length):∃x,l[i]?=sm x:=⟨_,QK h⟩
end Go.Sx
namespace Go.Bf
def upd{α:Type}(f:Nat->α)(b:Nat)(x:α):Nat->α:=fun i=>if i=b then x else f i
theorem a3j{α:Type}(f:Nat->α)(b:Nat)(x:α):upd f b x b=x:=XJ rfl
theorem a1H{α:Type}(f:Nat->α){b i:Nat}(x:α)(h:i≠b):upd f b x i=f i:=XS h
structure Inv (n:Nat)(g:Nat->Nat->Int)(v f:Nat->Int)(c t:Nat->Nat)(T r a b:Nat):Prop where
 par:∀x,x<n->c x≠0->∃p:Nat,p<n/\f x=(p:Int)/\p≠x/\v p+g p x<=v x/\(t x<t p->v p+g p x<v x)/\c x<=c p+1
 uniq:∀x y,x<n->y<n->c x≠0->c y≠0->t x=t y->x=y
 tle:∀x,x<n->t x<=T
 cle:∀x,x<n->c x<=r
 done:∀x y,x<n->y<n->(x<a\/(x=a/\y<b))->v y<=v x+g x y\/c x=r
 todo:∀x y,x<n->y<n->v y<=v x+g x y\/r<=c x+1
 low:∀x,x<n->-(24000000*(T:Int))<=v x/\v x<=0
variable {n:Nat}{g:Nat->Nat->Int}{v f:Nat->Int}{c t:Nat->Nat}{T r a b:Nat}
theorem Inv.start(n:Nat)(g:Nat->Nat->Int)(v f:Nat->Int)(hv:∀x,x<n->v x=0):Inv n g v f (fun _=>0) (fun _=>0) 0 1 0 0 where
 par:=fun x _ h=>XW rfl h
 uniq:=fun x y _ _ h=>XW rfl h
 tle:=fun x _=>Qa _
 cle:=fun x _=>Nat.zero_le _
 done:=fun x y _ _ h=>by omega
 todo:=fun x y _ _=>.inr (by omega)
 low:=fun x hx=>by rw[hv x hx];omega
theorem Inv.keep(h:Inv n g v f c t T r a b)(hb:v b<=v a+g a b):Inv n g v f c t (T+1) r a (b+1) where
 par:=h.par
 uniq:=h.uniq
 tle:=fun x hx=>X4 (h.tle x hx)
 cle:=h.cle
 done:=fun x y hx hy hd=>by
  by_cases hy2:x=a/\y=b
  ·obtain⟨rfl,rfl⟩:=hy2;exact .inl hb
  ·exact h.done x y hx hy (by omega)
 todo:=h.todo
 low:=fun x hx=>by have:=h.low x hx;omega
theorem Inv.lower(h:Inv n g v f c t T r a b)(ha:a<n)(hbn:b<n)(hr:1<=r)(hg:-24000000<=g a b)(hd:g a a=0)(hb:v a+g a b<v b) :
  Inv n g (upd v b (v a+g a b)) (upd f b (a:Int)) (upd c b r) (upd t b (T+1)) (T+1) r a (b+1):=by
 have hab:a≠b:=by rintro rfl;omega
 have hcr:r<=c a+1:=by
  rcases h.todo a b ha hbn with h1|h1
  ·omega
  ·exact h1
 refine⟨?_,?_,?_,?_,?_,?_,?_⟩
 ·intro x hx hcx
  by_cases hxb:x=b
  ·subst hxb
   refine⟨a,ha,a3j _ _ _,hab,?_,?_,?_⟩
   ·rw[a3j,a1H v _ hab];omega
   ·intro ht
    rw[a3j,a1H t _ hab] at ht;have:=h.tle a ha;omega
   ·rw[a3j,a1H c _ hab];exact hcr
  ·rw[a1H c _ hxb] at hcx
   obtain⟨p,p1,p2,p3,p4,p5,p6⟩:=h.par x hx hcx;refine⟨p,p1,by rw[a1H f _ hxb];exact p2,p3,?_,?_,?_⟩
   ·rw[a1H v _ hxb]
    by_cases hpb:p=b
    ·subst hpb;rw[a3j];omega
    ·rw[a1H v _ hpb];exact p4
   ·rw[a1H v _ hxb,a1H t _ hxb]
    by_cases hpb:p=b
    ·subst hpb;rw[a3j,a3j];intro _;omega
    ·rw[a1H v _ hpb,a1H t _ hpb];exact p5
   ·rw[a1H c _ hxb]
    by_cases hpb:p=b
    ·subst hpb;rw[a3j];have:=h.cle x hx;omega
    ·rw[a1H c _ hpb];exact p6
 ·intro x y hx hy hcx hcy ht
  by_cases hxb:x=b
  ·by_cases hyb:y=b
   ·omega
   ·rw[hxb,a3j,a1H t _ hyb] at ht
    have:=h.tle y hy;omega
  ·by_cases hyb:y=b
   ·rw[hyb,a3j,a1H t _ hxb] at ht
    have:=h.tle x hx;omega
   ·rw[a1H t _ hxb,a1H t _ hyb] at ht
    rw[a1H c _ hxb] at hcx;rw[a1H c _ hyb] at hcy;exact h.uniq x y hx hy hcx hcy ht
 ·intro x hx
  by_cases hxb:x=b
  ·rw[hxb,a3j];omega
  ·rw[a1H t _ hxb];have:=h.tle x hx;omega
 ·intro x hx
  by_cases hxb:x=b
  ·rw[hxb,a3j];omega
  ·rw[a1H c _ hxb];exact h.cle x hx
 ·intro x y hx hy hdn
  by_cases hxb:x=b
  ·right;rw[hxb,a3j]
  ·rw[a1H c _ hxb,a1H v _ hxb]
   by_cases hyb:y=b
   ·subst hyb
    rw[a3j];by_cases hxa:x=a
    ·subst hxa;left;omega
    ·rcases h.done x y hx hy (by omega) with h1|h1
     ·left;omega
     ·exact .inr h1
   ·rw[a1H v _ hyb]
    exact h.done x y hx hy (by omega)
 ·intro x y hx hy
  by_cases hxb:x=b
  ·right;rw[hxb,a3j];omega
  ·rw[a1H c _ hxb,a1H v _ hxb]
   by_cases hyb:y=b
   ·subst hyb
    rw[a3j];rcases h.todo x y hx hy with h1|h1
    ·left;omega
    ·exact .inr h1
   ·rw[a1H v _ hyb];exact h.todo x y hx hy
 ·intro x hx
  have h1:=h.low a ha;have h2:=h.low b hbn;by_cases hxb:x=b
  ·rw[hxb,a3j];omega
  ·rw[a1H v _ hxb];have:=h.low x hx;omega
theorem Inv.row(h:Inv n g v f c t T r a n):Inv n g v f c t T r (a+1) 0 where
 par:=h.par
 uniq:=h.uniq
 tle:=h.tle
 cle:=h.cle
 done:=fun x y hx hy hd=>h.done x y hx hy (by omega)
 todo:=h.todo
 low:=h.low
theorem Inv.round(h:Inv n g v f c t T r n 0):Inv n g v f c t T (r+1) 0 0 where
 par:=h.par
 uniq:=h.uniq
 tle:=h.tle
 cle:=fun x hx=>X4 (h.cle x hx)
 done:=fun x y hx hy hd=>by omega
 todo:=fun x y hx hy=>by
  rcases h.done x y hx hy (.inl hx) with h1|h1
  ·exact .inl h1
  ·right;omega
 low:=h.low
theorem Inv.stable(h:Inv n g v f c t T r n 0)(hc:∀x,x<n->c x≠r):∀x y,x<n->y<n->v y<=v x+g x y:=by
 intro x y hx hy;rcases h.done x y hx hy (.inl hx) with h1|h1
 ·exact h1
 ·exact XW h1 (hc x hx)
theorem few:∀(n:Nat) (l:List Nat),l.Nodup->(∀x∈l,x<n)->l.length<=n
 | 0,l,_,h=>by
  cases l with
  | nil=>exact Qa _
  | cons x l=>exact XW (h x (Xw)) (by omega)
 | n+1,l,hn,h=>by
  have h1:=few n (l.erase n) (hn.erase n) (fun x hx=>by
   have h2:=(hn.mem_erase_iff).1 hx;have:=h x h2.2;have:=h2.1
   omega)
  by_cases hm:n∈l
  ·have:=List.length_erase_of_mem hm;omega
  ·rw[List.erase_of_not_mem hm] at h1;omega
def a0Y(f:Nat->Int)(z:Nat):Nat->Nat
 | 0=>z
 | i+1=>(f (a0Y f z i)).toNat
structure Fin (n:Nat)(g:Nat->Nat->Int)(v f:Nat->Int)(c t:Nat->Nat)(z:Nat):Prop where
 par:∀x,x<n->c x≠0->∃p:Nat,p<n/\f x=(p:Int)/\p≠x/\v p+g p x<=v x/\(t x<t p->v p+g p x<v x)/\c x<=c p+1
 uniq:∀x y,x<n->y<n->c x≠0->c y≠0->t x=t y->x=y
 hz:z<n
 cz:n<=c z
variable {z:Nat}
theorem Fin.at_lt(h:Fin n g v f c t z):∀i,i<=n->a0Y f z i<n/\n<=c (a0Y f z i)+i
 | 0,_=>⟨h.hz,h.cz⟩
 | i+1,hi=>by
  obtain⟨h1,h2⟩:=h.at_lt i (by omega);obtain⟨p,p1,p2,_,_,_,p6⟩:=h.par _ h1 (by omega);simp only[a0Y,p2,XE];exact⟨p1,by omega⟩
theorem Fin.link(h:Fin n g v f c t z){i:Nat}(hi:i<n):f (a0Y f z i)=(a0Y f z (i+1):Int)/\a0Y f z (i+1)≠a0Y f z i /\
  v (a0Y f z (i+1))+g (a0Y f z (i+1)) (a0Y f z i)<=v (a0Y f z i) /\
  (t (a0Y f z i)<t (a0Y f z (i+1))->v (a0Y f z (i+1))+g (a0Y f z (i+1)) (a0Y f z i)<v (a0Y f z i))/\c (a0Y f z i)≠0:=by
 obtain⟨h1,h2⟩:=h.at_lt i (by omega);obtain⟨p,p1,p2,p3,p4,p5,p6⟩:=h.par _ h1 (by omega);simp only[a0Y,p2,XE,Kq];exact⟨p3,p4,p5,by omega⟩
theorem Fin.short(h:Fin n g v f c t z){k:Nat}(hk:k<=n)(hn:((QJ k).map (a0Y f z)).Nodup)(hx:a0Y f z k∉(QJ k).map (a0Y f z)):k<n:=by
 have hk1:((QJ (k+1)).map (a0Y f z)).Nodup:=by
  rw[XF,Xb,Xc];refine⟨hn,by simp,?_⟩;intro a ha b hb;simp only[Qk,Xd,QH] at hb;rintro rfl;subst hb;exact hx ha
 have:=few n _ hk1 (fun x hx=>by
  obtain⟨i,hi,rfl⟩:=Qb.1 hx
  exact(h.at_lt i (by have:=Xf.1 hi;omega)).1)
 have h2:k+1<=n:=by simpa using this
 exact h2
theorem Fin.strict(h:Fin n g v f c t z){j k:Nat}(hjk:j<k)(hk:k<=n)(e:a0Y f z k=a0Y f z j):∃i,j<=i/\i<k/\v (a0Y f z (i+1))+g (a0Y f z (i+1)) (a0Y f z i)<v (a0Y f z i):=by
 refine Classical.byContradiction fun hne=>?_
 have hle:∀i,j<=i->i<k->t (a0Y f z (i+1))<=t (a0Y f z i):=fun i h1 h2=>by
  refine Nat.le_of_not_lt fun hlt=>hne ⟨i,h1,h2,(h.link (by omega)).2.2.2.1 hlt⟩
 have hdown:∀d i,j<=i->i+d<=k->t (a0Y f z (i+d))<=t (a0Y f z i):=by
  intro d
  induction d with
  | zero=>intro i _ _;exact Qa _
  | succ d ih =>
   intro i h1 h2;have:=ih i h1 (by omega);have:=hle (i+d) (by omega) (by omega);rw[show i+(d+1)=i+d+1 from rfl];omega
 have e1:=hle j (Qa _) hjk;have e2:=hdown (k-(j+1)) (j+1) (by omega) (by omega);rw[show j+1+(k-(j+1))=k by omega,e] at e2;have hte:t (a0Y f z (j+1))=t (a0Y f z j):=by omega
 have l0:=h.link (i:=j) (by omega);have a0:=h.at_lt j (by omega);have a1:=h.at_lt (j+1) (by omega)
 have hc1:c (a0Y f z (j+1))≠0:=by
  by_cases hj:j+1<n
  ·exact(h.link hj).2.2.2.2
  ·have:k=j+1:=by omega
   subst this;rw[e];exact l0.2.2.2.2
 exact l0.2.1 (h.uniq _ _ a1.1 a0.1 hc1 l0.2.2.2.2 hte)
theorem Fin.closes(h:Fin n g v f c t z):∃j k,j<k/\k<=n/\a0Y f z k=a0Y f z j:=by
 refine Classical.byContradiction fun hne=>?_
 have nd:∀k,k<=n+1->((QJ k).map (a0Y f z)).Nodup:=by
  intro k
  induction k with
  | zero=>intro _;simp
  | succ k ih =>
   intro hk;rw[XF,Xb,Xc];refine⟨ih (by omega),by simp,?_⟩;intro a ha b hb;simp only[Qk,Xd,QH] at hb;rintro rfl;subst hb;obtain⟨i,hi,e⟩:=Qb.1 ha;have:=Xf.1 hi;exact hne ⟨i,k,this,by omega,e.symm⟩
 have:=few n _ (nd (n+1) (Qa _)) (fun x hx=>by
  obtain⟨i,hi,rfl⟩:=Qb.1 hx
  exact(h.at_lt i (by have:=Xf.1 hi;omega)).1)
 rw[QA,List.length_range] at this;omega
theorem Fin.none(h:Fin n g v f c t z)(π:Nat->Int)(hp:∀x y,x<n->y<n->π y<=π x+g x y):False:=by
 obtain⟨j,k,hjk,hk,e⟩:=h.closes;obtain⟨i,h1,h2,h3⟩:=h.strict hjk hk e
 have hle:∀m,m<k->v (a0Y f z (m+1))-π (a0Y f z (m+1))<=v (a0Y f z m)-π (a0Y f z m):=fun m hm=>by
  have l0:=h.link (i:=m) (by omega);have:=hp _ _ (h.at_lt (m+1) (by omega)).1 (h.at_lt m (by omega)).1;omega
 have hdown:∀d m,m+d<=k->v (a0Y f z (m+d))-π (a0Y f z (m+d))<=v (a0Y f z m)-π (a0Y f z m):=by
  intro d
  induction d with
  | zero=>intro m _;exact Int.le_refl _
  | succ d ih =>
   intro m h2;have:=ih m (by omega);have:=hle (m+d) (by omega);rw[show m+(d+1)=m+d+1 from rfl];omega
 have d1:=hdown (i-j) j (by omega);have d2:=hdown (k-(i+1)) (i+1) (by omega);have:=hp _ _ (h.at_lt (i+1) (by omega)).1 (h.at_lt i (by omega)).1;rw[show j+(i-j)=i by omega] at d1;rw[show i+1+(k-(i+1))=k by omega,e] at d2;omega
end Go.Bf
namespace Go.Sx
def a1Q(l:List Int):List PV:=l.map (Kn .i64)
def a4R(l:List Int):List (List PV):=l.map fun z=>[.int .i64 z]
theorem b9X(l:List Int):(a1Q l).length=l.length:=by simp[a1Q]
theorem a9S{l:List Int}{i:Nat}{z:Int}(h:l[i]?=sm z):List.drop i (a1Q l)=.int .i64 z::a1Q (l.drop (i+1)):=by
 unfold a1Q;rw[<- List.map_drop,a7Q h];rfl
theorem b9T{l:List Int}{i:Nat}(z:Int)(h:i<l.length):a3Y (a1Q l) i [.int .i64 z]=a1Q (l.set i z):=by
 unfold a3Y a1Q;rw[List.set_eq_take_append_cons_drop,XJ h];simp[List.map_drop,List.map_take]
theorem d5n(n:Nat)(z:Int):(Q7 n [Kn .i64 z]).flatten=a1Q (Q7 n z):=by
 induction n with
 | zero=>rfl
 | succ n ih=>rw[QC,QX,ih];rfl
theorem a7O{i len h o cap sz off:Nat}(hi:i<len):a4f (i:Int) sz off (.msl h o len cap sz)=sm (.obj h (o+(i*sz+off))):=by
 simp[a4f,hi]
theorem f0J{i len h sz off:Nat}(hi:i<len):a4f (i:Int) sz off (.rsl h len sz)=sm (.elt h len i sz off):=by
 simp[a4f,hi]
theorem d9k(k:Nat)(l:List Int):K1 k (a1Q l)=tt:=by
 induction l with
 | nil=>rfl
 | cons z l ih=>simpa[a1Q,K1,XK] using ih
theorem d9Z(k:Nat)(look:Nat->Option MO)(l:List Int):Kh k look (a1Q l)=sm (a1Q l):=PV.frzs_low _ (d9k k l)
theorem d7z(l:List Int):a8y 1 l.length (a1Q l)=sm (a4R l):=by
 induction l with
 | nil=>rfl
 | cons z l ih =>
  have e1:a1Q (z::l)=Kn .i64 z::a1Q l:=rfl;rw[Qt,a8y,e1];have e2:List.drop 1 (Kn .i64 z::a1Q l)=a1Q l:=rfl;have e3:List.take 1 (Kn .i64 z::a1Q l)=[Kn .i64 z]:=rfl;rw[e2,e3,ih,XJ ⟨by simp,by simp[K5]⟩];rfl
def c0I(σ:List MO):Prop:=∀k,σ.length<=k->σ.all (K4 k)=tt
theorem c0I.snoc{σ:List MO}(h:c0I σ)(l:List Int)(T:Nat):c0I (σ++[.cells (a1Q l) T]):=fun k hk=>by
 rw[List.all_append,h k (by simp at hk;omega)];simp[K4,d9k]
theorem f3m{α:Type}(σ:List α)(A B C:α)(r:List α):(σ++A::B::C::r)[σ.length+2]?=sm C:=by
 rw[Qd (by omega)];simp
theorem f5N{α:Type}(σ:List α)(A B C X:α)(r:List α):(σ++A::B::C::r).set (σ.length+2) X=σ++A::B::X::r:=by
 rw[XC _ _ (by omega)];simp
theorem e8f{α:Type}{σ r:List α}{h:Nat}{A:α}(e:σ[h]?=sm A):(σ++r)[h]?=sm A:=by
 rw[Q8 (Q4.1 e).1];exact e
theorem d4H(ks:List Int)(x:PV)(z:Int):a5o ks (Q7 ks.length x) z=if z∈ks then sm x else nn:=by
 induction ks with
 | nil=>rfl
 | cons k ks ih =>
  rw[Qt,QC,a5o,ih];by_cases h:k=z
  ·subst h;simp
  ·have:¬z=k:=fun e=>h e.symm
   simp[h,this]
theorem e5a(ks:List Int)(x:PV)(z:Int)(h:z∉ks):a7V ks (Q7 ks.length x) z x=(ks++[z],Q7 (ks.length+1) x):=by
 induction ks with
 | nil=>rfl
 | cons k ks ih =>
  rw[Q9,not_or] at h;have:¬k=z:=fun e=>h.1 e.symm
  rw[Qt,QC,a7V,ih h.2,XS this];simp[QC]
def at'(l:List Int)(i:Nat):Int:=(l[i]?).getD 0
theorem b2H{l:List Int}{i:Nat}(h:i<l.length):l[i]?=sm (at' l i):=by simp[at',h]
theorem e0i{l:List Int}{b:Nat}(x:Int)(h:b<l.length)(i:Nat):at' (l.set b x) i=if i=b then x else at' l i:=by
 simp only[at',Qy];by_cases e:b=i
 ·subst e;simp[h]
 ·have:¬i=b:=fun q=>e q.symm
  simp[e,this]
end Go.Sx
namespace Go.Bf
structure EInv (n m:Nat)(src dst:Nat->Nat)(ed:Nat->Prop)(wt:Nat->Int)(u:Nat->Int)(c t pe:Nat->Nat)(T r q:Nat):Prop where
 par:∀x,x<n->c x≠0->pe x<m/\ed (pe x)/\dst (pe x)=x/\src (pe x)<n/\src (pe x)≠x/\u (src (pe x))+wt (pe x)<=u x/\(t x<t (src (pe x))->u (src (pe x))+wt (pe x)<u x)/\c x<=c (src (pe x))+1
 uniq:∀x y,x<n->y<n->c x≠0->c y≠0->t x=t y->x=y
 tle:∀x,x<n->t x<=T
 cle:∀x,x<n->c x<=r
 done:∀e,e<q->ed e->u (dst e)<=u (src e)+wt e\/c (src e)=r
 todo:∀e,e<m->ed e->u (dst e)<=u (src e)+wt e\/r<=c (src e)+1
 low:∀x,x<n->-(24000000*(T:Int))<=u x/\u x<=0
section
variable {n m:Nat}{src dst:Nat->Nat}{ed:Nat->Prop}{wt:Nat->Int}{u:Nat->Int}{c t pe:Nat->Nat}{T r q:Nat}
theorem EInv.start(n m:Nat)(src dst:Nat->Nat)(ed:Nat->Prop)(wt:Nat->Int)(u:Nat->Int)(hu:∀x,x<n->u x=0):EInv n m src dst ed wt u (fun _=>0) (fun _=>0) (fun _=>0) 0 1 0 where
 par:=fun x _ h=>XW rfl h
 uniq:=fun x y _ _ h=>XW rfl h
 tle:=fun x _=>Qa _
 cle:=fun x _=>Nat.zero_le _
 done:=fun e h=>by omega
 todo:=fun e _ _=>.inr (by omega)
 low:=fun x hx=>by rw[hu x hx];omega
theorem EInv.keep(h:EInv n m src dst ed wt u c t pe T r q)(hb:ed q->u (dst q)<=u (src q)+wt q):EInv n m src dst ed wt u c t pe (T+1) r (q+1) where
 par:=h.par
 uniq:=h.uniq
 tle:=fun x hx=>X4 (h.tle x hx)
 cle:=h.cle
 done:=fun e he hed=>by
  by_cases hq:e=q
  ·subst hq;exact .inl (hb hed)
  ·exact h.done e (by omega) hed
 todo:=h.todo
 low:=fun x hx=>by have:=h.low x hx;omega
theorem EInv.lower(h:EInv n m src dst ed wt u c t pe T r q)(hq:q<m)(hed:ed q)(hs:src q<n)(hd:dst q<n)(hr:1<=r)(hg:-24000000<=wt q)(hself:src q=dst q->0<=wt q)(hb:u (src q)+wt q<u (dst q)) :
  EInv n m src dst ed wt (upd u (dst q) (u (src q)+wt q)) (upd c (dst q) r) (upd t (dst q) (T+1)) (upd pe (dst q) q) (T+1) r (q+1):=by
 have hab:src q≠dst q:=by intro e;have:=hself e;rw[e] at hb;omega
 have hcr:r<=c (src q)+1:=by
  rcases h.todo q hq hed with h1|h1
  ·omega
  ·exact h1
 refine⟨?_,?_,?_,?_,?_,?_,?_⟩
 ·intro x hx hcx
  by_cases hxb:x=dst q
  ·subst hxb
   rw[a3j];refine⟨hq,hed,rfl,hs,hab,?_,?_,?_⟩
   ·rw[a3j,a1H u _ hab];omega
   ·intro ht
    rw[a3j,a1H t _ hab] at ht;have:=h.tle _ hs;omega
   ·rw[a3j,a1H c _ hab];exact hcr
  ·rw[a1H c _ hxb] at hcx
   rw[a1H pe _ hxb];obtain⟨p1,p2,p3,p4,p5,p6,p7,p8⟩:=h.par x hx hcx;refine⟨p1,p2,p3,p4,p5,?_,?_,?_⟩
   ·rw[a1H u _ hxb]
    by_cases hpb:src (pe x)=dst q
    ·rw[hpb,a3j];rw[hpb] at p6;omega
    ·rw[a1H u _ hpb];exact p6
   ·rw[a1H u _ hxb,a1H t _ hxb]
    by_cases hpb:src (pe x)=dst q
    ·rw[hpb,a3j,a3j];rw[hpb] at p6;intro _;omega
    ·rw[a1H u _ hpb,a1H t _ hpb];exact p7
   ·rw[a1H c _ hxb]
    by_cases hpb:src (pe x)=dst q
    ·rw[hpb,a3j];have:=h.cle x hx;omega
    ·rw[a1H c _ hpb];exact p8
 ·intro x y hx hy hcx hcy ht
  by_cases hxb:x=dst q
  ·by_cases hyb:y=dst q
   ·omega
   ·rw[hxb,a3j,a1H t _ hyb] at ht
    have:=h.tle y hy;omega
  ·by_cases hyb:y=dst q
   ·rw[hyb,a3j,a1H t _ hxb] at ht
    have:=h.tle x hx;omega
   ·rw[a1H t _ hxb,a1H t _ hyb] at ht
    rw[a1H c _ hxb] at hcx;rw[a1H c _ hyb] at hcy;exact h.uniq x y hx hy hcx hcy ht
 ·intro x hx
  by_cases hxb:x=dst q
  ·rw[hxb,a3j];omega
  ·rw[a1H t _ hxb];have:=h.tle x hx;omega
 ·intro x hx
  by_cases hxb:x=dst q
  ·rw[hxb,a3j];omega
  ·rw[a1H c _ hxb];exact h.cle x hx
 ·intro e he hede
  by_cases hxb:src e=dst q
  ·right;rw[hxb,a3j]
  ·rw[a1H c _ hxb,a1H u _ hxb]
   by_cases hyb:dst e=dst q
   ·rw[hyb,a3j]
    by_cases heq:e=q
    ·subst heq;left;omega
    ·rcases h.done e (by omega) hede with h1|h1
     ·left;rw[hyb] at h1;omega
     ·exact .inr h1
   ·rw[a1H u _ hyb]
    have heq:e≠q:=fun h=>hyb (by rw[h])
    exact h.done e (by omega) hede
 ·intro e he hede
  by_cases hxb:src e=dst q
  ·right;rw[hxb,a3j];omega
  ·rw[a1H c _ hxb,a1H u _ hxb]
   by_cases hyb:dst e=dst q
   ·rw[hyb,a3j]
    rcases h.todo e he hede with h1|h1
    ·left;rw[hyb] at h1;omega
    ·exact .inr h1
   ·rw[a1H u _ hyb];exact h.todo e he hede
 ·intro x hx
  have h1:=h.low _ hs;have h2:=h.low _ hd;by_cases hxb:x=dst q
  ·rw[hxb,a3j];omega
  ·rw[a1H u _ hxb];have:=h.low x hx;omega
theorem EInv.round(h:EInv n m src dst ed wt u c t pe T r m):EInv n m src dst ed wt u c t pe T (r+1) 0 where
 par:=h.par
 uniq:=h.uniq
 tle:=h.tle
 cle:=fun x hx=>X4 (h.cle x hx)
 done:=fun e he=>by omega
 todo:=fun e he hed=>by
  rcases h.done e he hed with h1|h1
  ·exact .inl h1
  ·right;omega
 low:=h.low
theorem EInv.stable(h:EInv n m src dst ed wt u c t pe T r m)(hs:∀e,e<m->src e<n)(hc:∀x,x<n->c x≠r):∀e,e<m->ed e->u (dst e)<=u (src e)+wt e:=by
 intro e he hed;rcases h.done e he hed with h1|h1
 ·exact h1
 ·exact XW h1 (hc _ (hs e he))
theorem EInv.none(h:EInv n m src dst ed wt u c t pe T r q){z:Nat}(hz:z<n)(hc:c z=r)(hr:n<=r)(π:Nat->Int)(hπ:∀e,e<m->ed e->π (dst e)<=π (src e)+wt e):False:=by
 have hfin:Fin n (fun x y=>if c y≠0/\x=src (pe y) then wt (pe y) else π y-π x) u (fun x=>(src (pe x):Int)) c t z:=by
  refine⟨?_,h.uniq,hz,by omega⟩;intro x hx hcx;obtain⟨p1,p2,p3,p4,p5,p6,p7,p8⟩:=h.par x hx hcx;refine⟨src (pe x),p4,rfl,p5,?_,?_,p8⟩
  ·show u (src (pe x))+(if c x≠0/\src (pe x)=src (pe x) then wt (pe x) else π x-π (src (pe x)))<=u x
   rw[XJ ⟨hcx,rfl⟩];exact p6
  ·show t x<t (src (pe x))->u (src (pe x))+(if c x≠0/\src (pe x)=src (pe x) then wt (pe x) else π x-π (src (pe x)))<u x
   rw[XJ ⟨hcx,rfl⟩];exact p7
 refine hfin.none π fun x y hx hy=>?_
 show π y<=π x+(if c y≠0/\x=src (pe y) then wt (pe y) else π y-π x);split
 ·rename_i hh
  obtain⟨p1,p2,p3,_⟩:=h.par y hy hh.1;have:=hπ _ p1 p2;rw[p3,<- hh.2] at this;exact this
 ·omega
end
end Go.Bf
namespace Go.Sx
open Go.RowKit
mutual
def PV.plain:PV->Bool
 | .int ..|.bool ..|.str ..|.undef|.nilS|.nilF|.nilP|.nilI|.nilM=>tt
 | .agg l=>PV.plains l
 | .tup l=>PV.plains l
 | _=>ff
def PV.plains:List PV->Bool
 | []=>tt
 | p::l=>p.plain&&PV.plains l
end
mutual
theorem e2Z{s t:Hp}{B C:Inf}:∀(p:PV) (v:Value),p.plain=tt->Rep s B p v->Rep t C p v
 | .int ..,_,_,h=>h
 | .bool ..,_,_,h=>h
 | .str ..,_,_,h=>h
 | .undef,_,_,h=>h
 | .nilS,_,_,h=>h
 | .nilF,_,_,h=>h
 | .nilP,_,_,h=>h
 | .nilI,_,_,h=>h
 | .nilM,_,_,h=>h
 | .agg l,v,hp,h=>by
  simp only[PV.plain] at hp;simp only[Rep] at h ⊢;obtain⟨vs,h1,h2⟩:=h;exact⟨vs,h1,d3m l vs hp h2⟩
 | .tup l,v,hp,h=>by
  simp only[PV.plain] at hp;simp only[Rep] at h ⊢;obtain⟨vs,h1,h2⟩:=h;exact⟨vs,h1,d3m l vs hp h2⟩
theorem d3m{s t:Hp}{B C:Inf}:∀(l:List PV) (vs:List Value),PV.plains l=tt->Reps s B l vs->Reps t C l vs
 | [],_,_,h=>h
 | p::l,vs,hp,h=>by
  simp only[PV.plains,Q6] at hp;simp only[Reps] at h ⊢;obtain⟨v,r,h1,h2,h3⟩:=h;exact⟨v,r,h1,e2Z p v hp.1 h2,d3m l r hp.2 h3⟩
end
def e8I(σ:List MO):PV->Option PV
 | .rsl h len sz=>(σ[h]?).bind fun o=>(o.elts len sz).bind fun rows=>if K3 0 rows then sm (.sl sz rows) else nn
 | .rpl h len r sz=>(σ[h]?).bind fun o=>(o.elts r sz).bind fun rows=>if K3 0 rows then sm (.sl sz (rows.take len)) else nn
 | p=>if p.low 0 then sm p else nn
def d0x(σ:List MO):List PV->Option (List PV)
 | []=>sm []
 | p::l=>(e8I σ p).bind fun q=>(d0x σ l).map (q::·)
theorem e2K{s:Hp}{B:Inf}{σ:List MO}{m:MS}{w:World}(hm:a1v s B σ m)(hok:MOk s m w){h len sz:Nat}{o:MO}{rows:List (List PV)}(ho:σ[h]?=sm o)(he:o.elts len sz=sm rows) :
  ∃b cur T xs,m[h]?=sm (b,.cells cur T (0,0))/\rows.length=len/\a2P o (b,.cells cur T (0,0))=(b,cur.size,len)/\a1t s B rows xs/\(∀r∈rows,∀p∈r,p.one=tt)/\(∀x∈xs,x.length=sz)/\(∀(i:Nat) x,xs[i]?=sm x->∀(j:Nat) u,x[j]?=sm u->hpOf w b (0+i*sz+j)=sm u):=by
 cases o<;>simp only[XZ,reduceCtorEq] at he
 rename_i rows' sz' T;split at he
 case isFalse=>cases he
 rename_i hc;obtain⟨rfl,rfl⟩:=hc;simp only[Q0] at he;subst he;obtain⟨⟨b,ob⟩,h1,cur,h2,a1,a2,a3,a4,xs,a5,a6,a7⟩:=hm.obj ho;simp only at h2;subst h2;refine⟨b,cur,T,xs,h1,rfl,rfl,a5,a4,a6,fun i x hi j u hj=>?_⟩;have hcell:=hok.is _ (Qq h1);simp only at hcell;have:=a7 _ u (b4i _ xs a6 i x j u hi hj);simp only[hpOf,World.cell?,hcell,Qm,XD,Qh,XX];exact this
theorem f1G{s:Hp}{B:Inf}{w:World}(hs:Sub s w){p:PV}{v:Value}(h:Rep s B p v)(hl:p.low 0=tt):Rep (hpOf w) [] p v:=by
 have:=PV.low_rep (k:=0) p v h hl;rw[XG] at this;exact Rep.mono (fun b o u hu=>hs b o u hu) (Km _) p v this
theorem d9Y{s:Hp}{B:Inf}{w:World}(hs:Sub s w){rows:List (List PV)}{xs:List (List Value)}(h:a1t s B rows xs)(hl:K3 0 rows=tt):a1t (hpOf w) [] rows xs:=by
 have:=PV.lowss_rep (k:=0) rows xs h hl;rw[XG] at this;exact Kx (fun b o u hu=>hs b o u hu) (Km _) rows xs this
theorem f1B{s:Hp}{σ:List MO}{m:MS}{w:World}(hs:Sub s w)(hok:MOk s m w)(hm:a1v s (inf σ m) σ m){p q:PV}{v:Value}(h:Rep s (inf σ m) p v)(hq:e8I σ p=sm q):Rep (hpOf w) [] q v:=by
 have other:(if p.low 0 then sm p else nn)=sm q->Rep (hpOf w) [] q v:=fun hq=>by
  split at hq
  ·rename_i hl
   simp only[Q0] at hq;subst hq;exact f1G hs h hl
  ·cases hq
 cases p<;>simp only[e8I] at hq
 case rsl hd len sz =>
  simp only[Q1] at hq;obtain⟨o,ho,rows,he,hq⟩:=hq;split at hq
  case isFalse=>cases hq
  rename_i hl;simp only[Q0] at hq;subst hq;obtain⟨b,cur,T,xs,h1,h2,h3,h4,h5,h6,h7⟩:=e2K hm hok ho he;have hI:=a3a ho h1;simp only[Rep] at h ⊢;obtain⟨h0,b1,cap,rfl,b',n,r,k1,k2,k3⟩:=h;rw[hI,h3] at k1;simp only[Q0,Q3] at k1;obtain⟨rfl,rfl,rfl⟩:=k1;obtain⟨rfl,_,hcap⟩:=k3 rfl;have hlx:=h4.length;exact⟨xs,⟨h6,sm ⟨b,0,nn⟩,cap,by rw[hlx,h2],by rw[hlx,h2];exact hcap,fun _=>⟨b,0,rfl,h7⟩⟩,d9Y hs h4 hl,h5⟩
 case rpl hd len r0 sz =>
  simp only[Q1] at hq;obtain⟨o,ho,rows,he,hq⟩:=hq;split at hq
  case isFalse=>cases hq
  rename_i hl;simp only[Q0] at hq;subst hq;obtain⟨b,cur,T,xs,h1,h2,h3,h4,h5,h6,h7⟩:=e2K hm hok ho he;have hI:=a3a ho h1;simp only[Rep] at h ⊢;obtain⟨h0,hlr,b1,cap,rfl,b',n,r,k1,k2,k3⟩:=h;rw[hI,h3] at k1;simp only[Q0,Q3] at k1;obtain⟨rfl,rfl,rfl⟩:=k1;obtain⟨rfl,_,hcap⟩:=k3 rfl;have hlx:=h4.length;refine⟨xs.take len,⟨fun x hx=>h6 x (Qr hx),sm ⟨b,0,nn⟩,cap,by rw[Qn,hlx,h2,QW hlr],by rw[Qn,hlx];omega,fun _=>⟨b,0,rfl,fun i x hi j u hj=>?_⟩⟩,(d9Y hs h4 hl).take len,fun r hr=>h5 r (Qr hr)⟩
  have hi':xs[i]?=sm x:=by
   rw[Qj] at hi;split at hi
   ·exact hi
   ·cases hi
  exact h7 i x hi' j u hj
 all_goals exact other hq
theorem d9O{s:Hp}{σ:List MO}{m:MS}{w:World}(hs:Sub s w)(hok:MOk s m w)(hm:a1v s (inf σ m) σ m):∀{l q:List PV} {vs:List Value},Reps s (inf σ m) l vs->d0x σ l=sm q->Reps (hpOf w) [] q vs
 | [],q,vs,h,hq=>by simp only[d0x,Q0] at hq;subst hq;exact h
 | p::l,q,vs,h,hq=>by
  simp only[d0x,Q1,Q2] at hq;obtain⟨p',h1,l',h2,rfl⟩:=hq;simp only[Reps] at h ⊢;obtain⟨v,r,h3,h4,h5⟩:=h;exact⟨v,r,h3,f1B hs hok hm h4 h1,d9O hs hok hm h5 h2⟩
def e3D(F:List PV->List MO->Option (PV×List MO))(aa:List PV)(σ:List MO):Option (PV×List MO) :=
 (d0x σ aa).bind fun aa'=>match F aa' [] with
  | some (r,[])=>if r.plain=tt then sm (r,σ) else nn
  | _=>nn
theorem f4C{P:Program}{f:Nat}{F:List PV->List MO->Option (PV×List MO)}(hF:CtP P f F):CtP P f (e3D F):=by
 intro aa σ r σ' h;unfold e3D at h;rw[Q1] at h;obtain⟨aa',ha,h⟩:=h;split at h
 case h_2=>cases h
 rename_i r0 hr;split at h
 case isFalse=>cases h
 rename_i hp;simp only[Q0,Q3] at h;obtain⟨rfl,rfl⟩:=h;refine⟨(hF _ _ _ _ hr).1,fun s m vs hm hcoh hv w hs hok=>?_⟩;have hrep:=d9O hs hok hm hv ha;have hc:=(hF _ _ _ _ hr).2 (hpOf w) [] vs rfl (Kv (by simp)) hrep w (e3U w) ⟨by simp[a2d],by simp,by simp⟩;refine hc.mono ?_;rintro e w' ⟨v,s',m',he,hg,hle,hsub,hnew,hpos,hmok,hq⟩;refine⟨v,s,m,he,⟨hg.os,hg.tape,hg.output,hg.size,fun k hk _=>hg.block k hk (by simp[a2d])⟩,XV s,fun b o u hu=>hsub b o u (hle b o u (hs b o u hu)),(fun b o u h1 h2=>by rw[h1] at h2;cases h2),⟨Qa _,fun i x hx=>.inl ⟨x,hx,rfl⟩⟩,⟨hok.nd,fun x hx=>?_,hok.un⟩,Le2.refl _ _,?_,hm,hcoh⟩
 ·have h1:=hok.is x hx
  rw[hg.block x.1 (Xa.1 h1).1 (by simp[a2d])];exact h1
 ·exact e2Z r0 v hp hq.2.1
end Go.Sx
