/- The clock's law: what its operations do, without the program. -/
import Derived.Test.YtmekflfjaflmkaaGreatHRvb
import Derived.Test.YtmekflfjaflmkaaGreatHCkA
import Derived.Test.YtmekflfjaflmkaaGreatRows
import Derived.WalkKit
import Derived.ProofKit
import Derived.OpenShut
import Derived.JoinedCond
import Derived.ShutString
set_option linter.unusedSimpArgs false
set_option linter.unusedVariables false
set_option linter.unusedSectionVars false
open Option renaming bind_some → Q0, map_some → Q1, bind_eq_bind → X7, pure_def → X8, bind → Xc, getD_some → Xx
open Bool renaming false_eq_true → Q2, and_self → Qa, not_true → Qk, not_false → Qu, and_eq_true → Qy, true_and → QD, false_and → QE, true_or → QZ, not_eq_true → X4, false_or → Xh, and_true → Xu, eq_iff_iff → XJ
open List renaming getD_cons_zero → Q3, nil_append → Q4, getD_cons_succ → Q5, cons_append → Q6, getElem?_cons_zero → Q7, append_nil → Q8, map_cons → Q9, map_nil → Qb, getElem?_cons_succ → Qd, length_cons → Qe, length_nil → Qf, getElem?_set_ne → Qh, replicate → Qj, getElem?_eq_some_iff → Qn, length_set → Qp, getElem?_append_left → Qq, drop_zero → Qr, flatten_cons → Qs, mem_of_getElem? → Qt, length_append → Qv, all_eq_true → Qw, length_map → Qz, map → QB, take_zero → QC, length_singleton → QH, take_succ_cons → QK, take_of_length_le → QM, append_assoc → QN, getElem?_set_self → QP, getElem?_map → QQ, length_take → QS, mem_or_eq_of_mem_set → QU, replicate_succ → QV, all_append → QX, mem_of_mem_take → QY, length_drop → X1, all_cons → X2, getElem?_append_right → X3, mapM_cons → X5, mapM_nil → X6, all_nil → Xb, ext_getElem? → Xe, getElem?_set → Xf, mem_append → Xg, take_left' → Xj, drop_eq_nil_of_le → Xk, set_cons_zero → Xn, drop_left' → Xp, map_set → Xq, getElem?_of_mem → Xs, length_pos_iff → Xv, getLast?_eq_getElem? → Xw, mem_singleton → Xy, drop_append → Xz, take_append → XA, drop_eq_getElem_cons → XC, getElem?_eq_getElem → XD, drop_drop → XE, drop_take → XF, take_take → XG, foldl_cons → XH, set_append_right → XK, take_length → XM, take_add_one → XN, map_append → XP, set_append_left → XQ, map_replicate → XR
open Nat renaming zero_add → Qg, le_refl → Qm, add_zero → QL, add_mul → X0, add_sub_cancel_left → X9, min_eq_left → Xa, sub_self → Xd, le_succ → Xr, min_self → Xt
open Int renaming toNat_natCast → QA, tdiv → QW
open Option.some renaming injEq → QJ
set_option maxRecDepth 100000
namespace Go.Proofs.YtmekflfjaflmkaaGreat
open Go.Sx
structure Rn where
 (p:W6) (ask got:List W6) (bid:List Bool)
structure Ck where
 (cl:List Rn) (p:W6) (ask:List W6) (bid out:List Bool) (over:Bool)
structure Po where
 (st pc un ru:Int)
def Po.row(o:Po):List PV:=[.int .i64 o.st,.int .i64 o.pc,.int .i64 o.un,.int .i64 o.ru]
def Po.ok(o:Po):Prop:=1<=o.st/\o.st<=1000000/\0<=o.pc/\o.pc<=100/\1<=o.un/\o.un<=3/\1<=o.ru/\o.ru<=3
instance (o:Po):Decidable o.ok:=by unfold Po.ok;infer_instance
def c8i(f:Int->Int->Int)(a b:W6):W6:=⟨f a.a b.a,f a.b b.b,f a.c b.c,f a.d b.d,f a.e b.e,f a.f b.f⟩
def b8e(a b:W6):W6:=⟨a.a+b.a,a.b+b.b,a.c+b.c,a.d+b.d,a.e+b.e,a.f+b.f⟩
def b1A(l:List W6):W6:=l.foldl b8e w0
def exI(s t:Int):Int:=if s<t then t-s else 0
def exW(s:W6)(l:List W6):W6:=c8i exI s (b1A l)
def rsI(o:Po)(p:Int):Int:=p+o.st+QW (p*o.pc+99) 100
def rsW(o:Po)(p ex:W6):W6:=c8i (fun x e=>if 0<e then rsI o x else x) p ex
def rfI(s t n a:Int):Bool:=ltB a n&&ltB (t-n+a) s
def rfW(s t n a:W6):Bool:=rfI s.a t.a n.a a.a||(rfI s.b t.b n.b a.b||(rfI s.c t.c n.c a.c||(rfI s.d t.d n.d a.d||(rfI s.e t.e n.e a.e||rfI s.f t.f n.f a.f))))
def paI(s t n a:Int):Int:=if a<n then n-mnI (n-a) (mxI (t-s) 0) else a
def paW(s t n a:W6):W6:=⟨paI s.a t.a n.a a.a,paI s.b t.b n.b a.b,paI s.c t.c n.c a.c,paI s.d t.d n.d a.d,paI s.e t.e n.e a.e,paI s.f t.f n.f a.f⟩
def pick(un:Int)(s t n a:W6):W6:=if un=2 then(if rfW s t n a=true then n else a) else if un=3 then paW s t n a else a
def apN(un:Int)(s:W6)(asked out:List W6):Nat->List W6
 | 0=>out
 | i+1=>(apN un s asked out i).set i (pick un s (b1A (apN un s asked out i)) (wa (apN un s asked out i) i) (wa asked i))
def apW(un:Int)(s:W6)(before asked:List W6):List W6:=apN un s asked before asked.length
variable (ps:List Pr)(bs:List Bd)(cs ad:List Tri)(o:Po)
noncomputable def agB(l:List Ch):Bool:=@decide ((∀y∈l,y.ok)/\Pot l) (Classical.propDecidable _)
theorem d3W(l:List Ch):agB l=true↔(∀y∈l,y.ok)/\Pot l:=by unfold agB;rw[@decide_eq_true_iff]
namespace Ck
def has(c:Ck)(i:Int):Bool:=leB 0 i&&ltB i (c.out.length:Int)
def chs(c:Ck)(i:Nat):List Ch:=c.cl.map fun r=>⟨r.p,wa r.ask i⟩
def blank(c:Ck):Ck:={c with ask:=Qj c.out.length w0,bid:=Qj c.out.length false}
def stop(c:Ck):Ck×Int:=if c.over=true then(c,10) else({c.blank with over:=true},0)
def drop(c:Ck)(i:Int):Ck×Int :=
 if c.has i=true then(if c.out[i.toNat]?=some true then(c,10) else({c with out:=c.out.set i.toNat true,ask:=c.ask.set i.toNat w0,bid:=c.bid.set i.toNat false},0)) else(c,6)
def reset(c:Ck)(r:Int):Ck×Int :=
 if r<0 then(c,4) else if (c.cl.length:Int)<r then(c,4) else if r=(c.cl.length:Int)/\c.over=true then(c,4) else
  ({c.blank with p:=((c.cl[r.toNat]?).map Rn.p).getD c.p,cl:=c.cl.take r.toNat,over:=false},0)
def prev(c:Ck):List W6:=((c.cl.getLast?.map Rn.got).getD []).zipIdx.map fun x=>if c.out[x.2]?=some true then w0 else x.1
end Ck
noncomputable def b3r(s:St)(c:Ck)(i:Int)(w:W6):Int :=
 if c.over=true then 10 else if c.has i=true then(if c.out[i.toNat]?=some true then 10 else
  if a6I ps bs cs ad i w=0 then(if c1N s i ⟨c.p,w⟩=0 then c5C s o.ru i (c.chs i.toNat) ⟨c.p,w⟩ (agB (c.chs i.toNat++[⟨c.p,w⟩])) else c1N s i ⟨c.p,w⟩) else a6I ps bs cs ad i w) else 6
noncomputable def Ck.doBid(s:St)(c:Ck)(i:Int)(w:W6):Ck×Int :=
 if b3r ps bs cs ad o s c i w=0 then({c with ask:=c.ask.set i.toNat w,bid:=c.bid.set i.toNat true},0) else(c,b3r ps bs cs ad o s c i w)
def Ck.gots(c:Ck):List W6:=if c.cl=[] then c.ask else apW o.un (a1w ps) c.prev c.ask
def Ck.ex(c:Ck):W6:=exW (a1w ps) (c.gots ps o)
def Ck.nextP(c:Ck):W6:=rsW o c.p (c.ex ps o)
def Ck.ends(c:Ck):Bool:=(c.ex ps o).isZ||(leB 30 (c.cl.length+1:Int)||!decide (c.nextP ps o).pok)
def Ck.close(c:Ck):Ck×Bool×Int :=
 if c.over=true then(c,false,10) else
  if c.ends ps o=true then({c.blank with cl:=c.cl++[⟨c.p,c.ask,c.gots ps o,c.bid⟩],over:=true},true,0)
  else({c.blank with cl:=c.cl++[⟨c.p,c.ask,c.gots ps o,c.bid⟩],p:=c.nextP ps o},false,0)
end Go.Proofs.YtmekflfjaflmkaaGreat
set_option maxRecDepth 100000
namespace Go.Proofs.YtmekflfjaflmkaaGreat
open Go.Sx
theorem c4b{α:Type}{sz:Nat}:∀(rows:List (List α)) (_:∀r∈rows,r.length=sz) (i:Nat) (r:List α),rows[i]?=some r->(rows.flatten.drop (i*sz)).take sz=r/\i*sz+sz<=rows.flatten.length
 | [],_,i,r,h=>by simp at h
 | r0::rows,hl,0,r,h=>by
  simp only[Q7,QJ] at h;subst h;have h0:=hl r0 (by simp);rw[Nat.zero_mul,Qr,Qs,Xj h0,Qv];exact⟨rfl,by omega⟩
 | r0::rows,hl,i+1,r,h=>by
  have h0:=hl r0 (by simp);obtain⟨h1,h2⟩:=c4b rows (fun q hq=>hl q (by simp[hq])) i r (by simpa using h);rw[Qs,show (i+1)*sz=r0.length+i*sz by rw[h0,X0];omega,Xz,Qv];refine⟨?_,by omega⟩;rw[Xk (by omega),Q4,X9];exact h1
theorem b7B{sz:Nat}:∀(rows:List (List PV)) (_:∀r∈rows,r.length=sz) (i:Nat) (_:i<rows.length) (x:List PV),x.length=sz->a2q rows.flatten (i*sz) x=(rows.set i x).flatten
 | [],_,i,h,_,_=>by simp at h
 | r0::rows,hl,0,_,x,hx=>by
  have h0:=hl r0 (by simp);unfold a2q;rw[Nat.zero_mul,QC,Q4,Qg,Qs,Xn,Qs,Xp (by omega)]
 | r0::rows,hl,i+1,h,x,hx=>by
  have h0:=hl r0 (by simp);have ih:=b7B rows (fun q hq=>hl q (by simp[hq])) i (by simpa using h) x hx;rw[List.set_cons_succ,Qs,Qs,<- ih];unfold a2q;rw[show (i+1)*sz=r0.length+i*sz by rw[h0,X0];omega,XA,QM (by omega),X9,Nat.add_assoc,Xz,Xk (by omega),Q4,X9];simp only[QN]
theorem b6f(w:W6):w.pv.length=6:=rfl
theorem c7I(l:List W6):∀r∈l.map W6.pv,r.length=6:=fun r hr=>by obtain⟨w,_,rfl⟩:=List.mem_map.1 hr;rfl
theorem a9y{n:Nat}{l:List PV}{r:List PV}(h:l.take n=r)(hl:n<=l.length):a0z n l=some r:=by unfold a0z;rw[if_pos hl,h]
theorem b2t(l:List W6):(l.map W6.pv).flatten.length=l.length*6:=by
 induction l with
 | nil=>rfl
 | cons w l ih=>rw[Q9,Qs,Qv,ih,b6f,Qe];omega
theorem b9t(l:List W6){i:Nat}(hi:i<l.length)(w:W6):a2q (l.map W6.pv).flatten (i*6) w.pv=((l.set i w).map W6.pv).flatten:=by
 rw[b7B (l.map W6.pv) (c7I l) i (by simpa using hi) w.pv rfl,Xq]
theorem c2n(l:List Bool){i:Nat}{b:Bool}(h:l[i]?=some b):a0z 1 ((l.map PV.bool).drop i)=some [.bool b]:=by
 have hi:=(Qn.1 h).1;have h1:(l.map PV.bool)[i]?=some (.bool b):=by rw[QQ,h];rfl
 refine a9y ?_ (by simp;omega);rw[XC (by simpa using hi)];simp only[QK,QC];rw[XD (by simpa using hi)] at h1;simpa using h1
theorem b9L(l:List Bool){i:Nat}(hi:i<l.length)(b:Bool):a2q (l.map PV.bool) i [.bool b]=(l.set i b).map PV.bool:=by
 unfold a2q;rw[Xq,List.set_eq_take_append_cons_drop,if_pos (by simpa using hi)];simp
def Low(σ:List MO):Prop:=σ.all (MO.low σ.length)=true
theorem Low.set{σ:List MO}(h:Low σ){x:Nat}{m:MO}(hm:m.low σ.length=true):Low (σ.set x m):=by
 unfold Low;rw[Qp];refine Qw.2 fun y hy=>?_
 rcases QU hy with hy|rfl
 ·exact Qw.1 h y hy
 ·exact hm
theorem Low.app{σ:List MO}(h:Low σ){m:MO}(hm:m.low (σ.length+1)=true):Low (σ++[m]):=by
 unfold Low;rw[Qv,QH,QX,Qy];refine⟨Qw.2 fun y hy=>MO.low_mono (Xr _) (Qw.1 h y hy),?_⟩;simpa using hm
theorem Low.get{σ:List MO}(h:Low σ){x:Nat}{m:MO}(hx:σ[x]?=some m):m.low σ.length=true:=Qw.1 h m (Qt hx)
theorem Low.flat{σ:List MO}(h:Low σ):b0b σ:=fun k hk=>Qw.2 fun y hy=>MO.low_mono hk (Qw.1 h y hy)
theorem a5K(k:Nat)(l:List W6)(T:Nat):(MO.cells (l.map W6.pv).flatten T).low k=true:=by
 show PV.lows k (l.map W6.pv).flatten=true
 induction l with
 | nil=>rfl
 | cons w l ih=>rw[Q9,Qs];simpa[W6.pv,PV.lows,PV.low] using ih
theorem a6O(k:Nat)(l:List Bool)(T:Nat):(MO.cells (l.map PV.bool) T).low k=true:=by
 show PV.lows k (l.map PV.bool)=true
 induction l with
 | nil=>rfl
 | cons w l ih=>rw[Q9];simpa[PV.lows,PV.low] using ih
theorem d1F(k:Nat)(l:List W6)(T:Nat):(MO.row (l.map W6.pv) 6 T).low k=true:=by
 show PV.lowss k (l.map W6.pv)=true
 induction l with
 | nil=>rfl
 | cons w l ih=>rw[Q9];simpa[W6.pv,PV.lowss,PV.lows,PV.low] using ih
structure BRd (σ:List MO)(v:PV)(l:List W6):Prop where
 kind:v.isKind 0=true
 one:v.one=true
 len:v.len=(l.length:Int)
 rd:∀(i:Nat) (w:W6),l[i]?=some w->∃L:Nat->Sx.Loc,∀off n,off+n<=6->a1D (i:Int) 6 off v=some (L off)/\∀(is:List Int) (bs:List Bool) (vs:List PV) (k:Nat),a0e {i:=is,b:=bs,v:=vs,m:=σ,k:=k} false n (L off)=some ((w.pv.drop off).take n)
def BSl(σ:List MO)(R:Nat->Prop)(v:PV)(l:List W6):Prop :=
 (∃h,R h/\v=.msl h 0 l.length l.length 6/\σ[h]?=some (.cells (l.map W6.pv).flatten 51))\/(∃h,R h/\v=.rsl h l.length 6/\σ[h]?=some (.row (l.map W6.pv) 6 51))
def OSl(σ:List MO)(R:Nat->Prop)(v:PV)(l:List Bool):Prop:=∃h,R h/\v=.msl h 0 l.length l.length 1/\σ[h]?=some (.cells (l.map PV.bool) 4)
section
variable {σ σ':List MO}{R R':Nat->Prop}{v:PV}{l:List W6}{lb:List Bool}
theorem c5y{h i n c sz:Nat}(hi:i<n):a1D (i:Int) sz 0 (.msl h 0 n c sz)=some (.obj h (i*sz)):=by
 simp only[a1D];rw[if_pos ⟨by omega,by omega,trivial⟩];simp
theorem c9i{h i n sz off:Nat}(hi:i<n):a1D (i:Int) sz off (.rsl h n sz)=some (.elt h n i sz off):=by
 simp only[a1D];rw[if_pos ⟨by omega,by omega,trivial⟩];simp
theorem BSl.rd(h:BSl σ R v l):BRd σ v l:=by
 rcases h with ⟨h,_,rfl,hh⟩|⟨h,_,rfl,hh⟩
 ·refine⟨rfl,rfl,rfl,fun i w hw=>⟨fun off=>Sx.Loc.obj h (0+(i*6+off)),fun off n hn=>⟨?_,fun _ _ _ _=>?_⟩⟩⟩
  ·have hi:=(Qn.1 hw).1
   simp only[a1D];rw[if_pos ⟨by omega,by omega,trivial⟩];simp
  ·obtain⟨f1,f2⟩:=c4b (l.map W6.pv) (c7I l) i w.pv (by rw[QQ,hw];rfl)
   simp only[a0e,hh,Q0,MO.list,Q2,if_false];refine a9y ?_ (by rw[X1];omega);rw[Qg,<- XE,<- f1,XF,XG,Xa (by omega)]
 ·refine⟨rfl,rfl,rfl,fun i w hw=>⟨fun off=>Sx.Loc.elt h l.length i 6 off,fun off n hn=>⟨c9i (Qn.1 hw).1,fun _ _ _ _=>?_⟩⟩⟩
  simp only[a0e,hh,Q0,MO.elts,Qz,and_self,if_true,Q2,if_false,QQ,hw,Q1];exact a9y rfl (by rw[X1,b6f];omega)
theorem BSl.frame(h:BSl σ R v l)(hf:∀x,R x->σ'[x]?=σ[x]?):BSl σ' R v l:=by
 rcases h with ⟨h,hR,rfl,hh⟩|⟨h,hR,rfl,hh⟩
 ·exact .inl ⟨h,hR,rfl,by rw[hf h hR];exact hh⟩
 ·exact .inr ⟨h,hR,rfl,by rw[hf h hR];exact hh⟩
theorem OSl.frame(h:OSl σ R v lb)(hf:∀x,R x->σ'[x]?=σ[x]?):OSl σ' R v lb:=by
 obtain⟨h,hR,rfl,hh⟩:=h;exact⟨h,hR,rfl,by rw[hf h hR];exact hh⟩
theorem BSl.mono(h:BSl σ R v l)(hR:∀x,R x->R' x):BSl σ R' v l:=by
 rcases h with ⟨h,h1,rfl,hh⟩|⟨h,h1,rfl,hh⟩
 ·exact .inl ⟨h,hR _ h1,rfl,hh⟩
 ·exact .inr ⟨h,hR _ h1,rfl,hh⟩
theorem OSl.mono(h:OSl σ R v lb)(hR:∀x,R x->R' x):OSl σ R' v lb:=by
 obtain⟨h,h1,rfl,hh⟩:=h;exact⟨h,hR _ h1,rfl,hh⟩
theorem BSl.low(h:BSl σ R v l){k:Nat}(hR:∀x,R x->x<k):v.low k=true:=by
 rcases h with ⟨h,h1,rfl,hh⟩|⟨h,h1,rfl,hh⟩
 ·simpa[PV.low] using hR h h1
 ·simpa[PV.low] using hR h h1
theorem OSl.low(h:OSl σ R v lb){k:Nat}(hR:∀x,R x->x<k):v.low k=true:=by
 obtain⟨h,h1,rfl,hh⟩:=h;simpa[PV.low] using hR h h1
theorem BSl.one(h:BSl σ R v l):v.one=true:=h.rd.one
theorem OSl.one(h:OSl σ R v lb):v.one=true:=by obtain⟨h,_,rfl,_⟩:=h;rfl
end
def a5X(σ:List MO)(R:Nat->Prop)(r:Rn)(row:List PV):Prop :=
 ∃a g b,row=[.int .i64 r.p.a,.int .i64 r.p.b,.int .i64 r.p.c,.int .i64 r.p.d,.int .i64 r.p.e,.int .i64 r.p.f,a,g,b]/\BSl σ R a r.ask/\BSl σ R g r.got/\OSl σ R b r.bid
def a2L(σ:List MO)(R:Nat->Prop)(cl:List Rn)(rows:List (List PV)):Prop:=rows.length=cl.length/\∀(i:Nat) r row,cl[i]?=some r->rows[i]?=some row->a5X σ R r row
def CSl(σ:List MO)(R:Nat->Prop)(v:PV)(cl:List Rn):Prop :=
 (v=.nilS/\cl=[])\/(∃h rows,R h/\v=.msl h 0 cl.length cl.length 9/\σ[h]?=some (.cells rows.flatten 65)/\a2L σ R cl rows) \/
  (∃h rows,R h/\v=.rsl h cl.length 9/\cl≠[]/\σ[h]?=some (.row rows 9 65)/\a2L σ R cl rows)
section
variable {σ σ':List MO}{R R':Nat->Prop}{v:PV}{cl:List Rn}{rows:List (List PV)}{r:Rn}{row:List PV}
theorem a5X.frame(h:a5X σ R r row)(hf:∀x,R x->σ'[x]?=σ[x]?):a5X σ' R r row:=by
 obtain⟨a,g,b,rfl,h1,h2,h3⟩:=h;exact⟨a,g,b,rfl,h1.frame hf,h2.frame hf,h3.frame hf⟩
theorem a5X.mono(h:a5X σ R r row)(hR:∀x,R x->R' x):a5X σ R' r row:=by
 obtain⟨a,g,b,rfl,h1,h2,h3⟩:=h;exact⟨a,g,b,rfl,h1.mono hR,h2.mono hR,h3.mono hR⟩
theorem a5X.len(h:a5X σ R r row):row.length=9:=by obtain⟨a,g,b,rfl,_⟩:=h;rfl
theorem a5X.ones(h:a5X σ R r row):row.all PV.one=true:=by
 obtain⟨a,g,b,rfl,h1,h2,h3⟩:=h;have e:∀z:Int,PV.one (.int .i64 z)=true:=fun _=>rfl
 simp only[X2,Xb,e,h1.one,h2.one,h3.one,Qa]
theorem a5X.low(h:a5X σ R r row){k:Nat}(hR:∀x,R x->x<k):PV.lows k row=true:=by
 obtain⟨a,g,b,rfl,h1,h2,h3⟩:=h;simp only[PV.lows,PV.low,h1.low hR,h2.low hR,h3.low hR,Qa]
theorem a2L.frame(h:a2L σ R cl rows)(hf:∀x,R x->σ'[x]?=σ[x]?):a2L σ' R cl rows:=⟨h.1,fun i r row h1 h2=>(h.2 i r row h1 h2).frame hf⟩
theorem a2L.mono(h:a2L σ R cl rows)(hR:∀x,R x->R' x):a2L σ R' cl rows:=⟨h.1,fun i r row h1 h2=>(h.2 i r row h1 h2).mono hR⟩
theorem a2L.mem(h:a2L σ R cl rows){row:List PV}(hr:row∈rows):∃r∈cl,a5X σ R r row:=by
 obtain⟨i,hi⟩:=Xs hr;have hl:=(Qn.1 hi).1;obtain⟨r,hr⟩:=a0P (show i<cl.length by rw[<- h.1];exact hl);exact⟨r,Qt hr,h.2 i r row hr hi⟩
theorem a2L.lens(h:a2L σ R cl rows):∀r∈rows,r.length=9:=fun row hr=>by obtain⟨r,_,k⟩:=h.mem hr;exact k.len
theorem a2L.snoc(h:a2L σ R cl rows)(hr:a5X σ R r row):a2L σ R (cl++[r]) (rows++[row]):=by
 refine⟨by simp[h.1],fun i x y hx hy=>?_⟩;by_cases hi:i<cl.length
 ·rw[Qq hi] at hx
  rw[Qq (by rw[h.1];exact hi)] at hy;exact h.2 i x y hx hy
 ·have hl:i=cl.length:=by have:=(Qn.1 hx).1;simp at this;omega
  subst hl;rw[X3 (by omega)] at hx;rw[<- h.1,X3 (by omega)] at hy;simp at hx hy;subst hx hy;exact hr
theorem a2L.take(h:a2L σ R cl rows)(n:Nat):a2L σ R (cl.take n) (rows.take n):=by
 refine⟨by rw[QS,QS,h.1],fun i x y hx hy=>?_⟩;rw[List.getElem?_take] at hx hy;split at hx
 ·rename_i hi
  rw[if_pos hi] at hy;exact h.2 i x y hx hy
 ·cases hx
theorem CSl.frame(h:CSl σ R v cl)(hf:∀x,R x->σ'[x]?=σ[x]?):CSl σ' R v cl:=by
 rcases h with h|⟨h,rows,h1,h2,h3,h4⟩|⟨h,rows,h1,h2,h0,h3,h4⟩
 ·exact .inl h
 ·exact .inr (.inl ⟨h,rows,h1,h2,by rw[hf h h1];exact h3,h4.frame hf⟩)
 ·exact .inr (.inr ⟨h,rows,h1,h2,h0,by rw[hf h h1];exact h3,h4.frame hf⟩)
theorem CSl.mono(h:CSl σ R v cl)(hR:∀x,R x->R' x):CSl σ R' v cl:=by
 rcases h with h|⟨h,rows,h1,h2,h3,h4⟩|⟨h,rows,h1,h2,h0,h3,h4⟩
 ·exact .inl h
 ·exact .inr (.inl ⟨h,rows,hR _ h1,h2,h3,h4.mono hR⟩)
 ·exact .inr (.inr ⟨h,rows,hR _ h1,h2,h0,h3,h4.mono hR⟩)
theorem CSl.low(h:CSl σ R v cl){k:Nat}(hR:∀x,R x->x<k):v.low k=true:=by
 rcases h with ⟨rfl,_⟩|⟨h,rows,h1,rfl,h3,h4⟩|⟨h,rows,h1,rfl,h0,h3,h4⟩
 ·rfl
 ·simpa[PV.low] using hR h h1
 ·simpa[PV.low] using hR h h1
structure CRd (σ:List MO)(R:Nat->Prop)(v:PV)(cl:List Rn):Prop where
 kind:v.isKind 0=true
 one:v.one=true
 len:v.len=(cl.length:Int)
 rd:∀(i:Nat) r,cl[i]?=some r->∃row,a5X σ R r row/\∀off n,off+n<=9->∃L,a1D (i:Int) 9 off v=some L/\∀(is:List Int) (bs:List Bool) (vs:List PV) (k:Nat),a0e {i:=is,b:=bs,v:=vs,m:=σ,k:=k} false n L=some ((row.drop off).take n)
theorem CSl.rd(h:CSl σ R v cl):CRd σ R v cl:=by
 rcases h with ⟨rfl,rfl⟩|⟨h,rows,h1,rfl,h3,h4⟩|⟨h,rows,h1,rfl,h0,h3,h4⟩
 ·exact⟨rfl,rfl,rfl,fun i r hr=>by simp at hr⟩
 ·refine⟨rfl,rfl,rfl,fun i r hr=>?_⟩
  have hi:=(Qn.1 hr).1;obtain⟨row,hrow⟩:=a0P (show i<rows.length by rw[h4.1];exact hi);have hR:=h4.2 i r row hr hrow;refine⟨row,hR,fun off n hn=>⟨Sx.Loc.obj h (0+(i*9+off)),?_,fun _ _ _ _=>?_⟩⟩
  ·simp only[a1D]
   rw[if_pos ⟨by omega,by omega,trivial⟩];simp
  ·obtain⟨f1,f2⟩:=c4b rows h4.lens i row hrow
   simp only[a0e,h3,Q0,MO.list,Q2,if_false];refine a9y ?_ (by rw[X1];omega);rw[Qg,<- XE,<- f1,XF,XG,Xa (by omega)]
 ·refine⟨rfl,rfl,rfl,fun i r hr=>?_⟩
  have hi:=(Qn.1 hr).1;obtain⟨row,hrow⟩:=a0P (show i<rows.length by rw[h4.1];exact hi);have hR:=h4.2 i r row hr hrow;refine⟨row,hR,fun off n hn=>⟨_,c9i hi,fun _ _ _ _=>?_⟩⟩;simp only[a0e,h3,Q0,MO.elts,h4.1,and_self,if_true,Q2,if_false,hrow];exact a9y rfl (by rw[X1,hR.len];omega)
end
def ckL(s:St)(o:Po)(vcl va vb vd:PV)(p:W6)(ov:Bool):List PV :=
 [s.P,s.B,s.C,s.A,.int .i64 o.st,.int .i64 o.pc,.int .i64 o.un,.int .i64 o.ru,vcl,.int .i64 p.a,.int .i64 p.b,.int .i64 p.c,.int .i64 p.d,.int .i64 p.e,.int .i64 p.f,va,vb,vd,.bool ov]
def ckO(s:St)(o:Po)(vcl va vb vd:PV)(p:W6)(ov:Bool):MO:=.cells (ckL s o vcl va vb vd p ov) 79
section
variable (s:St)(o:Po)(vcl va vb vd:PV)(p:W6)(ov:Bool)
theorem a7e:(ckL s o vcl va vb vd p ov).length=19:=rfl
theorem c6H(v:PV):a2q (ckL s o vcl va vb vd p ov) 8 [v]=ckL s o v va vb vd p ov:=rfl
theorem d0D(q:W6):a2q (ckL s o vcl va vb vd p ov) 9 [.int .i64 q.a,.int .i64 q.b,.int .i64 q.c,.int .i64 q.d,.int .i64 q.e,.int .i64 q.f]=ckL s o vcl va vb vd q ov:=rfl
theorem b2C(b:Bool):a2q (ckL s o vcl va vb vd p ov) 18 [.bool b]=ckL s o vcl va vb vd p b:=rfl
variable {s o vcl va vb vd p ov}
theorem a0F{m:List MO}{h:Nat}(hob:m[h]?=some (ckO s o vcl va vb vd p ov))(off n:Nat)(hn:off+n<=19)(is:List Int)(bs:List Bool)(vs:List PV)(k:Nat) :
  a0e {i:=is,b:=bs,v:=vs,m:=m,k:=k} false n (.obj h off)=some (((ckL s o vcl va vb vd p ov).drop off).take n):=by
 simp only[a0e,hob,ckO,Q0,MO.list,Q2,if_false];exact a9y rfl (by rw[X1,a7e];omega)
end
structure CkAt (s:St)(o:Po)(σ:List MO)(h:Nat)(vcl:PV)(ha hb hd:Nat)(R:Nat->Prop)(c:Ck):Prop where
 obj:σ[h]?=some (ckO s o vcl (.msl ha 0 c.out.length c.out.length 6) (.msl hb 0 c.out.length c.out.length 1) (.msl hd 0 c.out.length c.out.length 1) c.p c.over)
 ask:σ[ha]?=some (.cells (c.ask.map W6.pv).flatten 51)
 bid:σ[hb]?=some (.cells (c.bid.map PV.bool) 4)
 out:σ[hd]?=some (.cells (c.out.map PV.bool) 4)
 la:c.ask.length=c.out.length
 lb:c.bid.length=c.out.length
 cl:CSl σ R vcl c.cl
 bd:∀x,R x->x<σ.length
 na:¬R ha
 nb:¬R hb
 nd:¬R hd
 nh:¬R h
 nbd:hb≠hd
def a9o(s:St)(o:Po)(σ:List MO)(h:Nat)(F:Nat->Prop)(c:Ck):Prop :=
 ∃vcl ha hb hd R,CkAt s o σ h vcl ha hb hd R c/\∀x,F x↔(x=h\/x=ha\/x=hb\/x=hd\/R x)
section
variable {s:St}{o:Po}{σ σ':List MO}{h:Nat}{F:Nat->Prop}{c:Ck}
end
structure Adv (σ σ':List MO)(F F':Nat->Prop):Prop where
 len:σ.length<=σ'.length
 keep:∀x,x<σ.length->¬F x->σ'[x]?=σ[x]?
 own:∀x,F' x->F x\/σ.length<=x
 low:Low σ'
theorem Adv.refl{σ:List MO}{F:Nat->Prop}(h:Low σ):Adv σ σ F F:=⟨Qm _,fun _ _ _=>rfl,fun _ h=>.inl h,h⟩
def W6.sm(w:W6)(b:Int):Prop:=0<=w.a/\w.a<=b/\0<=w.b/\w.b<=b/\0<=w.c/\w.c<=b/\0<=w.d/\w.d<=b/\0<=w.e/\w.e<=b/\0<=w.f/\w.f<=b
theorem W6.ok.sm{w:W6}(h:w.ok):w.sm 4:=h
theorem W6.sm.mono{w:W6}{a b:Int}(h:w.sm a)(hab:a<=b):w.sm b:=by unfold W6.sm at *;omega
theorem c5F{v w:W6}{a b:Int}(h:v.sm a)(k:w.sm b):(b8e v w).sm (a+b):=by unfold W6.sm at *;simp only[b8e];omega
theorem c9H:∀(l:List W6) (v:W6) (a:Int),v.sm a->(∀w∈l,w.ok)->(l.foldl b8e v).sm (a+4*l.length)
 | [],v,a,h,_=>by simpa using h
 | w::l,v,a,h,k=>by
  have:=c9H l (b8e v w) (a+4) (c5F h (k w (by simp)).sm) (fun x hx=>k x (by simp[hx]));rw[XH];refine this.mono ?_;simp only[Qe];omega
theorem c9x{l:List W6}(h:∀w∈l,w.ok)(h8:l.length<=8):(b1A l).sm 32:=(c9H l w0 0 (by simp[W6.sm,w0]) h).mono (by omega)
theorem pv6(w:W6):w.pv=[.int .i64 w.a,.int .i64 w.b,.int .i64 w.c,.int .i64 w.d,.int .i64 w.e,.int .i64 w.f]:=rfl
section
variable (σ:List MO)(v:PV)(l:List W6)(hv:BRd σ v l)(hok:∀w∈l,w.ok)(hl:l.length<=8)(n:Nat)
def c8y(σ:List MO)(v:PV)(N i:Int)(t:W6):PEnv:={i:=[N,i,t.a,t.b,t.c,t.d,t.e,t.f],b:=[],v:=[v],m:=σ,k:=σ.length}
include hv hok hl in
theorem d3P:∀d i,i+d=l.length->∀(t:W6),t.sm (4*i)->∀fuel,d+1<=fuel ->
  d9Q.loop (a0B Tab n) fuel 0 (c8y σ v (l.length:Int) (i:Int) t)=some (.agg ((l.drop i).foldl b8e t).pv,σ):=by
 intro d
 induction d with
 | zero =>
  intro i hi t ht fuel hf;obtain⟨fuel,rfl⟩:∃k,fuel=k+1:=⟨fuel-1,by omega⟩;have hd:ltB (i:Int) (l.length:Int)=false:=by rw[a0I];omega
  rw[Xk (by omega),Sys.loop,show d9Q.loops[0]?=some a6p from rfl];simp only[Q0,c8y,a6p,↓reduceIte,a0t,a0r,BE.safe,BE.pe,IE.pe,Q3,Q5,Q2,Q1,Q0,SV.pvs,SV.pv,hd,a0C,or_true,List.foldl_nil,pv6]
 | succ d ih =>
  intro i hi t ht fuel hf;obtain⟨fuel,rfl⟩:∃k,fuel=k+1:=⟨fuel-1,by omega⟩;obtain⟨w,hw⟩:=a0P (show i<l.length by omega);have hd:ltB (i:Int) (l.length:Int)=true:=by rw[a0O];omega
  obtain⟨L,hL⟩:=hv.rd i w hw;obtain⟨q1,q2⟩:=hL 0 6 (by decide);have q2:∀is bs vs k,a0e {i:=is,b:=bs,v:=vs,m:=σ,k:=k} false 6 (L 0)=some w.pv:=fun a b c d=>q2 a b c d
  have hwk0:=(hok w (Qt hw)).sm;have ht0:=ht;have hwk:=hwk0;have ht':=c5F ht hwk;simp only[W6.sm] at ht ht' hwk;simp only[b8e] at ht';have ih:=ih (i+1) (by omega) (b8e t w) ((c5F (a:=4*(i:Int)) ht0 hwk0).mono (by omega)) fuel (by omega);have hdr:l.drop i=w::l.drop (i+1):=by rw[XC (by omega),(Qn.1 hw).2]
  rw[hdr,XH];rw[Sys.loop,show d9Q.loops[0]?=some a6p from rfl];have hup:=a1M (show i<=1000000000 by omega);simp only[c8y,b8e,a0T] at ih;simp only[Q0,c8y,a6p,↓reduceIte,PT.ev,BE.safe,BE.pe,IE.pe,PEnv.at,Q3,Q5,Q7,a0y,Qe,Qf,Nat.reduceAdd,a0w,Q1,Q0,PEnv.push,Q6,Q4,SV.pvs,SV.pv,BE.all,Qa,Q9,Qb,hd,le0,hv.len,q1,q2,pv6,if_pos hup,if_pos (a0N (z:=t.a+w.a) (by omega)),if_pos (a0N (z:=t.b+w.b) (by omega)),if_pos (a0N (z:=t.c+w.c) (by omega)),if_pos (a0N (z:=t.d+w.d) (by omega)),if_pos (a0N (z:=t.e+w.e) (by omega)),if_pos (a0N (z:=t.f+w.f) (by omega))];exact ih
include hv hok hl in
theorem c4E(hn:20<=n):a0B Tab n b1w [v] σ=some (.agg (b1A l).pv,σ):=by
 obtain⟨n,rfl⟩:∃k,n=k+1:=⟨n-1,by omega⟩;have key:=d3P σ v l hv hok hl n l.length 0 (by omega) w0 (by simp[W6.sm,w0]) n (by omega);rw[a0B];simp only[c3f,Q0,Sys.run];show ((a0E [.sh (.one _)] _).bind _)=_;simp only[a0E,a0x,a0w,Q1,Q0,Q8,if_true,hv.one];show (PT.ev _ b1I _).bind _=_;simp only[b1I,a0h,a0m,BE.safe,BE.pe,IE.pe,PEnv.at,Q3,Q7,Q1,Q0,SV.pvs,SV.pv,BE.all,Q9,Qb,hv.kind,hv.len];exact key
include hv hok hl in
theorem d2b(hn:21<=n):a0B Tab n c1j [v] σ=some (.agg (b1A l).pv,σ):=by
 obtain⟨n,rfl⟩:∃k,n=k+1:=⟨n-1,by omega⟩;have k1:=c4E σ v l hv hok hl n (by omega);simp only[b1w,pv6] at k1;rw[a0B];simp only[c5n,Q0,Sys.run,pv6];show ((a0E [.sh (.one _)] _).bind _)=_;simp only[a0E,a0x,a0w,Q1,Q0,Q8,if_true,hv.one];show (PT.ev _ b5j _).bind _=_;simp only[b5j,↓reduceIte,a0t,a0l,IE.pe,Q3,Q5,Q7,Q2,a0w,a0p,a0x,Q1,Q0,PEnv.push,Q6,Q4,SV.pvs,SV.pv,k1,a0C,or_true]
end
section
variable (σ:List MO)(n:Nat)
def a5V(σ:List MO)(k:Int)(a b o:W6):PEnv:={i:=[k,a.a,a.b,a.c,a.d,a.e,a.f,b.a,b.b,b.c,b.d,b.e,b.f,o.a,o.b,o.c,o.d,o.e,o.f],b:=[],v:=[],m:=σ,k:=σ.length}
def a2a(σ:List MO)(k:Int)(s t m a:W6):PEnv:={i:=[k,s.a,s.b,s.c,s.d,s.e,s.f,t.a,t.b,t.c,t.d,t.e,t.f,m.a,m.b,m.c,m.d,m.e,m.f,a.a,a.b,a.c,a.d,a.e,a.f],b:=[],v:=[],m:=σ,k:=σ.length}
theorem d2l(a b o:W6)(ha:a.sm 1000)(hb:b.sm 1000)(ho:o.a=0)(fuel:Nat) :
  d8S.loop (a0B Tab n) (fuel+1) 0 (a5V σ 0 a b o)=d8S.loop (a0B Tab n) fuel 0 (a5V σ 1 a b {o with a:=exI b.a a.a}):=by
 have e5:∀a b:Int,eqB a b=decide (a=b):=fun _ _=>rfl
 have e6:∀a b:Int,ltB a b=decide (a<b):=fun _ _=>rfl
 simp only[W6.sm] at ha hb;have hr:=a0N (z:=a.a-b.a) (by omega);rw[Sys.loop,show d8S.loops[0]?=some a1E from rfl];simp only[a5V,exI];simp only[Q0,a1E,↓reduceIte,a0r,a0h,a0m,BE.safe,BE.pe,IE.pe,Q3,Q5,Q2,Q1,Q0,SV.pvs,BE.all,Qa,Q9,Qb,e5,e6,Int.reduceEq,Int.reduceLT,decide_true,decide_false];by_cases h:b.a<a.a
 ·simp only[↓reduceIte,Q0,dT0 h,if_pos h,if_pos hr]
 ·simp only[↓reduceIte,Q2,Q0,dF0 h,if_neg h,ho]
theorem d2h(s t m a:W6)(hs:s.sm 1000)(ht:t.sm 1000)(hm:m.sm 1000)(ha:a.sm 1000)(fuel:Nat) :
  d8K.loop (a0B Tab n) (fuel+1) 0 (a2a σ 0 s t m a)=d8K.loop (a0B Tab n) fuel 0 (a2a σ 1 s t m {a with a:=paI s.a t.a m.a a.a}):=by
 have e5:∀a b:Int,eqB a b=decide (a=b):=fun _ _=>rfl
 have e6:∀a b:Int,ltB a b=decide (a<b):=fun _ _=>rfl
 simp only[W6.sm] at hs ht hm ha;have h1:=a0N (z:=m.a-a.a) (by omega);have h2:=a0N (z:=t.a-s.a) (by omega);have h3:=a0N (z:=m.a-mnI (m.a-a.a) (mxI (t.a-s.a) 0)) (by unfold mnI mxI;split<;>split<;>omega);rw[Sys.loop,show d8K.loops[0]?=some a1d from rfl];simp only[a2a,paI];simp only[Q0,a1d,↓reduceIte,a0r,a0h,a0m,BE.safe,BE.pe,IE.pe,Q3,Q5,Q2,Q1,Q0,SV.pvs,BE.all,Qa,Q9,Qb,e5,e6,Int.reduceEq,Int.reduceLT,decide_true,decide_false];by_cases h:a.a<m.a
 ·simp only[↓reduceIte,Q0,dT0 h,if_pos h,if_pos h1,if_pos h2,if_pos h3]
 ·simp only[↓reduceIte,Q2,Q0,dF0 h,if_neg h]
theorem d2v(s t m a:W6)(hs:s.sm 1000)(ht:t.sm 1000)(hm:m.sm 1000)(ha:a.sm 1000)(fuel:Nat) :
  d8J.loop (a0B Tab n) (fuel+1) 0 (a2a σ 0 s t m a)=if rfI s.a t.a m.a a.a=true then some (.bool true,σ) else d8J.loop (a0B Tab n) fuel 0 (a2a σ 1 s t m a):=by
 have e5:∀a b:Int,eqB a b=decide (a=b):=fun _ _=>rfl
 have e6:∀a b:Int,ltB a b=decide (a<b):=fun _ _=>rfl
 simp only[W6.sm] at hs ht hm ha;have h1:=a0N (z:=t.a-m.a) (by omega);have h2:=a0N (z:=t.a-m.a+a.a) (by omega);rw[Sys.loop,show d8J.loops[0]?=some a0Y from rfl];simp only[a2a,rfI];simp only[Q0,a0Y,↓reduceIte,a0t,a0r,a0h,a0m,BE.safe,BE.pe,IE.pe,Q3,Q5,Q2,Q1,Q0,SV.pvs,SV.pv,BE.all,Qa,Q9,Qb,e5,e6,Int.reduceEq,Int.reduceLT,decide_true,decide_false];cases decide (a.a<m.a) with
 | true =>
  simp only[↓reduceIte,if_pos h1,if_pos h2,QD];cases decide (t.a-m.a+a.a<s.a)<;>simp only[↓reduceIte,Q2,Q1,Q0,Q2,a0C,or_true]
 | false=>simp only[↓reduceIte,Q2,Q0,QE,Q2]
theorem d1y(a b o:W6)(ha:a.sm 1000)(hb:b.sm 1000)(ho:o.b=0)(fuel:Nat) :
  d8S.loop (a0B Tab n) (fuel+1) 0 (a5V σ 1 a b o)=d8S.loop (a0B Tab n) fuel 0 (a5V σ 2 a b {o with b:=exI b.b a.b}):=by
 have e5:∀a b:Int,eqB a b=decide (a=b):=fun _ _=>rfl
 have e6:∀a b:Int,ltB a b=decide (a<b):=fun _ _=>rfl
 simp only[W6.sm] at ha hb;have hr:=a0N (z:=a.b-b.b) (by omega);rw[Sys.loop,show d8S.loops[0]?=some a1E from rfl];simp only[a5V,exI];simp only[Q0,a1E,↓reduceIte,a0r,a0h,a0m,BE.safe,BE.pe,IE.pe,Q3,Q5,Q2,Q1,Q0,SV.pvs,BE.all,Qa,Q9,Qb,e5,e6,Int.reduceEq,Int.reduceLT,decide_true,decide_false];by_cases h:b.b<a.b
 ·simp only[↓reduceIte,Q0,dT0 h,if_pos h,if_pos hr]
 ·simp only[↓reduceIte,Q2,Q0,dF0 h,if_neg h,ho]
theorem d0U(s t m a:W6)(hs:s.sm 1000)(ht:t.sm 1000)(hm:m.sm 1000)(ha:a.sm 1000)(fuel:Nat) :
  d8K.loop (a0B Tab n) (fuel+1) 0 (a2a σ 1 s t m a)=d8K.loop (a0B Tab n) fuel 0 (a2a σ 2 s t m {a with b:=paI s.b t.b m.b a.b}):=by
 have e5:∀a b:Int,eqB a b=decide (a=b):=fun _ _=>rfl
 have e6:∀a b:Int,ltB a b=decide (a<b):=fun _ _=>rfl
 simp only[W6.sm] at hs ht hm ha;have h1:=a0N (z:=m.b-a.b) (by omega);have h2:=a0N (z:=t.b-s.b) (by omega);have h3:=a0N (z:=m.b-mnI (m.b-a.b) (mxI (t.b-s.b) 0)) (by unfold mnI mxI;split<;>split<;>omega);rw[Sys.loop,show d8K.loops[0]?=some a1d from rfl];simp only[a2a,paI];simp only[Q0,a1d,↓reduceIte,a0r,a0h,a0m,BE.safe,BE.pe,IE.pe,Q3,Q5,Q2,Q1,Q0,SV.pvs,BE.all,Qa,Q9,Qb,e5,e6,Int.reduceEq,Int.reduceLT,decide_true,decide_false];by_cases h:a.b<m.b
 ·simp only[↓reduceIte,Q0,dT0 h,if_pos h,if_pos h1,if_pos h2,if_pos h3]
 ·simp only[↓reduceIte,Q2,Q0,dF0 h,if_neg h]
theorem d2i(s t m a:W6)(hs:s.sm 1000)(ht:t.sm 1000)(hm:m.sm 1000)(ha:a.sm 1000)(fuel:Nat) :
  d8J.loop (a0B Tab n) (fuel+1) 0 (a2a σ 1 s t m a)=if rfI s.b t.b m.b a.b=true then some (.bool true,σ) else d8J.loop (a0B Tab n) fuel 0 (a2a σ 2 s t m a):=by
 have e5:∀a b:Int,eqB a b=decide (a=b):=fun _ _=>rfl
 have e6:∀a b:Int,ltB a b=decide (a<b):=fun _ _=>rfl
 simp only[W6.sm] at hs ht hm ha;have h1:=a0N (z:=t.b-m.b) (by omega);have h2:=a0N (z:=t.b-m.b+a.b) (by omega);rw[Sys.loop,show d8J.loops[0]?=some a0Y from rfl];simp only[a2a,rfI];simp only[Q0,a0Y,↓reduceIte,a0t,a0r,a0h,a0m,BE.safe,BE.pe,IE.pe,Q3,Q5,Q2,Q1,Q0,SV.pvs,SV.pv,BE.all,Qa,Q9,Qb,e5,e6,Int.reduceEq,Int.reduceLT,decide_true,decide_false];cases decide (a.b<m.b) with
 | true =>
  simp only[↓reduceIte,if_pos h1,if_pos h2,QD];cases decide (t.b-m.b+a.b<s.b)<;>simp only[↓reduceIte,Q2,Q1,Q0,Q2,a0C,or_true]
 | false=>simp only[↓reduceIte,Q2,Q0,QE,Q2]
theorem d1o(a b o:W6)(ha:a.sm 1000)(hb:b.sm 1000)(ho:o.c=0)(fuel:Nat) :
  d8S.loop (a0B Tab n) (fuel+1) 0 (a5V σ 2 a b o)=d8S.loop (a0B Tab n) fuel 0 (a5V σ 3 a b {o with c:=exI b.c a.c}):=by
 have e5:∀a b:Int,eqB a b=decide (a=b):=fun _ _=>rfl
 have e6:∀a b:Int,ltB a b=decide (a<b):=fun _ _=>rfl
 simp only[W6.sm] at ha hb;have hr:=a0N (z:=a.c-b.c) (by omega);rw[Sys.loop,show d8S.loops[0]?=some a1E from rfl];simp only[a5V,exI];simp only[Q0,a1E,↓reduceIte,a0r,a0h,a0m,BE.safe,BE.pe,IE.pe,Q3,Q5,Q2,Q1,Q0,SV.pvs,BE.all,Qa,Q9,Qb,e5,e6,Int.reduceEq,Int.reduceLT,decide_true,decide_false];by_cases h:b.c<a.c
 ·simp only[↓reduceIte,Q0,dT0 h,if_pos h,if_pos hr]
 ·simp only[↓reduceIte,Q2,Q0,dF0 h,if_neg h,ho]
theorem d2q(s t m a:W6)(hs:s.sm 1000)(ht:t.sm 1000)(hm:m.sm 1000)(ha:a.sm 1000)(fuel:Nat) :
  d8K.loop (a0B Tab n) (fuel+1) 0 (a2a σ 2 s t m a)=d8K.loop (a0B Tab n) fuel 0 (a2a σ 3 s t m {a with c:=paI s.c t.c m.c a.c}):=by
 have e5:∀a b:Int,eqB a b=decide (a=b):=fun _ _=>rfl
 have e6:∀a b:Int,ltB a b=decide (a<b):=fun _ _=>rfl
 simp only[W6.sm] at hs ht hm ha;have h1:=a0N (z:=m.c-a.c) (by omega);have h2:=a0N (z:=t.c-s.c) (by omega);have h3:=a0N (z:=m.c-mnI (m.c-a.c) (mxI (t.c-s.c) 0)) (by unfold mnI mxI;split<;>split<;>omega);rw[Sys.loop,show d8K.loops[0]?=some a1d from rfl];simp only[a2a,paI];simp only[Q0,a1d,↓reduceIte,a0r,a0h,a0m,BE.safe,BE.pe,IE.pe,Q3,Q5,Q2,Q1,Q0,SV.pvs,BE.all,Qa,Q9,Qb,e5,e6,Int.reduceEq,Int.reduceLT,decide_true,decide_false];by_cases h:a.c<m.c
 ·simp only[↓reduceIte,Q0,dT0 h,if_pos h,if_pos h1,if_pos h2,if_pos h3]
 ·simp only[↓reduceIte,Q2,Q0,dF0 h,if_neg h]
theorem d2A(s t m a:W6)(hs:s.sm 1000)(ht:t.sm 1000)(hm:m.sm 1000)(ha:a.sm 1000)(fuel:Nat) :
  d8J.loop (a0B Tab n) (fuel+1) 0 (a2a σ 2 s t m a)=if rfI s.c t.c m.c a.c=true then some (.bool true,σ) else d8J.loop (a0B Tab n) fuel 0 (a2a σ 3 s t m a):=by
 have e5:∀a b:Int,eqB a b=decide (a=b):=fun _ _=>rfl
 have e6:∀a b:Int,ltB a b=decide (a<b):=fun _ _=>rfl
 simp only[W6.sm] at hs ht hm ha;have h1:=a0N (z:=t.c-m.c) (by omega);have h2:=a0N (z:=t.c-m.c+a.c) (by omega);rw[Sys.loop,show d8J.loops[0]?=some a0Y from rfl];simp only[a2a,rfI];simp only[Q0,a0Y,↓reduceIte,a0t,a0r,a0h,a0m,BE.safe,BE.pe,IE.pe,Q3,Q5,Q2,Q1,Q0,SV.pvs,SV.pv,BE.all,Qa,Q9,Qb,e5,e6,Int.reduceEq,Int.reduceLT,decide_true,decide_false];cases decide (a.c<m.c) with
 | true =>
  simp only[↓reduceIte,if_pos h1,if_pos h2,QD];cases decide (t.c-m.c+a.c<s.c)<;>simp only[↓reduceIte,Q2,Q1,Q0,Q2,a0C,or_true]
 | false=>simp only[↓reduceIte,Q2,Q0,QE,Q2]
theorem d2g(a b o:W6)(ha:a.sm 1000)(hb:b.sm 1000)(ho:o.d=0)(fuel:Nat) :
  d8S.loop (a0B Tab n) (fuel+1) 0 (a5V σ 3 a b o)=d8S.loop (a0B Tab n) fuel 0 (a5V σ 4 a b {o with d:=exI b.d a.d}):=by
 have e5:∀a b:Int,eqB a b=decide (a=b):=fun _ _=>rfl
 have e6:∀a b:Int,ltB a b=decide (a<b):=fun _ _=>rfl
 simp only[W6.sm] at ha hb;have hr:=a0N (z:=a.d-b.d) (by omega);rw[Sys.loop,show d8S.loops[0]?=some a1E from rfl];simp only[a5V,exI];simp only[Q0,a1E,↓reduceIte,a0r,a0h,a0m,BE.safe,BE.pe,IE.pe,Q3,Q5,Q2,Q1,Q0,SV.pvs,BE.all,Qa,Q9,Qb,e5,e6,Int.reduceEq,Int.reduceLT,decide_true,decide_false];by_cases h:b.d<a.d
 ·simp only[↓reduceIte,Q0,dT0 h,if_pos h,if_pos hr]
 ·simp only[↓reduceIte,Q2,Q0,dF0 h,if_neg h,ho]
theorem d0S(s t m a:W6)(hs:s.sm 1000)(ht:t.sm 1000)(hm:m.sm 1000)(ha:a.sm 1000)(fuel:Nat) :
  d8K.loop (a0B Tab n) (fuel+1) 0 (a2a σ 3 s t m a)=d8K.loop (a0B Tab n) fuel 0 (a2a σ 4 s t m {a with d:=paI s.d t.d m.d a.d}):=by
 have e5:∀a b:Int,eqB a b=decide (a=b):=fun _ _=>rfl
 have e6:∀a b:Int,ltB a b=decide (a<b):=fun _ _=>rfl
 simp only[W6.sm] at hs ht hm ha;have h1:=a0N (z:=m.d-a.d) (by omega);have h2:=a0N (z:=t.d-s.d) (by omega);have h3:=a0N (z:=m.d-mnI (m.d-a.d) (mxI (t.d-s.d) 0)) (by unfold mnI mxI;split<;>split<;>omega);rw[Sys.loop,show d8K.loops[0]?=some a1d from rfl];simp only[a2a,paI];simp only[Q0,a1d,↓reduceIte,a0r,a0h,a0m,BE.safe,BE.pe,IE.pe,Q3,Q5,Q2,Q1,Q0,SV.pvs,BE.all,Qa,Q9,Qb,e5,e6,Int.reduceEq,Int.reduceLT,decide_true,decide_false];by_cases h:a.d<m.d
 ·simp only[↓reduceIte,Q0,dT0 h,if_pos h,if_pos h1,if_pos h2,if_pos h3]
 ·simp only[↓reduceIte,Q2,Q0,dF0 h,if_neg h]
theorem d0W(s t m a:W6)(hs:s.sm 1000)(ht:t.sm 1000)(hm:m.sm 1000)(ha:a.sm 1000)(fuel:Nat) :
  d8J.loop (a0B Tab n) (fuel+1) 0 (a2a σ 3 s t m a)=if rfI s.d t.d m.d a.d=true then some (.bool true,σ) else d8J.loop (a0B Tab n) fuel 0 (a2a σ 4 s t m a):=by
 have e5:∀a b:Int,eqB a b=decide (a=b):=fun _ _=>rfl
 have e6:∀a b:Int,ltB a b=decide (a<b):=fun _ _=>rfl
 simp only[W6.sm] at hs ht hm ha;have h1:=a0N (z:=t.d-m.d) (by omega);have h2:=a0N (z:=t.d-m.d+a.d) (by omega);rw[Sys.loop,show d8J.loops[0]?=some a0Y from rfl];simp only[a2a,rfI];simp only[Q0,a0Y,↓reduceIte,a0t,a0r,a0h,a0m,BE.safe,BE.pe,IE.pe,Q3,Q5,Q2,Q1,Q0,SV.pvs,SV.pv,BE.all,Qa,Q9,Qb,e5,e6,Int.reduceEq,Int.reduceLT,decide_true,decide_false];cases decide (a.d<m.d) with
 | true =>
  simp only[↓reduceIte,if_pos h1,if_pos h2,QD];cases decide (t.d-m.d+a.d<s.d)<;>simp only[↓reduceIte,Q2,Q1,Q0,Q2,a0C,or_true]
 | false=>simp only[↓reduceIte,Q2,Q0,QE,Q2]
theorem d1m(a b o:W6)(ha:a.sm 1000)(hb:b.sm 1000)(ho:o.e=0)(fuel:Nat) :
  d8S.loop (a0B Tab n) (fuel+1) 0 (a5V σ 4 a b o)=d8S.loop (a0B Tab n) fuel 0 (a5V σ 5 a b {o with e:=exI b.e a.e}):=by
 have e5:∀a b:Int,eqB a b=decide (a=b):=fun _ _=>rfl
 have e6:∀a b:Int,ltB a b=decide (a<b):=fun _ _=>rfl
 simp only[W6.sm] at ha hb;have hr:=a0N (z:=a.e-b.e) (by omega);rw[Sys.loop,show d8S.loops[0]?=some a1E from rfl];simp only[a5V,exI];simp only[Q0,a1E,↓reduceIte,a0r,a0h,a0m,BE.safe,BE.pe,IE.pe,Q3,Q5,Q2,Q1,Q0,SV.pvs,BE.all,Qa,Q9,Qb,e5,e6,Int.reduceEq,Int.reduceLT,decide_true,decide_false];by_cases h:b.e<a.e
 ·simp only[↓reduceIte,Q0,dT0 h,if_pos h,if_pos hr]
 ·simp only[↓reduceIte,Q2,Q0,dF0 h,if_neg h,ho]
theorem d1f(s t m a:W6)(hs:s.sm 1000)(ht:t.sm 1000)(hm:m.sm 1000)(ha:a.sm 1000)(fuel:Nat) :
  d8K.loop (a0B Tab n) (fuel+1) 0 (a2a σ 4 s t m a)=d8K.loop (a0B Tab n) fuel 0 (a2a σ 5 s t m {a with e:=paI s.e t.e m.e a.e}):=by
 have e5:∀a b:Int,eqB a b=decide (a=b):=fun _ _=>rfl
 have e6:∀a b:Int,ltB a b=decide (a<b):=fun _ _=>rfl
 simp only[W6.sm] at hs ht hm ha;have h1:=a0N (z:=m.e-a.e) (by omega);have h2:=a0N (z:=t.e-s.e) (by omega);have h3:=a0N (z:=m.e-mnI (m.e-a.e) (mxI (t.e-s.e) 0)) (by unfold mnI mxI;split<;>split<;>omega);rw[Sys.loop,show d8K.loops[0]?=some a1d from rfl];simp only[a2a,paI];simp only[Q0,a1d,↓reduceIte,a0r,a0h,a0m,BE.safe,BE.pe,IE.pe,Q3,Q5,Q2,Q1,Q0,SV.pvs,BE.all,Qa,Q9,Qb,e5,e6,Int.reduceEq,Int.reduceLT,decide_true,decide_false];by_cases h:a.e<m.e
 ·simp only[↓reduceIte,Q0,dT0 h,if_pos h,if_pos h1,if_pos h2,if_pos h3]
 ·simp only[↓reduceIte,Q2,Q0,dF0 h,if_neg h]
theorem d1D(s t m a:W6)(hs:s.sm 1000)(ht:t.sm 1000)(hm:m.sm 1000)(ha:a.sm 1000)(fuel:Nat) :
  d8J.loop (a0B Tab n) (fuel+1) 0 (a2a σ 4 s t m a)=if rfI s.e t.e m.e a.e=true then some (.bool true,σ) else d8J.loop (a0B Tab n) fuel 0 (a2a σ 5 s t m a):=by
 have e5:∀a b:Int,eqB a b=decide (a=b):=fun _ _=>rfl
 have e6:∀a b:Int,ltB a b=decide (a<b):=fun _ _=>rfl
 simp only[W6.sm] at hs ht hm ha;have h1:=a0N (z:=t.e-m.e) (by omega);have h2:=a0N (z:=t.e-m.e+a.e) (by omega);rw[Sys.loop,show d8J.loops[0]?=some a0Y from rfl];simp only[a2a,rfI];simp only[Q0,a0Y,↓reduceIte,a0t,a0r,a0h,a0m,BE.safe,BE.pe,IE.pe,Q3,Q5,Q2,Q1,Q0,SV.pvs,SV.pv,BE.all,Qa,Q9,Qb,e5,e6,Int.reduceEq,Int.reduceLT,decide_true,decide_false];cases decide (a.e<m.e) with
 | true =>
  simp only[↓reduceIte,if_pos h1,if_pos h2,QD];cases decide (t.e-m.e+a.e<s.e)<;>simp only[↓reduceIte,Q2,Q1,Q0,Q2,a0C,or_true]
 | false=>simp only[↓reduceIte,Q2,Q0,QE,Q2]
theorem d2o(a b o:W6)(ha:a.sm 1000)(hb:b.sm 1000)(ho:o.f=0)(fuel:Nat) :
  d8S.loop (a0B Tab n) (fuel+1) 0 (a5V σ 5 a b o)=d8S.loop (a0B Tab n) fuel 0 (a5V σ 6 a b {o with f:=exI b.f a.f}):=by
 have e5:∀a b:Int,eqB a b=decide (a=b):=fun _ _=>rfl
 have e6:∀a b:Int,ltB a b=decide (a<b):=fun _ _=>rfl
 simp only[W6.sm] at ha hb;have hr:=a0N (z:=a.f-b.f) (by omega);rw[Sys.loop,show d8S.loops[0]?=some a1E from rfl];simp only[a5V,exI];simp only[Q0,a1E,↓reduceIte,a0r,a0h,a0m,BE.safe,BE.pe,IE.pe,Q3,Q5,Q1,Q0,SV.pvs,BE.all,Qa,Q9,Qb,e5,e6,Int.reduceLT,decide_true,];by_cases h:b.f<a.f
 ·simp only[↓reduceIte,Q0,dT0 h,if_pos h,if_pos hr]
 ·simp only[↓reduceIte,Q2,Q0,dF0 h,if_neg h,ho]
theorem d2y(s t m a:W6)(hs:s.sm 1000)(ht:t.sm 1000)(hm:m.sm 1000)(ha:a.sm 1000)(fuel:Nat) :
  d8K.loop (a0B Tab n) (fuel+1) 0 (a2a σ 5 s t m a)=d8K.loop (a0B Tab n) fuel 0 (a2a σ 6 s t m {a with f:=paI s.f t.f m.f a.f}):=by
 have e5:∀a b:Int,eqB a b=decide (a=b):=fun _ _=>rfl
 have e6:∀a b:Int,ltB a b=decide (a<b):=fun _ _=>rfl
 simp only[W6.sm] at hs ht hm ha;have h1:=a0N (z:=m.f-a.f) (by omega);have h2:=a0N (z:=t.f-s.f) (by omega);have h3:=a0N (z:=m.f-mnI (m.f-a.f) (mxI (t.f-s.f) 0)) (by unfold mnI mxI;split<;>split<;>omega);rw[Sys.loop,show d8K.loops[0]?=some a1d from rfl];simp only[a2a,paI];simp only[Q0,a1d,↓reduceIte,a0r,a0h,a0m,BE.safe,BE.pe,IE.pe,Q3,Q5,Q1,Q0,SV.pvs,BE.all,Qa,Q9,Qb,e5,e6,Int.reduceLT,decide_true,];by_cases h:a.f<m.f
 ·simp only[↓reduceIte,Q0,dT0 h,if_pos h,if_pos h1,if_pos h2,if_pos h3]
 ·simp only[↓reduceIte,Q2,Q0,dF0 h,if_neg h]
theorem d1U(s t m a:W6)(hs:s.sm 1000)(ht:t.sm 1000)(hm:m.sm 1000)(ha:a.sm 1000)(fuel:Nat) :
  d8J.loop (a0B Tab n) (fuel+1) 0 (a2a σ 5 s t m a)=if rfI s.f t.f m.f a.f=true then some (.bool true,σ) else d8J.loop (a0B Tab n) fuel 0 (a2a σ 6 s t m a):=by
 have e5:∀a b:Int,eqB a b=decide (a=b):=fun _ _=>rfl
 have e6:∀a b:Int,ltB a b=decide (a<b):=fun _ _=>rfl
 simp only[W6.sm] at hs ht hm ha;have h1:=a0N (z:=t.f-m.f) (by omega);have h2:=a0N (z:=t.f-m.f+a.f) (by omega);rw[Sys.loop,show d8J.loops[0]?=some a0Y from rfl];simp only[a2a,rfI];simp only[Q0,a0Y,↓reduceIte,a0t,a0r,a0h,a0m,BE.safe,BE.pe,IE.pe,Q3,Q5,Q1,Q0,SV.pvs,SV.pv,BE.all,Qa,Q9,Qb,e5,e6,Int.reduceLT,decide_true,];cases decide (a.f<m.f) with
 | true =>
  simp only[↓reduceIte,if_pos h1,if_pos h2,QD];cases decide (t.f-m.f+a.f<s.f)<;>simp only[↓reduceIte,Q2,Q1,Q0,Q2,a0C,or_true]
 | false=>simp only[↓reduceIte,Q2,Q0,QE,Q2]
theorem d2z(a b:W6)(ha:a.sm 1000)(hb:b.sm 1000)(hn:10<=n):a0B Tab n b9q [.agg a.pv,.agg b.pv] σ=some (.agg (c8i exI b a).pv,σ):=by
 obtain⟨n,rfl⟩:∃k,n=k+8:=⟨n-8,by omega⟩
 have fin:∀(w:W6) fuel,d8S.loop (a0B Tab (n+7)) (fuel+1) 0 (a5V σ 6 a b w)=some (.agg w.pv,σ):=fun w fuel=>by
  have e6:ltB 6 6=false:=rfl;rw[Sys.loop,show d8S.loops[0]?=some a1E from rfl];simp only[Q0,a5V,a1E,↓reduceIte,a0t,a0r,BE.safe,BE.pe,IE.pe,Q3,Q5,Q2,Q1,Q0,SV.pvs,SV.pv,e6,pv6,a0C,or_true]
 have key:d8S.loop (a0B Tab (n+7)) (n+7) 0 (a5V σ 0 a b w0)=some (.agg (c8i exI b a).pv,σ):=by
  rw[d2l σ _ a b _ ha hb rfl (n+6),d1y σ _ a b _ ha hb rfl (n+5),d1o σ _ a b _ ha hb rfl (n+4),d2g σ _ a b _ ha hb rfl (n+3),d1m σ _ a b _ ha hb rfl (n+2),d2o σ _ a b _ ha hb rfl (n+1)];exact fin _ n
 rw[a0B];simp only[c4j,Q0,Sys.run,pv6];show ((a0E [.sh (.agg [_,_,_,_,_,_]),.sh (.agg [_,_,_,_,_,_])] _).bind _)=_;simp only[a0E,a0x,a0w,Q1,Q0,Q8,Q4,Q6,if_true];show (PT.ev _ b2O _).bind _=_;simp only[b2O,a0m,IE.pe,Q3,Q5,Q1,Q0,SV.pvs,BE.all,Q9,Qb];exact key
theorem c8u(s t m a:W6)(hs:s.sm 100)(ht:t.sm 100)(hm:m.sm 100)(ha:a.sm 100)(hn:10<=n):a0B Tab n b1n [.agg s.pv,.agg t.pv,.agg m.pv,.agg a.pv] σ=some (.agg (paW s t m a).pv,σ):=by
 obtain⟨n,rfl⟩:∃k,n=k+8:=⟨n-8,by omega⟩
 have fin:∀(w:W6) fuel,d8K.loop (a0B Tab (n+7)) (fuel+1) 0 (a2a σ 6 s t m w)=some (.agg w.pv,σ):=fun w fuel=>by
  have e6:ltB 6 6=false:=rfl;rw[Sys.loop,show d8K.loops[0]?=some a1d from rfl];simp only[Q0,a2a,a1d,↓reduceIte,a0t,a0r,BE.safe,BE.pe,IE.pe,Q3,Q5,Q2,Q1,Q0,SV.pvs,SV.pv,e6,pv6,a0C,or_true]
 have hs':=hs.mono (show (100:Int)<=1000 by decide);have ht':=ht.mono (show (100:Int)<=1000 by decide);have hm':=hm.mono (show (100:Int)<=1000 by decide)
 have bd:∀{x y z w:Int},0<=z->z<=100->0<=w->w<=100->0<=paI x y z w/\paI x y z w<=1000:=fun {x y z w} h1 h2 h3 h4=>by
  unfold paI mnI mxI
  repeat' split
  all_goals omega
 have key:d8K.loop (a0B Tab (n+7)) (n+7) 0 (a2a σ 0 s t m a)=some (.agg (paW s t m a).pv,σ):=by
  have q:=ha.mono (show (100:Int)<=1000 by decide);have g:=hm;simp only[W6.sm] at ha g;have pa:=fun x y=>bd (x:=x) (y:=y) g.1 g.2.1 ha.1 ha.2.1
  have pb:=fun x y=>bd (x:=x) (y:=y) g.2.2.1 g.2.2.2.1 ha.2.2.1 ha.2.2.2.1
  have pc:=fun x y=>bd (x:=x) (y:=y) g.2.2.2.2.1 g.2.2.2.2.2.1 ha.2.2.2.2.1 ha.2.2.2.2.2.1
  have pd:=fun x y=>bd (x:=x) (y:=y) g.2.2.2.2.2.2.1 g.2.2.2.2.2.2.2.1 ha.2.2.2.2.2.2.1 ha.2.2.2.2.2.2.2.1
  have pe:=fun x y=>bd (x:=x) (y:=y) g.2.2.2.2.2.2.2.2.1 g.2.2.2.2.2.2.2.2.2.1 ha.2.2.2.2.2.2.2.2.1 ha.2.2.2.2.2.2.2.2.2.1
  rw[d2h σ _ s t m _ hs' ht' hm' q (n+6)];rw[d0U σ _ s t m _ hs' ht' hm' (by have:=pa s.a t.a;simp only[W6.sm] at q ⊢;omega) (n+5)];rw[d2q σ _ s t m _ hs' ht' hm' (by have:=pa s.a t.a;have:=pb s.b t.b;simp only[W6.sm] at q ⊢;omega) (n+4)];rw[d0S σ _ s t m _ hs' ht' hm' (by have:=pa s.a t.a;have:=pb s.b t.b;have:=pc s.c t.c;simp only[W6.sm] at q ⊢;omega) (n+3)];rw[d1f σ _ s t m _ hs' ht' hm' (by have:=pa s.a t.a;have:=pb s.b t.b;have:=pc s.c t.c;have:=pd s.d t.d;simp only[W6.sm] at q ⊢;omega) (n+2)];rw[d2y σ _ s t m _ hs' ht' hm' (by have:=pa s.a t.a;have:=pb s.b t.b;have:=pc s.c t.c;have:=pd s.d t.d;have:=pe s.e t.e;simp only[W6.sm] at q ⊢;omega) (n+1)];exact fin _ n
 rw[a0B];simp only[b7D,Q0,Sys.run,pv6];show ((a0E [.sh (.agg [_,_,_,_,_,_]),.sh (.agg [_,_,_,_,_,_]),.sh (.agg [_,_,_,_,_,_]),.sh (.agg [_,_,_,_,_,_])] _).bind _)=_;simp only[a0E,a0x,a0w,Q1,Q0,Q8,Q4,Q6,if_true];show (PT.ev _ a7P _).bind _=_;simp only[a7P,a0m,IE.pe,Q3,Q5,Q1,Q0,SV.pvs,BE.all,Q9,Qb];exact key
theorem c6V(s t m a:W6)(hs:s.sm 1000)(ht:t.sm 1000)(hm:m.sm 1000)(ha:a.sm 1000)(hn:10<=n):a0B Tab n b0y [.agg s.pv,.agg t.pv,.agg m.pv,.agg a.pv] σ=some (.bool (rfW s t m a),σ):=by
 obtain⟨n,rfl⟩:∃k,n=k+8:=⟨n-8,by omega⟩
 have fin:∀fuel,d8J.loop (a0B Tab (n+7)) (fuel+1) 0 (a2a σ 6 s t m a)=some (.bool false,σ):=fun fuel=>by
  have e6:ltB 6 6=false:=rfl;rw[Sys.loop,show d8J.loops[0]?=some a0Y from rfl];simp only[Q0,a2a,a0Y,↓reduceIte,a0t,a0r,BE.safe,BE.pe,IE.pe,Q3,Q2,Q1,Q0,SV.pv,e6,a0C,or_true]
 have key:d8J.loop (a0B Tab (n+7)) (n+7) 0 (a2a σ 0 s t m a)=some (.bool (rfW s t m a),σ):=by
  rw[d2v σ _ s t m a hs ht hm ha (n+6),d2i σ _ s t m a hs ht hm ha (n+5),d2A σ _ s t m a hs ht hm ha (n+4),d0W σ _ s t m a hs ht hm ha (n+3),d1D σ _ s t m a hs ht hm ha (n+2),d1U σ _ s t m a hs ht hm ha (n+1),fin n];unfold rfW
  repeat' split
  all_goals simp_all
 rw[a0B];simp only[b5Z,Q0,Sys.run,pv6];show ((a0E [.sh (.agg [_,_,_,_,_,_]),.sh (.agg [_,_,_,_,_,_]),.sh (.agg [_,_,_,_,_,_]),.sh (.agg [_,_,_,_,_,_])] _).bind _)=_;simp only[a0E,a0x,a0w,Q1,Q0,Q8,Q4,Q6,if_true];show (PT.ev _ a7l _).bind _=_;simp only[a7l,a0m,IE.pe,Q3,Q5,Q1,Q0,SV.pvs,BE.all,Q9,Qb];exact key
theorem c8A(v:PV)(l:List W6)(hv:BRd σ v l)(hok:∀w∈l,w.ok)(hl:l.length<=8)(s:W6)(hs:s.sm 1000)(hn:30<=n):a0B Tab n b6a [.agg s.pv,v] σ=some (.agg (exW s l).pv,σ):=by
 obtain⟨n,rfl⟩:∃k,n=k+1:=⟨n-1,by omega⟩;have k1:=c4E σ v l hv hok hl n (by omega);have k2:=d2z σ n (b1A l) s ((c9x hok hl).mono (by decide)) hs (by omega);simp only[b1w,b9q,pv6] at k1 k2;rw[a0B];simp only[c1D,Q0,Sys.run,pv6,exW];show ((a0E [.sh (.agg [_,_,_,_,_,_]),.sh (.one _)] _).bind _)=_;simp only[a0E,a0x,a0w,Q1,Q0,Q8,Q4,if_true,hv.one];show (PT.ev _ b0Q _).bind _=_;simp only[b0Q,↓reduceIte,a0t,a0l,IE.pe,Q3,Q5,Q7,Q2,a0w,a0p,a0x,Q1,Q0,PEnv.push,Q6,Q4,SV.pvs,SV.pv,k1,k2,a0C,or_true]
end
theorem a6T(o:Po):o.row=[.int .i64 o.st,.int .i64 o.pc,.int .i64 o.un,.int .i64 o.ru]:=rfl
def a8j(o:Po)(p ex:W6):W6×Int:=if (rsW o p ex).pok then(rsW o p ex,0) else(w0,4)
section
variable (σ:List MO)(n:Nat)
def a4c(o:Po):Int:=if o.ok then 0 else 4
theorem a9S(o:Po)(hn:1<=n):a0B Tab n a7U [.agg o.row] σ=some (.int .i64 (a4c o),σ):=by
 obtain⟨n,rfl⟩:∃k,n=k+1:=⟨n-1,by omega⟩;rw[a0B];simp only[b7o,Q0,Sys.run,a6T];show ((a0E [.sh (.agg [_,_,_,_])] _).bind _)=_;simp only[a0E,a0x,a0w,Q1,Q0,Q8,if_true];show (PT.ev _ a7S _).bind _=_;have e6:∀a b:Int,ltB a b=decide (a<b):=fun _ _=>rfl
 simp only[a7S,↓reduceIte,a0t,a0r,BE.safe,BE.pe,IE.pe,Q3,Q5,Q2,Q1,Q0,SV.pv,e6,a0C,or_true];by_cases h1:o.st<1
 ·rw[show a4c o=4 from if_neg (by unfold Po.ok;omega)];simp only[dT0 h1,↓reduceIte,Q0,]
 rw[dF0 h1];by_cases h2:1000000<o.st
 ·rw[show a4c o=4 from if_neg (by unfold Po.ok;omega)];simp only[dT0 h2,↓reduceIte,Q2,Q0,]
 rw[dF0 h2];by_cases h3:o.pc<0
 ·rw[show a4c o=4 from if_neg (by unfold Po.ok;omega)];simp only[dT0 h3,↓reduceIte,Q2,Q0,]
 rw[dF0 h3];by_cases h4:100<o.pc
 ·rw[show a4c o=4 from if_neg (by unfold Po.ok;omega)];simp only[dT0 h4,↓reduceIte,Q2,Q0,]
 rw[dF0 h4];by_cases h5:o.un<1
 ·rw[show a4c o=4 from if_neg (by unfold Po.ok;omega)];simp only[dT0 h5,↓reduceIte,Q2,Q0,]
 rw[dF0 h5];by_cases h6:3<o.un
 ·rw[show a4c o=4 from if_neg (by unfold Po.ok;omega)];simp only[dT0 h6,↓reduceIte,Q2,Q0,]
 rw[dF0 h6];by_cases h7:o.ru<1
 ·rw[show a4c o=4 from if_neg (by unfold Po.ok;omega)];simp only[dT0 h7,↓reduceIte,Q2,Q0,]
 rw[dF0 h7];by_cases h8:3<o.ru
 ·rw[show a4c o=4 from if_neg (by unfold Po.ok;omega)];simp only[dT0 h8,↓reduceIte,Q2,Q0,]
 rw[dF0 h8,show a4c o=0 from if_pos (by unfold Po.ok;omega)];simp only[↓reduceIte,Q2,Q0,]
theorem b3S(o:Po)(hn:1<=n):a0B Tab n a9C [.agg o.row] σ=some (.int .i64 (a4c o),σ):=by
 obtain⟨n,rfl⟩:∃k,n=k+1:=⟨n-1,by omega⟩;rw[a0B];simp only[b4g,Q0,Sys.run,a6T];show ((a0E [.sh (.agg [_,_,_,_])] _).bind _)=_;simp only[a0E,a0x,a0w,Q1,Q0,Q8,if_true];show (PT.ev _ a6f _).bind _=_;have e6:∀a b:Int,ltB a b=decide (a<b):=fun _ _=>rfl
 simp only[a6f,↓reduceIte,a0t,a0r,BE.safe,BE.pe,IE.pe,Q3,Q5,Q2,Q1,Q0,SV.pv,e6,a0C,or_true];by_cases h1:o.st<1
 ·rw[show a4c o=4 from if_neg (by unfold Po.ok;omega)];simp only[dT0 h1,↓reduceIte,Q0,]
 rw[dF0 h1];by_cases h2:1000000<o.st
 ·rw[show a4c o=4 from if_neg (by unfold Po.ok;omega)];simp only[dT0 h2,↓reduceIte,Q2,Q0,]
 rw[dF0 h2];by_cases h3:o.pc<0
 ·rw[show a4c o=4 from if_neg (by unfold Po.ok;omega)];simp only[dT0 h3,↓reduceIte,Q2,Q0,]
 rw[dF0 h3];by_cases h4:100<o.pc
 ·rw[show a4c o=4 from if_neg (by unfold Po.ok;omega)];simp only[dT0 h4,↓reduceIte,Q2,Q0,]
 rw[dF0 h4];by_cases h5:o.un<1
 ·rw[show a4c o=4 from if_neg (by unfold Po.ok;omega)];simp only[dT0 h5,↓reduceIte,Q2,Q0,]
 rw[dF0 h5];by_cases h6:3<o.un
 ·rw[show a4c o=4 from if_neg (by unfold Po.ok;omega)];simp only[dT0 h6,↓reduceIte,Q2,Q0,]
 rw[dF0 h6];by_cases h7:o.ru<1
 ·rw[show a4c o=4 from if_neg (by unfold Po.ok;omega)];simp only[dT0 h7,↓reduceIte,Q2,Q0,]
 rw[dF0 h7];by_cases h8:3<o.ru
 ·rw[show a4c o=4 from if_neg (by unfold Po.ok;omega)];simp only[dT0 h8,↓reduceIte,Q2,Q0,]
 rw[dF0 h8,show a4c o=0 from if_pos (by unfold Po.ok;omega)];simp only[↓reduceIte,Q2,Q0,]
def c8R(z:Int):Int:=if 0<=z/\z<=1000000 then 0 else 4
theorem c8v(z:Int)(hn:2<=n):a0B Tab n b6k [.int .i64 z] σ=some (.int .i64 (c8R z),σ):=by
 obtain⟨n,rfl⟩:∃k,n=k+1+1:=⟨n-2,by omega⟩
 have k1:a0B Tab (n+1) c1o [.int .i64 z] σ=some (.bool (decide (0<=z/\z<=1000000)),σ):=by
  rw[a0B];simp only[c5f,Q0,Sys.run];show ((a0E [.sh (.one _)] _).bind _)=_;simp only[a0E,a0x,a0w,Q1,Q0,Q8,if_true];show (PT.ev _ b4Z _).bind _=_;simp only[b4Z,↓reduceIte,a0t,a0r,BE.safe,BE.pe,IE.pe,Q3,Q0,SV.pv,];by_cases h:0<=z
  ·rw[a1u.2 h]
   simp only[↓reduceIte,Q2,Q1,Q0,a0C,or_true]
   congr 3
   simp[leB,h]
  ·rw[a4u.2 h]
   simp only[↓reduceIte,Q2,Q1,Q0,a0C,or_true];rw[dF0 (by omega)]
 simp only[c1o] at k1;rw[a0B];simp only[c1B,Q0,Sys.run];show ((a0E [.sh (.one _)] _).bind _)=_;simp only[a0E,a0x,a0w,Q1,Q0,Q8,if_true];show (PT.ev _ b0V _).bind _=_;unfold c8R;simp only[b0V,↓reduceIte,a0t,a0r,a0l,BE.safe,BE.pe,IE.pe,Q3,a0w,a0p,a0x,Q1,Q0,PEnv.push,Q6,Q4,SV.pvs,SV.pv,k1];by_cases h:0<=z/\z<=1000000
 ·rw[dT0 h,if_pos h];simp only[↓reduceIte,Q2,Q1,Q0,Qk,a0C,or_true]
 ·rw[dF0 h,if_neg h];simp only[↓reduceIte,Q2,Q1,Q0,Qu,a0C,or_true]
theorem b5P(z:Int):eqB (c8R z) 0=decide (0<=z/\z<=1000000):=by
 unfold c8R;split<;>rename_i h
 ·rw[dT0 h];rfl
 ·rw[dF0 h];rfl
theorem d3G(w:W6):decide w.pok=(decide (0<=w.a/\w.a<=1000000)&&(decide (0<=w.b/\w.b<=1000000)&&(decide (0<=w.c/\w.c<=1000000)&&(decide (0<=w.d/\w.d<=1000000)&&(decide (0<=w.e/\w.e<=1000000)&&decide (0<=w.f/\w.f<=1000000)))))):=by
 rw[XJ];simp only[decide_eq_true_eq,Qy];unfold W6.pok;omega
theorem a4W(p:W6)(hn:3<=n):a0B Tab n a2o [.agg p.pv] σ=some (.bool (decide p.pok),σ):=by
 obtain⟨n,rfl⟩:∃k,n=k+1:=⟨n-1,by omega⟩;have k1:=fun z=>c8v σ n z (by omega)
 simp only[b6k] at k1;rw[a0B];simp only[b7d,Q0,Sys.run,pv6];show ((a0E [.sh (.agg [_,_,_,_,_,_])] _).bind _)=_;simp only[a0E,a0x,a0w,Q1,Q0,Q8,if_true];show (PT.ev _ a7H _).bind _=_;rw[d3G];simp only[a7H,↓reduceIte,a0t,a0r,a0l,BE.safe,BE.pe,IE.pe,Q3,Q5,a0w,a0p,a0x,Q1,Q0,PEnv.push,Q6,Q4,Q8,SV.pvs,SV.pv,k1,b5P];cases decide (0<=p.a/\p.a<=1000000) with
 | false=>simp only[↓reduceIte,Q2,Q1,Q0,Qu,a0C,or_true,QE]
 | true =>
 simp only[↓reduceIte,Q2,Qk,QD];cases decide (0<=p.b/\p.b<=1000000) with
 | false=>simp only[↓reduceIte,Q2,Q1,Q0,Qu,a0C,or_true,QE]
 | true =>
 simp only[↓reduceIte,Q2,Qk,QD];cases decide (0<=p.c/\p.c<=1000000) with
 | false=>simp only[↓reduceIte,Q2,Q1,Q0,Qu,a0C,or_true,QE]
 | true =>
 simp only[↓reduceIte,Q2,Qk,QD];cases decide (0<=p.d/\p.d<=1000000) with
 | false=>simp only[↓reduceIte,Q2,Q1,Q0,Qu,a0C,or_true,QE]
 | true =>
 simp only[↓reduceIte,Q2,Qk,QD];cases decide (0<=p.e/\p.e<=1000000) with
 | false=>simp only[↓reduceIte,Q2,Q1,Q0,Qu,a0C,or_true,QE]
 | true =>
 simp only[↓reduceIte,Q2,Qk,QD];cases decide (0<=p.f/\p.f<=1000000)<;>simp only[↓reduceIte,Q2,Q1,Q0,Qk,Qu,a0C,or_true]
theorem d6p{o:Po}(ho:o.ok){p:Int}(h0:0<=p)(h1:p<=1000000):0<=p*o.pc/\p*o.pc<=100000000/\0<=QW (p*o.pc+99) 100/\QW (p*o.pc+99) 100<=1000001/\p<rsI o p:=by
 unfold Po.ok at ho;have a0:0<=p*o.pc:=Int.mul_nonneg h0 ho.2.2.1;have a1:p*o.pc<=1000000*100:=Int.mul_le_mul h1 ho.2.2.2.1 ho.2.2.1 (by omega);have e:QW (p*o.pc+99) 100=(p*o.pc+99) / 100:=Int.tdiv_eq_ediv_of_nonneg (by omega);unfold rsI;rw[e];omega
theorem a8k(o:Po)(ho:o.ok)(p:Int)(h0:0<=p)(h1:p<=1000000)(hn:1<=n):a0B Tab n a4y [.int .i64 p,.cell o.row 0] σ=some (.int .i64 (rsI o p),σ):=by
 obtain⟨n,rfl⟩:∃k,n=k+1:=⟨n-1,by omega⟩;obtain⟨b1,b2,b3,b4,_⟩:=d6p ho h0 h1;unfold Po.ok at ho;have g1:=a0N (z:=p+o.st) (by omega);have g2:=a0N (z:=p*o.pc) (by omega);have g3:=a0N (z:=p*o.pc+99) (by omega);have g4:=a0N (z:=QW (p*o.pc+99) 100) (by omega);have g5:=a0N (z:=p+o.st+QW (p*o.pc+99) 100) (by omega);rw[a0B];simp only[b3C,Q0,Sys.run,a6T];show ((a0E [.sh (.one _),.ptr] _).bind _)=_;simp only[a0E,a0x,a0w,Q1,Q0,Q8,Q4,if_true,PV.isPtr];show (PT.ev _ a6c _).bind _=_;simp only[a6c,↓reduceIte,a0t,a0h,a0k,BE.safe,BE.pe,IE.pe,Q3,Q5,Q7,a0y,a0A,a0e,a0z,QL,Qr,Qe,Qf,Nat.reduceAdd,Q2,QK,QC,a0w,Q1,Q0,PEnv.push,Q6,Q4,SV.pv,Qa,List.drop_succ_cons,Nat.reduceLeDiff,if_pos g1,if_pos g2,if_pos g3,if_pos g4,if_pos g5,a0C,true_or,rsI]
theorem c9g(hσ:Low σ)(o:Po)(hn:1<=n):a0B Tab n b0u [.agg o.row] σ=some (.fn a4y [.cell o.row 0],σ):=by
 obtain⟨n,rfl⟩:∃k,n=k+1:=⟨n-1,by omega⟩;rw[a0B];simp only[b5L,Q0,Sys.run,a6T];show ((a0E [.sh (.agg [_,_,_,_])] _).bind _)=_;simp only[a0E,a0x,a0w,Q1,Q0,Q8,if_true];show (PT.ev _ a7m _).bind _=_;have h1:¬(σ.length+1=σ.length):=by omega
 have h2:¬σ.length<σ.length:=by omega
 have hl:List.all σ (MO.low σ.length)=true:=hσ;simp only[a7m,a0t,a0j,IE.pe,Q3,Q5,Q7,Q1,Q0,Q4,SV.pvs,SV.pv,];simp[a0C,PV.on,hl,PV.frz,PV.frzs,b0a,MO.list]
end
theorem d1b(x y:W6):W6.beq x y=true↔x=y:=by
 obtain⟨a,b,c,d,e,f⟩:=x;obtain⟨a',b',c',d',e',f'⟩:=y;simp[W6.beq,eqB]
def fnV(o:Po):PV:=.fn a4y [.cell o.row 0]
section
variable (σ:List MO)(n:Nat)(o:Po)(ho:o.ok)(p ex:W6)(hp:p.pok)
def a4Z(σ:List MO)(o:Po)(p ex:W6)(k:Int)(w:W6):PEnv:={i:=[ex.a,ex.b,ex.c,ex.d,ex.e,ex.f,k,o.st,o.pc,o.un,o.ru,p.a,p.b,p.c,p.d,p.e,p.f,w.a,w.b,w.c,w.d,w.e,w.f],b:=[],v:=[fnV o],m:=σ,k:=σ.length}
def upI(o:Po)(e p:Int):Int:=if 0<e then rsI o p else p
include ho hp in
theorem d2p(hn:4<=n)(w:W6)(hw:w.a=p.a)(fuel:Nat) :
  d8N.loop (a0B Tab n) (fuel+1) 0 (a4Z σ o p ex 0 w)=d8N.loop (a0B Tab n) fuel 0 (a4Z σ o p ex 1 {w with a:=upI o ex.a p.a}):=by
 have e5:∀a b:Int,eqB a b=decide (a=b):=fun _ _=>rfl
 have e6:∀a b:Int,ltB a b=decide (a<b):=fun _ _=>rfl
 have hp':=hp;simp only[W6.pok] at hp';have k1:=a4W σ n p (by omega);have k2:=a8k σ n o ho p.a (by omega) (by omega) (by omega);rw[dT0 hp] at k1;simp only[a2o,pv6] at k1;rw[Sys.loop,show d8N.loops[0]?=some a1j from rfl];simp only[a4Z,upI,fnV];simp only[Q0,a1j,↓reduceIte,a0r,a0l,a0g,a0m,BE.safe,BE.pe,IE.pe,Q3,Q5,Q7,Q2,a0p,a0x,Q1,Q0,PEnv.push,Q6,Q4,SV.pvs,SV.pv,BE.all,Q9,Qb,e5,e6,Int.reduceEq,Int.reduceLT,decide_true,decide_false];by_cases h:0<ex.a
 ·simp only[↓reduceIte,Q3,a0w,Q1,Q0,Q4,dT0 h,if_pos h,k1,k2]
 ·simp only[↓reduceIte,Q2,Q0,dF0 h,if_neg h,hw]
include ho hp in
theorem d1k(hn:4<=n)(w:W6)(hw:w.b=p.b)(fuel:Nat) :
  d8N.loop (a0B Tab n) (fuel+1) 0 (a4Z σ o p ex 1 w)=d8N.loop (a0B Tab n) fuel 0 (a4Z σ o p ex 2 {w with b:=upI o ex.b p.b}):=by
 have e5:∀a b:Int,eqB a b=decide (a=b):=fun _ _=>rfl
 have e6:∀a b:Int,ltB a b=decide (a<b):=fun _ _=>rfl
 have hp':=hp;simp only[W6.pok] at hp';have k1:=a4W σ n p (by omega);have k2:=a8k σ n o ho p.b (by omega) (by omega) (by omega);rw[dT0 hp] at k1;simp only[a2o,pv6] at k1;rw[Sys.loop,show d8N.loops[0]?=some a1j from rfl];simp only[a4Z,upI,fnV];simp only[Q0,a1j,↓reduceIte,a0r,a0l,a0g,a0m,BE.safe,BE.pe,IE.pe,Q3,Q5,Q7,Q2,a0p,a0x,Q1,Q0,PEnv.push,Q6,Q4,SV.pvs,SV.pv,BE.all,Q9,Qb,e5,e6,Int.reduceEq,Int.reduceLT,decide_true,decide_false];by_cases h:0<ex.b
 ·simp only[↓reduceIte,Q3,a0w,Q1,Q0,Q4,dT0 h,if_pos h,k1,k2]
 ·simp only[↓reduceIte,Q2,Q0,dF0 h,if_neg h,hw]
include ho hp in
theorem d1L(hn:4<=n)(w:W6)(hw:w.c=p.c)(fuel:Nat) :
  d8N.loop (a0B Tab n) (fuel+1) 0 (a4Z σ o p ex 2 w)=d8N.loop (a0B Tab n) fuel 0 (a4Z σ o p ex 3 {w with c:=upI o ex.c p.c}):=by
 have e5:∀a b:Int,eqB a b=decide (a=b):=fun _ _=>rfl
 have e6:∀a b:Int,ltB a b=decide (a<b):=fun _ _=>rfl
 have hp':=hp;simp only[W6.pok] at hp';have k1:=a4W σ n p (by omega);have k2:=a8k σ n o ho p.c (by omega) (by omega) (by omega);rw[dT0 hp] at k1;simp only[a2o,pv6] at k1;rw[Sys.loop,show d8N.loops[0]?=some a1j from rfl];simp only[a4Z,upI,fnV];simp only[Q0,a1j,↓reduceIte,a0r,a0l,a0g,a0m,BE.safe,BE.pe,IE.pe,Q3,Q5,Q7,Q2,a0p,a0x,Q1,Q0,PEnv.push,Q6,Q4,SV.pvs,SV.pv,BE.all,Q9,Qb,e5,e6,Int.reduceEq,Int.reduceLT,decide_true,decide_false];by_cases h:0<ex.c
 ·simp only[↓reduceIte,Q3,a0w,Q1,Q0,Q4,dT0 h,if_pos h,k1,k2]
 ·simp only[↓reduceIte,Q2,Q0,dF0 h,if_neg h,hw]
include ho hp in
theorem d1e(hn:4<=n)(w:W6)(hw:w.d=p.d)(fuel:Nat) :
  d8N.loop (a0B Tab n) (fuel+1) 0 (a4Z σ o p ex 3 w)=d8N.loop (a0B Tab n) fuel 0 (a4Z σ o p ex 4 {w with d:=upI o ex.d p.d}):=by
 have e5:∀a b:Int,eqB a b=decide (a=b):=fun _ _=>rfl
 have e6:∀a b:Int,ltB a b=decide (a<b):=fun _ _=>rfl
 have hp':=hp;simp only[W6.pok] at hp';have k1:=a4W σ n p (by omega);have k2:=a8k σ n o ho p.d (by omega) (by omega) (by omega);rw[dT0 hp] at k1;simp only[a2o,pv6] at k1;rw[Sys.loop,show d8N.loops[0]?=some a1j from rfl];simp only[a4Z,upI,fnV];simp only[Q0,a1j,↓reduceIte,a0r,a0l,a0g,a0m,BE.safe,BE.pe,IE.pe,Q3,Q5,Q7,Q2,a0p,a0x,Q1,Q0,PEnv.push,Q6,Q4,SV.pvs,SV.pv,BE.all,Q9,Qb,e5,e6,Int.reduceEq,Int.reduceLT,decide_true,decide_false];by_cases h:0<ex.d
 ·simp only[↓reduceIte,Q3,a0w,Q1,Q0,Q4,dT0 h,if_pos h,k1,k2]
 ·simp only[↓reduceIte,Q2,Q0,dF0 h,if_neg h,hw]
include ho hp in
theorem d1d(hn:4<=n)(w:W6)(hw:w.e=p.e)(fuel:Nat) :
  d8N.loop (a0B Tab n) (fuel+1) 0 (a4Z σ o p ex 4 w)=d8N.loop (a0B Tab n) fuel 0 (a4Z σ o p ex 5 {w with e:=upI o ex.e p.e}):=by
 have e5:∀a b:Int,eqB a b=decide (a=b):=fun _ _=>rfl
 have e6:∀a b:Int,ltB a b=decide (a<b):=fun _ _=>rfl
 have hp':=hp;simp only[W6.pok] at hp';have k1:=a4W σ n p (by omega);have k2:=a8k σ n o ho p.e (by omega) (by omega) (by omega);rw[dT0 hp] at k1;simp only[a2o,pv6] at k1;rw[Sys.loop,show d8N.loops[0]?=some a1j from rfl];simp only[a4Z,upI,fnV];simp only[Q0,a1j,↓reduceIte,a0r,a0l,a0g,a0m,BE.safe,BE.pe,IE.pe,Q3,Q5,Q7,Q2,a0p,a0x,Q1,Q0,PEnv.push,Q6,Q4,SV.pvs,SV.pv,BE.all,Q9,Qb,e5,e6,Int.reduceEq,Int.reduceLT,decide_true,decide_false];by_cases h:0<ex.e
 ·simp only[↓reduceIte,Q3,a0w,Q1,Q0,Q4,dT0 h,if_pos h,k1,k2]
 ·simp only[↓reduceIte,Q2,Q0,dF0 h,if_neg h,hw]
include ho hp in
theorem d1M(hn:4<=n)(w:W6)(hw:w.f=p.f)(fuel:Nat) :
  d8N.loop (a0B Tab n) (fuel+1) 0 (a4Z σ o p ex 5 w)=d8N.loop (a0B Tab n) fuel 0 (a4Z σ o p ex 6 {w with f:=upI o ex.f p.f}):=by
 have e5:∀a b:Int,eqB a b=decide (a=b):=fun _ _=>rfl
 have e6:∀a b:Int,ltB a b=decide (a<b):=fun _ _=>rfl
 have hp':=hp;simp only[W6.pok] at hp';have k1:=a4W σ n p (by omega);have k2:=a8k σ n o ho p.f (by omega) (by omega) (by omega);rw[dT0 hp] at k1;simp only[a2o,pv6] at k1;rw[Sys.loop,show d8N.loops[0]?=some a1j from rfl];simp only[a4Z,upI,fnV];simp only[Q0,a1j,↓reduceIte,a0r,a0l,a0g,a0m,BE.safe,BE.pe,IE.pe,Q3,Q5,Q7,a0p,a0x,Q1,Q0,PEnv.push,Q6,Q4,SV.pvs,SV.pv,BE.all,Q9,Qb,e5,e6,Int.reduceLT,decide_true,];by_cases h:0<ex.f
 ·simp only[↓reduceIte,Q3,a0w,Q1,Q0,Q4,dT0 h,if_pos h,k1,k2]
 ·simp only[↓reduceIte,Q2,Q0,dF0 h,if_neg h,hw]
include ho hp in
theorem d0P(hσ:Low σ)(hn:20<=n):a0B Tab n b1X [.agg o.row,.agg p.pv,.agg ex.pv] σ=some (.tup [.agg (a8j o p ex).1.pv,.int .i64 (a8j o p ex).2],σ):=by
 obtain⟨n,rfl⟩:∃k,n=k+8:=⟨n-8,by omega⟩;have v1:=a4W σ (n+7) p (by omega);have v2:=a4W σ (n+7) (rsW o p ex) (by omega);have c1:=a9S σ (n+7) o (by omega);have c2:=c9g σ (n+7) hσ o (by omega);rw[dT0 hp] at v1;rw[show a4c o=0 by unfold a4c;rw[if_pos ho]] at c1;simp only[a2o,a7U,b0u,pv6,a6T] at v1 v2 c1 c2;have e6:ltB 6 6=false:=rfl
 have fin:∀fuel,d8N.loop (a0B Tab (n+7)) (fuel+1) 0 (a4Z σ o p ex 6 (rsW o p ex))=some (.tup [.agg (a8j o p ex).1.pv,.int .i64 (a8j o p ex).2],σ):=fun fuel=>by
  unfold a8j;have hb:(eqB (rsW o p ex).a p.a&&(eqB (rsW o p ex).b p.b&&(eqB (rsW o p ex).c p.c&&(eqB (rsW o p ex).d p.d&&(eqB (rsW o p ex).e p.e&&eqB (rsW o p ex).f p.f)))))=W6.beq (rsW o p ex) p:=rfl;rw[Sys.loop,show d8N.loops[0]?=some a1j from rfl];simp only[Q0,a4Z,a1j,↓reduceIte,a0t,a0r,a0l,BE.safe,BE.pe,IE.pe,Q3,Q5,Q2,a0w,a0p,a0x,Q1,Q0,PEnv.push,Q6,Q4,SV.pvs,SV.pv,Qa,Qk,e6,v1,hb];by_cases hq:W6.beq (rsW o p ex) p=true
  ·have he:=(d1b _ _).1 hq
   simp only[hq,↓reduceIte,Q2,Q1,Q0,Qk,a0C,or_true];rw[if_pos (by rw[he];exact hp)];rfl
  ·rw[X4] at hq
   simp only[hq,↓reduceIte,Q3,a0w,Q1,Q0,Qu,v2];by_cases hk:(rsW o p ex).pok
   ·rw[dT0 hk,if_pos hk]
    simp only[↓reduceIte,Q2,Q1,Q0,Qk,a0C,or_true,pv6]
   ·rw[dF0 hk,if_neg hk]
    simp only[↓reduceIte,Q2,Q1,Q0,Qu,a0C,or_true,pv6,w0]
 have key:d8N.loop (a0B Tab (n+7)) (n+7) 0 (a4Z σ o p ex 0 p)=some (.tup [.agg (a8j o p ex).1.pv,.int .i64 (a8j o p ex).2],σ):=by
  rw[d2p σ _ o ho p ex hp (by omega) p rfl (n+6),d1k σ _ o ho p ex hp (by omega) ⟨upI o ex.a p.a,p.b,p.c,p.d,p.e,p.f⟩ rfl (n+5),d1L σ _ o ho p ex hp (by omega) ⟨upI o ex.a p.a,upI o ex.b p.b,p.c,p.d,p.e,p.f⟩ rfl (n+4),d1e σ _ o ho p ex hp (by omega) ⟨upI o ex.a p.a,upI o ex.b p.b,upI o ex.c p.c,p.d,p.e,p.f⟩ rfl (n+3),d1d σ _ o ho p ex hp (by omega) ⟨upI o ex.a p.a,upI o ex.b p.b,upI o ex.c p.c,upI o ex.d p.d,p.e,p.f⟩ rfl (n+2),d1M σ _ o ho p ex hp (by omega) ⟨upI o ex.a p.a,upI o ex.b p.b,upI o ex.c p.c,upI o ex.d p.d,upI o ex.e p.e,p.f⟩ rfl (n+1)];exact fin n
 rw[a0B];simp only[b8s,Q0,Sys.run,pv6,a6T];show ((a0E [.sh (.agg [_,_,_,_]),.sh (.agg [_,_,_,_,_,_]),.sh (.agg [_,_,_,_,_,_])] _).bind _)=_;simp only[a0E,a0x,a0w,Q1,Q0,Q8,Q4,Q6,if_true]
 have E:∃b,PT.ev (a0B Tab (n+7)) a5Z {i:=[o.st,o.pc,o.un,o.ru,p.a,p.b,p.c,p.d,p.e,p.f,ex.a,ex.b,ex.c,ex.d,ex.e,ex.f],b:=[],v:=[],m:=σ,k:=σ.length}=some (.jump 0 b)/\b=a4Z σ o p ex 0 p:=by
  refine⟨_,?_,rfl⟩;have e0:eqB 0 0=true:=rfl;have one1:PV.one (.fn a4y [.cell [.int .i64 o.st,.int .i64 o.pc,.int .i64 o.un,.int .i64 o.ru] 0])=true:=rfl;simp only[a5Z,↓reduceIte,a0t,a0r,a0l,BE.safe,BE.pe,IE.pe,Q3,Q5,Q2,a0w,a0p,a0x,Q1,Q0,PEnv.push,Q6,Q4,SV.pvs,SV.pv,Qk,c1,e0]
  repeat' (first|with_reducible rfl|apply a4g|simp only[↓reduceIte,a0l,a0m,IE.pe,Q3,Q5,Q7,a0w,a0p,a0x,Q1,Q0,PEnv.push,Q6,Q4,SV.pvs,SV.pv,BE.all,Q9,Qb,c2,one1,a4Z,fnV,a6T]|unfold a6H)
 obtain⟨b,E,rfl⟩:=E;show ((PT.ev (a0B Tab (n+7)) a5Z _).bind _)=_;exact(congrArg (Xc · _) E).trans key
end
def a4F(l:List Pr):W6:=⟨((l.map Pr.r)[0]?).getD 0,((l.map Pr.r)[1]?).getD 0,((l.map Pr.r)[2]?).getD 0,((l.map Pr.r)[3]?).getD 0,((l.map Pr.r)[4]?).getD 0,((l.map Pr.r)[5]?).getD 0⟩
theorem d1s{l:List Pr}(h:∀x∈l,x.rng):(a4F l).pok:=by
 have g:∀i:Nat,0<=((l.map Pr.r)[i]?).getD 0/\((l.map Pr.r)[i]?).getD 0<=1000000:=fun i=>by
  rw[QQ];cases hx:l[i]? with
  | none=>simp
  | some x=>have:=h x (Qt hx);simp only[Pr.rng] at this;simp;omega
 have:=g 0;have:=g 1;have:=g 2;have:=g 3;have:=g 4;have:=g 5;simp only[W6.pok,a4F];omega
section
variable (σ:List MO)(l:List Pr)(P:PV)(hP:P.rowsOf 5=some (l.map Pr.row))(hl:l.length<=6)(n:Nat)
def c0j(P:PV)(σ:List MO)(N i:Nat)(w:W6):PEnv:={i:=[(N:Int),(i:Int),w.a,w.b,w.c,w.d,w.e,w.f],b:=[],v:=[P],m:=σ,k:=σ.length}
include hP hl in
theorem b9d(hn:10<=n):a0B Tab n a8f [P] σ=some (.agg (a4F l).pv,σ):=by
 obtain⟨n,rfl⟩:∃k,n=k+1:=⟨n-1,by omega⟩;obtain⟨q1,q2,q3⟩:=a0D hP;rw[Qz] at q1;have hP2:(PV.sl 5 (l.map Pr.row)).rowsOf 5=some (l.map Pr.row):=a1K _ _;obtain⟨p1,p2,p3⟩:=a0D hP2;rw[Qz] at p1
 have step:∀i x,l[i]?=some x->∀fuel (w:W6),d9a.loop (a0B Tab n) (fuel+1) 0 (c0j (.sl 5 (l.map Pr.row)) σ l.length i w)=d9a.loop (a0B Tab n) fuel 0 (c0j (.sl 5 (l.map Pr.row)) σ l.length (i+1) (match i with|0=>{w with a:=x.r}|1=>{w with b:=x.r}|2=>{w with c:=x.r}|3=>{w with d:=x.r}|4=>{w with e:=x.r}|_=>{w with f:=x.r})):=by
  intro i x hx fuel w;have hlt:i<l.length:=(Qn.1 hx).1;have hd:decide (i<l.length)=true:=dT0 hlt;have h0:=a0J (off:=0) hP2 (a1r hx);have e5:∀a b:Int,eqB a b=decide (a=b):=fun _ _=>rfl
  rw[Sys.loop,show d9a.loops[0]?=some a3Y from rfl];simp only[c0j];simp only[Q0,a3Y,↓reduceIte,a0r,a0h,a0k,a0m,BE.safe,BE.pe,IE.pe,PEnv.at,Q3,Q5,Q7,a0y,a0e,a0z,Qr,Qe,Qf,Nat.reduceAdd,Qm,Q2,QK,QC,a0w,Q1,Q0,PEnv.push,Q6,Q4,SV.pvs,SV.pv,BE.all,Qa,Q9,Qb,p1,a0G,hd,le0,h0,a2m,a1H];obtain rfl|rfl|rfl|rfl|rfl|rfl:i=0\/i=1\/i=2\/i=3\/i=4\/i=5:=by omega
  all_goals rfl
 have fin:∀fuel (w:W6),d9a.loop (a0B Tab n) (fuel+1) 0 (c0j (.sl 5 (l.map Pr.row)) σ l.length l.length w)=some (.agg w.pv,σ):=by
  intro fuel w;have hd:decide (l.length<l.length)=false:=by simp
  rw[Sys.loop,show d9a.loops[0]?=some a3Y from rfl];simp only[c0j];simp only[Q0,a3Y,↓reduceIte,a0t,a0r,BE.safe,BE.pe,IE.pe,Q3,Q5,Q2,Q1,Q0,SV.pvs,SV.pv,a0G,hd,a0C,or_true,W6.pv]
 have key:d9a.loop (a0B Tab n) n 0 (c0j (.sl 5 (l.map Pr.row)) σ l.length 0 ⟨0,0,0,0,0,0⟩)=some (.agg (a4F l).pv,σ):=by
  obtain⟨m,rfl⟩:∃m,n=m+7:=⟨n-7,by omega⟩;rcases l with _|⟨a,_|⟨b,_|⟨c,_|⟨d,_|⟨e,_|⟨f,_|⟨z,r⟩⟩⟩⟩⟩⟩⟩
  ·exact fin _ _
  ·rw[step 0 a rfl];exact fin _ _
  ·rw[step 0 a rfl,step 1 b rfl];exact fin _ _
  ·rw[step 0 a rfl,step 1 b rfl,step 2 c rfl];exact fin _ _
  ·rw[step 0 a rfl,step 1 b rfl,step 2 c rfl,step 3 d rfl];exact fin _ _
  ·rw[step 0 a rfl,step 1 b rfl,step 2 c rfl,step 3 d rfl,step 4 e rfl];exact fin _ _
  ·rw[step 0 a rfl,step 1 b rfl,step 2 c rfl,step 3 d rfl,step 4 e rfl,step 5 f rfl];exact fin _ _
  ·simp at hl
 rw[a0B];simp only[b7U,Q0,Sys.run];show ((a0E [.sh (.one _)] _).bind _)=_;simp only[a0E,a0x,a0w,Q1,Q0,Q8,if_true,q3];show (PT.ev _ a7O _).bind _=_;have hm:mnI (l.length:Int) 6=(l.length:Int):=by unfold mnI;rw[if_neg (by omega)]
 have c1:(0:Int)<=0/\(0:Int)<=(l.length:Int)/\(l.length:Int)<=((l.map Pr.row).length:Int):=by rw[Qz];omega
 have c2:((l.map Pr.row).take (l.length:Int).toNat).drop (0:Int).toNat=l.map Pr.row:=by rw[QA,QM (by simp)];rfl
 simp only[a7O,↓reduceIte,a0h,a0v,a0m,BE.safe,BE.pe,IE.pe,PEnv.at,Q3,Q5,Q7,Qd,Q1,Q0,Q6,Q4,SV.pvs,SV.pv,BE.all,Q9,Qb,q1,q2,hP,a2H,a2I,hm,if_pos c1,c2,p1,p2];exact key
end
theorem b6L(un:Int)(s:W6)(asked out:List W6):∀i,(apN un s asked out i).length=out.length
 | 0=>rfl
 | i+1=>by rw[apN,Qp,b6L un s asked out i]
theorem b6b{s t m a:Int}(h1:0<=m)(h2:m<=4)(h3:0<=a)(h4:a<=4):0<=paI s t m a/\paI s t m a<=4:=by
 unfold paI mnI mxI
 repeat' split
 all_goals omega
theorem d4o(s t m a:W6)(hm:m.ok)(ha:a.ok):(paW s t m a).ok:=by
 simp only[W6.ok] at hm ha;have g1:=@b6b s.a t.a m.a a.a (by omega) (by omega) (by omega) (by omega);have g2:=@b6b s.b t.b m.b a.b (by omega) (by omega) (by omega) (by omega);have g3:=@b6b s.c t.c m.c a.c (by omega) (by omega) (by omega) (by omega);have g4:=@b6b s.d t.d m.d a.d (by omega) (by omega) (by omega) (by omega);have g5:=@b6b s.e t.e m.e a.e (by omega) (by omega) (by omega) (by omega);have g6:=@b6b s.f t.f m.f a.f (by omega) (by omega) (by omega) (by omega);simp only[W6.ok,paW];omega
theorem d3a(un:Int)(s t m a:W6)(hm:m.ok)(ha:a.ok):(pick un s t m a).ok:=by
 unfold pick;split
 ·split
  ·exact hm
  ·exact ha
 ·split
  ·exact d4o s t m a hm ha
  ·exact ha
theorem c6F(un:Int)(s:W6){asked out:List W6}(ha:∀w∈asked,w.ok)(ho:∀w∈out,w.ok)(hl:asked.length=out.length):∀i,i<=out.length->∀w∈apN un s asked out i,w.ok
 | 0,_=>ho
 | i+1,hi=>by
  have ih:=c6F un s ha ho hl i (by omega);intro w hw;rcases QU hw with hw|rfl
  ·exact ih w hw
  ·obtain⟨m,hm⟩:=a0P (show i<(apN un s asked out i).length by rw[b6L];omega)
   obtain⟨a,ha'⟩:=a0P (show i<asked.length by omega);rw[b9n hm,b9n ha'];exact d3a _ _ _ _ _ (ih m (Qt hm)) (ha a (Qt ha'))
theorem d2K{w:W6}(h:w.ok):a3e w=0:=by unfold a3e;rw[if_pos h]
theorem c4W:∀l:List W6,a4S 6 l.length (l.map W6.pv).flatten=some (l.map W6.pv)
 | []=>rfl
 | w::l=>by
  have ih:=c4W l;rw[Q9,Qs,Qe,a4S,Xj (b6f w),Xp (b6f w),if_pos ⟨by simp[b6f],rfl⟩,ih];rfl
section
variable (σ:List MO)(n:Nat)(un:Int)(s:W6)(v0 v1:PV)(l0 l1:List W6)
def b7h(σ:List MO)(v0 v1 v:PV)(q N j:Int):PEnv:={i:=[q,N,j],b:=[],v:=[v0,v1,v],m:=σ,k:=σ.length}
theorem c7t(v:PV)(l:List W6)(hv:BRd σ v l)(hok:∀w∈l,w.ok)(hl:l.length<=8)(hn:1<=n)(q:Int):∀d j,j+d=l.length->∀fuel,d8U.loop (a0B Tab n) (fuel+d) 0 (b7h σ v0 v1 v q (l.length:Int) (j:Int))=d8U.loop (a0B Tab n) fuel 0 (b7h σ v0 v1 v q (l.length:Int) (l.length:Int)):=by
 intro d
 induction d with
 | zero=>intro j hj fuel;rw[show j=l.length by omega];rfl
 | succ d ih =>
  intro j hj fuel;obtain⟨w,hw⟩:=a0P (show j<l.length by omega);have hd:ltB (j:Int) (l.length:Int)=true:=by rw[a0O];omega
  obtain⟨L,hL⟩:=hv.rd j w hw;obtain⟨q1,q2⟩:=hL 0 6 (by decide);have k1:=a2E σ w n hn;rw[d2K (hok w (Qt hw))] at k1;simp only[a2T,pv6] at k1;have hup:=a1M (show j<=1000000000 by omega);have ih:=ih (j+1) (by omega) fuel;rw[a0T] at ih;rw[<- ih,show fuel+(d+1)=fuel+d+1 from rfl,Sys.loop,show d8U.loops[0]?=some a2F from rfl];have e0:eqB 0 0=true:=rfl;simp only[Q0,b7h,a2F,↓reduceIte,PT.ev,BE.safe,BE.pe,IE.pe,PEnv.at,Q3,Q5,Q7,Qd,a0y,Qr,Qe,Qf,Nat.reduceAdd,Q2,QK,QC,a0w,a0p,a0x,Q1,Q0,PEnv.push,Q6,Q4,SV.pvs,SV.pv,BE.all,Qa,Qk,Q9,Qb,hd,le0,hv.len,q1,q2,pv6,Qr,k1,e0,if_pos hup]
theorem c8B(hp:1<=un/\un<=3)(hs:s.ok)(h0:BRd σ v0 l0)(h1:BRd σ v1 l1)(k0:∀w∈l0,w.ok)(k1:∀w∈l1,w.ok)(hl:l0.length=l1.length)(h8:l0.length<=8)(hn:30<=n) :
  a0B Tab n b1V [.int .i64 un,.agg s.pv,v0,v1] σ=some (.int .i64 0,σ):=by
 obtain⟨n,rfl⟩:∃k,n=k+1:=⟨n-1,by omega⟩;have c1:=a2E σ s n (by omega);rw[d2K hs] at c1;simp only[a2T,pv6] at c1;have e0:eqB 0 0=true:=rfl;have e1:ltB un 1=false:=by rw[a0I];omega
 have e2:ltB 3 un=false:=by rw[a0I];omega
 have e3:eqB (l0.length:Int) (l1.length:Int)=true:=by rw[a7J,hl]
 have e4:ltB 8 (l0.length:Int)=false:=by rw[a0I];omega
 have nx:∀fuel,d8U.loop (a0B Tab n) (fuel+1) 0 (b7h σ v0 v1 v0 0 (l0.length:Int) (l0.length:Int))=d8U.loop (a0B Tab n) fuel 0 (b7h σ v0 v1 v1 1 (l1.length:Int) 0):=fun fuel=>by
  have hd:ltB (l0.length:Int) (l0.length:Int)=false:=by rw[a0I];omega
  have e7:ltB 1 2=true:=rfl;have e8:eqB 1 1=true:=rfl;have hup:=a0N (z:=1) (by omega);rw[Sys.loop,show d8U.loops[0]?=some a2F from rfl];simp only[Q0,b7h,a2F,↓reduceIte,a0r,a0h,a0m,BE.safe,BE.pe,IE.pe,PEnv.at,Q3,Q5,Q7,Qd,Q2,Q1,Q0,SV.pvs,SV.pv,BE.all,Qa,Q9,Qb,hd,Int.zero_add,if_pos hup,e7,e8,h1.kind,h1.len]
 have fi:∀fuel,d8U.loop (a0B Tab n) (fuel+1) 0 (b7h σ v0 v1 v1 1 (l1.length:Int) (l1.length:Int))=some (.int .i64 0,σ):=fun fuel=>by
  have hd:ltB (l1.length:Int) (l1.length:Int)=false:=by rw[a0I];omega
  have e7:ltB 2 2=false:=rfl;have hup:=a0N (z:=2) (by omega);rw[Sys.loop,show d8U.loops[0]?=some a2F from rfl];simp only[Q0,b7h,a2F,↓reduceIte,a0t,a0r,a0h,BE.safe,BE.pe,IE.pe,Q3,Q5,Q2,Q1,Q0,SV.pv,Qa,hd,Int.reduceAdd,if_pos hup,e7,a0C,or_true]
 have key:d8U.loop (a0B Tab n) n 0 (b7h σ v0 v1 v0 0 (l0.length:Int) 0)=some (.int .i64 0,σ):=by
  have a1:=c7t σ n v0 v1 v0 l0 h0 k0 h8 (by omega) 0 l0.length 0 (by omega) (n-l0.length);rw[show n-l0.length+l0.length=n by omega] at a1;have a2:=c7t σ n v0 v1 v1 l1 h1 k1 (by omega) (by omega) 1 l1.length 0 (by omega) (n-l0.length-1-l1.length);rw[show n-l0.length-1-l1.length+l1.length=n-l0.length-1 by omega] at a2;have a3:=nx (n-l0.length-1);have a4:=fi (n-l0.length-1-l1.length-1);rw[show n-l0.length-1+1=n-l0.length by omega] at a3;rw[show n-l0.length-1-l1.length-1+1=n-l0.length-1-l1.length by omega] at a4;exact a1.trans (a3.trans (a2.trans a4))
 rw[a0B];simp only[b8w,Q0,Sys.run,pv6];show ((a0E [.sh (.one _),.sh (.agg [_,_,_,_,_,_]),.sh (.one _),.sh (.one _)] _).bind _)=_;simp only[a0E,a0x,a0w,Q1,Q0,Q8,Q4,Q6,if_true,h0.one,h1.one];show (PT.ev _ a8I _).bind _=_;simp only[a8I,↓reduceIte,a0t,a0r,a0h,a0l,a0m,BE.safe,BE.pe,IE.pe,PEnv.at,Q3,Q5,Q7,Qd,Q2,a0w,a0p,a0x,Q1,Q0,PEnv.push,Q6,Q4,SV.pvs,SV.pv,BE.all,Qk,Q9,Qb,e1,e2,h0.kind,h1.kind,h0.len,h1.len,e3,e4,c1,e0];exact key
end
section
variable (σ:List MO)(n:Nat)(un:Int)(s:W6)(hb:Nat)(R:Nat->Prop)(v1:PV)(bf ak:List W6)
def aoM(σ:List MO)(out:List W6):List MO:=σ++[.row (out.map W6.pv) 6 51]
theorem c7F(σ:List MO)(out:List W6):(aoM σ out)[σ.length]?=some (.row (out.map W6.pv) 6 51):=by simp[aoM]
theorem d4s(σ:List MO)(out:List W6):BRd (aoM σ out) (.rsl σ.length out.length 6) out:=BSl.rd (R:=fun _=>True) (.inr ⟨σ.length,trivial,rfl,c7F σ out⟩)
def c6h(σ:List MO)(un N i:Int)(s:W6)(out:List W6)(v1:PV):PEnv:={i:=[un,N,i,s.a,s.b,s.c,s.d,s.e,s.f],b:=[],v:=[.rsl σ.length out.length 6,v1],m:=aoM σ out,k:=σ.length}
theorem d2X(σ:List MO)(out:List W6){i:Nat}(w:W6):(aoM σ out).set σ.length (.row ((out.map W6.pv).set i w.pv) 6 51)=aoM σ (out.set i w):=by
 unfold aoM;rw[XK _ _ (Qm _),Xd,Xn,Xq]
theorem d3q(hp:1<=un/\un<=3)(hs:s.ok)(h1:BSl σ R v1 ak)(out:List W6)(hl:ak.length=out.length)(h8:out.length<=8)(ka:∀w∈ak,w.ok)(ko:∀w∈out,w.ok)(hn:40<=n){i:Nat}(hi:i<out.length)(fuel:Nat) :
  d9h.loop (a0B Tab n) (fuel+1) 0 (c6h σ un (ak.length:Int) (i:Int) s out v1)=d9h.loop (a0B Tab n) fuel 0 (c6h σ un (ak.length:Int) ((i:Int)+1) s (out.set i (pick un s (b1A out) (wa out i) (wa ak i))) v1):=by
 obtain⟨a,ha⟩:=a0P (show i<ak.length by omega);obtain⟨m,hm⟩:=a0P hi
 have g1:BRd (aoM σ out) v1 ak:=by
  rcases h1 with ⟨h,hR,rfl,hh⟩|⟨h,hR,rfl,hh⟩
  ·exact BSl.rd (R:=R) (.inl ⟨h,hR,rfl,by unfold aoM;rw[Qq (Qn.1 hh).1];exact hh⟩)
  ·exact BSl.rd (R:=R) (.inr ⟨h,hR,rfl,by unfold aoM;rw[Qq (Qn.1 hh).1];exact hh⟩)
 have g2:=d4s σ out;have hd:ltB (i:Int) (ak.length:Int)=true:=by rw[a0O];omega
 have hd2:ltB (i:Int) (out.length:Int)=true:=by rw[a0O];omega
 obtain⟨L1,hL1⟩:=g1.rd i a ha;obtain⟨L2,hL2⟩:=g2.rd i m hm;obtain⟨q1,q2⟩:=hL1 0 6 (by decide);obtain⟨r1,r2⟩:=hL2 0 6 (by decide);have hak:=ka a (Qt ha);have hmk:=ko m (Qt hm);have c1:=d2b (aoM σ out) _ out g2 ko h8 n (by omega);have tsm:=c9x ko h8;have c2:=c6V (aoM σ out) n s (b1A out) m a (hs.sm.mono (by decide)) (tsm.mono (by decide)) (hmk.sm.mono (by decide)) (hak.sm.mono (by decide)) (by omega);have c3:=c8u (aoM σ out) n s (b1A out) m a (hs.sm.mono (by decide)) (tsm.mono (by decide)) (hmk.sm.mono (by decide)) (hak.sm.mono (by decide)) (by omega);have hup:=a1M (show i<=1000000000 by omega);simp only[c1j,b0y,b1n,pv6] at c1 c2 c3;have e5:∀a b:Int,eqB a b=decide (a=b):=fun _ _=>rfl
 have hre:=c9i (h:=σ.length) (sz:=6) (off:=0) hi;have hL20:L2 0=.elt σ.length out.length i 6 0:=Option.some.inj (r1.symm.trans hre);rw[hL20] at r2;have hrow:(out.map W6.pv)[i]?=some m.pv:=by rw[QQ,hm];rfl
 have st:∀w:W6,(6<=m.pv.length/\[PV.int .i64 w.a,.int .i64 w.b,.int .i64 w.c,.int .i64 w.d,.int .i64 w.e,.int .i64 w.f].all PV.one=true):=fun w=>⟨by simp[pv6],rfl⟩
 have hset:∀w:W6,(aoM σ out).set σ.length (.row ((out.map W6.pv).set i (a2q m.pv 0 [PV.int .i64 w.a,.int .i64 w.b,.int .i64 w.c,.int .i64 w.d,.int .i64 w.e,.int .i64 w.f])) 6 51)=aoM σ (out.set i w):=fun w=>d2X σ out w
 have hself:out.set i m=out:=by
  apply Xe;intro j;rw[Xf];split
  ·rename_i h;subst h;first|exact hm.symm|(rw[if_pos hi];exact hm.symm)
  ·rfl
 have hlen:∀w:W6,(out.set i w).length=out.length:=fun w=>Qp
 have hol:(out.map W6.pv).length=out.length:=Qz ..
 rw[b9n ha,b9n hm,Sys.loop,show d9h.loops[0]?=some a4t from rfl];unfold pick;have hgt:=c7F σ out;simp only[c6h];simp only[Q0,a4t,↓reduceIte,PT.ev,BE.safe,BE.pe,IE.pe,PEnv.at,Q3,Q5,Q7,Qd,a0y,Qr,Qe,Qf,Nat.reduceAdd,QK,QC,a0w,a0p,a0x,Q1,Q0,PEnv.push,Q6,Q4,Q8,SV.pvs,SV.pv,BE.all,Qa,Q9,Qb,hd,le0,g1.len,g2.len,q1,q2,pv6,Qr,c1,e5];obtain rfl|rfl|rfl:un=1\/un=2\/un=3:=by omega
 ·simp only[↓reduceIte,Nat.reduceAdd,Q2,Q0,Qa,Int.reduceEq,decide_false,hd2,hre,hgt,hol,and_self,hrow,Q0,if_pos (st a),hset a,hlen,if_pos hup]
 ·simp only[↓reduceIte,Q3,Q5,Qr,Nat.reduceAdd,QK,QC,a0w,Q1,Q0,Q4,Qa,decide_true,hd2,hre,r2,pv6,Qr,c2]
  cases hq:rfW s (b1A out) m a with
  | true =>
   simp only[↓reduceIte,Q0,if_pos hup,hself]
  | false =>
   simp only[↓reduceIte,Q2,Q0,Q2,hgt,hol,and_self,hrow,Q0,if_pos (st a),hset a,hlen,if_pos hup]
 ·simp only[↓reduceIte,Q3,Q5,Qr,Nat.reduceAdd,Q2,QK,QC,a0w,Q1,Q0,Q6,Q4,Qa,Int.reduceEq,decide_false,decide_true,hd2,hre,r2,pv6,Qr,c3,]
  simp only[↓reduceIte,Q0,hgt,hol,and_self,hrow,Q0,if_pos (st (paW s (b1A out) m a)),hset (paW s (b1A out) m a),hlen,if_pos hup]
end
theorem b8k(F:List PV->List MO->Option (PV×List MO))(Φ:Fns)(n:Nat)(a:List PV)(σ:List MO):Sys.run Φ (⟨[],.stuck,[],some F,none⟩:Sx.Sys) n a σ=F a σ:=rfl
section
variable (σ:List MO)(n:Nat)(un:Int)(s:W6)(hb:Nat)(R:Nat->Prop)(v1:PV)(bf ak:List W6)
theorem c9A(hh:σ[hb]?=some (.cells (bf.map W6.pv).flatten 51))(hp:0<bf.length)(h8:bf.length<=8)(hn:1<=n) :
  a0B Tab n a2G [.msl hb 0 bf.length bf.length 6] σ=some (.rsl σ.length bf.length 6,aoM σ bf):=by
 obtain⟨n,rfl⟩:∃k,n=k+1:=⟨n-1,by omega⟩;rw[a0B,show Tab a2G=some d8X from a7n,Q0,d8X,b8k];unfold c3s;simp only[hh];rw[if_pos (by refine⟨?_,?_,?_,?_⟩<;>first|trivial|omega),Qr,c4W];rfl
theorem d3x(hp:1<=un/\un<=3)(hs:s.ok)(h1:BSl σ R v1 ak)(hl:ak.length=bf.length)(h8:bf.length<=8)(ka:∀w∈ak,w.ok)(kb:∀w∈bf,w.ok)(hn:40<=n):∀d i,i+d=bf.length->∀fuel,
  d9h.loop (a0B Tab n) (fuel+d+1) 0 (c6h σ un (ak.length:Int) (i:Int) s (apN un s ak bf i) v1)=some (.tup [.rsl σ.length bf.length 6,.int .i64 0],aoM σ (apW un s bf ak)):=by
 intro d
 induction d with
 | zero =>
  intro i hi fuel;rw[QL] at hi;subst hi;have hd:ltB (bf.length:Int) (bf.length:Int)=false:=by rw[a0I];omega
  rw[Sys.loop,show d9h.loops[0]?=some a4t from rfl];simp only[Q0,c6h,a4t,↓reduceIte,a0t,a0r,BE.safe,BE.pe,IE.pe,Q3,Q5,Q7,Q2,Q1,Q0,SV.pvs,SV.pv,hd,a0C,true_or,apW,hl,b6L]
 | succ d ih =>
  intro i hi fuel;have hlen:=b6L un s ak bf i;have st:=d3q σ n un s R v1 ak hp hs h1 (apN un s ak bf i) (by rw[hlen,hl]) (by omega) ka (c6F un s ka kb hl i (by omega)) hn (i:=i) (by omega) (fuel+d+1);have ih:=ih (i+1) (by omega) fuel;rw[a0T] at ih;rw[show fuel+(d+1)+1=fuel+d+1+1 from rfl,st];exact ih
theorem c8W(hh:σ[hb]?=some (.cells (bf.map W6.pv).flatten 51))(hp:1<=un/\un<=3)(hs:s.ok)(h1:BSl σ R v1 ak)(hl:ak.length=bf.length)(h0:0<bf.length)(h8:bf.length<=8)(ka:∀w∈ak,w.ok)(kb:∀w∈bf,w.ok)(hn:60<=n) :
  a0B Tab n b1U [.int .i64 un,.agg s.pv,.msl hb 0 bf.length bf.length 6,v1] σ=some (.tup [.rsl σ.length bf.length 6,.int .i64 0],aoM σ (apW un s bf ak)):=by
 obtain⟨n,rfl⟩:∃k,n=k+1:=⟨n-1,by omega⟩;have g0:BRd σ (.msl hb 0 bf.length bf.length 6) bf:=BSl.rd (R:=fun _=>True) (.inl ⟨hb,trivial,rfl,hh⟩);have g1:=h1.rd;have c1:=c8B σ n un s _ v1 bf ak hp hs g0 g1 kb ka hl.symm h8 (by omega);have c2:=c9A σ n hb bf hh h0 h8 (by omega);have key:=d3x σ n un s R v1 bf ak hp hs h1 hl h8 ka kb (by omega) bf.length 0 (by omega) (n-bf.length-1);rw[show n-bf.length-1+bf.length+1=n by omega] at key;simp only[b1V,a2G,pv6] at c1 c2;have e0:eqB 0 0=true:=rfl;have one1:PV.one (.msl hb 0 bf.length bf.length 6)=true:=rfl;have one2:PV.one (.rsl σ.length bf.length 6)=true:=rfl;rw[a0B];simp only[b8O,Q0,Sys.run,pv6];show ((a0E [.sh (.one _),.sh (.agg [_,_,_,_,_,_]),.sh (.one _),.sh (.one _)] _).bind _)=_;simp only[a0E,a0x,a0w,Q1,Q0,Q8,Q4,Q6,if_true,g1.one,one1];show (PT.ev _ a8Q _).bind _=_;simp only[a8Q,a0t,a0r,a0h,a0l,a0m,BE.safe,BE.pe,IE.pe,PEnv.at,Q3,Q5,Q7,Qd,Q2,a0w,a0p,a0x,Q1,Q0,PEnv.push,Q6,Q4,SV.pvs,SV.pv,BE.all,Qk,Q9,Qb,c1,e0,c2,one2,g1.kind,g1.len];exact key
end
section
variable (σ:List MO)(v:PV)(l:List W6)(hv:BRd σ v l)(hok:∀w∈l,w.ok)(hl:l.length<=8)(n:Nat)
end
section
variable (σ:List MO)(v:PV)(l:List W6)(hv:BRd σ v l)(hok:∀w∈l,w.ok)(hl:l.length<=8)(n:Nat)(s a:W6)(hs:s.ok)(ha:a.ok){i:Nat}{m:W6}(hm:l[i]?=some m)
end
section
variable (σ:List MO)(n:Nat)(un:Int)(s:W6)(v0 v1:PV)(bf ak:List W6)
end
theorem a3w(h:Nat):PV.isKind 4 (.ref h 0)=true:=rfl
theorem a2y(h:Nat):PV.isKind 1 (.ref h 0)=true:=rfl
theorem a7s(h:Nat):PV.one (.ref h 0)=true:=rfl
theorem a3t(h:Nat):PV.isNil (.ref h 0)=false:=rfl
theorem a3v(h:Nat):PV.nilOk (.ref h 0)=true:=rfl
theorem d4D(h n sz:Nat):PV.isKind 0 (.msl h 0 n n sz)=true:=rfl
theorem b1B(h n sz:Nat):PV.len (.msl h 0 n n sz)=(n:Int):=rfl
theorem a6s(h n sz:Nat):PV.one (.msl h 0 n n sz)=true:=rfl
section
variable {s:St}{o:Po}{σ:List MO}{h:Nat}{vcl:PV}{ha hb hd:Nat}{R:Nat->Prop}{c:Ck}(k:CkAt s o σ h vcl ha hb hd R c)(n:Nat)
include k in
theorem c5Q(hn:1<=n):a0B Tab n a6D [.ref h 0] σ=some (.agg c.p.pv,σ):=by
 obtain⟨n,rfl⟩:∃k,n=k+1:=⟨n-1,by omega⟩;have hob:=k.obj;have r0:∀is bs vs k,a0e {i:=is,b:=bs,v:=vs,m:=σ,k:=k} false 4 (.obj h 0)=some [s.P,s.B,s.C,s.A]:=a0F hob 0 4 (by decide);have r01:∀is bs vs k,a0e {i:=is,b:=bs,v:=vs,m:=σ,k:=k} false 1 (.obj h 0)=some [s.P]:=a0F hob 0 1 (by decide);have r4:∀is bs vs k,a0e {i:=is,b:=bs,v:=vs,m:=σ,k:=k} false 4 (.obj h 4)=some [.int .i64 o.st,.int .i64 o.pc,.int .i64 o.un,.int .i64 o.ru]:=a0F hob 4 4 (by decide);have r6:∀is bs vs k,a0e {i:=is,b:=bs,v:=vs,m:=σ,k:=k} false 1 (.obj h 6)=some [.int .i64 o.un]:=a0F hob 6 1 (by decide);have r7:∀is bs vs k,a0e {i:=is,b:=bs,v:=vs,m:=σ,k:=k} false 1 (.obj h 7)=some [.int .i64 o.ru]:=a0F hob 7 1 (by decide);have r8:∀is bs vs k,a0e {i:=is,b:=bs,v:=vs,m:=σ,k:=k} false 1 (.obj h 8)=some [vcl]:=a0F hob 8 1 (by decide);have r9:∀is bs vs k,a0e {i:=is,b:=bs,v:=vs,m:=σ,k:=k} false 6 (.obj h 9)=some [.int .i64 c.p.a,.int .i64 c.p.b,.int .i64 c.p.c,.int .i64 c.p.d,.int .i64 c.p.e,.int .i64 c.p.f]:=a0F hob 9 6 (by decide);have r15:∀is bs vs k,a0e {i:=is,b:=bs,v:=vs,m:=σ,k:=k} false 1 (.obj h 15)=some [.msl ha 0 c.out.length c.out.length 6]:=a0F hob 15 1 (by decide);have r16:∀is bs vs k,a0e {i:=is,b:=bs,v:=vs,m:=σ,k:=k} false 1 (.obj h 16)=some [.msl hb 0 c.out.length c.out.length 1]:=a0F hob 16 1 (by decide);have r17:∀is bs vs k,a0e {i:=is,b:=bs,v:=vs,m:=σ,k:=k} false 1 (.obj h 17)=some [.msl hd 0 c.out.length c.out.length 1]:=a0F hob 17 1 (by decide);have r18:∀is bs vs k,a0e {i:=is,b:=bs,v:=vs,m:=σ,k:=k} false 1 (.obj h 18)=some [.bool c.over]:=a0F hob 18 1 (by decide);rw[a0B];simp only[b4I,Q0,Sys.run];show ((a0E [.sh (.one _)] _).bind _)=_;simp only[a0E,a0x,a0w,Q1,Q0,Q8,if_true,a7s];show (PT.ev _ a6w _).bind _=_;simp only[a6w,↓reduceIte,PT.ev,BE.safe,BE.pe,IE.pe,PEnv.at,Q3,Q5,Q7,a0y,a0A,Qe,Qf,Nat.reduceAdd,Q2,a0w,Q1,Q0,PEnv.push,Q6,Q4,SV.pvs,SV.pv,a3w,a2y,a3t,a3v,Qg,r9,a0C,or_true,pv6]
include k in
theorem b9M(i:Int)(hn:1<=n):a0B Tab n a6a [.ref h 0,.int .i64 i] σ=some (.bool (c.has i),σ):=by
 obtain⟨n,rfl⟩:∃k,n=k+1:=⟨n-1,by omega⟩;have hob:=k.obj;have r0:∀is bs vs k,a0e {i:=is,b:=bs,v:=vs,m:=σ,k:=k} false 4 (.obj h 0)=some [s.P,s.B,s.C,s.A]:=a0F hob 0 4 (by decide);have r01:∀is bs vs k,a0e {i:=is,b:=bs,v:=vs,m:=σ,k:=k} false 1 (.obj h 0)=some [s.P]:=a0F hob 0 1 (by decide);have r4:∀is bs vs k,a0e {i:=is,b:=bs,v:=vs,m:=σ,k:=k} false 4 (.obj h 4)=some [.int .i64 o.st,.int .i64 o.pc,.int .i64 o.un,.int .i64 o.ru]:=a0F hob 4 4 (by decide);have r6:∀is bs vs k,a0e {i:=is,b:=bs,v:=vs,m:=σ,k:=k} false 1 (.obj h 6)=some [.int .i64 o.un]:=a0F hob 6 1 (by decide);have r7:∀is bs vs k,a0e {i:=is,b:=bs,v:=vs,m:=σ,k:=k} false 1 (.obj h 7)=some [.int .i64 o.ru]:=a0F hob 7 1 (by decide);have r8:∀is bs vs k,a0e {i:=is,b:=bs,v:=vs,m:=σ,k:=k} false 1 (.obj h 8)=some [vcl]:=a0F hob 8 1 (by decide);have r9:∀is bs vs k,a0e {i:=is,b:=bs,v:=vs,m:=σ,k:=k} false 6 (.obj h 9)=some [.int .i64 c.p.a,.int .i64 c.p.b,.int .i64 c.p.c,.int .i64 c.p.d,.int .i64 c.p.e,.int .i64 c.p.f]:=a0F hob 9 6 (by decide);have r15:∀is bs vs k,a0e {i:=is,b:=bs,v:=vs,m:=σ,k:=k} false 1 (.obj h 15)=some [.msl ha 0 c.out.length c.out.length 6]:=a0F hob 15 1 (by decide);have r16:∀is bs vs k,a0e {i:=is,b:=bs,v:=vs,m:=σ,k:=k} false 1 (.obj h 16)=some [.msl hb 0 c.out.length c.out.length 1]:=a0F hob 16 1 (by decide);have r17:∀is bs vs k,a0e {i:=is,b:=bs,v:=vs,m:=σ,k:=k} false 1 (.obj h 17)=some [.msl hd 0 c.out.length c.out.length 1]:=a0F hob 17 1 (by decide);have r18:∀is bs vs k,a0e {i:=is,b:=bs,v:=vs,m:=σ,k:=k} false 1 (.obj h 18)=some [.bool c.over]:=a0F hob 18 1 (by decide);rw[a0B];simp only[b8S,Q0,Sys.run];show ((a0E [.sh (.one _),.sh (.one _)] _).bind _)=_;simp only[a0E,a0x,a0w,Q1,Q0,Q8,Q4,if_true,a7s];show (PT.ev _ a8L _).bind _=_;unfold Ck.has;simp only[a8L,↓reduceIte,PT.ev,BE.safe,BE.pe,IE.pe,PEnv.at,Q3,Q5,Q7,a0y,a0A,Qe,Qf,Nat.reduceAdd,Q0,PEnv.push,Q6,Q4,SV.pv,];cases leB 0 i<;>simp only[↓reduceIte,Q3,Q2,a0w,Q1,Q0,a2y,r17,a6s,d4D,b1B,a0C,or_true,QD,QE]
def d1j(σ:List MO)(i N j:Int)(O V:PV):PEnv:={i:=[i,N,j],b:=[],v:=[O,V],m:=σ,k:=σ.length}
include k in
theorem d3M(hl:c.cl.length<=100){i:Nat}(hi:∀r∈c.cl,i<r.ask.length):∀d j,j+d=c.cl.length->∀(O:PV),O.rowsOf 12=some (((c.cl.take j).map fun r=>(⟨r.p,wa r.ask i⟩:Ch)).map Ch.row)->∀fuel,d+1<=fuel ->
  ∃L,d9b.loop (a0B Tab n) fuel 0 (d1j σ (i:Int) (c.cl.length:Int) (j:Int) O vcl)=some (L,σ)/\L.rowsOf 12=some ((c.chs i).map Ch.row):=by
 have hc:=k.cl.rd;intro d
 induction d with
 | zero =>
  intro j hj O hO fuel hf;obtain⟨fuel,rfl⟩:∃k,fuel=k+1:=⟨fuel-1,by omega⟩;obtain rfl:j=c.cl.length:=by omega
  have hd:ltB (c.cl.length:Int) (c.cl.length:Int)=false:=by rw[a0I];omega
  refine⟨O,?_,by rw[XM] at hO;exact hO⟩;rw[Sys.loop,show d9b.loops[0]?=some a3h from rfl];simp only[Q0,d1j,a3h,↓reduceIte,a0t,a0r,BE.safe,BE.pe,IE.pe,Q3,Q5,Q7,Q2,Q1,Q0,SV.pv,hd,a0C,or_true]
 | succ d ih =>
  intro j hj O hO fuel hf;obtain⟨fuel,rfl⟩:∃k,fuel=k+1:=⟨fuel-1,by omega⟩;obtain⟨r,hr⟩:=a0P (show j<c.cl.length by omega);obtain⟨row,hrow,hrd⟩:=hc.rd j r hr;obtain⟨a,g,b,rfl,ba,bg,bb⟩:=hrow;obtain⟨L,q1,q2⟩:=hrd 0 9 (by decide);have q2:∀is bs vs k,a0e {i:=is,b:=bs,v:=vs,m:=σ,k:=k} false 9 L=some [.int .i64 r.p.a,.int .i64 r.p.b,.int .i64 r.p.c,.int .i64 r.p.d,.int .i64 r.p.e,.int .i64 r.p.f,a,g,b]:=q2;have hir:=hi r (Qt hr);obtain⟨w,hw⟩:=a0P hir;have hba:=ba.rd;obtain⟨L2,hL2⟩:=hba.rd i w hw;obtain⟨u1,u2⟩:=hL2 0 6 (by decide);have hd:ltB (j:Int) (c.cl.length:Int)=true:=by rw[a0O];omega
  have hd2:ltB (i:Int) (r.ask.length:Int)=true:=by rw[a0O];omega
  have hup:=a1M (show j<=1000000000 by omega);obtain⟨p1,p2,p3⟩:=a0D hO;have t1:(0:Nat)+1<=1000000:=by decide
  have t2:(((c.cl.take j).map fun r=>(⟨r.p,wa r.ask i⟩:Ch)).map Ch.row).length+1<=1000000:=by simp;omega
  obtain⟨L',e1,e2⟩:=ih (j+1) (by omega) (.sl 12 (((c.cl.take j).map fun r=>(⟨r.p,wa r.ask i⟩:Ch)).map Ch.row++[(⟨r.p,w⟩:Ch).row])) (by
   rw[a1K,XN,hr,Option.toList_some,XP,XP,Q9,Q9,Qb,Qb,b9n hw]) fuel (by omega)
  refine⟨L',?_,e2⟩;rw[<- e1,a0T,Sys.loop,show d9b.loops[0]?=some a3h from rfl];have oa:=ba.one;have og:=bg.one;have ob:=bb.one;generalize ((c.cl.take j).map fun r=>(⟨r.p,wa r.ask i⟩:Ch)).map Ch.row=RW at *
  simp only[Q0,d1j,a3h,↓reduceIte,PT.ev,BE.safe,BE.pe,IE.pe,PEnv.at,Q3,Q5,Q7,Qd,a0y,Qr,Qe,Qf,Nat.reduceAdd,QK,QC,a0w,Q1,Q0,PEnv.push,Q6,Q4,SV.pvs,SV.pv,BE.all,Qa,Q9,Qb,a1h,X5,X6,X7,X8,hd,le0,hc.len,q1,q2,oa,og,ob,hba.len,hd2,u1,u2,pv6,Qr,hO,if_pos t1,a1K,if_pos t2,if_pos hup,a1W]
include k in
theorem c6S(hl:c.cl.length<=100)(hi:∀r∈c.cl,r.ask.length=c.out.length)(i:Int)(hn:110<=n):∃L,a0B Tab n a6j [.ref h 0,.int .i64 i] σ=some (L,σ)/\L.rowsOf 12=some ((if c.has i=true then c.chs i.toNat else []).map Ch.row):=by
 obtain⟨n,rfl⟩:∃k,n=k+1:=⟨n-1,by omega⟩;have hob:=k.obj;have r0:∀is bs vs k,a0e {i:=is,b:=bs,v:=vs,m:=σ,k:=k} false 4 (.obj h 0)=some [s.P,s.B,s.C,s.A]:=a0F hob 0 4 (by decide);have r01:∀is bs vs k,a0e {i:=is,b:=bs,v:=vs,m:=σ,k:=k} false 1 (.obj h 0)=some [s.P]:=a0F hob 0 1 (by decide);have r4:∀is bs vs k,a0e {i:=is,b:=bs,v:=vs,m:=σ,k:=k} false 4 (.obj h 4)=some [.int .i64 o.st,.int .i64 o.pc,.int .i64 o.un,.int .i64 o.ru]:=a0F hob 4 4 (by decide);have r6:∀is bs vs k,a0e {i:=is,b:=bs,v:=vs,m:=σ,k:=k} false 1 (.obj h 6)=some [.int .i64 o.un]:=a0F hob 6 1 (by decide);have r7:∀is bs vs k,a0e {i:=is,b:=bs,v:=vs,m:=σ,k:=k} false 1 (.obj h 7)=some [.int .i64 o.ru]:=a0F hob 7 1 (by decide);have r8:∀is bs vs k,a0e {i:=is,b:=bs,v:=vs,m:=σ,k:=k} false 1 (.obj h 8)=some [vcl]:=a0F hob 8 1 (by decide);have r9:∀is bs vs k,a0e {i:=is,b:=bs,v:=vs,m:=σ,k:=k} false 6 (.obj h 9)=some [.int .i64 c.p.a,.int .i64 c.p.b,.int .i64 c.p.c,.int .i64 c.p.d,.int .i64 c.p.e,.int .i64 c.p.f]:=a0F hob 9 6 (by decide);have r15:∀is bs vs k,a0e {i:=is,b:=bs,v:=vs,m:=σ,k:=k} false 1 (.obj h 15)=some [.msl ha 0 c.out.length c.out.length 6]:=a0F hob 15 1 (by decide);have r16:∀is bs vs k,a0e {i:=is,b:=bs,v:=vs,m:=σ,k:=k} false 1 (.obj h 16)=some [.msl hb 0 c.out.length c.out.length 1]:=a0F hob 16 1 (by decide);have r17:∀is bs vs k,a0e {i:=is,b:=bs,v:=vs,m:=σ,k:=k} false 1 (.obj h 17)=some [.msl hd 0 c.out.length c.out.length 1]:=a0F hob 17 1 (by decide);have r18:∀is bs vs k,a0e {i:=is,b:=bs,v:=vs,m:=σ,k:=k} false 1 (.obj h 18)=some [.bool c.over]:=a0F hob 18 1 (by decide);have hc:=k.cl.rd;have c1:=b9M k n i (by omega);simp only[a6a] at c1
 have go:∀L,(PT.ev (a0B Tab n) a4A {i:=[i],b:=[],v:=[.ref h 0],m:=σ,k:=σ.length}).bind (fun x=>match x with|.ret r σ=>some (r,σ)|.jump q' ρ'=>Sys.loop (a0B Tab n) d9b n q' ρ')=some (L,σ)->a0B Tab (n+1) a6j [.ref h 0,.int .i64 i] σ=some (L,σ):=fun L hL=>by
  rw[a0B];simp only[b3K,Q0,Sys.run];show ((a0E [.sh (.one _),.sh (.one _)] _).bind _)=_;simp only[a0E,a0x,a0w,Q1,Q0,Q8,Q4,if_true,a7s];exact hL
 cases hh:c.has i with
 | false =>
  refine⟨.nilS,go _ ?_,rfl⟩;rw[hh] at c1;simp only[a4A,↓reduceIte,PT.ev,BE.safe,BE.pe,IE.pe,PEnv.at,Q3,Q5,Q7,Qd,a0y,a0A,Qe,Qf,Nat.reduceAdd,Q2,a0w,a0p,a0x,Q1,Q0,PEnv.push,Q6,Q4,SV.pvs,SV.pv,BE.all,Qu,Q9,Qb,a3w,a3t,a3v,c1,a0C,or_true]
 | true =>
  rw[hh] at c1;have hh':=hh;unfold Ck.has at hh';rw[Qy,a1u,a0O] at hh';obtain⟨j,rfl⟩:∃j:Nat,i=(j:Int):=⟨i.toNat,by omega⟩;obtain⟨L,e1,e2⟩:=d3M k n hl (i:=j) (fun r hr=>by rw[hi r hr];omega) c.cl.length 0 (by omega) .nilS rfl n (by omega);refine⟨L,go _ ?_,by rw[if_pos rfl,QA];exact e2⟩;simp only[a4A,↓reduceIte,PT.ev,BE.safe,BE.pe,IE.pe,PEnv.at,Q3,Q5,Q7,Qd,a0y,a0A,Qe,Qf,Q2,a0w,a0p,a0x,Q1,Q0,PEnv.push,Q6,Q4,SV.pvs,SV.pv,BE.all,Qk,Q9,Qb,a3w,a2y,a3t,a3v,c1,Qg,r8,hc.one,hc.kind,hc.len];exact e1
end
structure CpS (σ:List MO)(v:PV)(sz N:Nat)(cells:List PV):Prop where
 kind:v.isKind 0=true
 one:v.one=true
 len:v.len=(N:Int)
 src:∀(ρ:PEnv) (x:Nat) (τ:List MO),ρ.v[x]?=some v->ρ.m=σ++τ->a5e ρ sz x=some (N,cells)
 cl:cells.length=N*sz
 ones:cells.all PV.one=true
theorem d0M(l:List W6):(l.map W6.pv).flatten.all PV.one=true:=by
 induction l with
 | nil=>rfl
 | cons w l ih=>rw[Q9,Qs,QX,ih];rfl
theorem d1l(l:List Bool):(l.map PV.bool).all PV.one=true:=by
 induction l with
 | nil=>rfl
 | cons w l ih=>rw[Q9,X2,ih];rfl
theorem a1R{σ τ:List MO}{h:Nat}{x:MO}(hx:σ[h]?=some x):(σ++τ)[h]?=some x:=by rw[Qq (Qn.1 hx).1];exact hx
theorem BSl.cp{σ:List MO}{R:Nat->Prop}{v:PV}{l:List W6}(h:BSl σ R v l):CpS σ v 6 l.length (l.map W6.pv).flatten:=by
 refine⟨h.rd.kind,h.rd.one,h.rd.len,fun ρ x τ hx hm=>?_,b2t l,d0M l⟩;rcases h with ⟨h,_,rfl,hh⟩|⟨h,_,rfl,hh⟩
 ·unfold a5e
  rw[hx,hm];simp only[a1R hh,if_true,Q0,MO.list,Qg,b2t,Qm,Qr];rw[QM (by rw[b2t];exact Qm _)]
 ·unfold a5e
  rw[hx,hm];simp only[a1R hh,if_true,Q0,MO.elts,Qz,and_self,Q1]
theorem OSl.cp{σ:List MO}{R:Nat->Prop}{v:PV}{l:List Bool}(h:OSl σ R v l):CpS σ v 1 l.length (l.map PV.bool):=by
 obtain⟨h,_,rfl,hh⟩:=h;refine⟨rfl,rfl,rfl,fun ρ x τ hx hm=>?_,by simp,d1l l⟩;unfold a5e;rw[hx,hm];simp only[a1R hh,if_true,Q0,MO.list,Qg,Nat.mul_one,Qz,Qm,Qr];rw[QM (by simp)]
theorem c2d{l new:List PV}(h:new.length=l.length):a2q l 0 new=new:=by
 unfold a2q;rw[QC,Q4,Qg,List.drop_of_length_le (by omega),Q8]
theorem b6Q(σ:List MO)(x y:MO):(σ++[x]).set σ.length y=σ++[y]:=by
 rw[XK _ _ (Qm _),Xd,Xn]
theorem c3I(N sz:Nat)(z:List PV)(hz:z.length=sz):(Qj N z).flatten.length=N*sz:=by
 induction N with
 | zero=>simp
 | succ N ih=>rw[QV,Qs,Qv,ih,hz,X0];omega
theorem a2Y{σ:List MO}{v:PV}{N:Nat}{cells:List PV}(h:CpS σ v 6 N cells)(hN:N<=1000)(n:Nat)(hn:1<=n):a0B Tab n a3r [v] σ=some (.msl σ.length 0 N N 6,σ++[.cells cells 51]):=by
 obtain⟨n,rfl⟩:∃k,n=k+1:=⟨n-1,by omega⟩;have c1:(0:Int)<=(N:Int)/\(N:Int)<=1000000/\100<=100000000:=⟨by omega,by omega,by decide⟩;have e1:=h.src;have hgt:∀x:MO,(σ++[x])[σ.length]?=some x:=fun x=>by simp
 have one2:PV.one (.msl σ.length 0 N N 6)=true:=rfl;rw[a0B];simp only[b1l,Q0,Sys.run];show ((a0E [.sh (.one _)] _).bind _)=_;simp only[a0E,a0x,a0w,Q1,Q0,Q8,if_true,h.one];show (PT.ev _ a4P _).bind _=_;unfold a4P;rw[a0h];simp only[↓reduceIte,a0s,BE.safe,BE.pe,IE.pe,PEnv.at,Q3,Q1,Q0,Q6,Q4,SV.pvs,SV.pv,h.kind];simp only[h.len,QA];rw[if_pos (by refine⟨by omega,by omega,by decide⟩)];rw[b9J];simp only[Qd,Q7,hgt];rw[h.src _ 0 [_] rfl rfl];simp only[Q0,Xt];have hle:(Qj N ([.int .i64 0,.int .i64 0,.int .i64 0,.int .i64 0,.int .i64 0,.int .i64 0]:List PV)).flatten.length=N*6:=c3I N 6 _ rfl;rw[if_pos (by rw[hle];refine⟨trivial,by omega,by rw[h.cl];omega,h.ones⟩),QM (by rw[h.cl];exact Qm _),c2d (by rw[hle,h.cl]),b6Q];simp only[↓reduceIte,a0t,Q7,Qd,Q1,Q0,PEnv.push,Q4,Q8,SV.pv,a0C,true_or]
theorem b6G{σ:List MO}{v:PV}{N:Nat}{cells:List PV}(h:CpS σ v 1 N cells)(hN:N<=1000)(n:Nat)(hn:1<=n):a0B Tab n b0x [v] σ=some (.msl σ.length 0 N N 1,σ++[.cells cells 4]):=by
 obtain⟨n,rfl⟩:∃k,n=k+1:=⟨n-1,by omega⟩;have c1:(0:Int)<=(N:Int)/\(N:Int)<=1000000/\100<=100000000:=⟨by omega,by omega,by decide⟩;have e1:=h.src;have hgt:∀x:MO,(σ++[x])[σ.length]?=some x:=fun x=>by simp
 have one2:PV.one (.msl σ.length 0 N N 1)=true:=rfl;rw[a0B];simp only[b5Q,Q0,Sys.run];show ((a0E [.sh (.one _)] _).bind _)=_;simp only[a0E,a0x,a0w,Q1,Q0,Q8,if_true,h.one];show (PT.ev _ a7h _).bind _=_;unfold a7h;rw[a0h];simp only[↓reduceIte,a0s,BE.safe,BE.pe,IE.pe,PEnv.at,Q3,Q1,Q0,Q6,Q4,SV.pvs,SV.pv,h.kind];simp only[h.len,QA];rw[if_pos (by refine⟨by omega,by omega,by decide⟩)];rw[b9J];simp only[Qd,Q7,hgt];rw[h.src _ 0 [_] rfl rfl];simp only[Q0,Xt];have hle:(Qj N ([.bool false]:List PV)).flatten.length=N*1:=c3I N 1 _ rfl;rw[if_pos (by rw[hle];refine⟨trivial,by omega,by rw[h.cl];omega,h.ones⟩),QM (by rw[h.cl];exact Qm _),c2d (by rw[hle,h.cl]),b6Q];simp only[↓reduceIte,a0t,Q7,Qd,Q1,Q0,PEnv.push,Q4,Q8,SV.pv,a0C,true_or]
theorem b0K{σ:List MO}{v:PV}{N:Nat}{cells:List PV}(h:CpS σ v 9 N cells)(hN:N<=1000)(n:Nat)(hn:1<=n):a0B Tab n a6Z [v] σ=some (.msl σ.length 0 N N 9,σ++[.cells cells 65]):=by
 obtain⟨n,rfl⟩:∃k,n=k+1:=⟨n-1,by omega⟩;have c1:(0:Int)<=(N:Int)/\(N:Int)<=1000000/\100<=100000000:=⟨by omega,by omega,by decide⟩;have e1:=h.src;have hgt:∀x:MO,(σ++[x])[σ.length]?=some x:=fun x=>by simp
 have one2:PV.one (.msl σ.length 0 N N 9)=true:=rfl;rw[a0B];simp only[b0D,Q0,Sys.run];show ((a0E [.sh (.one _)] _).bind _)=_;simp only[a0E,a0x,a0w,Q1,Q0,Q8,if_true,h.one];show (PT.ev _ a4C _).bind _=_;unfold a4C;rw[a0h];simp only[↓reduceIte,a0s,BE.safe,BE.pe,IE.pe,PEnv.at,Q3,Q1,Q0,Q6,Q4,SV.pvs,SV.pv,h.kind];simp only[h.len,QA];rw[if_pos (by refine⟨by omega,by omega,by decide⟩)];rw[b9J];simp only[Qd,Q7,hgt];rw[h.src _ 0 [_] rfl rfl];simp only[Q0,Xt];have hle:(Qj N ([.int .i64 0,.int .i64 0,.int .i64 0,.int .i64 0,.int .i64 0,.int .i64 0,.nilS,.nilS,.nilS]:List PV)).flatten.length=N*9:=c3I N 9 _ rfl;rw[if_pos (by rw[hle];refine⟨trivial,by omega,by rw[h.cl];omega,h.ones⟩),QM (by rw[h.cl];exact Qm _),c2d (by rw[hle,h.cl]),b6Q];simp only[↓reduceIte,a0t,Q7,Qd,Q1,Q0,PEnv.push,Q4,Q8,SV.pv,a0C,true_or]
def c0a(s:St)(o:Po)(σ:List MO)(h:Nat)(F:Nat->Prop)(c':Ck)(r:PV)(res:Option (PV×List MO)):Prop:=∃σ' F',res=some (r,σ')/\a9o s o σ' h F' c'/\Adv σ σ' F F'
theorem a5A{s:St}{o:Po}{vcl va vb vd:PV}{p:W6}{ov:Bool}{N:Nat}:(ckO s o vcl va vb vd p ov).low N=true↔s.P.low N=true/\s.B.low N=true/\s.C.low N=true/\s.A.low N=true/\vcl.low N=true/\va.low N=true/\vb.low N=true/\vd.low N=true:=by
 simp only[ckO,MO.low,ckL,PV.lows,PV.low,Qy,and_true,true_and]
section
variable {s:St}{o:Po}{σ:List MO}{h:Nat}{vcl:PV}{ha hb hd:Nat}{R:Nat->Prop}{c:Ck}(k:CkAt s o σ h vcl ha hb hd R c)
include k
theorem CkAt.lt:h<σ.length:=(Qn.1 k.obj).1
theorem CkAt.a_h:ha≠h:=by
 rintro rfl;have:=k.obj.symm.trans k.ask;simp[ckO] at this
theorem CkAt.b_h:hb≠h:=by
 rintro rfl;have:=k.obj.symm.trans k.bid;simp[ckO] at this
theorem CkAt.d_h:hd≠h:=by
 rintro rfl;have:=k.obj.symm.trans k.out;simp[ckO] at this
theorem CkAt.a_b:ha≠hb:=by
 rintro rfl;have:=k.ask.symm.trans k.bid;simp at this
theorem CkAt.a_d:ha≠hd:=by
 rintro rfl;have:=k.ask.symm.trans k.out;simp at this
end
def clM(σ:List MO)(h:Nat)(x:MO)(N:Nat):List MO:=σ.set h x++[.cells ((Qj N w0).map W6.pv).flatten 51,.cells ((Qj N false).map PV.bool) 4]
theorem a3p(σ:List MO)(h:Nat)(x:MO)(N:Nat):(clM σ h x N).length=σ.length+2:=by simp[clM]
theorem a8g{σ:List MO}{h:Nat}(hl:h<σ.length)(x:MO)(N:Nat):(clM σ h x N)[h]?=some x:=by
 unfold clM;rw[Qq (by rw[Qp];exact hl),QP hl]
theorem a9e{σ:List MO}{h y:Nat}(hl:y<σ.length)(hne:y≠h)(x:MO)(N:Nat):(clM σ h x N)[y]?=σ[y]?:=by
 unfold clM;rw[Qq (by rw[Qp];exact hl),Qh (Ne.symm hne)]
theorem c8n(σ:List MO)(h:Nat)(x:MO)(N:Nat):(clM σ h x N)[σ.length]?=some (.cells ((Qj N w0).map W6.pv).flatten 51):=by
 unfold clM;rw[X3 (by rw[Qp];exact Qm _),Qp,Xd];rfl
theorem c8s(σ:List MO)(h:Nat)(x:MO)(N:Nat):(clM σ h x N)[σ.length+1]?=some (.cells ((Qj N false).map PV.bool) 4):=by
 unfold clM;rw[X3 (by rw[Qp];omega),Qp,show σ.length+1-σ.length=1 by omega];rfl
theorem b2v{σ:List MO}{h:Nat}(hl:h<σ.length)(x y:MO)(N:Nat):(clM σ h x N).set h y=clM σ h y N:=by
 unfold clM;rw[XQ _ _ (by rw[Qp];exact hl),List.set_set]
section
variable {s:St}{o:Po}{σ:List MO}{h:Nat}{vcl:PV}{ha hb hd:Nat}{R:Nat->Prop}{c:Ck}(k:CkAt s o σ h vcl ha hb hd R c)(hσ:Low σ)(hN:c.out.length<=1000)
include k hσ hN
theorem c4V(n:Nat)(hn:1<=n):a0B Tab n a2b [.ref h 0] σ=some (.tup [],clM σ h (ckO s o vcl (.msl σ.length 0 c.out.length c.out.length 6) (.msl (σ.length+1) 0 c.out.length c.out.length 1) (.msl hd 0 c.out.length c.out.length 1) c.p c.over) c.out.length):=by
 obtain⟨n,rfl⟩:∃k,n=k+1:=⟨n-1,by omega⟩;have hob:=k.obj;rw[a0B,show Tab a2b=some d9k from a9I,Q0,d9k,c2z,b8k];unfold b9y;simp only[hob,ckO,ckL];rw[if_pos ⟨by omega,hσ⟩];have e1:QB W6.pv (Qj c.out.length w0)=Qj c.out.length z6:=by rw[XR];rfl
 have e2:∀N:Nat,QB PV.bool (Qj N false)=(Qj N [PV.bool false]).flatten:=fun N=>by
  induction N with
  | zero=>rfl
  | succ N ih=>rw[QV,QV,Q9,Qs,ih];rfl
 unfold clM;rw[e1,e2]
theorem CkAt.cleared{vcl':PV}{cl':List Rn}{p':W6}{ov':Bool}{R':Nat->Prop}(τ:List MO)(hcl:CSl (clM σ h (ckO s o vcl' (.msl σ.length 0 c.out.length c.out.length 6) (.msl (σ.length+1) 0 c.out.length c.out.length 1) (.msl hd 0 c.out.length c.out.length 1) p' ov') c.out.length++τ) R' vcl' cl')
  (hR:∀x,R' x->x<σ.length+2+τ.length) (h1:¬R' σ.length) (h2:¬R' (σ.length+1)) (h3:¬R' hd) (h4:¬R' h) :
  CkAt s o (clM σ h (ckO s o vcl' (.msl σ.length 0 c.out.length c.out.length 6) (.msl (σ.length+1) 0 c.out.length c.out.length 1) (.msl hd 0 c.out.length c.out.length 1) p' ov') c.out.length++τ) h vcl' σ.length (σ.length+1) hd R' {cl:=cl',p:=p',ask:=c.blank.ask,bid:=c.blank.bid,out:=c.out,over:=ov'}:=by
 have hdl:=(Qn.1 k.out).1;refine⟨a1R (a8g k.lt _ _),a1R (c8n _ _ _ _),a1R (c8s _ _ _ _),a1R ?_,by simp[Ck.blank],by simp[Ck.blank],hcl,fun x hx=>by rw[Qv,a3p];exact hR x hx,h1,h2,h3,h4,by omega⟩;rw[a9e hdl k.d_h];exact k.out
theorem c4i{vcl':PV}{p':W6}{ov':Bool}(hv:vcl'.low (σ.length+2)=true):Low (clM σ h (ckO s o vcl' (.msl σ.length 0 c.out.length c.out.length 6) (.msl (σ.length+1) 0 c.out.length c.out.length 1) (.msl hd 0 c.out.length c.out.length 1) p' ov') c.out.length):=by
 have hob:=a5A.1 (hσ.get k.obj);have up:∀{v:PV},v.low σ.length=true->v.low (σ.length+2)=true:=fun h=>PV.low_mono (by omega) _ h
 unfold Low;rw[a3p];unfold clM;rw[QX,Qy];refine⟨Qw.2 fun y hy=>?_,by simp only[X2,Xb,a5K,a6O,Qa]⟩;rcases QU hy with hy|rfl
 ·exact MO.low_mono (by omega) (Qw.1 hσ y hy)
 ·exact a5A.2 ⟨up hob.1,up hob.2.1,up hob.2.2.1,up hob.2.2.2.1,hv,by simp[PV.low],by simp[PV.low],up hob.2.2.2.2.2.2.2⟩
end
theorem c0b{h i n c:Nat}(hi:i<n):a1D (i:Int) 1 0 (.msl h 0 n c 1)=some (.obj h i):=by
 rw[c5y hi,Nat.mul_one]
theorem c4P{sz:Nat}:∀(rows:List (List PV)) (_:∀r∈rows,r.length=sz) (k:Nat),rows.flatten.take (k*sz)=(rows.take k).flatten
 | [],_,k=>by simp
 | r::rows,h,0=>by simp
 | r::rows,h,k+1=>by
  have h0:=h r (by simp);rw[Qs,QK,Qs,show (k+1)*sz=r.length+k*sz by rw[h0,X0];omega,XA,QM (by omega),X9,c4P rows (fun q hq=>h q (by simp[hq])) k]
theorem c4u{rows:List (List PV)}(h:∀r∈rows,r.all PV.one=true):rows.flatten.all PV.one=true:=by
 rw[Qw];intro p hp;obtain⟨r,hr,hp⟩:=List.mem_flatten.1 hp;exact Qw.1 (h r hr) p hp
theorem b4z{sz:Nat}:∀(rows:List (List PV)) (_:∀r∈rows,r.length=sz),rows.flatten.length=rows.length*sz
 | [],_=>by simp
 | r::rows,h=>by
  rw[Qs,Qv,b4z rows (fun q hq=>h q (by simp[hq])),h r (by simp),Qe,X0];omega
theorem d4P{σ:List MO}{R:Nat->Prop}{v:PV}{cl:List Rn}(h:CSl σ R v cl){r:Nat}(hr:r<cl.length) :
  ∃p rows,v.rowsOf 9=none/\(∀(ρ:PEnv) (e:IE),ρ.m=σ->e.pe ρ=(r:Int)->b6W ρ none (some e) 9 (some v)=some p)/\CpS σ p 9 r rows.flatten/\a2L σ R (cl.take r) rows:=by
 rcases h with ⟨rfl,rfl⟩|⟨h,rows,h1,rfl,h3,h4⟩|⟨h,rows,h1,rfl,h0,h3,h4⟩
 ·simp at hr
 ·refine⟨.msl h 0 r cl.length 9,rows.take r,rfl,fun ρ e hm he=>?_,⟨rfl,rfl,rfl,fun ρ x τ hx hm=>?_,?_,?_⟩,h4.take r⟩
  ·show (if 0<=e.pe ρ/\e.pe ρ<=(cl.length:Int)/\cl.length<=cl.length/\9=9 then some (PV.msl h 0 (e.pe ρ).toNat cl.length 9) else none)=_
   rw[he,if_pos (by omega),QA]
  ·unfold a5e
   rw[hx,hm];have hfl:=b4z rows h4.lens;rw[h4.1] at hfl;simp only[a1R h3,if_true,Q0,MO.list,Qg,Qr];rw[if_pos (by omega),c4P rows h4.lens]
  ·rw[b4z _ (fun q hq=>h4.lens q (QY hq)),QS,h4.1,Xa (by omega)]
  ·exact c4u fun q hq=>by obtain⟨_,_,kk⟩:=h4.mem (QY hq);exact kk.ones
 ·refine⟨.rpl h r cl.length 9,rows.take r,rfl,fun ρ e hm he=>?_,⟨rfl,rfl,rfl,fun ρ x τ hx hm=>?_,?_,?_⟩,h4.take r⟩
  ·unfold b6W
   simp only[he,hm,h3,Q0,MO.elts,h4.1,and_self,if_true,Option.isSome_some,and_true];rw[if_pos (by omega),QA]
  ·unfold a5e
   rw[hx,hm];simp only[a1R h3,Q0,MO.elts,h4.1,and_self,if_true,Q1,true_and];rw[if_pos (by omega)]
  ·rw[b4z _ (fun q hq=>h4.lens q (QY hq)),QS,h4.1,Xa (by omega)]
  ·exact c4u fun q hq=>by obtain⟨_,_,kk⟩:=h4.mem (QY hq);exact kk.ones
section
variable {s:St}{o:Po}{σ:List MO}{h:Nat}{F:Nat->Prop}{c:Ck}(K:a9o s o σ h F c)(hσ:Low σ)(hN:c.out.length<=1000)(n:Nat)
include K hσ hN
theorem d3r(hn:2<=n):c0a s o σ h F c.stop.1 (.int .i64 c.stop.2) (a0B Tab n a8d [.ref h 0] σ):=by
 obtain⟨n,rfl⟩:∃k,n=k+1:=⟨n-1,by omega⟩;have K0:=K;obtain⟨vcl,ha,hb,hd,R,k,hF⟩:=K;have hob:=k.obj;have r0:∀is bs vs k,a0e {i:=is,b:=bs,v:=vs,m:=σ,k:=k} false 4 (.obj h 0)=some [s.P,s.B,s.C,s.A]:=a0F hob 0 4 (by decide);have r01:∀is bs vs k,a0e {i:=is,b:=bs,v:=vs,m:=σ,k:=k} false 1 (.obj h 0)=some [s.P]:=a0F hob 0 1 (by decide);have r4:∀is bs vs k,a0e {i:=is,b:=bs,v:=vs,m:=σ,k:=k} false 4 (.obj h 4)=some [.int .i64 o.st,.int .i64 o.pc,.int .i64 o.un,.int .i64 o.ru]:=a0F hob 4 4 (by decide);have r6:∀is bs vs k,a0e {i:=is,b:=bs,v:=vs,m:=σ,k:=k} false 1 (.obj h 6)=some [.int .i64 o.un]:=a0F hob 6 1 (by decide);have r7:∀is bs vs k,a0e {i:=is,b:=bs,v:=vs,m:=σ,k:=k} false 1 (.obj h 7)=some [.int .i64 o.ru]:=a0F hob 7 1 (by decide);have r8:∀is bs vs k,a0e {i:=is,b:=bs,v:=vs,m:=σ,k:=k} false 1 (.obj h 8)=some [vcl]:=a0F hob 8 1 (by decide);have r9:∀is bs vs k,a0e {i:=is,b:=bs,v:=vs,m:=σ,k:=k} false 6 (.obj h 9)=some [.int .i64 c.p.a,.int .i64 c.p.b,.int .i64 c.p.c,.int .i64 c.p.d,.int .i64 c.p.e,.int .i64 c.p.f]:=a0F hob 9 6 (by decide);have r15:∀is bs vs k,a0e {i:=is,b:=bs,v:=vs,m:=σ,k:=k} false 1 (.obj h 15)=some [.msl ha 0 c.out.length c.out.length 6]:=a0F hob 15 1 (by decide);have r16:∀is bs vs k,a0e {i:=is,b:=bs,v:=vs,m:=σ,k:=k} false 1 (.obj h 16)=some [.msl hb 0 c.out.length c.out.length 1]:=a0F hob 16 1 (by decide);have r17:∀is bs vs k,a0e {i:=is,b:=bs,v:=vs,m:=σ,k:=k} false 1 (.obj h 17)=some [.msl hd 0 c.out.length c.out.length 1]:=a0F hob 17 1 (by decide);have r18:∀is bs vs k,a0e {i:=is,b:=bs,v:=vs,m:=σ,k:=k} false 1 (.obj h 18)=some [.bool c.over]:=a0F hob 18 1 (by decide);have c1:=c4V k hσ hN n (by omega);simp only[a2b] at c1
 have go:∀r,(PT.ev (a0B Tab n) a5w {i:=[],b:=[],v:=[.ref h 0],m:=σ,k:=σ.length}).bind (fun x=>match x with|.ret r σ=>some (r,σ)|.jump q' ρ'=>Sys.loop (a0B Tab n) d9J n q' ρ')=some r->a0B Tab (n+1) a8d [.ref h 0] σ=some r:=fun r hr=>by
  rw[a0B];simp only[b7Y,Q0,Sys.run];show ((a0E [.sh (.one _)] _).bind _)=_;simp only[a0E,a0x,a0w,Q1,Q0,Q8,if_true,a7s];exact hr
 unfold Ck.stop;cases hov:c.over with
 | true =>
  refine⟨σ,F,go _ ?_,K0,Adv.refl hσ⟩;rw[hov] at r18;simp only[a5w,↓reduceIte,PT.ev,BE.safe,BE.pe,IE.pe,PEnv.at,Q3,Q7,a0y,a0A,Qe,Qf,Nat.reduceAdd,Q2,a0w,a0p,a0x,Q1,Q0,PEnv.push,Q6,Q4,SV.pvs,SV.pv,a3w,a2y,a3t,a3v,Qg,r18,a0C,true_or]
 | false =>
  rw[hov] at r18 c1;refine⟨_,fun x=>x=h\/x=σ.length\/x=σ.length+1\/x=hd\/R x,go (.int .i64 0,clM σ h (ckO s o vcl (.msl σ.length 0 c.out.length c.out.length 6) (.msl (σ.length+1) 0 c.out.length c.out.length 1) (.msl hd 0 c.out.length c.out.length 1) c.p true) c.out.length) ?_,?_,?_⟩
  ·have g:=a8g k.lt (ckO s o vcl (.msl σ.length 0 c.out.length c.out.length 6) (.msl (σ.length+1) 0 c.out.length c.out.length 1) (.msl hd 0 c.out.length c.out.length 1) c.p false) c.out.length
   have g':=g;rw[show ∀b,ckO s o vcl (.msl σ.length 0 c.out.length c.out.length 6) (.msl (σ.length+1) 0 c.out.length c.out.length 1) (.msl hd 0 c.out.length c.out.length 1) c.p b=.cells (ckL s o vcl (.msl σ.length 0 c.out.length c.out.length 6) (.msl (σ.length+1) 0 c.out.length c.out.length 1) (.msl hd 0 c.out.length c.out.length 1) c.p b) 79 from fun _=>rfl] at g';have hs:=b2v k.lt (ckO s o vcl (.msl σ.length 0 c.out.length c.out.length 6) (.msl (σ.length+1) 0 c.out.length c.out.length 1) (.msl hd 0 c.out.length c.out.length 1) c.p false) (ckO s o vcl (.msl σ.length 0 c.out.length c.out.length 6) (.msl (σ.length+1) 0 c.out.length c.out.length 1) (.msl hd 0 c.out.length c.out.length 1) c.p true) c.out.length;simp only[ckO] at c1 g' hs ⊢;have l18:18+1<=19:=by decide
   simp only[a5w,↓reduceIte,PT.ev,BE.safe,BE.pe,IE.pe,PEnv.at,Q3,Q7,a0y,a0A,Qe,Qf,Nat.reduceAdd,Qm,Q2,a0w,a0p,a0x,Q1,Q0,PEnv.push,Q6,Q4,SV.pvs,SV.pv,a3w,a2y,a3t,a3v,Qg,r18,c1,a0U,g',a7e,b2C,hs,a0C,true_or]
  ·refine⟨vcl,σ.length,σ.length+1,hd,R,?_,fun x=>Iff.rfl⟩
   have:=k.cleared hσ hN (vcl':=vcl) (cl':=c.cl) (p':=c.p) (ov':=true) (R':=R) [] ?_ (fun x hx=>by have:=k.bd x hx;simp;omega) (fun hx=>by have:=k.bd _ hx;omega) (fun hx=>by have:=k.bd _ hx;omega) k.nd k.nh
   ·simpa[Ck.blank] using this
   ·refine k.cl.frame fun x hx=>?_
    rw[Q8];exact a9e (k.bd x hx) (by rintro rfl;exact k.nh hx) _ _
  ·refine⟨by rw[a3p];omega,fun x hx hn=>?_,fun x hx=>?_,?_⟩
   ·exact a9e hx (by rintro rfl;exact hn ((hF _).2 (.inl rfl))) _ _
   ·rcases hx with rfl|rfl|rfl|rfl|hx
    ·exact .inl ((hF _).2 (.inl rfl))
    ·exact .inr (Qm _)
    ·exact .inr (by omega)
    ·exact .inl ((hF _).2 (.inr (.inr (.inr (.inl rfl)))))
    ·exact .inl ((hF _).2 (.inr (.inr (.inr (.inr hx)))))
   ·exact c4i k hσ hN (PV.low_mono (by omega) _ (a5A.1 (hσ.get k.obj)).2.2.2.2.1)
theorem d3Y(i:Int)(hn:2<=n):c0a s o σ h F (c.drop i).1 (.int .i64 (c.drop i).2) (a0B Tab n a8c [.ref h 0,.int .i64 i] σ):=by
 obtain⟨n,rfl⟩:∃k,n=k+1:=⟨n-1,by omega⟩;have K0:=K;obtain⟨vcl,ha,hb,hd,R,k,hF⟩:=K;have hob:=k.obj;have r0:∀is bs vs k,a0e {i:=is,b:=bs,v:=vs,m:=σ,k:=k} false 4 (.obj h 0)=some [s.P,s.B,s.C,s.A]:=a0F hob 0 4 (by decide);have r01:∀is bs vs k,a0e {i:=is,b:=bs,v:=vs,m:=σ,k:=k} false 1 (.obj h 0)=some [s.P]:=a0F hob 0 1 (by decide);have r4:∀is bs vs k,a0e {i:=is,b:=bs,v:=vs,m:=σ,k:=k} false 4 (.obj h 4)=some [.int .i64 o.st,.int .i64 o.pc,.int .i64 o.un,.int .i64 o.ru]:=a0F hob 4 4 (by decide);have r6:∀is bs vs k,a0e {i:=is,b:=bs,v:=vs,m:=σ,k:=k} false 1 (.obj h 6)=some [.int .i64 o.un]:=a0F hob 6 1 (by decide);have r7:∀is bs vs k,a0e {i:=is,b:=bs,v:=vs,m:=σ,k:=k} false 1 (.obj h 7)=some [.int .i64 o.ru]:=a0F hob 7 1 (by decide);have r8:∀is bs vs k,a0e {i:=is,b:=bs,v:=vs,m:=σ,k:=k} false 1 (.obj h 8)=some [vcl]:=a0F hob 8 1 (by decide);have r9:∀is bs vs k,a0e {i:=is,b:=bs,v:=vs,m:=σ,k:=k} false 6 (.obj h 9)=some [.int .i64 c.p.a,.int .i64 c.p.b,.int .i64 c.p.c,.int .i64 c.p.d,.int .i64 c.p.e,.int .i64 c.p.f]:=a0F hob 9 6 (by decide);have r15:∀is bs vs k,a0e {i:=is,b:=bs,v:=vs,m:=σ,k:=k} false 1 (.obj h 15)=some [.msl ha 0 c.out.length c.out.length 6]:=a0F hob 15 1 (by decide);have r16:∀is bs vs k,a0e {i:=is,b:=bs,v:=vs,m:=σ,k:=k} false 1 (.obj h 16)=some [.msl hb 0 c.out.length c.out.length 1]:=a0F hob 16 1 (by decide);have r17:∀is bs vs k,a0e {i:=is,b:=bs,v:=vs,m:=σ,k:=k} false 1 (.obj h 17)=some [.msl hd 0 c.out.length c.out.length 1]:=a0F hob 17 1 (by decide);have r18:∀is bs vs k,a0e {i:=is,b:=bs,v:=vs,m:=σ,k:=k} false 1 (.obj h 18)=some [.bool c.over]:=a0F hob 18 1 (by decide);have c1:=b9M k n i (by omega);simp only[a6a] at c1
 have go:∀r,(PT.ev (a0B Tab n) a4w {i:=[i],b:=[],v:=[.ref h 0],m:=σ,k:=σ.length}).bind (fun x=>match x with|.ret r σ=>some (r,σ)|.jump q' ρ'=>Sys.loop (a0B Tab n) d9I n q' ρ')=some r->a0B Tab (n+1) a8c [.ref h 0,.int .i64 i] σ=some r:=fun r hr=>by
  rw[a0B];simp only[b7G,Q0,Sys.run];show ((a0E [.sh (.one _),.sh (.one _)] _).bind _)=_;simp only[a0E,a0x,a0w,Q1,Q0,Q8,Q4,if_true,a7s];exact hr
 unfold Ck.drop;cases hh:c.has i with
 | false =>
  refine⟨σ,F,go _ ?_,K0,Adv.refl hσ⟩;rw[hh] at c1;simp only[a4w,↓reduceIte,PT.ev,BE.safe,BE.pe,IE.pe,PEnv.at,Q3,Q5,Q7,Qd,a0y,a0A,Qe,Qf,Nat.reduceAdd,Q2,a0w,a0p,a0x,Q1,Q0,PEnv.push,Q6,Q4,SV.pvs,SV.pv,Qa,Qu,a3w,a3t,a3v,c1,a0C,true_or,Q2]
 | true =>
  rw[hh] at c1;have hh':=hh;unfold Ck.has at hh';rw[Qy,a1u,a0O] at hh';obtain⟨j,rfl⟩:∃j:Nat,i=(j:Int):=⟨i.toNat,by omega⟩;have hj:j<c.out.length:=by omega
  obtain⟨b,hb'⟩:=a0P hj;have q1:=c0b (h:=hd) (c:=c.out.length) hj
  have q2:∀is bs vs k,a0e {i:=is,b:=bs,v:=vs,m:=σ,k:=k} false 1 (.obj hd j)=some [.bool b]:=fun _ _ _ _=>by
   simp only[a0e,k.out,Q0,MO.list,Q2,if_false];exact c2n c.out hb'
  have hlt:ltB (j:Int) (c.out.length:Int)=true:=by rw[a0O];omega
  rw[QA,if_pos rfl,hb'];cases b with
  | true =>
   refine⟨σ,F,go _ ?_,K0,Adv.refl hσ⟩;simp only[a4w,↓reduceIte,PT.ev,BE.safe,BE.pe,IE.pe,PEnv.at,Q3,Q5,Q7,Qd,a0y,a0A,Qe,Qf,Nat.reduceAdd,Q2,a0w,a0p,a0x,Q1,Q0,PEnv.push,Q6,Q4,Q8,SV.pvs,SV.pv,Qa,Qk,a3w,a2y,a3t,a3v,c1,Qg,r17,a6s,b1B,le0,hlt,q1,q2,a0C,true_or]
  | false =>
   have da:=k.a_d;have ab:=k.a_b;have db:=k.nbd;have la:=k.la;have lb:=k.lb;have hdl:=(Qn.1 k.out).1;have hal:=(Qn.1 k.ask).1;have hbl:=(Qn.1 k.bid).1;refine⟨((σ.set hd (.cells ((c.out.set j true).map PV.bool) 4)).set ha (.cells ((c.ask.set j w0).map W6.pv).flatten 51)).set hb (.cells ((c.bid.set j false).map PV.bool) 4),F,go _ ?_,?_,?_⟩
   ·have g1:=k.out
    have g2:(σ.set hd (.cells ((c.out.set j true).map PV.bool) 4))[ha]?=some (.cells (c.ask.map W6.pv).flatten 51):=by rw[Qh (Ne.symm da)];exact k.ask
    have g3:((σ.set hd (.cells ((c.out.set j true).map PV.bool) 4)).set ha (.cells ((c.ask.set j w0).map W6.pv).flatten 51))[hb]?=some (.cells (c.bid.map PV.bool) 4):=by rw[Qh ab,Qh (Ne.symm db)];exact k.bid
    have t1:j+1<=(c.out.map PV.bool).length:=by simp;omega
    have t2:j*6+6<=(c.ask.map W6.pv).flatten.length:=by rw[b2t];omega
    have t3:j+1<=(c.bid.map PV.bool).length:=by simp;omega
    have s1:=b9L c.out hj true;have s2:a2q (c.ask.map W6.pv).flatten (j*6) [.int .i64 0,.int .i64 0,.int .i64 0,.int .i64 0,.int .i64 0,.int .i64 0]=((c.ask.set j w0).map W6.pv).flatten:=b9t c.ask (by omega) w0;have s3:=b9L c.bid (i:=j) (by omega) false;have q1a:=c5y (h:=ha) (c:=c.out.length) (sz:=6) hj;have q1b:=c0b (h:=hb) (c:=c.out.length) hj;simp only[a4w,↓reduceIte,PT.ev,BE.safe,BE.pe,IE.pe,PEnv.at,Q3,Q5,Q7,Qd,a0y,a0A,Qe,Qf,Nat.reduceAdd,Q2,a0w,a0p,a0x,Q1,Q0,PEnv.push,Q6,Q4,Q8,SV.pvs,SV.pv,Qa,Qk,a3w,a2y,a3t,a3v,c1,Qg,r17,r15,r16,a6s,b1B,le0,hlt,q1,q2,q1a,q1b,g1,g2,g3,if_pos t1,if_pos t2,if_pos t3,s1,s2,s3,a0C,true_or];rfl
   ·refine⟨vcl,ha,hb,hd,R,?_,hF⟩
    have keep:∀x,R x->(((σ.set hd (.cells ((c.out.set j true).map PV.bool) 4)).set ha (.cells ((c.ask.set j w0).map W6.pv).flatten 51)).set hb (.cells ((c.bid.set j false).map PV.bool) 4))[x]?=σ[x]?:=fun x hx=>by
     rw[Qh (by rintro rfl;exact k.nb hx),Qh (by rintro rfl;exact k.na hx),Qh (by rintro rfl;exact k.nd hx)]
    have hl:(c.out.set j true).length=c.out.length:=Qp;refine⟨?_,?_,?_,?_,?_,?_,k.cl.frame keep,fun x hx=>by simp only[Qp];exact k.bd x hx,k.na,k.nb,k.nd,k.nh,k.nbd⟩
    ·simp only[if_false,QJ,Q2,hl]
     rw[Qh k.b_h,Qh k.a_h,Qh k.d_h];exact hob
    ·simp only[QJ,Q2,if_false]
     rw[Qh (Ne.symm ab),QP (by simpa using hal)]
    ·simp only[QJ,Q2,if_false]
     rw[QP (by simpa using hbl)]
    ·simp only[QJ,Q2,if_false]
     rw[Qh db,Qh da,QP hdl]
    ·simp only[QJ,Q2,if_false,Qp];exact la
    ·simp only[QJ,Q2,if_false,Qp];exact lb
   ·refine⟨by simp,fun x hx hn=>?_,fun x hx=>.inl hx,?_⟩
    ·rw[Qh (by rintro rfl;exact hn ((hF _).2 (.inr (.inr (.inl rfl))))),Qh (by rintro rfl;exact hn ((hF _).2 (.inr (.inl rfl)))),Qh (by rintro rfl;exact hn ((hF _).2 (.inr (.inr (.inr (.inl rfl))))))]
    ·exact Low.set (Low.set (Low.set hσ (a6O _ _ _)) (a5K _ _ _)) (a6O _ _ _)
end
theorem c1i{σ:List MO}{h:Nat}(hl:h<σ.length)(x y:MO)(N:Nat)(τ:List MO):(clM σ h x N++τ).set h y=clM σ h y N++τ:=by
 rw[XQ _ _ (by rw[a3p];omega),b2v hl]
section
variable {s:St}{o:Po}{σ:List MO}{h:Nat}{F:Nat->Prop}{c:Ck}(K:a9o s o σ h F c)(hσ:Low σ)(hN:c.out.length<=1000)(hcl:c.cl.length<=100)(n:Nat)
include K hσ hN hcl
set_option maxHeartbeats 4000000 in
theorem d2e(i:Int)(hn:2<=n):c0a s o σ h F (c.reset i).1 (.int .i64 (c.reset i).2) (a0B Tab n a7v [.ref h 0,.int .i64 i] σ):=by
 obtain⟨n,rfl⟩:∃k,n=k+1:=⟨n-1,by omega⟩;have K0:=K;obtain⟨vcl,ha,hb,hd,R,k,hF⟩:=K;have hob:=k.obj;have r0:∀is bs vs k,a0e {i:=is,b:=bs,v:=vs,m:=σ,k:=k} false 4 (.obj h 0)=some [s.P,s.B,s.C,s.A]:=a0F hob 0 4 (by decide);have r01:∀is bs vs k,a0e {i:=is,b:=bs,v:=vs,m:=σ,k:=k} false 1 (.obj h 0)=some [s.P]:=a0F hob 0 1 (by decide);have r4:∀is bs vs k,a0e {i:=is,b:=bs,v:=vs,m:=σ,k:=k} false 4 (.obj h 4)=some [.int .i64 o.st,.int .i64 o.pc,.int .i64 o.un,.int .i64 o.ru]:=a0F hob 4 4 (by decide);have r6:∀is bs vs k,a0e {i:=is,b:=bs,v:=vs,m:=σ,k:=k} false 1 (.obj h 6)=some [.int .i64 o.un]:=a0F hob 6 1 (by decide);have r7:∀is bs vs k,a0e {i:=is,b:=bs,v:=vs,m:=σ,k:=k} false 1 (.obj h 7)=some [.int .i64 o.ru]:=a0F hob 7 1 (by decide);have r8:∀is bs vs k,a0e {i:=is,b:=bs,v:=vs,m:=σ,k:=k} false 1 (.obj h 8)=some [vcl]:=a0F hob 8 1 (by decide);have r9:∀is bs vs k,a0e {i:=is,b:=bs,v:=vs,m:=σ,k:=k} false 6 (.obj h 9)=some [.int .i64 c.p.a,.int .i64 c.p.b,.int .i64 c.p.c,.int .i64 c.p.d,.int .i64 c.p.e,.int .i64 c.p.f]:=a0F hob 9 6 (by decide);have r15:∀is bs vs k,a0e {i:=is,b:=bs,v:=vs,m:=σ,k:=k} false 1 (.obj h 15)=some [.msl ha 0 c.out.length c.out.length 6]:=a0F hob 15 1 (by decide);have r16:∀is bs vs k,a0e {i:=is,b:=bs,v:=vs,m:=σ,k:=k} false 1 (.obj h 16)=some [.msl hb 0 c.out.length c.out.length 1]:=a0F hob 16 1 (by decide);have r17:∀is bs vs k,a0e {i:=is,b:=bs,v:=vs,m:=σ,k:=k} false 1 (.obj h 17)=some [.msl hd 0 c.out.length c.out.length 1]:=a0F hob 17 1 (by decide);have r18:∀is bs vs k,a0e {i:=is,b:=bs,v:=vs,m:=σ,k:=k} false 1 (.obj h 18)=some [.bool c.over]:=a0F hob 18 1 (by decide);have c1:=c4V k hσ hN n (by omega);simp only[a2b] at c1;have hc:=k.cl.rd;have e6:∀a b:Int,ltB a b=decide (a<b):=fun _ _=>rfl
 have e5:∀a b:Int,eqB a b=decide (a=b):=fun _ _=>rfl
 have go:∀r,(PT.ev (a0B Tab n) a2z {i:=[i],b:=[],v:=[.ref h 0],m:=σ,k:=σ.length}).bind (fun x=>match x with|.ret r σ=>some (r,σ)|.jump q' ρ'=>Sys.loop (a0B Tab n) d9B n q' ρ')=some r->a0B Tab (n+1) a7v [.ref h 0,.int .i64 i] σ=some r:=fun r hr=>by
  rw[a0B];simp only[b6O,Q0,Sys.run];show ((a0E [.sh (.one _),.sh (.one _)] _).bind _)=_;simp only[a0E,a0x,a0w,Q1,Q0,Q8,Q4,if_true,a7s];exact hr
 obtain⟨X,hX⟩:∃X:PV->W6->Bool->MO,∀v p ov,X v p ov=ckO s o v (.msl σ.length 0 c.out.length c.out.length 6) (.msl (σ.length+1) 0 c.out.length c.out.length 1) (.msl hd 0 c.out.length c.out.length 1) p ov:=⟨_,fun _ _ _=>rfl⟩
 have hclF:∀v p ov τ,CSl (clM σ h (X v p ov) c.out.length++τ) R vcl c.cl:=fun v p ov τ=>k.cl.frame fun x hx=>by
  rw[Qq (by rw[a3p];have:=k.bd x hx;omega)];exact a9e (k.bd x hx) (by rintro rfl;exact k.nh hx) _ _
 rw[<- hX] at c1
 have adv:∀v p ov τ F',(∀x,F' x->F x\/σ.length<=x)->Low (clM σ h (X v p ov) c.out.length++τ)->Adv σ (clM σ h (X v p ov) c.out.length++τ) F F':=fun v p ov τ F' h1 h2=>by
  refine⟨by rw[Qv,a3p];omega,fun x hx hn=>?_,h1,h2⟩;rw[Qq (by rw[a3p];omega)];exact a9e hx (by rintro rfl;exact hn ((hF _).2 (.inl rfl))) _ _
 have own:∀R':Nat->Prop,(∀x,R' x->R x\/σ.length<=x)->∀x,(x=h\/x=σ.length\/x=σ.length+1\/x=hd\/R' x)->F x\/σ.length<=x:=fun R' hR x hx=>by
  rcases hx with rfl|rfl|rfl|rfl|hx
  ·exact .inl ((hF _).2 (.inl rfl))
  ·exact .inr (Qm _)
  ·exact .inr (by omega)
  ·exact .inl ((hF _).2 (.inr (.inr (.inr (.inl rfl)))))
  ·rcases hR x hx with hx|hx
   ·exact .inl ((hF _).2 (.inr (.inr (.inr (.inr hx)))))
   ·exact .inr hx
 unfold Ck.reset;by_cases h1:i<0
 ·refine⟨σ,F,go _ ?_,by rw[if_pos h1];exact K0,Adv.refl hσ⟩
  rw[if_pos h1];simp only[a2z,↓reduceIte,PT.ev,BE.safe,BE.pe,IE.pe,PEnv.at,Q3,Q2,Q1,Q0,SV.pv,a3w,a3t,a3v,e6,dT0 h1,a0C,true_or]
 by_cases h2:(c.cl.length:Int)<i
 ·refine⟨σ,F,go _ ?_,by rw[if_neg h1,if_pos h2];exact K0,Adv.refl hσ⟩
  rw[if_neg h1,if_pos h2];simp only[a2z,↓reduceIte,PT.ev,BE.safe,BE.pe,IE.pe,PEnv.at,Q3,Q5,Q7,Qd,a0y,a0A,Qe,Qf,Nat.reduceAdd,Q2,a0w,a0p,a0x,Q1,Q0,PEnv.push,Q6,Q4,Q8,SV.pvs,SV.pv,Qa,a3w,a2y,a3t,a3v,e6,dF0 h1,Qg,r8,hc.one,hc.kind,hc.len,dT0 h2,a0C,true_or]
 obtain⟨j,rfl⟩:∃j:Nat,i=(j:Int):=⟨i.toNat,by omega⟩;by_cases h3:(j:Int)=(c.cl.length:Int)/\c.over=true
 ·refine⟨σ,F,go _ ?_,by rw[if_neg h1,if_neg h2,if_pos h3];exact K0,Adv.refl hσ⟩
  rw[if_neg h1,if_neg h2,if_pos h3];rw[h3.2] at r18;simp only[a2z,↓reduceIte,PT.ev,BE.safe,BE.pe,IE.pe,PEnv.at,Q3,Q5,Q7,Qd,a0y,a0A,Qe,Qf,Nat.reduceAdd,Q2,a0w,a0p,a0x,Q1,Q0,PEnv.push,Q6,Q4,Q8,SV.pvs,SV.pv,Qa,a3w,a2y,a3t,a3v,e6,e5,dF0 h1,Qg,r8,r18,hc.one,hc.kind,hc.len,dF0 h2,dT0 h3.1,a0C,true_or]
 rw[if_neg h1,if_neg h2,if_neg h3,QA];by_cases h4:j<c.cl.length
 ·
  obtain⟨r,hr⟩:=a0P h4;have hclM:=hclF vcl c.p c.over [];rw[Q8] at hclM;obtain⟨row,hrow,hrd⟩:=hclM.rd.rd j r hr;obtain⟨a,g,b,rfl,_⟩:=hrow;obtain⟨L,q1,q2⟩:=hrd 0 6 (by decide);have q2:∀is bs vs k,a0e {i:=is,b:=bs,v:=vs,m:=clM σ h (X vcl c.p c.over) c.out.length,k:=k} false 6 L=some [.int .i64 r.p.a,.int .i64 r.p.b,.int .i64 r.p.c,.int .i64 r.p.d,.int .i64 r.p.e,.int .i64 r.p.f]:=q2;have hclP:=hclF vcl r.p c.over [];rw[Q8] at hclP;obtain⟨p,rows,p1,p2,p3,p4⟩:=d4P hclP h4;have ob1:=a8g k.lt (X vcl c.p c.over) c.out.length;have ob2:=a8g k.lt (X vcl r.p c.over) c.out.length;rw[hX] at ob1 ob2;have u0:∀is bs vs k,a0e {i:=is,b:=bs,v:=vs,m:=clM σ h (ckO s o vcl (.msl σ.length 0 c.out.length c.out.length 6) (.msl (σ.length+1) 0 c.out.length c.out.length 1) (.msl hd 0 c.out.length c.out.length 1) c.p c.over) c.out.length,k:=k} false 4 (.obj h 0)=some [s.P,s.B,s.C,s.A]:=a0F ob1 0 4 (by decide);have u01:∀is bs vs k,a0e {i:=is,b:=bs,v:=vs,m:=clM σ h (ckO s o vcl (.msl σ.length 0 c.out.length c.out.length 6) (.msl (σ.length+1) 0 c.out.length c.out.length 1) (.msl hd 0 c.out.length c.out.length 1) c.p c.over) c.out.length,k:=k} false 1 (.obj h 0)=some [s.P]:=a0F ob1 0 1 (by decide);have u4:∀is bs vs k,a0e {i:=is,b:=bs,v:=vs,m:=clM σ h (ckO s o vcl (.msl σ.length 0 c.out.length c.out.length 6) (.msl (σ.length+1) 0 c.out.length c.out.length 1) (.msl hd 0 c.out.length c.out.length 1) c.p c.over) c.out.length,k:=k} false 4 (.obj h 4)=some [.int .i64 o.st,.int .i64 o.pc,.int .i64 o.un,.int .i64 o.ru]:=a0F ob1 4 4 (by decide);have u6:∀is bs vs k,a0e {i:=is,b:=bs,v:=vs,m:=clM σ h (ckO s o vcl (.msl σ.length 0 c.out.length c.out.length 6) (.msl (σ.length+1) 0 c.out.length c.out.length 1) (.msl hd 0 c.out.length c.out.length 1) c.p c.over) c.out.length,k:=k} false 1 (.obj h 6)=some [.int .i64 o.un]:=a0F ob1 6 1 (by decide);have u7:∀is bs vs k,a0e {i:=is,b:=bs,v:=vs,m:=clM σ h (ckO s o vcl (.msl σ.length 0 c.out.length c.out.length 6) (.msl (σ.length+1) 0 c.out.length c.out.length 1) (.msl hd 0 c.out.length c.out.length 1) c.p c.over) c.out.length,k:=k} false 1 (.obj h 7)=some [.int .i64 o.ru]:=a0F ob1 7 1 (by decide);have u8:∀is bs vs k,a0e {i:=is,b:=bs,v:=vs,m:=clM σ h (ckO s o vcl (.msl σ.length 0 c.out.length c.out.length 6) (.msl (σ.length+1) 0 c.out.length c.out.length 1) (.msl hd 0 c.out.length c.out.length 1) c.p c.over) c.out.length,k:=k} false 1 (.obj h 8)=some [vcl]:=a0F ob1 8 1 (by decide);have u9:∀is bs vs k,a0e {i:=is,b:=bs,v:=vs,m:=clM σ h (ckO s o vcl (.msl σ.length 0 c.out.length c.out.length 6) (.msl (σ.length+1) 0 c.out.length c.out.length 1) (.msl hd 0 c.out.length c.out.length 1) c.p c.over) c.out.length,k:=k} false 6 (.obj h 9)=some [.int .i64 c.p.a,.int .i64 c.p.b,.int .i64 c.p.c,.int .i64 c.p.d,.int .i64 c.p.e,.int .i64 c.p.f]:=a0F ob1 9 6 (by decide);have u15:∀is bs vs k,a0e {i:=is,b:=bs,v:=vs,m:=clM σ h (ckO s o vcl (.msl σ.length 0 c.out.length c.out.length 6) (.msl (σ.length+1) 0 c.out.length c.out.length 1) (.msl hd 0 c.out.length c.out.length 1) c.p c.over) c.out.length,k:=k} false 1 (.obj h 15)=some [.msl σ.length 0 c.out.length c.out.length 6]:=a0F ob1 15 1 (by decide);have u16:∀is bs vs k,a0e {i:=is,b:=bs,v:=vs,m:=clM σ h (ckO s o vcl (.msl σ.length 0 c.out.length c.out.length 6) (.msl (σ.length+1) 0 c.out.length c.out.length 1) (.msl hd 0 c.out.length c.out.length 1) c.p c.over) c.out.length,k:=k} false 1 (.obj h 16)=some [.msl (σ.length+1) 0 c.out.length c.out.length 1]:=a0F ob1 16 1 (by decide);have u17:∀is bs vs k,a0e {i:=is,b:=bs,v:=vs,m:=clM σ h (ckO s o vcl (.msl σ.length 0 c.out.length c.out.length 6) (.msl (σ.length+1) 0 c.out.length c.out.length 1) (.msl hd 0 c.out.length c.out.length 1) c.p c.over) c.out.length,k:=k} false 1 (.obj h 17)=some [.msl hd 0 c.out.length c.out.length 1]:=a0F ob1 17 1 (by decide);have u18:∀is bs vs k,a0e {i:=is,b:=bs,v:=vs,m:=clM σ h (ckO s o vcl (.msl σ.length 0 c.out.length c.out.length 6) (.msl (σ.length+1) 0 c.out.length c.out.length 1) (.msl hd 0 c.out.length c.out.length 1) c.p c.over) c.out.length,k:=k} false 1 (.obj h 18)=some [.bool c.over]:=a0F ob1 18 1 (by decide);have w0:∀is bs vs k,a0e {i:=is,b:=bs,v:=vs,m:=clM σ h (ckO s o vcl (.msl σ.length 0 c.out.length c.out.length 6) (.msl (σ.length+1) 0 c.out.length c.out.length 1) (.msl hd 0 c.out.length c.out.length 1) r.p c.over) c.out.length,k:=k} false 4 (.obj h 0)=some [s.P,s.B,s.C,s.A]:=a0F ob2 0 4 (by decide);have w01:∀is bs vs k,a0e {i:=is,b:=bs,v:=vs,m:=clM σ h (ckO s o vcl (.msl σ.length 0 c.out.length c.out.length 6) (.msl (σ.length+1) 0 c.out.length c.out.length 1) (.msl hd 0 c.out.length c.out.length 1) r.p c.over) c.out.length,k:=k} false 1 (.obj h 0)=some [s.P]:=a0F ob2 0 1 (by decide);have w4:∀is bs vs k,a0e {i:=is,b:=bs,v:=vs,m:=clM σ h (ckO s o vcl (.msl σ.length 0 c.out.length c.out.length 6) (.msl (σ.length+1) 0 c.out.length c.out.length 1) (.msl hd 0 c.out.length c.out.length 1) r.p c.over) c.out.length,k:=k} false 4 (.obj h 4)=some [.int .i64 o.st,.int .i64 o.pc,.int .i64 o.un,.int .i64 o.ru]:=a0F ob2 4 4 (by decide);have w6:∀is bs vs k,a0e {i:=is,b:=bs,v:=vs,m:=clM σ h (ckO s o vcl (.msl σ.length 0 c.out.length c.out.length 6) (.msl (σ.length+1) 0 c.out.length c.out.length 1) (.msl hd 0 c.out.length c.out.length 1) r.p c.over) c.out.length,k:=k} false 1 (.obj h 6)=some [.int .i64 o.un]:=a0F ob2 6 1 (by decide);have w7:∀is bs vs k,a0e {i:=is,b:=bs,v:=vs,m:=clM σ h (ckO s o vcl (.msl σ.length 0 c.out.length c.out.length 6) (.msl (σ.length+1) 0 c.out.length c.out.length 1) (.msl hd 0 c.out.length c.out.length 1) r.p c.over) c.out.length,k:=k} false 1 (.obj h 7)=some [.int .i64 o.ru]:=a0F ob2 7 1 (by decide);have w8:∀is bs vs k,a0e {i:=is,b:=bs,v:=vs,m:=clM σ h (ckO s o vcl (.msl σ.length 0 c.out.length c.out.length 6) (.msl (σ.length+1) 0 c.out.length c.out.length 1) (.msl hd 0 c.out.length c.out.length 1) r.p c.over) c.out.length,k:=k} false 1 (.obj h 8)=some [vcl]:=a0F ob2 8 1 (by decide);have w9:∀is bs vs k,a0e {i:=is,b:=bs,v:=vs,m:=clM σ h (ckO s o vcl (.msl σ.length 0 c.out.length c.out.length 6) (.msl (σ.length+1) 0 c.out.length c.out.length 1) (.msl hd 0 c.out.length c.out.length 1) r.p c.over) c.out.length,k:=k} false 6 (.obj h 9)=some [.int .i64 r.p.a,.int .i64 r.p.b,.int .i64 r.p.c,.int .i64 r.p.d,.int .i64 r.p.e,.int .i64 r.p.f]:=a0F ob2 9 6 (by decide);have w15:∀is bs vs k,a0e {i:=is,b:=bs,v:=vs,m:=clM σ h (ckO s o vcl (.msl σ.length 0 c.out.length c.out.length 6) (.msl (σ.length+1) 0 c.out.length c.out.length 1) (.msl hd 0 c.out.length c.out.length 1) r.p c.over) c.out.length,k:=k} false 1 (.obj h 15)=some [.msl σ.length 0 c.out.length c.out.length 6]:=a0F ob2 15 1 (by decide);have w16:∀is bs vs k,a0e {i:=is,b:=bs,v:=vs,m:=clM σ h (ckO s o vcl (.msl σ.length 0 c.out.length c.out.length 6) (.msl (σ.length+1) 0 c.out.length c.out.length 1) (.msl hd 0 c.out.length c.out.length 1) r.p c.over) c.out.length,k:=k} false 1 (.obj h 16)=some [.msl (σ.length+1) 0 c.out.length c.out.length 1]:=a0F ob2 16 1 (by decide);have w17:∀is bs vs k,a0e {i:=is,b:=bs,v:=vs,m:=clM σ h (ckO s o vcl (.msl σ.length 0 c.out.length c.out.length 6) (.msl (σ.length+1) 0 c.out.length c.out.length 1) (.msl hd 0 c.out.length c.out.length 1) r.p c.over) c.out.length,k:=k} false 1 (.obj h 17)=some [.msl hd 0 c.out.length c.out.length 1]:=a0F ob2 17 1 (by decide);have w18:∀is bs vs k,a0e {i:=is,b:=bs,v:=vs,m:=clM σ h (ckO s o vcl (.msl σ.length 0 c.out.length c.out.length 6) (.msl (σ.length+1) 0 c.out.length c.out.length 1) (.msl hd 0 c.out.length c.out.length 1) r.p c.over) c.out.length,k:=k} false 1 (.obj h 18)=some [.bool c.over]:=a0F ob2 18 1 (by decide);rw[<- hX] at u8 w8;have c2:=b0K p3 (by omega) n (by omega);have hlen:(clM σ h (X vcl r.p c.over) c.out.length).length=σ.length+2:=a3p _ _ _ _;rw[hlen] at c2;simp only[a6Z] at c2;have hXc:∀v p ov,X v p ov=.cells (ckL s o v (.msl σ.length 0 c.out.length c.out.length 6) (.msl (σ.length+1) 0 c.out.length c.out.length 1) (.msl hd 0 c.out.length c.out.length 1) p ov) 79:=fun v p ov=>by rw[hX];rfl
  have g1:(clM σ h (X vcl c.p c.over) c.out.length)[h]?=some (.cells (ckL s o vcl (.msl σ.length 0 c.out.length c.out.length 6) (.msl (σ.length+1) 0 c.out.length c.out.length 1) (.msl hd 0 c.out.length c.out.length 1) c.p c.over) 79):=by rw[a8g k.lt,hXc]
  have g2:∀τ,(clM σ h (X vcl r.p c.over) c.out.length++τ)[h]?=some (.cells (ckL s o vcl (.msl σ.length 0 c.out.length c.out.length 6) (.msl (σ.length+1) 0 c.out.length c.out.length 1) (.msl hd 0 c.out.length c.out.length 1) r.p c.over) 79):=fun τ=>by rw[a1R (a8g k.lt _ _),hXc]
  have g3:∀v τ,(clM σ h (X v r.p c.over) c.out.length++τ)[h]?=some (.cells (ckL s o v (.msl σ.length 0 c.out.length c.out.length 6) (.msl (σ.length+1) 0 c.out.length c.out.length 1) (.msl hd 0 c.out.length c.out.length 1) r.p c.over) 79):=fun v τ=>by rw[a1R (a8g k.lt _ _),hXc]
  have z1:∀(y:W6),(clM σ h (X vcl c.p c.over) c.out.length).set h (.cells (ckL s o vcl (.msl σ.length 0 c.out.length c.out.length 6) (.msl (σ.length+1) 0 c.out.length c.out.length 1) (.msl hd 0 c.out.length c.out.length 1) y c.over) 79)=clM σ h (X vcl y c.over) c.out.length:=fun y=>by rw[b2v k.lt,hXc]
  have z2:∀v τ,(clM σ h (X vcl r.p c.over) c.out.length++τ).set h (.cells (ckL s o v (.msl σ.length 0 c.out.length c.out.length 6) (.msl (σ.length+1) 0 c.out.length c.out.length 1) (.msl hd 0 c.out.length c.out.length 1) r.p c.over) 79)=clM σ h (X v r.p c.over) c.out.length++τ:=fun v τ=>by rw[c1i k.lt,hXc]
  have z3:∀v τ,(clM σ h (X v r.p c.over) c.out.length++τ).set h (.cells (ckL s o v (.msl σ.length 0 c.out.length c.out.length 6) (.msl (σ.length+1) 0 c.out.length c.out.length 1) (.msl hd 0 c.out.length c.out.length 1) r.p false) 79)=clM σ h (X v r.p false) c.out.length++τ:=fun v τ=>by rw[c1i k.lt,hXc]
  have hne:(j:Int)=(c.cl.length:Int)->False:=fun h=>by omega
  have e1:decide ((j:Int)<(c.cl.length:Int))=true:=dT0 (by omega);have one3:PV.one p=true:=p3.one;have p2':∀is bs vs k,b6W {i:=is,b:=bs,v:=vs,m:=clM σ h (X vcl r.p c.over) c.out.length,k:=k} none (some (.a 0)) 9 (some vcl)=some p->True:=fun _ _ _ _ _=>trivial
  refine⟨clM σ h (X (.msl (σ.length+2) 0 j j 9) r.p false) c.out.length++[.cells rows.flatten 65],fun x=>x=h\/x=σ.length\/x=σ.length+1\/x=hd\/(R x\/x=σ.length+2),go (.int .i64 0,_) ?_,?_,?_⟩
  ·have hcut:=fun (is:List Int) (bs:List Bool) (vs:List PV) (k:Nat)=>p2 {i:=(j:Int)::is,b:=bs,v:=vs,m:=clM σ h (X vcl r.p c.over) c.out.length,k:=k} (.a 0) rfl rfl
   simp only[a2z,↓reduceIte,PT.ev,BE.safe,BE.pe,IE.pe,PEnv.at,Q3,Q5,Q7,Qd,a0y,a0A,Qe,Qf,Nat.reduceAdd,Qm,Q2,a0w,a0p,a0x,Q1,Q0,PEnv.push,Q6,Q4,Q8,SV.pvs,SV.pv,Qa,a3w,a2y,a3t,a3v,e6,e5,dF0 h1,Qg,r8,hc.one,hc.kind,hc.len,dF0 h2,dF0 hne,c1,a0U,u8,e1,le0,q1,q2,g1,a7e,Nat.reduceLeDiff,d0D,z1,w8,p1,hcut,c2,a6s,g2,c6H,z2,g3,b2C,z3,a0C,true_or]
  ·refine⟨.msl (σ.length+2) 0 j j 9,σ.length,σ.length+1,hd,fun x=>R x\/x=σ.length+2,?_,fun x=>Iff.rfl⟩
   have hlt:(c.cl.take j).length=j:=by rw[QS];omega
   have key:=k.cleared hσ hN (vcl':=.msl (σ.length+2) 0 j j 9) (cl':=c.cl.take j) (p':=r.p) (ov':=false) (R':=fun x=>R x\/x=σ.length+2) [.cells rows.flatten 65] ?_ (fun x hx=>by rcases hx with hx|rfl;(have:=k.bd x hx;simp;omega);simp) (fun hx=>by rcases hx with hx|hx;(have:=k.bd _ hx;omega);omega) (fun hx=>by rcases hx with hx|hx;(have:=k.bd _ hx;omega);omega) (fun hx=>by rcases hx with hx|hx;exact k.nd hx;have:=(Qn.1 k.out).1;omega) (fun hx=>by rcases hx with hx|hx;exact k.nh hx;have:=k.lt;omega)
   ·rw[hX,hr]
    exact key
   ·refine .inr (.inl ⟨σ.length+2,rows,.inr rfl,by rw[hlt],?_,?_⟩)
    ·rw[X3 (by rw[a3p];omega),a3p,Xd];rfl
    ·refine(p4.frame fun x hx=>?_).mono fun x hx=>.inl hx
     rw[Qq (by rw[a3p];have:=k.bd x hx;omega),a9e (k.bd x hx) (by rintro rfl;exact k.nh hx),a9e (k.bd x hx) (by rintro rfl;exact k.nh hx)]
  ·refine adv _ _ _ _ _ (own _ fun x hx=>?_) ?_
   ·rcases hx with hx|rfl
    ·exact .inl hx
    ·exact .inr (by omega)
   ·have hl0:∀v p ov,v.low (σ.length+3)=true->(X v p ov).low (σ.length+3)=true:=fun v p ov hv=>by
     have ho:=a5A.1 (hσ.get k.obj);have up:∀{v:PV},v.low σ.length=true->v.low (σ.length+3)=true:=fun h=>PV.low_mono (by omega) _ h
     rw[hX];exact a5A.2 ⟨up ho.1,up ho.2.1,up ho.2.2.1,up ho.2.2.2.1,hv,by simp[PV.low],by simp[PV.low],up ho.2.2.2.2.2.2.2⟩
    have hlc:=c4i k hσ hN (vcl':=vcl) (p':=c.p) (ov':=c.over) (PV.low_mono (by omega) _ (a5A.1 (hσ.get k.obj)).2.2.2.2.1);rw[<- hX] at hlc
    have hrows:(MO.cells rows.flatten 65).low (σ.length+3)=true:=by
     show PV.lows _ _=true
     have:∀l:List (List PV),(∀q∈l,PV.lows (σ.length+3) q=true)->PV.lows (σ.length+3) l.flatten=true:=by
      intro l
      induction l with
      | nil=>intro _;rfl
      | cons q l ih =>
       intro hq;rw[Qs];have a1:=hq q (by simp);have a2:=ih fun z hz=>hq z (by simp[hz])
       clear ih hq
       induction q with
       | nil=>exact a2
       | cons z q ih=>simp only[Q6,PV.lows,Qy] at a1 ⊢;exact⟨a1.1,ih a1.2⟩
     refine this _ fun q hq=>?_
     obtain⟨_,_,kk⟩:=p4.mem hq;exact kk.low fun x hx=>by have:=k.bd x hx;omega
    unfold Low;rw[Qv,a3p,QH,QX,Qy];refine⟨Qw.2 fun y hy=>?_,by simpa using hrows⟩;unfold clM at hy;rcases Xg.1 hy with hy|hy
    ·rcases QU hy with hy|rfl
     ·exact MO.low_mono (by omega) (Qw.1 hσ y hy)
     ·exact hl0 _ _ _ (by simp[PV.low])
    ·simp only[List.mem_cons,List.not_mem_nil,or_false] at hy
     rcases hy with rfl|rfl
     ·exact a5K _ _ _
     ·exact a6O _ _ _
 ·
  have hjl:(j:Int)=(c.cl.length:Int):=by omega
  obtain rfl:j=c.cl.length:=by omega
  have hov:c.over=false:=by
   cases h:c.over with
   | false=>rfl
   | true=>exact absurd ⟨rfl,h⟩ h3
  rw[hov] at r18 c1;have ob1:=a8g k.lt (X vcl c.p false) c.out.length;rw[hX] at ob1;have u0:∀is bs vs k,a0e {i:=is,b:=bs,v:=vs,m:=clM σ h (ckO s o vcl (.msl σ.length 0 c.out.length c.out.length 6) (.msl (σ.length+1) 0 c.out.length c.out.length 1) (.msl hd 0 c.out.length c.out.length 1) c.p false) c.out.length,k:=k} false 4 (.obj h 0)=some [s.P,s.B,s.C,s.A]:=a0F ob1 0 4 (by decide);have u01:∀is bs vs k,a0e {i:=is,b:=bs,v:=vs,m:=clM σ h (ckO s o vcl (.msl σ.length 0 c.out.length c.out.length 6) (.msl (σ.length+1) 0 c.out.length c.out.length 1) (.msl hd 0 c.out.length c.out.length 1) c.p false) c.out.length,k:=k} false 1 (.obj h 0)=some [s.P]:=a0F ob1 0 1 (by decide);have u4:∀is bs vs k,a0e {i:=is,b:=bs,v:=vs,m:=clM σ h (ckO s o vcl (.msl σ.length 0 c.out.length c.out.length 6) (.msl (σ.length+1) 0 c.out.length c.out.length 1) (.msl hd 0 c.out.length c.out.length 1) c.p false) c.out.length,k:=k} false 4 (.obj h 4)=some [.int .i64 o.st,.int .i64 o.pc,.int .i64 o.un,.int .i64 o.ru]:=a0F ob1 4 4 (by decide);have u6:∀is bs vs k,a0e {i:=is,b:=bs,v:=vs,m:=clM σ h (ckO s o vcl (.msl σ.length 0 c.out.length c.out.length 6) (.msl (σ.length+1) 0 c.out.length c.out.length 1) (.msl hd 0 c.out.length c.out.length 1) c.p false) c.out.length,k:=k} false 1 (.obj h 6)=some [.int .i64 o.un]:=a0F ob1 6 1 (by decide);have u7:∀is bs vs k,a0e {i:=is,b:=bs,v:=vs,m:=clM σ h (ckO s o vcl (.msl σ.length 0 c.out.length c.out.length 6) (.msl (σ.length+1) 0 c.out.length c.out.length 1) (.msl hd 0 c.out.length c.out.length 1) c.p false) c.out.length,k:=k} false 1 (.obj h 7)=some [.int .i64 o.ru]:=a0F ob1 7 1 (by decide);have u8:∀is bs vs k,a0e {i:=is,b:=bs,v:=vs,m:=clM σ h (ckO s o vcl (.msl σ.length 0 c.out.length c.out.length 6) (.msl (σ.length+1) 0 c.out.length c.out.length 1) (.msl hd 0 c.out.length c.out.length 1) c.p false) c.out.length,k:=k} false 1 (.obj h 8)=some [vcl]:=a0F ob1 8 1 (by decide);have u9:∀is bs vs k,a0e {i:=is,b:=bs,v:=vs,m:=clM σ h (ckO s o vcl (.msl σ.length 0 c.out.length c.out.length 6) (.msl (σ.length+1) 0 c.out.length c.out.length 1) (.msl hd 0 c.out.length c.out.length 1) c.p false) c.out.length,k:=k} false 6 (.obj h 9)=some [.int .i64 c.p.a,.int .i64 c.p.b,.int .i64 c.p.c,.int .i64 c.p.d,.int .i64 c.p.e,.int .i64 c.p.f]:=a0F ob1 9 6 (by decide);have u15:∀is bs vs k,a0e {i:=is,b:=bs,v:=vs,m:=clM σ h (ckO s o vcl (.msl σ.length 0 c.out.length c.out.length 6) (.msl (σ.length+1) 0 c.out.length c.out.length 1) (.msl hd 0 c.out.length c.out.length 1) c.p false) c.out.length,k:=k} false 1 (.obj h 15)=some [.msl σ.length 0 c.out.length c.out.length 6]:=a0F ob1 15 1 (by decide);have u16:∀is bs vs k,a0e {i:=is,b:=bs,v:=vs,m:=clM σ h (ckO s o vcl (.msl σ.length 0 c.out.length c.out.length 6) (.msl (σ.length+1) 0 c.out.length c.out.length 1) (.msl hd 0 c.out.length c.out.length 1) c.p false) c.out.length,k:=k} false 1 (.obj h 16)=some [.msl (σ.length+1) 0 c.out.length c.out.length 1]:=a0F ob1 16 1 (by decide);have u17:∀is bs vs k,a0e {i:=is,b:=bs,v:=vs,m:=clM σ h (ckO s o vcl (.msl σ.length 0 c.out.length c.out.length 6) (.msl (σ.length+1) 0 c.out.length c.out.length 1) (.msl hd 0 c.out.length c.out.length 1) c.p false) c.out.length,k:=k} false 1 (.obj h 17)=some [.msl hd 0 c.out.length c.out.length 1]:=a0F ob1 17 1 (by decide);have u18:∀is bs vs k,a0e {i:=is,b:=bs,v:=vs,m:=clM σ h (ckO s o vcl (.msl σ.length 0 c.out.length c.out.length 6) (.msl (σ.length+1) 0 c.out.length c.out.length 1) (.msl hd 0 c.out.length c.out.length 1) c.p false) c.out.length,k:=k} false 1 (.obj h 18)=some [.bool false]:=a0F ob1 18 1 (by decide);rw[<- hX] at u8;have hXc:∀v p ov,X v p ov=.cells (ckL s o v (.msl σ.length 0 c.out.length c.out.length 6) (.msl (σ.length+1) 0 c.out.length c.out.length 1) (.msl hd 0 c.out.length c.out.length 1) p ov) 79:=fun v p ov=>by rw[hX];rfl
  have g1:(clM σ h (X vcl c.p false) c.out.length)[h]?=some (.cells (ckL s o vcl (.msl σ.length 0 c.out.length c.out.length 6) (.msl (σ.length+1) 0 c.out.length c.out.length 1) (.msl hd 0 c.out.length c.out.length 1) c.p false) 79):=by rw[a8g k.lt,hXc]
  have z1:(clM σ h (X vcl c.p false) c.out.length).set h (.cells (ckL s o vcl (.msl σ.length 0 c.out.length c.out.length 6) (.msl (σ.length+1) 0 c.out.length c.out.length 1) (.msl hd 0 c.out.length c.out.length 1) c.p false) 79)=clM σ h (X vcl c.p false) c.out.length:=by rw[b2v k.lt,hXc]
  refine⟨clM σ h (X vcl c.p false) c.out.length++[],fun x=>x=h\/x=σ.length\/x=σ.length+1\/x=hd\/R x,go (.int .i64 0,_) ?_,?_,?_⟩
  ·have e1:decide ((c.cl.length:Int)<(c.cl.length:Int))=false:=dF0 (by omega)
   have e0:decide ((c.cl.length:Int)<0)=false:=dF0 (by omega);rw[Q8];simp only[a2z,↓reduceIte,PT.ev,BE.safe,BE.pe,IE.pe,PEnv.at,Q3,Q5,Q7,Qd,a0y,a0A,Qe,Qf,Nat.reduceAdd,Qm,Q2,a0w,a0p,a0x,Q1,Q0,PEnv.push,Q6,Q4,Q8,SV.pvs,SV.pv,Qa,a3w,a2y,a3t,a3v,e6,e5,e0,Qg,r8,r18,hc.one,hc.kind,hc.len,e1,decide_true,c1,a0U,u8,g1,a7e,Nat.reduceLeDiff,b2C,z1,a0C,true_or]
  ·refine⟨vcl,σ.length,σ.length+1,hd,R,?_,fun x=>Iff.rfl⟩
   have key:=k.cleared hσ hN (vcl':=vcl) (cl':=c.cl) (p':=c.p) (ov':=false) (R':=R) [] (by rw[<- hX];exact hclF vcl c.p false []) (fun x hx=>by have:=k.bd x hx;simp;omega) (fun hx=>by have:=k.bd _ hx;omega) (fun hx=>by have:=k.bd _ hx;omega) k.nd k.nh;rw[hX,QM (Qm _),List.getElem?_eq_none (Qm _)];exact key
  ·refine adv _ _ _ _ _ (own _ fun x hx=>.inl hx) ?_
   rw[Q8,hX];exact c4i k hσ hN (PV.low_mono (by omega) _ (a5A.1 (hσ.get k.obj)).2.2.2.2.1)
end
theorem CpS.app{σ:List MO}{v:PV}{sz N:Nat}{cells:List PV}(h:CpS σ v sz N cells)(τ:List MO):CpS (σ++τ) v sz N cells :=
 ⟨h.kind,h.one,h.len,fun ρ x τ' hx hm=>h.src ρ x (τ++τ') hx (by rw[hm,QN]),h.cl,h.ones⟩
def rnA(r:Rn):MO:=.cells (r.ask.map W6.pv).flatten 51
def rnG(r:Rn):MO:=.cells (r.got.map W6.pv).flatten 51
def rnB(r:Rn):MO:=.cells (r.bid.map PV.bool) 4
def a6P(r:Rn)(k:Nat):List PV:=[.int .i64 r.p.a,.int .i64 r.p.b,.int .i64 r.p.c,.int .i64 r.p.d,.int .i64 r.p.e,.int .i64 r.p.f,.msl k 0 r.ask.length r.ask.length 6,.msl (k+1) 0 r.got.length r.got.length 6,.msl (k+2) 0 r.bid.length r.bid.length 1]
theorem c7p{σ:List MO}{R:Nat->Prop}{r:Rn}{row:List PV}(h:a5X σ R r row)(h1:r.ask.length<=1000)(h2:r.got.length<=1000)(h3:r.bid.length<=1000)(n:Nat)(hn:2<=n) :
  a0B Tab n a2Q [.agg row] σ=some (.agg (a6P r σ.length),σ++[rnA r]++[rnG r]++[rnB r]):=by
 obtain⟨n,rfl⟩:∃k,n=k+1:=⟨n-1,by omega⟩;obtain⟨a,g,b,rfl,ha,hg,hb⟩:=h;have c1:=a2Y ha.cp h1 n (by omega);have c2:=a2Y (hg.cp.app [rnA r]) h2 n (by omega);have c3:=b6G ((hb.cp.app [rnA r]).app [rnG r]) h3 n (by omega);rw[Qv,QH] at c2;rw[Qv,Qv,QH,QH] at c3;have o1:=ha.one;have o2:=hg.one;have o3:=hb.one;simp only[a3r,b0x] at c1 c2 c3;change _=some (_,σ++[rnA r]) at c1;change _=some (_,σ++[rnA r]++[rnG r]) at c2;change _=some (_,σ++[rnA r]++[rnG r]++[rnB r]) at c3;rw[a0B];simp only[b4P,Q0,Sys.run];show ((a0E [.sh (.agg [_,_,_,_,_,_,_,_,_])] _).bind _)=_;simp only[a0E,a0x,a0w,Q1,Q0,Q8,if_true,o1,o2,o3]
 have E:PT.ev (a0B Tab n) a4T {i:=[r.p.a,r.p.b,r.p.c,r.p.d,r.p.e,r.p.f],b:=[],v:=[a,g,b],m:=σ,k:=σ.length}=some (.ret (.agg (a6P r σ.length)) (σ++[rnA r]++[rnG r]++[rnB r])):=by
  unfold a4T
  repeat' (first|with_reducible rfl|apply a4g|simp only[↓reduceIte,a0t,a0l,IE.pe,Q3,Q5,Q7,Qd,a0w,a0p,a0x,Q1,Q0,PEnv.push,Q6,Q4,SV.pvs,SV.pv,c1,c2,c3,a6s,a0C,true_or,a6P]|unfold a5p|unfold a8E|unfold a5s|unfold a8C|unfold a3V|unfold a8F|unfold a8s|unfold a8y)
 show ((PT.ev (a0B Tab n) a4T _).bind _)=_;exact(congrArg (Xc · _) E).trans rfl
theorem c6D{M:List MO}{k:Nat}{r:Rn}{R:Nat->Prop}(h1:M[k]?=some (rnA r))(h2:M[k+1]?=some (rnG r))(h3:M[k+2]?=some (rnB r))(r1:R k)(r2:R (k+1))(r3:R (k+2)):a5X M R r (a6P r k) :=
 ⟨_,_,_,rfl,.inl ⟨k,r1,rfl,h1⟩,.inl ⟨k+1,r2,rfl,h2⟩,⟨k+2,r3,rfl,h3⟩⟩
theorem c4K(r:Rn){k N:Nat}(h:k+2<N):PV.lows N (a6P r k)=true:=by
 simp only[a6P,PV.lows,PV.low,QD,Xu,Qy,decide_eq_true_eq];omega
def c6E(σ M:List MO)(O:PV)(cl:List Rn)(j:Nat):Prop :=
 (j=0/\O=.nilS)\/(∃h rows,σ.length<=h/\h<M.length/\O=.rsl h j 9/\0<j/\M[h]?=some (.row rows 9 65)/\a2L M (fun x=>σ.length<=x/\x<M.length/\x≠h) (cl.take j) rows)
section
variable (σ:List MO)(R:Nat->Prop)(V:PV)(cl:List Rn)(hV:CSl σ R V cl)(hR:∀x,R x->x<σ.length)(hl:∀r∈cl,r.ask.length<=1000/\r.got.length<=1000/\r.bid.length<=1000)(hcl:cl.length<=1000)(n:Nat)
def c8b(M:List MO)(K:Nat)(N j:Int)(O V:PV):PEnv:={i:=[N,j],b:=[],v:=[.fn a2Q [],O,V],m:=M,k:=K}
include hV hR hl hcl in
theorem d3R(hn:3<=n):∀d j,j+d=cl.length->∀(M:List MO) (O:PV),(∀x,x<σ.length->M[x]?=σ[x]?)->σ.length<=M.length->Low M->c6E σ M O cl j->∀fuel,d+1<=fuel ->
  ∃M' O',d8W.loop (a0B Tab n) fuel 0 (c8b M σ.length (cl.length:Int) (j:Int) O V)=some (O',M')/\(∀x,x<σ.length->M'[x]?=σ[x]?)/\σ.length<=M'.length/\Low M'/\c6E σ M' O' cl cl.length:=by
 intro d
 induction d with
 | zero =>
  intro j hj M O h1 h2 h3 h4 fuel hf;obtain⟨fuel,rfl⟩:∃k,fuel=k+1:=⟨fuel-1,by omega⟩;obtain rfl:j=cl.length:=by omega
  have hd:ltB (cl.length:Int) (cl.length:Int)=false:=by rw[a0I];omega
  refine⟨M,O,?_,h1,h2,h3,h4⟩;rw[Sys.loop,show d8W.loops[0]?=some a1I from rfl];simp only[Q0,c8b,a1I,↓reduceIte,a0t,a0r,BE.safe,BE.pe,IE.pe,Q3,Q5,Q7,Qd,Q2,Q1,Q0,SV.pv,hd,a0C,true_or]
 | succ d ih =>
  intro j hj M O h1 h2 h3 h4 fuel hf;obtain⟨fuel,rfl⟩:∃k,fuel=k+1:=⟨fuel-1,by omega⟩;obtain⟨r,hr⟩:=a0P (show j<cl.length by omega);have hVM:CSl M R V cl:=hV.frame fun x hx=>h1 x (hR x hx)
  have hc:=hVM.rd;obtain⟨row,hrow,hrd⟩:=hc.rd j r hr;obtain⟨L,q1,q2⟩:=hrd 0 9 (by decide);have hrl:=hl r (Qt hr);have c1:=c7p hrow hrl.1 hrl.2.1 hrl.2.2 n (by omega);have hml:(M++[rnA r]++[rnG r]++[rnB r]).length=M.length+3:=by simp
  have hold:∀(x:Nat) (y:MO),M[x]?=some y->(M++[rnA r]++[rnG r]++[rnB r])[x]?=some y:=fun x y hx=>a1R (a1R (a1R hx))
  have g1:(M++[rnA r]++[rnG r]++[rnB r])[M.length]?=some (rnA r):=by simp
  have g2:(M++[rnA r]++[rnG r]++[rnB r])[M.length+1]?=some (rnG r):=by simp
  have g3:(M++[rnA r]++[rnG r]++[rnB r])[M.length+2]?=some (rnB r):=by simp
  have hlow3:Low (M++[rnA r]++[rnG r]++[rnB r]):=Low.app (Low.app (Low.app h3 (a5K _ _ _)) (a5K _ _ _)) (a6O _ _ _);obtain⟨a,g,b,rfl,ba,bg,bb⟩:=hrow;have q2:∀is bs vs k,a0e {i:=is,b:=bs,v:=vs,m:=M,k:=k} false 9 L=some [.int .i64 r.p.a,.int .i64 r.p.b,.int .i64 r.p.c,.int .i64 r.p.d,.int .i64 r.p.e,.int .i64 r.p.f,a,g,b]:=q2;have oa:=ba.one;have og:=bg.one;have ob:=bb.one;have hd:ltB (j:Int) (cl.length:Int)=true:=by rw[a0O];omega
  have hup:=a1M (show j<=1000000000 by omega);have t1:(0:Nat)+1<=1000000:=by decide
  have t3:¬(1:Nat)=0:=by decide
  simp only[a2Q,a6P] at c1;have htk:cl.take (j+1)=cl.take j++[r]:=by rw[XN,hr];rfl
  generalize hMq:M++[rnA r]++[rnG r]++[rnB r]=M3 at *
  rcases h4 with ⟨rfl,rfl⟩|⟨h,rows,k1,k2,rfl,k3,k4,k5⟩
  ·
   obtain⟨M',O',e1,e2⟩:=ih 1 (by omega) (M3++[.row [a6P r M.length] 9 65]) (.rsl M3.length 1 9) (fun x hx=>by
     rw[Qq (by omega),<- hMq]
     rw[QN,QN,Qq (by omega)];exact h1 x hx) (by simp;omega) (Low.app hlow3 (by
     show PV.lowss _ [a6P r M.length]=true;simp only[PV.lowss,Xu]
     exact c4K r (by omega))) (.inr ⟨M3.length,[a6P r M.length],by omega,by simp,rfl,by decide,by simp,⟨by rw[htk];simp,fun i x y hx hy=>by
      rw[htk,QC,Q4] at hx;have hi:i=0:=by have:=(Qn.1 hy).1;simp at this;omega
      subst hi;simp at hx hy;subst hx hy
      exact c6D (a1R g1) (a1R g2) (a1R g3) ⟨by omega,by simp;omega,by omega⟩ ⟨by omega,by simp;omega,by omega⟩ ⟨by omega,by simp;omega,by omega⟩⟩⟩) fuel (by omega)
   refine⟨M',O',?_,e2⟩;rw[<- e1,Sys.loop,show d8W.loops[0]?=some a1I from rfl];simp only[Q0,c8b,a1I,↓reduceIte,PT.ev,BE.safe,BE.pe,IE.pe,PEnv.at,Q3,Q5,Q7,Qd,a0y,Qe,Qf,Nat.reduceAdd,a0w,a0p,a0x,Q1,Q0,PEnv.push,Q6,Q4,Q8,SV.pvs,SV.pv,BE.all,Qa,Q9,Qb,a1h,X5,X6,X7,X8,hd,le0,hc.len,q1,q2,oa,og,ob,c1,a6s,a1K,if_neg t3,Qg,if_pos hup,Nat.reduceLeDiff,a6P];rfl
  ·have hh3:M3[h]?=some (.row rows 9 65):=hold h _ k4
   have hrl2:rows.length=j:=by rw[k5.1,QS];omega
   obtain⟨M',O',e1,e2⟩:=ih (j+1) (by omega) (M3.set h (.row (rows++[a6P r M.length]) 9 65)) (.rsl h (j+1) 9) (fun x hx=>by
     rw[Qh (by omega),<- hMq]
     rw[QN,QN,Qq (by omega)];exact h1 x hx) (by simp;omega) (Low.set hlow3 (by
     show PV.lowss _ _=true
     have hq:∀l:List (List PV),PV.lowss M3.length l=true->PV.lowss M3.length (l++[a6P r M.length])=true:=by
      intro l
      induction l with
      | nil=>intro _;simp only[Q4,PV.lowss,Xu];exact c4K r (by omega)
      | cons z l ih=>intro hz;simp only[Q6,PV.lowss,Qy] at hz ⊢;exact⟨hz.1,ih hz.2⟩
     exact hq _ (hlow3.get hh3))) (.inr ⟨h,rows++[a6P r M.length],k1,by simp;omega,rfl,by omega,by rw[QP (by omega)],by
      rw[htk];refine a2L.snoc ((k5.frame fun x hx=>?_).mono fun x hx=>⟨hx.1,by simp;omega,hx.2.2⟩) ?_
      ·rw[Qh (Ne.symm hx.2.2),<- hMq]
       rw[QN,QN,Qq hx.2.1]
      ·refine c6D ?_ ?_ ?_ ⟨by omega,by simp;omega,by omega⟩ ⟨by omega,by simp;omega,by omega⟩ ⟨by omega,by simp;omega,by omega⟩
       ·rw[Qh (by omega)];exact g1
       ·rw[Qh (by omega)];exact g2
       ·rw[Qh (by omega)];exact g3⟩) fuel (by omega)
   refine⟨M',O',?_,e2⟩;have t4:j+1<=1000000:=by omega
   have one5:PV.one (.rsl h j 9)=true:=rfl;rw[<- e1,a0T,Sys.loop,show d8W.loops[0]?=some a1I from rfl];simp only[Q0,c8b,a1I,↓reduceIte,PT.ev,BE.safe,BE.pe,IE.pe,PEnv.at,Q3,Q5,Q7,Qd,a0y,Qe,Qf,Nat.reduceAdd,a0w,a0p,a0x,Q1,Q0,PEnv.push,Q6,Q4,Q8,SV.pvs,SV.pv,BE.all,Qa,Q9,Qb,a1h,X5,X6,X7,X8,hd,le0,hc.len,q1,q2,oa,og,ob,c1,a6s,if_pos t1,a1K,hh3,hrl2,true_and,if_pos t4,if_neg t3,if_pos hup,a6P]
theorem c6v{σ M:List MO}{O:PV}{cl:List Rn}(h:c6E σ M O cl cl.length):CSl M (fun x=>σ.length<=x/\x<M.length) O cl:=by
 rcases h with ⟨h0,rfl⟩|⟨h,rows,k1,k2,rfl,k3,k4,k5⟩
 ·exact .inl ⟨rfl,by simpa using h0⟩
 ·rw[XM] at k5
  exact .inr (.inr ⟨h,rows,⟨k1,k2⟩,rfl,by rintro rfl;simp at k3,k4,k5.mono fun x hx=>⟨hx.1,hx.2.1⟩⟩)
include hV hR hl hcl in
theorem d1E(hσ:Low σ)(hn:1010<=n):∃M O,a0B Tab n a7I [V,.fn a2Q []] σ=some (O,M)/\(∀x,x<σ.length->M[x]?=σ[x]?)/\σ.length<=M.length/\Low M/\c6E σ M O cl cl.length:=by
 obtain⟨n,rfl⟩:∃k,n=k+1:=⟨n-1,by omega⟩;obtain⟨M,O,e1,e2⟩:=d3R σ R V cl hV hR hl hcl n (by omega) cl.length 0 (by omega) σ .nilS (fun _ _=>rfl) (Qm _) hσ (.inl ⟨rfl,rfl⟩) n (by omega);refine⟨M,O,?_,e2⟩;have hc:=hV.rd;have one6:PV.one (.fn 46 [])=true:=rfl;rw[a0B];simp only[b1G,Q0,Sys.run];show ((a0E [.sh (.one _),.sh (.one _)] _).bind _)=_;simp only[a0E,a0x,a0w,Q1,Q0,Q8,Q4,Q6,if_true,hc.one,show PV.one (.fn a2Q [])=true from rfl];show (PT.ev _ a5k _).bind _=_;simp only[a5k,PT.ev,BE.safe,BE.pe,IE.pe,PEnv.at,Q3,Q7,Qd,Q1,Q0,SV.pvs,SV.pv,BE.all,Q9,Qb,hc.kind,hc.len];exact e1
end
section
variable {s:St}{o:Po}{σ:List MO}{h:Nat}{vcl:PV}{ha hb hd:Nat}{R:Nat->Prop}{c:Ck}(k:CkAt s o σ h vcl ha hb hd R c)(hσ:Low σ)(hl:∀r∈c.cl,r.ask.length<=1000/\r.got.length<=1000/\r.bid.length<=1000)(hcl:c.cl.length<=1000)(n:Nat)
include k hσ hl hcl in
theorem c8p(hn:1020<=n):∃M O,a0B Tab n a6S [.ref h 0] σ=some (O,M)/\(∀x,x<σ.length->M[x]?=σ[x]?)/\σ.length<=M.length/\Low M/\c6E σ M O c.cl c.cl.length:=by
 obtain⟨n,rfl⟩:∃k,n=k+1:=⟨n-1,by omega⟩;obtain⟨M,O,e1,e2⟩:=d1E σ R vcl c.cl k.cl k.bd hl hcl n hσ (by omega);refine⟨M,O,?_,e2⟩;have hob:=k.obj;have r0:∀is bs vs k,a0e {i:=is,b:=bs,v:=vs,m:=σ,k:=k} false 4 (.obj h 0)=some [s.P,s.B,s.C,s.A]:=a0F hob 0 4 (by decide);have r01:∀is bs vs k,a0e {i:=is,b:=bs,v:=vs,m:=σ,k:=k} false 1 (.obj h 0)=some [s.P]:=a0F hob 0 1 (by decide);have r4:∀is bs vs k,a0e {i:=is,b:=bs,v:=vs,m:=σ,k:=k} false 4 (.obj h 4)=some [.int .i64 o.st,.int .i64 o.pc,.int .i64 o.un,.int .i64 o.ru]:=a0F hob 4 4 (by decide);have r6:∀is bs vs k,a0e {i:=is,b:=bs,v:=vs,m:=σ,k:=k} false 1 (.obj h 6)=some [.int .i64 o.un]:=a0F hob 6 1 (by decide);have r7:∀is bs vs k,a0e {i:=is,b:=bs,v:=vs,m:=σ,k:=k} false 1 (.obj h 7)=some [.int .i64 o.ru]:=a0F hob 7 1 (by decide);have r8:∀is bs vs k,a0e {i:=is,b:=bs,v:=vs,m:=σ,k:=k} false 1 (.obj h 8)=some [vcl]:=a0F hob 8 1 (by decide);have r9:∀is bs vs k,a0e {i:=is,b:=bs,v:=vs,m:=σ,k:=k} false 6 (.obj h 9)=some [.int .i64 c.p.a,.int .i64 c.p.b,.int .i64 c.p.c,.int .i64 c.p.d,.int .i64 c.p.e,.int .i64 c.p.f]:=a0F hob 9 6 (by decide);have r15:∀is bs vs k,a0e {i:=is,b:=bs,v:=vs,m:=σ,k:=k} false 1 (.obj h 15)=some [.msl ha 0 c.out.length c.out.length 6]:=a0F hob 15 1 (by decide);have r16:∀is bs vs k,a0e {i:=is,b:=bs,v:=vs,m:=σ,k:=k} false 1 (.obj h 16)=some [.msl hb 0 c.out.length c.out.length 1]:=a0F hob 16 1 (by decide);have r17:∀is bs vs k,a0e {i:=is,b:=bs,v:=vs,m:=σ,k:=k} false 1 (.obj h 17)=some [.msl hd 0 c.out.length c.out.length 1]:=a0F hob 17 1 (by decide);have r18:∀is bs vs k,a0e {i:=is,b:=bs,v:=vs,m:=σ,k:=k} false 1 (.obj h 18)=some [.bool c.over]:=a0F hob 18 1 (by decide);have hc:=k.cl.rd;have oO:O.one=true:=(c6v e2.2.2.2).rd.one;simp only[a7I,a2Q] at e1;rw[a0B];simp only[b5C,Q0,Sys.run];show ((a0E [.sh (.one _)] _).bind _)=_;simp only[a0E,a0x,a0w,Q1,Q0,Q8,if_true,a7s];show (PT.ev _ a6F _).bind _=_;simp only[a6F,↓reduceIte,PT.ev,BE.safe,BE.pe,PEnv.at,Q3,Q7,Qd,a0y,a0A,Qe,Qf,Q2,a0w,a0p,a0x,Q1,Q0,PEnv.push,Q6,Q4,SV.pvs,SV.pv,a3w,a2y,a3t,a3v,Qg,r8,hc.one,e1,oO,a0C,true_or]
end
theorem b4t{K:Nat}{p:PV}{rows:List (List PV)}(h:p.rowsOf K=some rows)(hl:rows.length<=1000000)(σ:List MO):a4L K [p] σ=some (p,σ):=by
 unfold PV.rowsOf at h;split at h
 ·rfl
 ·rename_i n r
  split at h
  ·rename_i hn
   simp only[QJ] at h;subst h;simp only[a4L];rw[if_pos ⟨hn,hl⟩,hn]
  ·cases h
 ·cases h
structure SuOk (s:St)(cs ad:List Tri):Prop where
 P:s.P.rowsOf 5=some (s.ps.map Pr.row)
 B:s.B.rowsOf 4=some (s.bs.map Bd.row)
 C:s.C.rowsOf 3=some (cs.map Tri.row)
 A:s.A.rowsOf 3=some (ad.map Tri.row)
theorem SuOk.ok{s:St}{cs ad:List Tri}(h:SuOk s cs ad):s.Ok:=⟨h.P,h.B,(a0D h.C).2.2,(a0D h.A).2.2⟩
theorem SuOk.lens{s:St}{cs ad:List Tri}(hv:a4E s.ps s.bs cs ad=0):s.ps.length<=6/\0<s.bs.length/\s.bs.length<=8/\cs.length<=16/\ad.length<=6:=by
 obtain⟨v1,v2,v3,v4⟩:=a9K hv;have a1:=(a5B v1).1
 have a2:0<s.bs.length/\s.bs.length<=8:=by
  unfold b2J at v2;split at v2
  ·cases v2
  ·split at v2
   ·cases v2
   ·rename_i h1 h2
    have e5:∀a b:Int,eqB a b=decide (a=b):=fun _ _=>rfl
    have e6:∀a b:Int,ltB a b=decide (a<b):=fun _ _=>rfl
    simp only[e5,e6,decide_eq_true_eq] at h1 h2;omega
 have a3:ad.length<=6:=by
  unfold asV at v4;split at v4
  ·cases v4
  ·rename_i h;rw[X4,a0I] at h;omega
 exact⟨a1,a2.1,a2.2,v3,a3⟩
section
variable {s:St}{cs ad:List Tri}(hs:SuOk s cs ad)(hv:a4E s.ps s.bs cs ad=0)(σ:List MO)(n:Nat)
include hs hv in
theorem c3c(hn:2<=n):a0B Tab n b8p [.agg s.pv] σ=some (.agg s.pv,σ):=by
 obtain⟨n,rfl⟩:∃k,n=k+1+1:=⟨n-2,by omega⟩;obtain⟨l1,l2,l3,l4,l5⟩:=SuOk.lens hv
 have told:∀(F:Nat) (K:Nat) (p:PV),Tab F=some (⟨[],.stuck,[],some (a4L K),none⟩:Sx.Sys)->a0B Tab (n+1) F [p] σ=a4L K [p] σ:=fun F K p h=>by
  rw[a0B,h,Q0,b8k]
 have c1:=(told _ 5 s.P a6E).trans (b4t hs.P (by simp;omega) σ);have c2:=(told _ 4 s.B a7o).trans (b4t hs.B (by simp;omega) σ);have c3:=(told _ 3 s.C a9x).trans (b4t hs.C (by simp;omega) σ);have c4:=(told _ 3 s.A a7E).trans (b4t hs.A (by simp;omega) σ);obtain⟨_,_,p3⟩:=a0D hs.P;obtain⟨_,_,b3⟩:=a0D hs.B;obtain⟨_,_,c3'⟩:=a0D hs.C;obtain⟨_,_,a3⟩:=a0D hs.A;rw[a0B];simp only[c3z,Q0,Sys.run,St.pv];show ((a0E [.sh (.agg [_,_,_,_])] _).bind _)=_;simp only[a0E,a0x,a0w,Q1,Q0,Q8,if_true,p3,b3,c3',a3];show (PT.ev _ b1D _).bind _=_;simp only[b1D,↓reduceIte,a0t,a0l,Q7,Qd,Q2,a0w,a0p,a0x,Q1,Q0,PEnv.push,Q6,Q4,SV.pvs,SV.pv,c1,c2,c3,c4,p3,b3,c3',a3,a0C,or_true]
end
theorem b7a{K:Nat}{p:PV}{rows:List (List PV)}(h:p.rowsOf K=some rows){N:Nat}(hl:PV.lowss N rows=true):p.low N=true:=by
 unfold PV.rowsOf at h;split at h
 ·rfl
 ·split at h
  ·simp only[QJ] at h;subst h;exact hl
  ·cases h
 ·cases h
theorem SuOk.low{s:St}{cs ad:List Tri}(h:SuOk s cs ad)(N:Nat):s.P.low N=true/\s.B.low N=true/\s.C.low N=true/\s.A.low N=true:=by
 have g:∀{α:Type} (row:α->List PV) (_:∀x,PV.lows N (row x)=true) (l:List α),PV.lowss N (l.map row)=true:=by
  intro α row hr l
  induction l with
  | nil=>rfl
  | cons x l ih=>simp only[Q9,PV.lowss,hr x,ih,Qa]
 exact⟨b7a h.P (g _ (fun _=>rfl) _),b7a h.B (g _ (fun _=>rfl) _),b7a h.C (g _ (fun _=>rfl) _),b7a h.A (g _ (fun _=>rfl) _)⟩
theorem c4U{s:St}{o:Po}{σ:List MO}{h:Nat}{vcl va vb:PV}{hd N:Nat}{p:W6}{ov:Bool}(hob:σ[h]?=some (ckO s o vcl va vb (.msl hd 0 N N 1) p ov))(hσ:Low σ)(hN:N<=1000)(n:Nat)(hn:1<=n) :
  a0B Tab n a2b [.ref h 0] σ=some (.tup [],clM σ h (ckO s o vcl (.msl σ.length 0 N N 6) (.msl (σ.length+1) 0 N N 1) (.msl hd 0 N N 1) p ov) N):=by
 obtain⟨n,rfl⟩:∃k,n=k+1:=⟨n-1,by omega⟩;rw[a0B,show Tab a2b=some d9k from a9I,Q0,d9k,c2z,b8k];unfold b9y;simp only[hob,ckO,ckL];rw[if_pos ⟨by omega,hσ⟩];have e1:QB W6.pv (Qj N w0)=Qj N z6:=by rw[XR];rfl
 have e2:∀N:Nat,QB PV.bool (Qj N false)=(Qj N [PV.bool false]).flatten:=fun N=>by
  induction N with
  | zero=>rfl
  | succ N ih=>rw[QV,QV,Q9,Qs,ih];rfl
 unfold clM;rw[e1,e2]
def ck0(ps:List Pr)(N:Nat):Ck:={cl:=[],p:=a4F ps,ask:=Qj N w0,bid:=Qj N false,out:=Qj N false,over:=false}
def c6n(ps:List Pr)(bs:List Bd)(cs ad:List Tri)(o:Po):Int:=if a4E ps bs cs ad=0 then a4c o else a4E ps bs cs ad
section
variable {s:St}{cs ad:List Tri}(hs:SuOk s cs ad)(o:Po)(σ:List MO)(hσ:Low σ)(n:Nat)
include hs hσ in
theorem d4T(he:c6n s.ps s.bs cs ad o=0)(hn:1200<=n):∃M F,a0B Tab n b4W [.agg s.pv,.agg o.row] σ=some (.tup [.ref (σ.length+1) 0,.int .i64 0],M)/\a9o s o M (σ.length+1) F (ck0 s.ps s.bs.length)/\(∀x,F x->σ.length<=x)/\(∀x,x<σ.length->M[x]?=σ[x]?)/\σ.length<=M.length/\Low M:=by
 obtain⟨n,rfl⟩:∃k,n=k+1:=⟨n-1,by omega⟩
 have hv:a4E s.ps s.bs cs ad=0:=by
  unfold c6n at he;split at he
  ·assumption
  ·exact he
 have ho:o.ok:=by
  unfold c6n at he;rw[if_pos hv] at he;unfold a4c at he;split at he
  ·assumption
  ·cases he
 obtain⟨l1,l2,l3,l4,l5⟩:=SuOk.lens hv;obtain⟨_,_,p3⟩:=a0D hs.P;obtain⟨b1,b2,b3⟩:=a0D hs.B;rw[Qz] at b1;obtain⟨_,_,c3⟩:=a0D hs.C;obtain⟨_,_,a3⟩:=a0D hs.A;have k1:=b4x σ s.ps s.bs cs ad s.P s.B s.C s.A hs.P hs.B hs.C hs.A n (by omega);have k2:=a9S σ n o (by omega);rw[hv] at k1;rw[show a4c o=0 from if_pos ho] at k2;have k3:=c3c hs hv σ n (by omega);have k3':=c3c hs hv (σ++[.cells ((Qj s.bs.length [PV.bool false]).flatten) 4]) n (by omega);have k4:=b9d σ s.ps s.P hs.P l1 n (by omega);have k4':=b9d (σ++[.cells ((Qj s.bs.length [PV.bool false]).flatten) 4]) s.ps s.P hs.P l1 n (by omega)
 have e2:(Qj s.bs.length [PV.bool false]).flatten=QB PV.bool (Qj s.bs.length false):=by
  generalize s.bs.length=N
  induction N with
  | zero=>rfl
  | succ N ih=>rw[QV,QV,Q9,Qs,ih];rfl
 have hlw:=hs.low (σ.length+2)
 have hM2:Low (σ++[MO.cells (QB PV.bool (Qj s.bs.length false)) 4]++[ckO s o .nilS .nilS .nilS (.msl σ.length 0 s.bs.length s.bs.length 1) (a4F s.ps) false]):=by
  refine Low.app (Low.app hσ (a6O _ _ _)) ?_;rw[Qv,QH];exact a5A.2 ⟨hlw.1,hlw.2.1,hlw.2.2.1,hlw.2.2.2,rfl,rfl,rfl,by simp[PV.low];try omega⟩
 have hob:(σ++[MO.cells (QB PV.bool (Qj s.bs.length false)) 4]++[ckO s o .nilS .nilS .nilS (.msl σ.length 0 s.bs.length s.bs.length 1) (a4F s.ps) false])[σ.length+1]?=some (ckO s o .nilS .nilS .nilS (.msl σ.length 0 s.bs.length s.bs.length 1) (a4F s.ps) false):=by simp
 have k5:=c4U hob hM2 (by omega) n (by omega);have hlen:(σ++[MO.cells (QB PV.bool (Qj s.bs.length false)) 4]++[ckO s o .nilS .nilS .nilS (.msl σ.length 0 s.bs.length s.bs.length 1) (a4F s.ps) false]).length=σ.length+2:=by simp
 have hlt:σ.length+1<(σ++[MO.cells (QB PV.bool (Qj s.bs.length false)) 4]++[ckO s o .nilS .nilS .nilS (.msl σ.length 0 s.bs.length s.bs.length 1) (a4F s.ps) false]).length:=by rw[hlen];omega
 have hold:∀x,x<σ.length->(σ++[MO.cells (QB PV.bool (Qj s.bs.length false)) 4]++[ckO s o .nilS .nilS .nilS (.msl σ.length 0 s.bs.length s.bs.length 1) (a4F s.ps) false])[x]?=σ[x]?:=fun x hx=>by
  rw[QN,Qq hx]
 have hdr:(σ++[MO.cells (QB PV.bool (Qj s.bs.length false)) 4]++[ckO s o .nilS .nilS .nilS (.msl σ.length 0 s.bs.length s.bs.length 1) (a4F s.ps) false])[σ.length]?=some (.cells (QB PV.bool (Qj s.bs.length false)) 4):=by simp
 rw[hlen] at k5;simp only[b1z,a7U,b8p,a8f,a2b,a6T,pv6,St.pv,e2] at k1 k2 k3 k3' k4 k4' k5;generalize hM2e:(σ++[MO.cells (QB PV.bool (Qj s.bs.length false)) 4]++[ckO s o .nilS .nilS .nilS (.msl σ.length 0 s.bs.length s.bs.length 1) (a4F s.ps) false])=M2 at *
 have hnew:∀l,(σ++[MO.cells (QB PV.bool (Qj s.bs.length false)) 4]++[MO.cells [s.P,s.B,s.C,s.A,.int .i64 o.st,.int .i64 o.pc,.int .i64 o.un,.int .i64 o.ru,.nilS,.int .i64 (a4F s.ps).a,.int .i64 (a4F s.ps).b,.int .i64 (a4F s.ps).c,.int .i64 (a4F s.ps).d,.int .i64 (a4F s.ps).e,.int .i64 (a4F s.ps).f,.nilS,.nilS,.msl σ.length 0 s.bs.length s.bs.length 1,.bool false] 79])=l->l=M2:=fun l hl=>by rw[<- hl,<- hM2e];rfl
 have hnew:=hnew _ rfl;refine⟨clM M2 (σ.length+1) (ckO s o .nilS (.msl (σ.length+2) 0 s.bs.length s.bs.length 6) (.msl (σ.length+2+1) 0 s.bs.length s.bs.length 1) (.msl σ.length 0 s.bs.length s.bs.length 1) (a4F s.ps) false) s.bs.length,fun x=>x=σ.length+1\/x=σ.length+2\/x=σ.length+3\/x=σ.length\/False,?_,?_,?_,?_,?_,?_⟩
 ·have e0:eqB 0 0=true:=rfl
  have cN:(0:Int)<=(s.bs.length:Int)/\(s.bs.length:Int)<=1000000:=by omega
  rw[a0B];simp only[c5m,Q0,Sys.run,St.pv,a6T];show ((a0E [.sh (.agg [_,_,_,_]),.sh (.agg [_,_,_,_])] _).bind _)=_;simp only[a0E,a0x,a0w,Q1,Q0,Q8,Q4,if_true,p3,b3,c3,a3]
  have E:PT.ev (a0B Tab n) b1h {i:=[o.st,o.pc,o.un,o.ru],b:=[],v:=[s.P,s.B,s.C,s.A],m:=σ,k:=σ.length}=some (.ret (.tup [.ref (σ.length+1) 0,.int .i64 0]) (clM M2 (σ.length+1) (ckO s o .nilS (.msl (σ.length+2) 0 s.bs.length s.bs.length 6) (.msl (σ.length+2+1) 0 s.bs.length s.bs.length 1) (.msl σ.length 0 s.bs.length s.bs.length 1) (a4F s.ps) false) s.bs.length)):=by
   have hl1:∀x:MO,(σ++[x]).length=σ.length+1:=fun x=>by simp
   simp only[b1h,↓reduceIte,a0t,a0r,a0h,a0l,BE.safe,BE.pe,IE.pe,PEnv.at,Q3,Q5,Q7,Qd,Q2,a0w,a0p,a0x,Q1,Q0,PEnv.push,Q6,Q4,Q8,SV.pvs,SV.pv,Qk,k1,k2,e0,b2]
   repeat' (first|with_reducible rfl|apply a4g|simp only[↓reduceIte,a0t,a0l,a0j,a0s,BE.safe,BE.pe,IE.pe,PEnv.at,Q3,Q5,Q7,Qd,QL,a0w,a0p,a0x,Q1,Q0,PEnv.push,Q6,Q4,Q8,SV.pvs,SV.pv,k3,k3',k4,k4',p3,b3,c3,a3,b1,cN.1,cN.2,QA,and_self,Nat.reduceLeDiff,e2,hnew,k5,a0U,hl1,PV.on,a0C,true_or]|unfold b5H|unfold b5O|unfold b6e|unfold b5S)
  show ((PT.ev (a0B Tab n) b1h _).bind _)=_;exact(congrArg (Xc · _) E).trans rfl
 ·refine⟨.nilS,σ.length+2,σ.length+3,σ.length,fun _=>False,?_,fun x=>Iff.rfl⟩
  refine⟨?_,?_,?_,?_,by simp[ck0],by simp[ck0],.inl ⟨rfl,rfl⟩,fun x hx=>hx.elim,id,id,id,id,by omega⟩
  ·rw[a8g hlt];simp[ck0]
  ·have:=c8n M2 (σ.length+1) (ckO s o .nilS (.msl (σ.length+2) 0 s.bs.length s.bs.length 6) (.msl (σ.length+2+1) 0 s.bs.length s.bs.length 1) (.msl σ.length 0 s.bs.length s.bs.length 1) (a4F s.ps) false) s.bs.length
   rw[hlen] at this;exact this
  ·have:=c8s M2 (σ.length+1) (ckO s o .nilS (.msl (σ.length+2) 0 s.bs.length s.bs.length 6) (.msl (σ.length+2+1) 0 s.bs.length s.bs.length 1) (.msl σ.length 0 s.bs.length s.bs.length 1) (a4F s.ps) false) s.bs.length
   rw[hlen] at this;exact this
  ·rw[a9e (by omega) (by omega)];exact hdr
 ·intro x hx;rcases hx with rfl|rfl|rfl|rfl|hx
  ·omega
  ·omega
  ·omega
  ·exact Qm _
  ·exact hx.elim
 ·intro x hx
  rw[a9e (by omega) (by omega),hold x hx]
 ·rw[a3p];omega
 ·have hob2:=a5A.1 (hM2.get hob)
  unfold Low;rw[a3p,hlen];unfold clM;rw[QX,Qy];refine⟨Qw.2 fun y hy=>?_,by simp only[X2,Xb,a5K,a6O,Qa]⟩;rcases QU hy with hy|rfl
  ·exact MO.low_mono (by omega) (Qw.1 hM2 y hy)
  ·have hl4:=hs.low (σ.length+2+2)
   exact a5A.2 ⟨hl4.1,hl4.2.1,hl4.2.2.1,hl4.2.2.2,rfl,by simp[PV.low],by simp[PV.low],by simp[PV.low];omega⟩
end
def prN(got:List W6)(out:List Bool)(j:Nat):List W6:=got.zipIdx.map fun x=>if x.2<j/\out[x.2]?=some true then w0 else x.1
theorem b2A(got:List W6)(out:List Bool)(j i:Nat):(prN got out j)[i]?=(got[i]?).map fun w=>if i<j/\out[i]?=some true then w0 else w:=by
 unfold prN;rw[QQ,List.getElem?_zipIdx];cases got[i]?<;>simp
theorem b6n(got:List W6)(out:List Bool)(j:Nat):(prN got out j).length=got.length:=by simp[prN]
theorem d1z(got:List W6)(out:List Bool):prN got out 0=got:=by
 apply Xe;intro i;rw[b2A];cases got[i]?<;>simp
theorem d3J{got:List W6}{out:List Bool}{j:Nat}(h:out[j]?=some true)(hj:j<got.length):(prN got out j).set j w0=prN got out (j+1):=by
 apply Xe;intro i;rw[Xf,b2A,b2A,b6n];by_cases hi:j=i
 ·subst hi
  rw[if_pos rfl,if_pos hj,XD hj,Q1,if_pos ⟨by omega,h⟩]
 ·rw[if_neg hi]
  congr 1
  funext w;by_cases h1:i<j
  ·by_cases h2:out[i]?=some true
   ·rw[if_pos ⟨h1,h2⟩,if_pos ⟨by omega,h2⟩]
   ·rw[if_neg (fun q=>h2 q.2),if_neg (fun q=>h2 q.2)]
  ·rw[if_neg (fun q=>h1 q.1),if_neg (fun q=>by omega)]
theorem d4r{got:List W6}{out:List Bool}{j:Nat}(h:out[j]?=some false):prN got out j=prN got out (j+1):=by
 apply Xe;intro i;rw[b2A,b2A]
 congr 1
 funext w;by_cases hi:j=i
 ·subst hi
  rw[h,if_neg (fun q=>by simp at q),if_neg (fun q=>by simp at q)]
 ·by_cases h1:i<j
  ·by_cases h2:out[i]?=some true
   ·rw[if_pos ⟨h1,h2⟩,if_pos ⟨by omega,h2⟩]
   ·rw[if_neg (fun q=>h2 q.2),if_neg (fun q=>h2 q.2)]
  ·rw[if_neg (fun q=>h1 q.1),if_neg (fun q=>by omega)]
theorem c1Q(c:Ck)(hl:((c.cl.getLast?.map Rn.got).getD []).length<=c.out.length):c.prev=prN ((c.cl.getLast?.map Rn.got).getD []) c.out c.out.length:=by
 unfold Ck.prev prN;apply List.map_congr_left;rintro⟨w,i⟩ hx;obtain⟨h1,h2⟩:=List.mem_zipIdx' hx;by_cases h:c.out[i]?=some true
 ·simp only
  rw[if_pos h,if_pos ⟨by omega,h⟩]
 ·simp only
  rw[if_neg h,if_neg (fun q=>h q.2)]
theorem d0m{got:List W6}{out:List Bool}{j:Nat}(h:∀w∈got,w.ok):∀w∈prN got out j,w.ok:=by
 intro w hw;obtain⟨i,hi⟩:=Xs hw;rw[b2A] at hi;cases hg:got[i]? with
 | none=>rw[hg] at hi;cases hi
 | some w' =>
  rw[hg] at hi;simp only[Q1,QJ] at hi;subst hi;split
  ·exact c5x
  ·exact h _ (Qt hg)
section
variable {s:St}{o:Po}{σ:List MO}{h:Nat}{vcl:PV}{ha hb hd:Nat}{R:Nat->Prop}{c:Ck}(k:CkAt s o σ h vcl ha hb hd R c)(n:Nat)
def pvM(σ τ:List MO)(l:List W6):List MO:=σ++τ++[.cells (l.map W6.pv).flatten 51]
def c3T(σ τ:List MO)(N j:Int)(l:List W6)(hd M:Nat):PEnv:={i:=[N,j],b:=[],v:=[.msl (σ++τ).length 0 l.length l.length 6,.msl hd 0 M M 1],m:=pvM σ τ l,k:=(σ++τ).length}
include k in
theorem d3D(hN:c.out.length<=1000)(τ:List MO)(got:List W6)(hg:got.length=c.out.length):∀d j,j+d=c.out.length->∀fuel,
  d9d.loop (a0B Tab n) (fuel+d+1) 0 (c3T σ τ (c.out.length:Int) (j:Int) (prN got c.out j) hd c.out.length)=some (.msl (σ++τ).length 0 c.out.length c.out.length 6,pvM σ τ (prN got c.out c.out.length)):=by
 intro d
 induction d with
 | zero =>
  intro j hj fuel;obtain rfl:j=c.out.length:=by omega
  have hd':ltB (c.out.length:Int) (c.out.length:Int)=false:=by rw[a0I];omega
  have hlen:=b6n got c.out c.out.length;rw[hg] at hlen;rw[Sys.loop,show d9d.loops[0]?=some a2p from rfl];simp only[Q0,c3T,a2p,↓reduceIte,a0t,a0r,BE.safe,BE.pe,IE.pe,Q3,Q5,Q7,Q2,Q1,Q0,SV.pv,hd',hlen,a0C,true_or]
 | succ d ih =>
  intro j hj fuel;have ih:=ih (j+1) (by omega) fuel;have hjl:j<c.out.length:=by omega
  obtain⟨b,hb⟩:=a0P hjl;have hlen:=fun j=>b6n got c.out j
  rw[hg] at hlen;have hgt:(pvM σ τ (prN got c.out j))[hd]?=some (.cells (c.out.map PV.bool) 4):=a1R (a1R k.out);have hgl:(pvM σ τ (prN got c.out j))[(σ++τ).length]?=some (.cells ((prN got c.out j).map W6.pv).flatten 51):=by simp[pvM]
  have q1:=c0b (h:=hd) (c:=c.out.length) hjl;have q1a:=c5y (h:=(σ++τ).length) (c:=c.out.length) (sz:=6) hjl
  have q2:∀is bs vs k,a0e {i:=is,b:=bs,v:=vs,m:=pvM σ τ (prN got c.out j),k:=k} false 1 (.obj hd j)=some [.bool b]:=fun _ _ _ _=>by
   simp only[a0e,hgt,Q0,MO.list,Q2,if_false];exact c2n c.out hb
  have hlt:ltB (j:Int) (c.out.length:Int)=true:=by rw[a0O];omega
  have hup:=a1M (show j<=1000000000 by omega);have t2:j*6+6<=((prN got c.out j).map W6.pv).flatten.length:=by rw[b2t,hlen];omega
  have s2:a2q ((prN got c.out j).map W6.pv).flatten (j*6) [.int .i64 0,.int .i64 0,.int .i64 0,.int .i64 0,.int .i64 0,.int .i64 0]=(((prN got c.out j).set j w0).map W6.pv).flatten:=b9t _ (by rw[hlen];omega) w0;have s3:∀l,(pvM σ τ (prN got c.out j)).set (σ++τ).length (.cells (l.map W6.pv).flatten 51)=pvM σ τ l:=fun l=>b6Q _ _ _
  simp only[c3T,hlen] at ih;rw[a0T] at ih;rw[<- ih,show fuel+(d+1)+1=fuel+d+1+1 from rfl,Sys.loop,show d9d.loops[0]?=some a2p from rfl];cases b with
  | true =>
   rw[<- d3J hb (by omega)];simp only[Q0,c3T,hlen,a2p,↓reduceIte,PT.ev,BE.safe,BE.pe,IE.pe,PEnv.at,Q3,Q5,Q7,Qd,a0y,Qe,Qf,Nat.reduceAdd,a0w,Q1,Q0,PEnv.push,Q6,Q4,SV.pvs,SV.pv,BE.all,Qa,Q9,Qb,hlt,le0,b1B,q1,q2,q1a,hgl,if_pos t2,s2,s3,if_pos hup]
  | false =>
   rw[<- d4r hb];simp only[Q0,c3T,hlen,a2p,↓reduceIte,PT.ev,BE.safe,BE.pe,IE.pe,PEnv.at,Q3,Q5,Q7,Qd,a0y,Qe,Qf,Nat.reduceAdd,Q2,a0w,Q1,Q0,PEnv.push,Q6,Q4,SV.pvs,SV.pv,BE.all,Qa,Q9,Qb,hlt,le0,b1B,q1,q2,q1a,if_pos hup]
include k in
theorem c5J(hN:c.out.length<=1000)(hcl:c.cl.length<=1000)(hne:c.cl≠[])(hg:∀r∈c.cl,r.got.length=c.out.length)(τ:List MO)(hn:1100<=n) :
  a0B Tab n a8X [.ref h 0] (σ++τ)=some (.msl (σ++τ).length 0 c.out.length c.out.length 6,pvM σ τ c.prev):=by
 obtain⟨n,rfl⟩:∃k,n=k+1:=⟨n-1,by omega⟩;have hob:(σ++τ)[h]?=some (ckO s o vcl (.msl ha 0 c.out.length c.out.length 6) (.msl hb 0 c.out.length c.out.length 1) (.msl hd 0 c.out.length c.out.length 1) c.p c.over):=a1R k.obj;have r0:∀is bs vs k,a0e {i:=is,b:=bs,v:=vs,m:=σ++τ,k:=k} false 4 (.obj h 0)=some [s.P,s.B,s.C,s.A]:=a0F hob 0 4 (by decide);have r01:∀is bs vs k,a0e {i:=is,b:=bs,v:=vs,m:=σ++τ,k:=k} false 1 (.obj h 0)=some [s.P]:=a0F hob 0 1 (by decide);have r4:∀is bs vs k,a0e {i:=is,b:=bs,v:=vs,m:=σ++τ,k:=k} false 4 (.obj h 4)=some [.int .i64 o.st,.int .i64 o.pc,.int .i64 o.un,.int .i64 o.ru]:=a0F hob 4 4 (by decide);have r6:∀is bs vs k,a0e {i:=is,b:=bs,v:=vs,m:=σ++τ,k:=k} false 1 (.obj h 6)=some [.int .i64 o.un]:=a0F hob 6 1 (by decide);have r7:∀is bs vs k,a0e {i:=is,b:=bs,v:=vs,m:=σ++τ,k:=k} false 1 (.obj h 7)=some [.int .i64 o.ru]:=a0F hob 7 1 (by decide);have r8:∀is bs vs k,a0e {i:=is,b:=bs,v:=vs,m:=σ++τ,k:=k} false 1 (.obj h 8)=some [vcl]:=a0F hob 8 1 (by decide);have r9:∀is bs vs k,a0e {i:=is,b:=bs,v:=vs,m:=σ++τ,k:=k} false 6 (.obj h 9)=some [.int .i64 c.p.a,.int .i64 c.p.b,.int .i64 c.p.c,.int .i64 c.p.d,.int .i64 c.p.e,.int .i64 c.p.f]:=a0F hob 9 6 (by decide);have r15:∀is bs vs k,a0e {i:=is,b:=bs,v:=vs,m:=σ++τ,k:=k} false 1 (.obj h 15)=some [.msl ha 0 c.out.length c.out.length 6]:=a0F hob 15 1 (by decide);have r16:∀is bs vs k,a0e {i:=is,b:=bs,v:=vs,m:=σ++τ,k:=k} false 1 (.obj h 16)=some [.msl hb 0 c.out.length c.out.length 1]:=a0F hob 16 1 (by decide);have r17:∀is bs vs k,a0e {i:=is,b:=bs,v:=vs,m:=σ++τ,k:=k} false 1 (.obj h 17)=some [.msl hd 0 c.out.length c.out.length 1]:=a0F hob 17 1 (by decide);have r18:∀is bs vs k,a0e {i:=is,b:=bs,v:=vs,m:=σ++τ,k:=k} false 1 (.obj h 18)=some [.bool c.over]:=a0F hob 18 1 (by decide);have hclM:CSl (σ++τ) R vcl c.cl:=k.cl.frame fun x hx=>Qq (k.bd x hx)
 have hc:=hclM.rd;have hpos:0<c.cl.length:=Xv.2 hne;obtain⟨r,hr⟩:=a0P (show c.cl.length-1<c.cl.length by omega);have hlast:c.cl.getLast?=some r:=by rw[Xw];exact hr
 obtain⟨row,hrow,hrd⟩:=hc.rd _ r hr;obtain⟨a,g,b,rfl,ba,bg,bb⟩:=hrow;obtain⟨L,q1,q2⟩:=hrd 7 1 (by decide);have q2:∀is bs vs k,a0e {i:=is,b:=bs,v:=vs,m:=σ++τ,k:=k} false 1 L=some [g]:=q2;rw[show ((c.cl.length-1:Nat):Int)=(c.cl.length:Int)-1 by omega] at q1;have hrg:=hg r (Qt hr);have c1:=a2Y bg.cp (by omega) n (by omega);rw[hrg] at c1;simp only[a3r] at c1;have i1:=a0N (z:=(c.cl.length:Int)-1) (by omega);have i2:leB 0 ((c.cl.length:Int)-1)=true:=by rw[a1u];omega
 have i3:ltB ((c.cl.length:Int)-1) (c.cl.length:Int)=true:=by rw[a0O];omega
 have key:=d3D k n hN τ r.got hrg c.out.length 0 (by omega) (n-c.out.length-1);rw[show n-c.out.length-1+c.out.length+1=n by omega,d1z] at key;rw[c1Q c (by rw[hlast];simp;omega),hlast];simp only[Q1,Xx];simp only[c3T,pvM,hrg] at key;rw[a0B];simp only[b2G,Q0,Sys.run];show ((a0E [.sh (.one _)] _).bind _)=_;simp only[a0E,a0x,a0w,Q1,Q0,Q8,if_true,a7s];show (PT.ev _ a5F _).bind _=_;have og:=bg.one;have c1k:∀is bs vs k,a0e {i:=is,b:=bs,v:=vs,m:=σ++τ++[.cells (r.got.map W6.pv).flatten 51],k:=k} false 1 (.obj h 17)=some [.msl hd 0 c.out.length c.out.length 1]:=a0F (a1R hob) 17 1 (by decide);simp only[a5F,↓reduceIte,PT.ev,BE.safe,BE.pe,IE.pe,PEnv.at,Q3,Q5,Q7,Qd,a0y,a0A,Qe,Qf,a0w,a0p,a0x,Q1,Q0,PEnv.push,Q6,Q4,Q8,SV.pvs,SV.pv,BE.all,Qa,Q9,Qb,a2y,Qg,r8,hc.one,hc.kind,hc.len,if_pos i1,i2,i3,q1,q2,og,c1,a6s,d4D,b1B,c1k];unfold pvM;exact key
end
theorem d2c{σ:List MO}{R:Nat->Prop}{r:Rn}{row:List PV}(h:a5X σ R r row){hc:Nat}{rows:List (List PV)}{T:Nat}(hh:σ[hc]?=some (.row rows 9 T)):a5X σ (fun x=>R x/\x≠hc) r row:=by
 have gb:∀{v:PV} {l:List W6},BSl σ R v l->BSl σ (fun x=>R x/\x≠hc) v l:=fun {v l} hb=>by
  rcases hb with ⟨h,h1,rfl,h2⟩|⟨h,h1,rfl,h2⟩
  ·exact .inl ⟨h,⟨h1,by rintro rfl;rw[hh] at h2;cases h2⟩,rfl,h2⟩
  ·exact .inr ⟨h,⟨h1,by rintro rfl;rw[hh] at h2;simp at h2⟩,rfl,h2⟩
 obtain⟨a,g,b,rfl,h1,h2,h3⟩:=h;refine⟨a,g,b,rfl,gb h1,gb h2,?_⟩;obtain⟨h,q1,rfl,q2⟩:=h3;exact⟨h,⟨q1,by rintro rfl;rw[hh] at q2;cases q2⟩,rfl,q2⟩
theorem c1f:∀(rows:List (List PV)) (_:∀r∈rows,r.length=9) (_:∀r∈rows,r.all PV.one=true),a4S 9 rows.length rows.flatten=some rows
 | [],_,_=>rfl
 | r::rows,h1,h2=>by
  have ih:=c1f rows (fun q hq=>h1 q (by simp[hq])) (fun q hq=>h2 q (by simp[hq]));have hr:=h1 r (by simp);rw[Qs,Qe,a4S,Xj hr,Xp hr,if_pos ⟨by rw[Qv];omega,h2 r (by simp)⟩,ih];rfl
theorem b7q{N:Nat}{row:List PV}(hr:PV.lows N row=true):∀{rows:List (List PV)},PV.lowss N rows=true->PV.lowss N (rows++[row])=true
 | [],_=>by simp only[Q4,PV.lowss,hr,Qa]
 | q::rows,h=>by
  simp only[PV.lowss,Qy] at h;simp only[Q6,PV.lowss,h.1,b7q hr h.2,Qa]
theorem d4z{M:List MO}{R R1:Nat->Prop}{vcl:PV}{cl:List Rn}{r:Rn}{row:List PV}(h:CSl M R vcl cl)(hR:∀x,R x->x<M.length)(hrow:a5X M R1 r row)(hR1:∀x,R1 x->¬R x/\x<M.length)(hl:cl.length<=1000) :
  ∃vcl' M',(∀(Φ:Fns) (k:PT) (is:List Int) (bs:List Bool) (vs:List PV) (K nv ns:Nat),vs[nv]?=some vcl->vs[ns]?=some (.sl 9 [row])->(PT.appM (.va nv) (.va ns) 9 65 k).ev Φ {i:=is,b:=bs,v:=vs,m:=M,k:=K}=k.ev Φ {i:=is,b:=bs,v:=vs++[vcl'],m:=M',k:=K}) /\
   CSl M' (fun x=>R x\/R1 x\/(M.length<=x/\x<M'.length)) vcl' (cl++[r])/\M.length<=M'.length/\(∀x,x<M.length->¬R x->M'[x]?=M[x]?)/\(Low M->Low M')/\vcl'.one=true:=by
 have hsr:∀(is:List Int) (bs:List Bool) (vs:List PV) (K ns:Nat),vs[ns]?=some (.sl 9 [row])->a1h {i:=is,b:=bs,v:=vs,m:=M,k:=K} 9 (.va ns)=some [row]:=fun is bs vs K ns hs=>by
  simp only[a1h,hs,Q0,PV.rowsOf,if_true]
 have hlowrow:PV.lows M.length row=true:=hrow.low fun x hx=>(hR1 x hx).2
 rcases h with ⟨rfl,rfl⟩|⟨h,rows,h1,rfl,h3,h4⟩|⟨h,rows,h1,rfl,h0,h3,h4⟩
 ·refine⟨.rsl M.length 1 9,M++[.row [row] 9 65],fun Φ k is bs vs K nv ns hv hs=>?_,?_,by simp,fun x hx _=>Qq hx,fun hM=>Low.app hM ?_,rfl⟩
  ·rw[a0o]
   simp only[SV.pv,hv,Q0,hsr is bs vs K ns hs,QH];rfl
  ·refine .inr (.inr ⟨M.length,[row],.inr (.inr ⟨Qm _,by simp⟩),rfl,by simp,by simp,?_⟩)
   exact a2L.snoc (rows:=[]) ⟨rfl,fun i x y hx=>by simp at hx⟩ ((hrow.frame fun x hx=>Qq (hR1 x hx).2).mono fun x hx=>.inr (.inl hx))
  ·show PV.lowss _ [row]=true
   simp only[PV.lowss,PV.lows_mono (Xr _) row hlowrow,Qa]
 ·have hone:∀q∈rows,q.all PV.one=true:=fun q hq=>by obtain⟨_,_,kk⟩:=h4.mem hq;exact kk.ones
  refine⟨.rsl M.length (cl.length+1) 9,M++[.row (rows++[row]) 9 65],fun Φ k is bs vs K nv ns hv hs=>?_,?_,by simp,fun x hx _=>Qq hx,fun hM=>Low.app hM ?_,rfl⟩
  ·rw[a0o]
   have hrn:=c1f rows h4.lens hone;rw[h4.1] at hrn;simp only[SV.pv,hv,Q0,hsr is bs vs K ns hs,QH,h3,Qr,hrn];rw[if_pos ⟨trivial,trivial,by omega⟩];rfl
  ·refine .inr (.inr ⟨M.length,rows++[row],.inr (.inr ⟨Qm _,by simp⟩),by simp,by simp,by simp,?_⟩)
   exact((h4.frame fun x hx=>Qq (hR x hx)).mono fun x hx=>.inl hx).snoc ((hrow.frame fun x hx=>Qq (hR1 x hx).2).mono fun x hx=>.inr (.inl hx))
  ·show PV.lowss _ (rows++[row])=true
   refine b7q (PV.lows_mono (Xr _) row hlowrow) ?_
   have:∀l:List (List PV),(∀q∈l,PV.lows (M.length+1) q=true)->PV.lowss (M.length+1) l=true:=by
    intro l
    induction l with
    | nil=>intro _;rfl
    | cons q l ih=>intro hq;simp only[PV.lowss,hq q (by simp),ih fun z hz=>hq z (by simp[hz]),Qa]
   refine this _ fun q hq=>?_
   obtain⟨_,_,kk⟩:=h4.mem hq;exact kk.low fun x hx=>by have:=hR x hx;omega
 ·refine⟨.rsl h (cl.length+1) 9,M.set h (.row (rows++[row]) 9 65),fun Φ k is bs vs K nv ns hv hs=>?_,?_,by simp,fun x hx hn=>Qh (by rintro rfl;exact hn h1),fun hM=>Low.set hM ?_,rfl⟩
  ·rw[a0o]
   simp only[SV.pv,hv,Q0,hsr is bs vs K ns hs,QH,h3,h4.1];rw[if_pos ⟨trivial,trivial,trivial,trivial,by omega⟩];rfl
  ·have hh:=(Qn.1 h3).1
   refine .inr (.inr ⟨h,rows++[row],.inl h1,by simp,by simp,by rw[QP hh],?_⟩);have h4':a2L M (fun x=>R x/\x≠h) cl rows:=⟨h4.1,fun i x y hx hy=>d2c (h4.2 i x y hx hy) h3⟩;refine((h4'.frame fun x hx=>Qh (Ne.symm hx.2)).mono fun x hx=>.inl hx.1).snoc ((hrow.frame fun x hx=>Qh ?_).mono fun x hx=>.inr (.inl hx));rintro rfl;exact(hR1 _ hx).1 h1
  ·show PV.lowss _ (rows++[row])=true
   exact b7q hlowrow (hM.get h3)
structure CkOk (N:Nat)(c:Ck):Prop where
 out:c.out.length=N
 la:c.ask.length=N
 lb:c.bid.length=N
 ok:∀w∈c.ask,w.ok
 p:c.p.pok
 rn:∀r∈c.cl,r.p.pok/\r.ask.length=N/\r.got.length=N/\r.bid.length=N/\(∀w∈r.ask,w.ok)/\∀w∈r.got,w.ok
 cl:c.cl.length<=30
 ov:c.over=false->c.cl.length<=29
theorem c7v(c:Ck)(i:Nat):(c.chs i).length=c.cl.length:=by simp[Ck.chs]
theorem d0n{ps:List Pr}{bs:List Bd}{cs ad:List Tri}{i:Int}{w:W6}(h:a6I ps bs cs ad i w=0):0<=i/\i<(bs.length:Int)/\w.ok:=by
 unfold a6I at h
 repeat' split at h
 all_goals first|(cases h;done)|skip
 all_goals
  rename_i h1 h2 h3 _;rw[a0O] at h1;rw[a1u] at h2;exact⟨by omega,by omega,h3⟩
section
variable {s:St}{cs ad:List Tri}(hs:SuOk s cs ad)(hv:a4E s.ps s.bs cs ad=0){o:Po}(ho:o.ok){σ:List MO}{h:Nat}{F:Nat->Prop}{c:Ck}(K:a9o s o σ h F c)(hσ:Low σ)(hk:CkOk s.bs.length c)(n:Nat)
include hs hv ho K hσ hk
set_option maxHeartbeats 4000000 in
theorem d4N(i:Int)(w:W6)(hn:32000<=n):c0a s o σ h F (c.doBid s.ps s.bs cs ad o s i w).1 (.int .i64 (c.doBid s.ps s.bs cs ad o s i w).2) (a0B Tab n a3N [.ref h 0,.int .i64 i,.agg w.pv] σ):=by
 obtain⟨n,rfl⟩:∃k,n=k+1+1:=⟨n-2,by omega⟩;obtain⟨l1,l2,l3,l4,l5⟩:=SuOk.lens hv;have hN:=hk.out;have K0:=K;obtain⟨vcl,ha,hb,hd,R,k,hF⟩:=K;have hob:=k.obj;have r0:∀is bs vs k,a0e {i:=is,b:=bs,v:=vs,m:=σ,k:=k} false 4 (.obj h 0)=some [s.P,s.B,s.C,s.A]:=a0F hob 0 4 (by decide);have r01:∀is bs vs k,a0e {i:=is,b:=bs,v:=vs,m:=σ,k:=k} false 1 (.obj h 0)=some [s.P]:=a0F hob 0 1 (by decide);have r4:∀is bs vs k,a0e {i:=is,b:=bs,v:=vs,m:=σ,k:=k} false 4 (.obj h 4)=some [.int .i64 o.st,.int .i64 o.pc,.int .i64 o.un,.int .i64 o.ru]:=a0F hob 4 4 (by decide);have r6:∀is bs vs k,a0e {i:=is,b:=bs,v:=vs,m:=σ,k:=k} false 1 (.obj h 6)=some [.int .i64 o.un]:=a0F hob 6 1 (by decide);have r7:∀is bs vs k,a0e {i:=is,b:=bs,v:=vs,m:=σ,k:=k} false 1 (.obj h 7)=some [.int .i64 o.ru]:=a0F hob 7 1 (by decide);have r8:∀is bs vs k,a0e {i:=is,b:=bs,v:=vs,m:=σ,k:=k} false 1 (.obj h 8)=some [vcl]:=a0F hob 8 1 (by decide);have r9:∀is bs vs k,a0e {i:=is,b:=bs,v:=vs,m:=σ,k:=k} false 6 (.obj h 9)=some [.int .i64 c.p.a,.int .i64 c.p.b,.int .i64 c.p.c,.int .i64 c.p.d,.int .i64 c.p.e,.int .i64 c.p.f]:=a0F hob 9 6 (by decide);have r15:∀is bs vs k,a0e {i:=is,b:=bs,v:=vs,m:=σ,k:=k} false 1 (.obj h 15)=some [.msl ha 0 c.out.length c.out.length 6]:=a0F hob 15 1 (by decide);have r16:∀is bs vs k,a0e {i:=is,b:=bs,v:=vs,m:=σ,k:=k} false 1 (.obj h 16)=some [.msl hb 0 c.out.length c.out.length 1]:=a0F hob 16 1 (by decide);have r17:∀is bs vs k,a0e {i:=is,b:=bs,v:=vs,m:=σ,k:=k} false 1 (.obj h 17)=some [.msl hd 0 c.out.length c.out.length 1]:=a0F hob 17 1 (by decide);have r18:∀is bs vs k,a0e {i:=is,b:=bs,v:=vs,m:=σ,k:=k} false 1 (.obj h 18)=some [.bool c.over]:=a0F hob 18 1 (by decide);have c1:=b9M k (n+1) i (by omega);simp only[a6a] at c1
 have go:∀r,(PT.ev (a0B Tab (n+1)) a1S {i:=[i,w.a,w.b,w.c,w.d,w.e,w.f],b:=[],v:=[.ref h 0],m:=σ,k:=σ.length}).bind (fun x=>match x with|.ret r σ=>some (r,σ)|.jump q' ρ'=>Sys.loop (a0B Tab (n+1)) d9S (n+1) q' ρ')=some r->a0B Tab (n+1+1) a3N [.ref h 0,.int .i64 i,.agg w.pv] σ=some r:=fun r hr=>by
  rw[a0B];simp only[b8T,Q0,Sys.run,pv6];show ((a0E [.sh (.one _),.sh (.one _),.sh (.agg [_,_,_,_,_,_])] _).bind _)=_;simp only[a0E,a0x,a0w,Q1,Q0,Q8,Q4,Q6,if_true,a7s];exact hr
 have goE:∀r,PT.ev (a0B Tab (n+1)) a1S {i:=[i,w.a,w.b,w.c,w.d,w.e,w.f],b:=[],v:=[.ref h 0],m:=σ,k:=σ.length}=some (.ret r.1 r.2)->a0B Tab (n+1+1) a3N [.ref h 0,.int .i64 i,.agg w.pv] σ=some r:=fun r hr=>go r (by rw[hr];rfl)
 have no:∀e:Int,b3r s.ps s.bs cs ad o s c i w=e->e≠0->a0B Tab (n+1+1) a3N [.ref h 0,.int .i64 i,.agg w.pv] σ=some (.int .i64 e,σ)->c0a s o σ h F (c.doBid s.ps s.bs cs ad o s i w).1 (.int .i64 (c.doBid s.ps s.bs cs ad o s i w).2) (a0B Tab (n+1+1) a3N [.ref h 0,.int .i64 i,.agg w.pv] σ):=fun e he hne hev=>by
  unfold Ck.doBid;rw[he,if_neg hne];exact⟨σ,F,hev,K0,Adv.refl hσ⟩
 cases hov:c.over with
 | true =>
  rw[hov] at r18;refine no 10 (by unfold b3r;rw[if_pos hov]) (by decide) (go _ ?_);simp only[a1S,↓reduceIte,PT.ev,BE.safe,BE.pe,IE.pe,PEnv.at,Q3,Q5,Q7,Qd,a0y,a0A,Qe,Qf,Q2,a0w,a0p,a0x,Q1,Q0,PEnv.push,Q6,Q4,SV.pvs,SV.pv,Qa,a3w,a2y,a3t,a3v,Qg,r18,a0C,true_or]
 | false =>
 rw[hov] at r18;have hov':¬c.over=true:=by rw[hov];simp
 cases hh:c.has i with
 | false =>
  rw[hh] at c1;refine no 6 (by unfold b3r;rw[if_neg hov',hh];rfl) (by decide) (go _ ?_);simp only[a1S,↓reduceIte,PT.ev,BE.safe,BE.pe,IE.pe,PEnv.at,Q3,Q5,Q7,Qd,a0y,a0A,Qe,Qf,Q2,a0w,a0p,a0x,Q1,Q0,PEnv.push,Q6,Q4,Q8,SV.pvs,SV.pv,Qa,Qu,a3w,a2y,a3t,a3v,Qg,r18,c1,a0C,true_or]
 | true =>
 rw[hh] at c1;have hh':=hh;unfold Ck.has at hh';rw[Qy,a1u,a0O] at hh';obtain⟨j,rfl⟩:∃j:Nat,i=(j:Int):=⟨i.toNat,by omega⟩;have hj:j<c.out.length:=by omega
 obtain⟨b,hb'⟩:=a0P hj;have q1:=c0b (h:=hd) (c:=c.out.length) hj
 have q2:∀is bs vs k,a0e {i:=is,b:=bs,v:=vs,m:=σ,k:=k} false 1 (.obj hd j)=some [.bool b]:=fun _ _ _ _=>by
  simp only[a0e,k.out,Q0,MO.list,Q2,if_false];exact c2n c.out hb'
 have hlt:ltB (j:Int) (c.out.length:Int)=true:=by rw[a0O];omega
 cases b with
 | true =>
  refine no 10 (by unfold b3r;rw[if_neg hov',if_pos hh,QA,if_pos hb']) (by decide) (go _ ?_);simp only[a1S,↓reduceIte,PT.ev,BE.safe,BE.pe,IE.pe,PEnv.at,Q3,Q5,Q7,Qd,a0y,a0A,Qe,Qf,Q2,a0w,a0p,a0x,Q1,Q0,PEnv.push,Q6,Q4,Q8,SV.pvs,SV.pv,Qa,Qk,a3w,a2y,a3t,a3v,Qg,r18,c1,r17,a6s,b1B,le0,hlt,q1,q2,a0C,true_or]
 | false =>
 have hbn:¬c.out[j]?=some true:=by rw[hb'];simp
 have c2:=c6X σ s.ps s.bs cs ad s.P s.B s.C s.A hs.P hs.B hs.C hs.A (n+1) hσ hv (j:Int) w (by omega);simp only[b4y,pv6] at c2
 have hbv:b3r s.ps s.bs cs ad o s c (j:Int) w=if a6I s.ps s.bs cs ad (j:Int) w=0 then(if c1N s (j:Int) ⟨c.p,w⟩=0 then c5C s o.ru (j:Int) (c.chs j) ⟨c.p,w⟩ (agB (c.chs j++[⟨c.p,w⟩])) else c1N s (j:Int) ⟨c.p,w⟩) else a6I s.ps s.bs cs ad (j:Int) w:=by
  unfold b3r;rw[if_neg hov',if_pos hh,QA,if_neg hbn]
 have e5:∀a b:Int,eqB a b=decide (a=b):=fun _ _=>rfl
 obtain⟨_,_,p3⟩:=a0D hs.P;obtain⟨_,_,b3⟩:=a0D hs.B;obtain⟨_,_,c3'⟩:=a0D hs.C;obtain⟨_,_,a3⟩:=a0D hs.A;by_cases h1:a6I s.ps s.bs cs ad (j:Int) w=0
 case neg =>
  refine no _ (by rw[hbv,if_neg h1]) h1 (goE (_,_) ?_);simp only[a1S,↓reduceIte,PT.ev,BE.safe,BE.pe,IE.pe,PEnv.at,Q3,Q5,Q7,Qd,a0y,a0A,Qe,Qf,Q2,a0w,a0p,a0x,Q1,Q0,PEnv.push,Q6,Q4,Q8,SV.pvs,SV.pv,Qa,Qk,a3w,a2y,a3t,a3v,Qg,r18,c1,r17,a6s,b1B,le0,hlt,q1,q2]
  repeat' (first|with_reducible rfl|apply a4g|simp only[↓reduceIte,a0t,a0r,a0h,a0k,a0l,BE.safe,BE.pe,IE.pe,PEnv.at,Q3,Q5,Q7,Qd,a0y,a0A,QL,Qe,Qf,Nat.reduceAdd,a0w,a0p,a0x,Q1,Q0,PEnv.push,Q6,Q4,Q8,SV.pvs,SV.pv,Qu,a2y,Qg,r9,r0,p3,b3,c3',a3,c2,e5,dF0 h1,a0C,true_or]|unfold a3B|unfold a3C|unfold a3E|unfold a3G|unfold a3I|unfold a3A|unfold a3H|unfold a3F|unfold a2P)
 have hw:=(d0n h1).2.2;have hx:(⟨c.p,w⟩:Ch).ok:=⟨hk.p,hw⟩;have c3:=b4b σ s hs.ok (j:Int) ⟨c.p,w⟩ hx n (by omega) (a7A σ c.p w hk.p hw n (by omega));simp only[a9J,St.pv,a1W] at c3;by_cases h2:c1N s (j:Int) ⟨c.p,w⟩=0
 case neg =>
  refine no _ (by rw[hbv,if_pos h1,if_neg h2]) h2 (goE (_,_) ?_);simp only[a1S,↓reduceIte,PT.ev,BE.safe,BE.pe,IE.pe,PEnv.at,Q3,Q5,Q7,Qd,a0y,a0A,Qe,Qf,Q2,a0w,a0p,a0x,Q1,Q0,PEnv.push,Q6,Q4,Q8,SV.pvs,SV.pv,Qa,Qk,a3w,a2y,a3t,a3v,Qg,r18,c1,r17,a6s,b1B,le0,hlt,q1,q2]
  repeat' (first|with_reducible rfl|apply a4g|simp only[↓reduceIte,a0t,a0r,a0h,a0k,a0l,BE.safe,BE.pe,IE.pe,PEnv.at,Q3,Q5,Q7,Qd,a0y,a0A,QL,Qe,Qf,Nat.reduceAdd,Q2,a0w,a0p,a0x,Q1,Q0,PEnv.push,Q6,Q4,Q8,SV.pvs,SV.pv,Qk,Qu,a2y,Qg,r9,r0,p3,b3,c3',a3,c2,e5,dT0 h1,c3,dF0 h2,a0C,true_or]|unfold a3B|unfold a3C|unfold a3E|unfold a3G|unfold a3I|unfold a3A|unfold a3H|unfold a3F|unfold a2P)
 have hcl29:=hk.ov hov;obtain⟨L,c4,hL⟩:=c6S k (n+1) (by omega) (fun r hr=>by rw[(hk.rn r hr).2.1,hN]) (j:Int) (by omega);rw[if_pos hh,QA] at hL;obtain⟨_,_,oL⟩:=a0D hL
 have hag:∀m,n+1<=m+2->m<=n+1->a0B Tab m a1Z [.agg (a9w s (j:Int) L),.agg (⟨c.p,w⟩:Ch).row] σ=some (.bool (agB (c.chs j++[⟨c.p,w⟩])),σ):=fun m hm1 hm2=>by
  obtain⟨b,e1,e2⟩:=c8H σ s hs.ok (j:Int) (c.chs j) L hL (by rw[c7v];exact hcl29) ⟨c.p,w⟩ m hσ.flat (by omega);rw[e1,show b=agB (c.chs j++[⟨c.p,w⟩]) from XJ.2 (e2.trans (d3W _).symm)]
 have c5:=c9n σ s hs.ok o.ru (j:Int) (c.chs j) L hL (by rw[c7v];exact hcl29) ⟨c.p,w⟩ (n+1) (agB (c.chs j++[⟨c.p,w⟩])) (by omega) hag;simp only[b1R,a6j,St.pv,a1W] at c4 c5;by_cases h3:c5C s o.ru (j:Int) (c.chs j) ⟨c.p,w⟩ (agB (c.chs j++[⟨c.p,w⟩]))=0
 case neg =>
  refine no _ (by rw[hbv,if_pos h1,if_pos h2]) h3 (goE (_,_) ?_);simp only[a1S,↓reduceIte,PT.ev,BE.safe,BE.pe,IE.pe,PEnv.at,Q3,Q5,Q7,Qd,a0y,a0A,Qe,Qf,Q2,a0w,a0p,a0x,Q1,Q0,PEnv.push,Q6,Q4,Q8,SV.pvs,SV.pv,Qa,Qk,a3w,a2y,a3t,a3v,Qg,r18,c1,r17,a6s,b1B,le0,hlt,q1,q2]
  repeat' (first|with_reducible rfl|apply a4g|simp only[↓reduceIte,a0t,a0r,a0h,a0k,a0l,a0b,BE.safe,BE.pe,IE.pe,PEnv.at,Q3,Q5,Q7,Qd,a0y,a0A,QL,Qe,Qf,Nat.reduceAdd,Q2,a0w,a0p,a0x,Q1,Q0,PEnv.push,Q6,Q4,Q8,SV.pvs,SV.pv,Qa,Qk,Qu,a2y,Qg,r9,r0,r7,p3,b3,c3',a3,c2,e5,dT0 h1,c3,dT0 h2,c4,oL,c5,dF0 h3,a0C,true_or]|unfold a3B|unfold a3C|unfold a3E|unfold a3G|unfold a3I|unfold a3A|unfold a3H|unfold a3F|unfold a2P)
 have hz:b3r s.ps s.bs cs ad o s c (j:Int) w=0:=by rw[hbv,if_pos h1,if_pos h2];exact h3
 have da:=k.a_d;have ab:=k.a_b;have db:=k.nbd;have la:=k.la;have lb:=k.lb;have hal:=(Qn.1 k.ask).1;have hbl:=(Qn.1 k.bid).1;have g2:=k.ask;have g3:(σ.set ha (.cells ((c.ask.set j w).map W6.pv).flatten 51))[hb]?=some (.cells (c.bid.map PV.bool) 4):=by rw[Qh ab];exact k.bid
 have t2:j*6+6<=(c.ask.map W6.pv).flatten.length:=by rw[b2t];omega
 have t3:j+1<=(c.bid.map PV.bool).length:=by simp;omega
 have s2:a2q (c.ask.map W6.pv).flatten (j*6) [.int .i64 w.a,.int .i64 w.b,.int .i64 w.c,.int .i64 w.d,.int .i64 w.e,.int .i64 w.f]=((c.ask.set j w).map W6.pv).flatten:=b9t c.ask (by omega) w;have s3:=b9L c.bid (i:=j) (by omega) true;have q1a:=c5y (h:=ha) (c:=c.out.length) (sz:=6) hj;have q1b:=c0b (h:=hb) (c:=c.out.length) hj;unfold Ck.doBid;rw[hz,if_pos rfl,QA];refine⟨(σ.set ha (.cells ((c.ask.set j w).map W6.pv).flatten 51)).set hb (.cells ((c.bid.set j true).map PV.bool) 4),F,goE (.int .i64 0,_) ?_,⟨vcl,ha,hb,hd,R,?_,hF⟩,?_⟩
 ·simp only[a1S,↓reduceIte,PT.ev,BE.safe,BE.pe,IE.pe,PEnv.at,Q3,Q5,Q7,Qd,a0y,a0A,Qe,Qf,Q2,a0w,a0p,a0x,Q1,Q0,PEnv.push,Q6,Q4,Q8,SV.pvs,SV.pv,Qa,Qk,a3w,a2y,a3t,a3v,Qg,r18,c1,r17,a6s,b1B,le0,hlt,q1,q2]
  repeat' (first|with_reducible rfl|apply a4g|simp only[↓reduceIte,a0t,a0r,a0h,a0k,a0l,a0b,BE.safe,BE.pe,IE.pe,PEnv.at,Q3,Q5,Q7,Qd,a0y,a0A,QL,Qe,Qf,Nat.reduceAdd,Q2,a0w,a0p,a0x,Q1,Q0,PEnv.push,Q6,Q4,Q8,SV.pvs,SV.pv,Qa,Qk,a2y,Qg,r9,r0,r7,p3,b3,c3',a3,c2,e5,dT0 h1,c3,dT0 h2,c4,oL,c5,dT0 h3,r15,r16,a6s,b1B,le0,hlt,q1a,q1b,g2,if_pos t2,s2,g3,if_pos t3,s3,a0C,true_or]|unfold a3B|unfold a3C|unfold a3E|unfold a3G|unfold a3I|unfold a3A|unfold a3H|unfold a3F|unfold a2P)
 ·have keep:∀x,R x->((σ.set ha (.cells ((c.ask.set j w).map W6.pv).flatten 51)).set hb (.cells ((c.bid.set j true).map PV.bool) 4))[x]?=σ[x]?:=fun x hx=>by
   rw[Qh (by rintro rfl;exact k.nb hx),Qh (by rintro rfl;exact k.na hx)]
  refine⟨?_,?_,?_,?_,by rw[Qp];exact la,by rw[Qp];exact lb,k.cl.frame keep,fun x hx=>by simp only[Qp];exact k.bd x hx,k.na,k.nb,k.nd,k.nh,k.nbd⟩
  ·rw[Qh k.b_h,Qh k.a_h];exact hob
  ·rw[Qh (Ne.symm ab),QP hal]
  ·rw[QP (by simpa using hbl)]
  ·rw[Qh db,Qh da];exact k.out
 ·refine⟨by simp,fun x hx hn=>?_,fun x hx=>.inl hx,Low.set (Low.set hσ (a5K _ _ _)) (a6O _ _ _)⟩
  rw[Qh (by rintro rfl;exact hn ((hF _).2 (.inr (.inr (.inl rfl))))),Qh (by rintro rfl;exact hn ((hF _).2 (.inr (.inl rfl))))]
end
def Ck.closeTo(c:Ck)(o:Po)(ex:W6)(cl':List Rn):Ck×Bool×Int :=
 if (ex.isZ||(leB 30 (cl'.length:Int)||!decide (rsW o c.p ex).pok))=true then({cl:=cl',p:=c.p,ask:=c.blank.ask,bid:=c.blank.bid,out:=c.out,over:=true},true,0)
 else({cl:=cl',p:=rsW o c.p ex,ask:=c.blank.ask,bid:=c.blank.bid,out:=c.out,over:=false},false,0)
theorem c6g(c:Ck)(ps:List Pr)(o:Po)(h:c.over=false):c.close ps o=c.closeTo o (c.ex ps o) (c.cl++[⟨c.p,c.ask,c.gots ps o,c.bid⟩]):=by
 unfold Ck.close Ck.closeTo Ck.ends Ck.nextP;rw[h,if_neg (by simp),Qv,QH,a0T];simp only[Ck.blank,h]
section
variable {s:St}{o:Po}(ho:o.ok){h hd:Nat}{c:Ck}(hp:c.p.pok)(n:Nat)(K:Nat)
def b8b(K:Nat)(M:List MO)(sp:W6)(h:Nat)(got:PV):PEnv:={i:=[sp.a,sp.b,sp.c,sp.d,sp.e,sp.f],b:=[],v:=[.ref h 0,got],m:=M,k:=K}
def c2e(K:Nat)(M:List MO)(e:Int)(sp ex np:W6)(h:Nat):PEnv:={i:=[e,sp.a,sp.b,sp.c,sp.d,sp.e,sp.f,ex.a,ex.b,ex.c,ex.d,ex.e,ex.f,np.a,np.b,np.c,np.d,np.e,np.f],b:=[],v:=[.ref h 0],m:=M,k:=K}
include ho hp in
set_option maxHeartbeats 2000000 in
theorem c8U{M:List MO}{vcl va vb got:PV}{R:Nat->Prop}{cl':List Rn}{g:List W6}{sp:W6}(hob:M[h]?=some (ckO s o vcl va vb (.msl hd 0 c.out.length c.out.length 1) c.p false))(hM:Low M)(hcl:CSl M R vcl cl')(hR:∀x,R x->x<M.length)(hRd:¬R hd)(hRh:¬R h)(hdh:hd≠h)
  (hg:BSl M R got g) (hgk:∀w∈g,w.ok) (hg8:g.length<=8) (hout:M[hd]?=some (.cells (c.out.map PV.bool) 4)) (hN:c.out.length<=1000) (hsp:sp.sm 1000) (hn:100<=n) (fuel:Nat) :
  ∃M2,d8T.loop (a0B Tab n) (fuel+2) 1 (b8b K M sp h got)=some (.tup [.bool (c.closeTo o (exW sp g) cl').2.1,.int .i64 (c.closeTo o (exW sp g) cl').2.2],M2) /\
   CkAt s o M2 h vcl M.length (M.length+1) hd R (c.closeTo o (exW sp g) cl').1/\Low M2/\M.length<=M2.length/\∀x,x<M.length->x≠h->M2[x]?=M[x]?:=by
 have hlt:h<M.length:=(Qn.1 hob).1;have hdl:hd<M.length:=(Qn.1 hout).1;have c1:=c4U hob hM hN n (by omega);simp only[a2b] at c1;obtain⟨X,hX⟩:∃X:W6->Bool->MO,∀p ov,X p ov=ckO s o vcl (.msl M.length 0 c.out.length c.out.length 6) (.msl (M.length+1) 0 c.out.length c.out.length 1) (.msl hd 0 c.out.length c.out.length 1) p ov:=⟨_,fun _ _=>rfl⟩;have hXc:∀p ov,X p ov=.cells (ckL s o vcl (.msl M.length 0 c.out.length c.out.length 6) (.msl (M.length+1) 0 c.out.length c.out.length 1) (.msl hd 0 c.out.length c.out.length 1) p ov) 79:=fun p ov=>by rw[hX];rfl
 rw[<- hX] at c1;have ob1:=a8g hlt (X c.p false) c.out.length;rw[hX] at ob1;have u0:∀is bs vs k,a0e {i:=is,b:=bs,v:=vs,m:=clM M h (ckO s o vcl (.msl M.length 0 c.out.length c.out.length 6) (.msl (M.length+1) 0 c.out.length c.out.length 1) (.msl hd 0 c.out.length c.out.length 1) c.p false) c.out.length,k:=k} false 4 (.obj h 0)=some [s.P,s.B,s.C,s.A]:=a0F ob1 0 4 (by decide);have u01:∀is bs vs k,a0e {i:=is,b:=bs,v:=vs,m:=clM M h (ckO s o vcl (.msl M.length 0 c.out.length c.out.length 6) (.msl (M.length+1) 0 c.out.length c.out.length 1) (.msl hd 0 c.out.length c.out.length 1) c.p false) c.out.length,k:=k} false 1 (.obj h 0)=some [s.P]:=a0F ob1 0 1 (by decide);have u4:∀is bs vs k,a0e {i:=is,b:=bs,v:=vs,m:=clM M h (ckO s o vcl (.msl M.length 0 c.out.length c.out.length 6) (.msl (M.length+1) 0 c.out.length c.out.length 1) (.msl hd 0 c.out.length c.out.length 1) c.p false) c.out.length,k:=k} false 4 (.obj h 4)=some [.int .i64 o.st,.int .i64 o.pc,.int .i64 o.un,.int .i64 o.ru]:=a0F ob1 4 4 (by decide);have u6:∀is bs vs k,a0e {i:=is,b:=bs,v:=vs,m:=clM M h (ckO s o vcl (.msl M.length 0 c.out.length c.out.length 6) (.msl (M.length+1) 0 c.out.length c.out.length 1) (.msl hd 0 c.out.length c.out.length 1) c.p false) c.out.length,k:=k} false 1 (.obj h 6)=some [.int .i64 o.un]:=a0F ob1 6 1 (by decide);have u7:∀is bs vs k,a0e {i:=is,b:=bs,v:=vs,m:=clM M h (ckO s o vcl (.msl M.length 0 c.out.length c.out.length 6) (.msl (M.length+1) 0 c.out.length c.out.length 1) (.msl hd 0 c.out.length c.out.length 1) c.p false) c.out.length,k:=k} false 1 (.obj h 7)=some [.int .i64 o.ru]:=a0F ob1 7 1 (by decide);have u8:∀is bs vs k,a0e {i:=is,b:=bs,v:=vs,m:=clM M h (ckO s o vcl (.msl M.length 0 c.out.length c.out.length 6) (.msl (M.length+1) 0 c.out.length c.out.length 1) (.msl hd 0 c.out.length c.out.length 1) c.p false) c.out.length,k:=k} false 1 (.obj h 8)=some [vcl]:=a0F ob1 8 1 (by decide);have u9:∀is bs vs k,a0e {i:=is,b:=bs,v:=vs,m:=clM M h (ckO s o vcl (.msl M.length 0 c.out.length c.out.length 6) (.msl (M.length+1) 0 c.out.length c.out.length 1) (.msl hd 0 c.out.length c.out.length 1) c.p false) c.out.length,k:=k} false 6 (.obj h 9)=some [.int .i64 c.p.a,.int .i64 c.p.b,.int .i64 c.p.c,.int .i64 c.p.d,.int .i64 c.p.e,.int .i64 c.p.f]:=a0F ob1 9 6 (by decide);have u15:∀is bs vs k,a0e {i:=is,b:=bs,v:=vs,m:=clM M h (ckO s o vcl (.msl M.length 0 c.out.length c.out.length 6) (.msl (M.length+1) 0 c.out.length c.out.length 1) (.msl hd 0 c.out.length c.out.length 1) c.p false) c.out.length,k:=k} false 1 (.obj h 15)=some [.msl M.length 0 c.out.length c.out.length 6]:=a0F ob1 15 1 (by decide);have u16:∀is bs vs k,a0e {i:=is,b:=bs,v:=vs,m:=clM M h (ckO s o vcl (.msl M.length 0 c.out.length c.out.length 6) (.msl (M.length+1) 0 c.out.length c.out.length 1) (.msl hd 0 c.out.length c.out.length 1) c.p false) c.out.length,k:=k} false 1 (.obj h 16)=some [.msl (M.length+1) 0 c.out.length c.out.length 1]:=a0F ob1 16 1 (by decide);have u17:∀is bs vs k,a0e {i:=is,b:=bs,v:=vs,m:=clM M h (ckO s o vcl (.msl M.length 0 c.out.length c.out.length 6) (.msl (M.length+1) 0 c.out.length c.out.length 1) (.msl hd 0 c.out.length c.out.length 1) c.p false) c.out.length,k:=k} false 1 (.obj h 17)=some [.msl hd 0 c.out.length c.out.length 1]:=a0F ob1 17 1 (by decide);have u18:∀is bs vs k,a0e {i:=is,b:=bs,v:=vs,m:=clM M h (ckO s o vcl (.msl M.length 0 c.out.length c.out.length 6) (.msl (M.length+1) 0 c.out.length c.out.length 1) (.msl hd 0 c.out.length c.out.length 1) c.p false) c.out.length,k:=k} false 1 (.obj h 18)=some [.bool false]:=a0F ob1 18 1 (by decide);rw[<- hX] at u8 u4 u9;have fr:∀p ov x,R x->(clM M h (X p ov) c.out.length)[x]?=M[x]?:=fun p ov x hx=>a9e (hR x hx) (by rintro rfl;exact hRh hx) _ _
 have hcl1:=fun p ov=>hcl.frame (fr p ov)
 have hg1:=(hg.frame (fr c.p false)).rd;have hc:=(hcl1 c.p false).rd
 have lowX:∀p ov,Low (clM M h (X p ov) c.out.length):=fun p ov=>by
  have ho2:=a5A.1 (hM.get hob);have up:∀{v:PV},v.low M.length=true->v.low (M.length+2)=true:=fun h=>PV.low_mono (by omega) _ h
  unfold Low;rw[a3p];unfold clM;rw[QX,Qy];refine⟨Qw.2 fun y hy=>?_,by simp only[X2,Xb,a5K,a6O,Qa]⟩;rcases QU hy with hy|rfl
  ·exact MO.low_mono (by omega) (Qw.1 hM y hy)
  ·rw[hX]
   exact a5A.2 ⟨up ho2.1,up ho2.2.1,up ho2.2.2.1,up ho2.2.2.2.1,up ho2.2.2.2.2.1,by simp[PV.low],by simp[PV.low],up ho2.2.2.2.2.2.2.2⟩
 have atX:∀p ov,CkAt s o (clM M h (X p ov) c.out.length) h vcl M.length (M.length+1) hd R {cl:=cl',p:=p,ask:=c.blank.ask,bid:=c.blank.bid,out:=c.out,over:=ov}:=fun p ov=>by
  refine⟨?_,c8n _ _ _ _,c8s _ _ _ _,?_,by simp[Ck.blank],by simp[Ck.blank],hcl1 p ov,fun x hx=>by rw[a3p];have:=hR x hx;omega,fun hx=>by have:=hR _ hx;omega,fun hx=>by have:=hR _ hx;omega,hRd,hRh,by omega⟩
  ·rw[a8g hlt,hX]
  ·rw[a9e hdl hdh];exact hout
 have c2:=c8A (clM M h (X c.p false) c.out.length) n got g hg1 hgk hg8 sp hsp (by omega);have c3:=d0P (clM M h (X c.p false) c.out.length) n o ho c.p (exW sp g) hp (lowX c.p false) (by omega);simp only[b6a,b1X,pv6,a6T] at c2 c3
 have e1:d8T.loop (a0B Tab n) (fuel+2) 1 (b8b K M sp h got)=d8T.loop (a0B Tab n) (fuel+1) 2 (c2e K (clM M h (X c.p false) c.out.length) (a8j o c.p (exW sp g)).2 sp (exW sp g) (a8j o c.p (exW sp g)).1 h):=by
  have og:=hg.one;rw[Sys.loop,show d8T.loops[1]?=some a4N from rfl]
  have E:PT.ev (a0B Tab n) a4N (b8b K M sp h got)=some (.jump 2 (c2e K (clM M h (X c.p false) c.out.length) (a8j o c.p (exW sp g)).2 sp (exW sp g) (a8j o c.p (exW sp g)).1 h)):=by
   simp only[a4N,b8b,↓reduceIte,a0h,a0l,BE.safe,BE.pe,IE.pe,PEnv.at,Q3,Q5,Q7,Qd,a0w,a0p,a0x,Q1,Q0,PEnv.push,Q6,Q4,Q8,SV.pvs,SV.pv,c1,a0U,c2,a2y]
   repeat' (first|with_reducible rfl|apply a4g|simp only[↓reduceIte,a0k,a0l,a0m,IE.pe,Q3,Q5,Q7,a0y,a0A,Qe,Qf,Nat.reduceAdd,a0w,a0p,a0x,Q1,Q0,PEnv.push,Q6,Q4,Q8,SV.pvs,SV.pv,BE.all,Q9,Qb,Qg,u4,u9,c3,a0U,c2e,]|unfold a5n|unfold a8z|unfold a8w|unfold a8x|unfold a5m|unfold a8A|unfold a8G|unfold a8D|unfold a8u|unfold a7K)
  rw[Q0,E];rfl
 have hst18:(clM M h (X c.p false) c.out.length).set h (.cells (ckL s o vcl (.msl M.length 0 c.out.length c.out.length 6) (.msl (M.length+1) 0 c.out.length c.out.length 1) (.msl hd 0 c.out.length c.out.length 1) c.p true) 79)=clM M h (X c.p true) c.out.length:=by rw[b2v hlt,hXc]
 have hst9:∀q,(clM M h (X c.p false) c.out.length).set h (.cells (ckL s o vcl (.msl M.length 0 c.out.length c.out.length 6) (.msl (M.length+1) 0 c.out.length c.out.length 1) (.msl hd 0 c.out.length c.out.length 1) q false) 79)=clM M h (X q false) c.out.length:=fun q=>by rw[b2v hlt,hXc]
 have hg2:(clM M h (X c.p false) c.out.length)[h]?=some (.cells (ckL s o vcl (.msl M.length 0 c.out.length c.out.length 6) (.msl (M.length+1) 0 c.out.length c.out.length 1) (.msl hd 0 c.out.length c.out.length 1) c.p false) 79):=by rw[a8g hlt,hXc]
 have hz:(eqB (exW sp g).a 0&&(eqB (exW sp g).b 0&&(eqB (exW sp g).c 0&&(eqB (exW sp g).d 0&&(eqB (exW sp g).e 0&&eqB (exW sp g).f 0)))))=(exW sp g).isZ:=rfl;have keep:∀p ov x,x<M.length->x≠h->(clM M h (X p ov) c.out.length)[x]?=M[x]?:=fun p ov x hx hne=>a9e hx hne _ _
 have len:∀p ov,M.length<=(clM M h (X p ov) c.out.length).length:=fun p ov=>by rw[a3p];omega
 rw[e1,Sys.loop,show d8T.loops[2]?=some a2O from rfl];unfold Ck.closeTo;cases hzz:(exW sp g).isZ with
 | true =>
  refine⟨clM M h (X c.p true) c.out.length,?_,atX c.p true,lowX c.p true,len _ _,keep _ _⟩;simp only[Q0,c2e,a2O,↓reduceIte,PT.ev,BE.safe,BE.pe,IE.pe,PEnv.at,Q3,Q5,Q7,a0y,a0A,Qe,Qf,Nat.reduceAdd,Qm,Q1,Q0,SV.pvs,SV.pv,Qa,hz,hzz,a2y,Qg,hg2,a7e,b2C,hst18,a0C,true_or,QZ]
 | false =>
  cases h30:leB 30 (cl'.length:Int) with
  | true =>
   refine⟨clM M h (X c.p true) c.out.length,?_,atX c.p true,lowX c.p true,len _ _,keep _ _⟩;simp only[Q0,c2e,a2O,↓reduceIte,PT.ev,BE.safe,BE.pe,IE.pe,PEnv.at,Q3,Q5,Q7,a0y,a0A,Qe,Qf,Nat.reduceAdd,Qm,Q2,a0w,Q1,Q0,PEnv.push,Q6,Q4,SV.pvs,SV.pv,Qa,hz,hzz,a2y,Qg,u8,hc.one,hc.kind,hc.len,h30,hg2,a7e,Nat.reduceLeDiff,b2C,hst18,a0C,true_or,QZ,Bool.or_true]
  | false =>
   by_cases hpk:(rsW o c.p (exW sp g)).pok
   ·have hnv:a8j o c.p (exW sp g)=(rsW o c.p (exW sp g),0):=if_pos hpk
    rw[hnv,dT0 hpk];refine⟨clM M h (X (rsW o c.p (exW sp g)) false) c.out.length,?_,atX _ false,lowX _ false,len _ _,keep _ _⟩;have e0:eqB 0 0=true:=rfl;simp only[Q0,c2e,a2O,↓reduceIte,PT.ev,BE.safe,BE.pe,IE.pe,PEnv.at,Q3,Q5,Q7,a0y,a0A,Qe,Qf,Nat.reduceAdd,Qm,Q2,a0w,Q1,Q0,PEnv.push,Q6,Q4,SV.pvs,SV.pv,Qa,Qk,hz,hzz,a2y,Qg,u8,hc.one,hc.kind,hc.len,h30,e0,hg2,a7e,Nat.reduceLeDiff,d0D,hst9,a0C,true_or,Bool.or_false,Qk,Q2]
   ·have hnv:a8j o c.p (exW sp g)=(w0,4):=if_neg hpk
    rw[hnv,dF0 hpk];refine⟨clM M h (X c.p true) c.out.length,?_,atX c.p true,lowX c.p true,len _ _,keep _ _⟩;have e0:eqB 4 0=false:=rfl;simp only[Q0,c2e,a2O,↓reduceIte,PT.ev,BE.safe,BE.pe,IE.pe,PEnv.at,Q3,Q5,Q7,a0y,a0A,Qe,Qf,Nat.reduceAdd,Qm,Q2,a0w,Q1,Q0,PEnv.push,Q6,Q4,SV.pvs,SV.pv,Qa,Qu,hz,hzz,a2y,Qg,u8,hc.one,hc.kind,hc.len,h30,e0,hg2,a7e,b2C,hst18,a0C,true_or,Bool.or_true,Qu]
end
theorem c7R{s:St}{o:Po}{c:Ck}{N:Nat}(hk:CkOk N c):(∀w∈c.gots s.ps o,w.ok)/\(c.gots s.ps o).length=N:=by
 unfold Ck.gots;split
 ·exact⟨hk.ok,hk.la⟩
 ·rename_i hne
  have hpos:0<c.cl.length:=Xv.2 hne;obtain⟨r,hr⟩:=a0P (show c.cl.length-1<c.cl.length by omega);have hlast:c.cl.getLast?=some r:=by rw[Xw];exact hr
  obtain⟨r1,r2,r3,r4,r5,r6⟩:=hk.rn r (Qt hr)
  have hpv:c.prev=prN r.got c.out c.out.length:=by
   rw[c1Q c (by rw[hlast];simp only[Q1,Xx];rw[r3,hk.out];exact Qm _),hlast];rfl
  have hpl:c.prev.length=N:=by rw[hpv,b6n,r3]
  have hpo:∀w∈c.prev,w.ok:=by rw[hpv];exact d0m r6
  unfold apW;exact⟨c6F _ _ hk.ok hpo (by rw[hk.la,hpl]) _ (by rw[hk.la,hpl];exact Qm _),by rw[b6L,hpl]⟩
theorem d0c{s:St}{o:Po}{σ:List MO}{h:Nat}{F:Nat->Prop}{c:Ck}{vcl:PV}{ha hb hd:Nat}{R:Nat->Prop}(k:CkAt s o σ h vcl ha hb hd R c)(hF:∀x,F x↔(x=h\/x=ha\/x=hb\/x=hd\/R x))(hcl:c.cl.length<=1000)(τ:List MO)(hM:Low (σ++τ)){got:PV}{g:List W6}(hg:BSl (σ++τ) (fun x=>σ.length<=x/\x<(σ++τ).length) got g)(hov:c.over=false) :
  ∃vcl' M',(∀(Φ:Fns) (k:PT) (is:List Int) (bs:List Bool) (vs:List PV) (K nv ns:Nat),vs[nv]?=some vcl->vs[ns]?=some (.sl 9 [[.int .i64 c.p.a,.int .i64 c.p.b,.int .i64 c.p.c,.int .i64 c.p.d,.int .i64 c.p.e,.int .i64 c.p.f,.msl ha 0 c.out.length c.out.length 6,got,.msl hb 0 c.out.length c.out.length 1]])->(PT.appM (.va nv) (.va ns) 9 65 k).ev Φ {i:=is,b:=bs,v:=vs,m:=σ++τ,k:=K}=k.ev Φ {i:=is,b:=bs,v:=vs++[vcl'],m:=M',k:=K}) /\
   M'[h]?=some (ckO s o vcl (.msl ha 0 c.out.length c.out.length 6) (.msl hb 0 c.out.length c.out.length 1) (.msl hd 0 c.out.length c.out.length 1) c.p false) /\
   (let M1:=M'.set h (ckO s o vcl' (.msl ha 0 c.out.length c.out.length 6) (.msl hb 0 c.out.length c.out.length 1) (.msl hd 0 c.out.length c.out.length 1) c.p false)
    let R2:=fun x=>R x\/x=ha\/x=hb\/(σ.length<=x/\x<M1.length)
    Low M1/\CSl M1 R2 vcl' (c.cl++[⟨c.p,c.ask,g,c.bid⟩])/\(∀x,R2 x->x<M1.length)/\¬R2 hd/\¬R2 h/\BSl M1 R2 got g/\M1[hd]?=some (.cells (c.out.map PV.bool) 4)/\σ.length<=M1.length/\(∀x,x<σ.length->¬F x->M1[x]?=σ[x]?))/\vcl'.one=true/\h<M'.length:=by
 have hal:=(Qn.1 k.ask).1;have hbl:=(Qn.1 k.bid).1;have hdl:=(Qn.1 k.out).1;have hhl:=k.lt;have la:=k.la;have lb:=k.lb;have hlen:(σ++τ).length=σ.length+τ.length:=Qv;have up:∀x,x<σ.length->(σ++τ)[x]?=σ[x]?:=fun x hx=>Qq hx
 obtain⟨vcl',M',a1,a2,a3,a4,a5,a6⟩:=d4z (M:=σ++τ) (R:=R) (R1:=fun x=>x=ha\/x=hb\/(σ.length<=x/\x<(σ++τ).length)) (r:=⟨c.p,c.ask,g,c.bid⟩) (k.cl.frame fun x hx=>up x (k.bd x hx)) (fun x hx=>by have:=k.bd x hx;omega)
  ⟨.msl ha 0 c.out.length c.out.length 6,got,.msl hb 0 c.out.length c.out.length 1,rfl,.inl ⟨ha,.inl rfl,by rw[la],by rw[up ha hal];exact k.ask⟩,hg.mono fun x hx=>.inr (.inr hx),⟨hb,.inr (.inl rfl),by rw[lb],by rw[up hb hbl];exact k.bid⟩⟩
  (fun x hx=>by
   rcases hx with rfl|rfl|hx
   ·exact⟨k.na,by omega⟩
   ·exact⟨k.nb,by omega⟩
   ·exact⟨fun h=>by have:=k.bd x h;omega,hx.2⟩) hcl
 have hMh:M'[h]?=some (ckO s o vcl (.msl ha 0 c.out.length c.out.length 6) (.msl hb 0 c.out.length c.out.length 1) (.msl hd 0 c.out.length c.out.length 1) c.p false):=by
  rw[a4 h (by omega) k.nh,up h hhl,k.obj,hov]
 have hhM:h<M'.length:=by omega
 refine⟨vcl',M',a1,hMh,?_,a6,hhM⟩;have hkeep:∀x,x<M'.length->x≠h->(M'.set h (ckO s o vcl' (.msl ha 0 c.out.length c.out.length 6) (.msl hb 0 c.out.length c.out.length 1) (.msl hd 0 c.out.length c.out.length 1) c.p false))[x]?=M'[x]?:=fun x _ hne=>Qh (Ne.symm hne)
 have hR2h:¬(R h\/h=ha\/h=hb\/(σ.length<=h/\h<M'.length)):=by
  rintro (hx|hx|hx|hx)
  ·exact k.nh hx
  ·exact k.a_h hx.symm
  ·exact k.b_h hx.symm
  ·omega
 have hM':=a5 hM;have ho2:=a5A.1 (hM'.get hMh)
 have hvl:vcl'.low M'.length=true:=a2.low fun x hx=>by
  rcases hx with hx|hx|hx
  ·have:=k.bd x hx;omega
  ·rcases hx with rfl|rfl|hx<;>omega
  ·exact hx.2
 simp only[Qp];refine⟨Low.set hM' (a5A.2 ⟨ho2.1,ho2.2.1,ho2.2.2.1,ho2.2.2.2.1,hvl,ho2.2.2.2.2.2.1,ho2.2.2.2.2.2.2.1,ho2.2.2.2.2.2.2.2⟩),?_,fun x hx=>?_,?_,hR2h,?_,?_,by omega,fun x hx hn=>?_⟩
 ·have step:CSl M' (fun x=>R x\/x=ha\/x=hb\/(σ.length<=x/\x<M'.length)) vcl' (c.cl++[⟨c.p,c.ask,g,c.bid⟩]):=a2.mono fun x hx=>by
   rcases hx with hx|(rfl|rfl|hx)|hx
   ·exact .inl hx
   ·exact .inr (.inl rfl)
   ·exact .inr (.inr (.inl rfl))
   ·exact .inr (.inr (.inr ⟨hx.1,by omega⟩))
   ·exact .inr (.inr (.inr ⟨by omega,hx.2⟩))
  exact step.frame fun x hx=>Qh (by rintro rfl;exact hR2h hx)
 ·rcases hx with hx|rfl|rfl|hx
  ·have:=k.bd x hx;omega
  ·omega
  ·omega
  ·exact hx.2
 ·rintro (hx|hx|hx|hx)
  ·exact k.nd hx
  ·exact k.a_d hx.symm
  ·exact k.nbd hx.symm
  ·omega
 ·have g1:BSl M' (fun x=>σ.length<=x/\x<(σ++τ).length) got g:=hg.frame fun x hx=>a4 x hx.2 fun h=>by have:=k.bd x h;omega
  have g2:BSl M' (fun x=>R x\/x=ha\/x=hb\/(σ.length<=x/\x<M'.length)) got g:=g1.mono fun x hx=>.inr (.inr (.inr ⟨hx.1,by omega⟩))
  exact g2.frame fun x hx=>Qh (by rintro rfl;exact hR2h hx)
 ·rw[Qh k.d_h.symm,a4 hd (by omega) k.nd,up hd hdl];exact k.out
 ·rw[Qh (by rintro rfl;exact hn ((hF _).2 (.inl rfl))),a4 x (by omega) (fun h=>hn ((hF _).2 (.inr (.inr (.inr (.inr h)))))),up x hx]
section
variable {s:St}{cs ad:List Tri}(hs:SuOk s cs ad)(hv:a4E s.ps s.bs cs ad=0){o:Po}(ho:o.ok){σ:List MO}{h:Nat}{F:Nat->Prop}{c:Ck}(K:a9o s o σ h F c)(hσ:Low σ)(hk:CkOk s.bs.length c)(n:Nat)
include hs hv ho K hσ hk
set_option maxHeartbeats 4000000 in
theorem d0J(hn:2000<=n):c0a s o σ h F (c.close s.ps o).1 (.tup [.bool (c.close s.ps o).2.1,.int .i64 (c.close s.ps o).2.2]) (a0B Tab n a7g [.ref h 0] σ):=by
 obtain⟨n,rfl⟩:∃k,n=k+4:=⟨n-4,by omega⟩;obtain⟨l1,l2,l3,l4,l5⟩:=SuOk.lens hv;have hr:=(a5B (a9K hv).1).2;have hN:=hk.out;have K0:=K;obtain⟨vcl,ha,hb,hd,R,k,hF⟩:=K;have hob:=k.obj;have r0:∀is bs vs k,a0e {i:=is,b:=bs,v:=vs,m:=σ,k:=k} false 4 (.obj h 0)=some [s.P,s.B,s.C,s.A]:=a0F hob 0 4 (by decide);have r01:∀is bs vs k,a0e {i:=is,b:=bs,v:=vs,m:=σ,k:=k} false 1 (.obj h 0)=some [s.P]:=a0F hob 0 1 (by decide);have r4:∀is bs vs k,a0e {i:=is,b:=bs,v:=vs,m:=σ,k:=k} false 4 (.obj h 4)=some [.int .i64 o.st,.int .i64 o.pc,.int .i64 o.un,.int .i64 o.ru]:=a0F hob 4 4 (by decide);have r6:∀is bs vs k,a0e {i:=is,b:=bs,v:=vs,m:=σ,k:=k} false 1 (.obj h 6)=some [.int .i64 o.un]:=a0F hob 6 1 (by decide);have r7:∀is bs vs k,a0e {i:=is,b:=bs,v:=vs,m:=σ,k:=k} false 1 (.obj h 7)=some [.int .i64 o.ru]:=a0F hob 7 1 (by decide);have r8:∀is bs vs k,a0e {i:=is,b:=bs,v:=vs,m:=σ,k:=k} false 1 (.obj h 8)=some [vcl]:=a0F hob 8 1 (by decide);have r9:∀is bs vs k,a0e {i:=is,b:=bs,v:=vs,m:=σ,k:=k} false 6 (.obj h 9)=some [.int .i64 c.p.a,.int .i64 c.p.b,.int .i64 c.p.c,.int .i64 c.p.d,.int .i64 c.p.e,.int .i64 c.p.f]:=a0F hob 9 6 (by decide);have r15:∀is bs vs k,a0e {i:=is,b:=bs,v:=vs,m:=σ,k:=k} false 1 (.obj h 15)=some [.msl ha 0 c.out.length c.out.length 6]:=a0F hob 15 1 (by decide);have r16:∀is bs vs k,a0e {i:=is,b:=bs,v:=vs,m:=σ,k:=k} false 1 (.obj h 16)=some [.msl hb 0 c.out.length c.out.length 1]:=a0F hob 16 1 (by decide);have r17:∀is bs vs k,a0e {i:=is,b:=bs,v:=vs,m:=σ,k:=k} false 1 (.obj h 17)=some [.msl hd 0 c.out.length c.out.length 1]:=a0F hob 17 1 (by decide);have r18:∀is bs vs k,a0e {i:=is,b:=bs,v:=vs,m:=σ,k:=k} false 1 (.obj h 18)=some [.bool c.over]:=a0F hob 18 1 (by decide)
 have go:∀r,(PT.ev (a0B Tab (n+3)) a2w {i:=[],b:=[],v:=[.ref h 0],m:=σ,k:=σ.length}).bind (fun x=>match x with|.ret r σ=>some (r,σ)|.jump q' ρ'=>Sys.loop (a0B Tab (n+3)) d8T (n+3) q' ρ')=some r->a0B Tab (n+4) a7g [.ref h 0] σ=some r:=fun r hr=>by
  rw[a0B];simp only[b5F,Q0,Sys.run];show ((a0E [.sh (.one _)] _).bind _)=_;simp only[a0E,a0x,a0w,Q1,Q0,Q8,if_true,a7s];exact hr
 cases hov:c.over with
 | true =>
  have hce:c.close s.ps o=(c,false,10):=by unfold Ck.close;rw[hov,if_pos rfl]
  rw[hce];refine⟨σ,F,go _ ?_,K0,Adv.refl hσ⟩;rw[hov] at r18;simp only[a2w,↓reduceIte,PT.ev,BE.safe,BE.pe,IE.pe,PEnv.at,Q3,Q5,Q7,Qd,a0y,a0A,QL,Qe,Qf,Nat.reduceAdd,Q2,a0w,a0p,a0x,Q1,Q0,PEnv.push,Q6,Q4,SV.pvs,SV.pv,a3w,a2y,a3t,a3v,Qg,r18,a0C,true_or]
 | false =>
 rw[hov] at r18;rw[c6g c s.ps o hov];obtain⟨_,_,p3⟩:=a0D hs.P;obtain⟨gk,gl⟩:=c7R (s:=s) (o:=o) hk
 have hsp:(a1w s.ps).ok:=by
  have:=b1s hr;simp only[W6.wide] at this;simp only[W6.ok]
  have hw:∀i:Nat,0<=((s.ps.map Pr.s)[i]?).getD 0/\((s.ps.map Pr.s)[i]?).getD 0<=4:=fun i=>by
   rw[QQ];cases hx:s.ps[i]? with
   | none=>simp
   | some x=>have:=hr x (Qt hx);simp only[Pr.rng] at this;simp;omega
  have a0:=hw 0;have a1:=hw 1;have a2:=hw 2;have a3:=hw 3;have a4:=hw 4;have a5:=hw 5;exact⟨a0.1,a0.2,a1.1,a1.2,a2.1,a2.2,a3.1,a3.2,a4.1,a4.2,a5.1,a5.2⟩
 have c1:=b2f σ s.ps s.P hs.P l1 (n+3) (by omega);have hask:BSl σ (fun x=>x=ha) (.msl ha 0 c.out.length c.out.length 6) c.ask:=.inl ⟨ha,rfl,by rw[k.la],k.ask⟩;have c2:=a2Y hask.cp (by rw[hk.la];omega) (n+3) (by omega);rw[k.la] at c2;simp only[a5h,a3r,pv6] at c1 c2;have hc:=k.cl.rd;have hlowA:Low (σ++[.cells (c.ask.map W6.pv).flatten 51]):=Low.app hσ (a5K _ _ _);have hobA:(σ++[.cells (c.ask.map W6.pv).flatten 51])[h]?=some (ckO s o vcl (.msl ha 0 c.out.length c.out.length 6) (.msl hb 0 c.out.length c.out.length 1) (.msl hd 0 c.out.length c.out.length 1) c.p c.over):=a1R hob;rw[hov] at hobA;have u0:∀is bs vs k,a0e {i:=is,b:=bs,v:=vs,m:=σ++[.cells (c.ask.map W6.pv).flatten 51],k:=k} false 4 (.obj h 0)=some [s.P,s.B,s.C,s.A]:=a0F hobA 0 4 (by decide);have u01:∀is bs vs k,a0e {i:=is,b:=bs,v:=vs,m:=σ++[.cells (c.ask.map W6.pv).flatten 51],k:=k} false 1 (.obj h 0)=some [s.P]:=a0F hobA 0 1 (by decide);have u4:∀is bs vs k,a0e {i:=is,b:=bs,v:=vs,m:=σ++[.cells (c.ask.map W6.pv).flatten 51],k:=k} false 4 (.obj h 4)=some [.int .i64 o.st,.int .i64 o.pc,.int .i64 o.un,.int .i64 o.ru]:=a0F hobA 4 4 (by decide);have u6:∀is bs vs k,a0e {i:=is,b:=bs,v:=vs,m:=σ++[.cells (c.ask.map W6.pv).flatten 51],k:=k} false 1 (.obj h 6)=some [.int .i64 o.un]:=a0F hobA 6 1 (by decide);have u7:∀is bs vs k,a0e {i:=is,b:=bs,v:=vs,m:=σ++[.cells (c.ask.map W6.pv).flatten 51],k:=k} false 1 (.obj h 7)=some [.int .i64 o.ru]:=a0F hobA 7 1 (by decide);have u8:∀is bs vs k,a0e {i:=is,b:=bs,v:=vs,m:=σ++[.cells (c.ask.map W6.pv).flatten 51],k:=k} false 1 (.obj h 8)=some [vcl]:=a0F hobA 8 1 (by decide);have u9:∀is bs vs k,a0e {i:=is,b:=bs,v:=vs,m:=σ++[.cells (c.ask.map W6.pv).flatten 51],k:=k} false 6 (.obj h 9)=some [.int .i64 c.p.a,.int .i64 c.p.b,.int .i64 c.p.c,.int .i64 c.p.d,.int .i64 c.p.e,.int .i64 c.p.f]:=a0F hobA 9 6 (by decide);have u15:∀is bs vs k,a0e {i:=is,b:=bs,v:=vs,m:=σ++[.cells (c.ask.map W6.pv).flatten 51],k:=k} false 1 (.obj h 15)=some [.msl ha 0 c.out.length c.out.length 6]:=a0F hobA 15 1 (by decide);have u16:∀is bs vs k,a0e {i:=is,b:=bs,v:=vs,m:=σ++[.cells (c.ask.map W6.pv).flatten 51],k:=k} false 1 (.obj h 16)=some [.msl hb 0 c.out.length c.out.length 1]:=a0F hobA 16 1 (by decide);have u17:∀is bs vs k,a0e {i:=is,b:=bs,v:=vs,m:=σ++[.cells (c.ask.map W6.pv).flatten 51],k:=k} false 1 (.obj h 17)=some [.msl hd 0 c.out.length c.out.length 1]:=a0F hobA 17 1 (by decide);have u18:∀is bs vs k,a0e {i:=is,b:=bs,v:=vs,m:=σ++[.cells (c.ask.map W6.pv).flatten 51],k:=k} false 1 (.obj h 18)=some [.bool false]:=a0F hobA 18 1 (by decide)
 have fin:∀(τ:List MO) (hM:Low (σ++τ)) {got:PV} (hg:BSl (σ++τ) (fun x=>σ.length<=x/\x<(σ++τ).length) got (c.gots s.ps o)),
   ∃vcl' M',(∀(Φ:Fns) (k:PT) (is:List Int) (bs:List Bool) (vs:List PV) (K nv ns:Nat),vs[nv]?=some vcl->vs[ns]?=some (.sl 9 [[.int .i64 c.p.a,.int .i64 c.p.b,.int .i64 c.p.c,.int .i64 c.p.d,.int .i64 c.p.e,.int .i64 c.p.f,.msl ha 0 c.out.length c.out.length 6,got,.msl hb 0 c.out.length c.out.length 1]])->(PT.appM (.va nv) (.va ns) 9 65 k).ev Φ {i:=is,b:=bs,v:=vs,m:=σ++τ,k:=K}=k.ev Φ {i:=is,b:=bs,v:=vs++[vcl'],m:=M',k:=K})/\vcl'.one=true /\
    M'[h]?=some (.cells (ckL s o vcl (.msl ha 0 c.out.length c.out.length 6) (.msl hb 0 c.out.length c.out.length 1) (.msl hd 0 c.out.length c.out.length 1) c.p false) 79) /\
    ∀fuel res,(∀x,d8T.loop (a0B Tab (n+3)) (fuel+2) 1 (b8b σ.length (M'.set h (.cells (ckL s o vcl' (.msl ha 0 c.out.length c.out.length 6) (.msl hb 0 c.out.length c.out.length 1) (.msl hd 0 c.out.length c.out.length 1) c.p false) 79)) (a1w s.ps) h got)=some x->res=some x) ->
     c0a s o σ h F (c.closeTo o (c.ex s.ps o) (c.cl++[⟨c.p,c.ask,c.gots s.ps o,c.bid⟩])).1 (.tup [.bool (c.closeTo o (c.ex s.ps o) (c.cl++[⟨c.p,c.ask,c.gots s.ps o,c.bid⟩])).2.1,.int .i64 (c.closeTo o (c.ex s.ps o) (c.cl++[⟨c.p,c.ask,c.gots s.ps o,c.bid⟩])).2.2]) res:=by
  intro τ hM got hg;obtain⟨vcl',M',a1,a2,⟨b1,b2,b3,b4,b5,b6,b7,b8,b9⟩,a3,a4⟩:=d0c (F:=F) k hF (by have:=hk.cl;omega) τ hM hg hov;refine⟨vcl',M',a1,a3,a2,fun fuel res hres=>?_⟩;obtain⟨M2,e1,e2,e3,e4,e5⟩:=c8U ho (h:=h) (hd:=hd) (c:=c) hk.p (n+3) σ.length (QP a4) b1 b2 b3 b4 b5 k.d_h b6 gk (by rw[gl];exact l3) b7 (by omega) (hsp.sm.mono (by decide)) (by omega) fuel;refine⟨M2,_,hres _ e1,⟨vcl',_,_,hd,_,e2,fun x=>Iff.rfl⟩,?_⟩;refine⟨by omega,fun x hx hn=>?_,fun x hx=>?_,e3⟩
  ·rw[e5 x (by omega) (by rintro rfl;exact hn ((hF _).2 (.inl rfl))),b9 x hx hn]
  ·rcases hx with rfl|rfl|rfl|rfl|hx
   ·exact .inl ((hF _).2 (.inl rfl))
   ·exact .inr b8
   ·exact .inr (by omega)
   ·exact .inl ((hF _).2 (.inr (.inr (.inr (.inl rfl)))))
   ·rcases hx with hx|rfl|rfl|hx
    ·exact .inl ((hF _).2 (.inr (.inr (.inr (.inr hx)))))
    ·exact .inl ((hF _).2 (.inr (.inl rfl)))
    ·exact .inl ((hF _).2 (.inr (.inr (.inl rfl))))
    ·exact .inr hx.1
 have t1:(0:Nat)+1<=1000000:=by decide
 by_cases hcl:c.cl=[]
 ·
  have hz:ltB 0 (c.cl.length:Int)=false:=by rw[hcl];rfl
  have hgo:c.gots s.ps o=c.ask:=by unfold Ck.gots;rw[if_pos hcl]
  obtain⟨vcl',M',a1,a3,a2,a4⟩:=fin [.cells (c.ask.map W6.pv).flatten 51] hlowA (got:=.msl σ.length 0 c.out.length c.out.length 6) (by rw[hgo];exact .inl ⟨σ.length,⟨Qm _,by simp⟩,by rw[k.la],by simp⟩);refine a4 (n+1) _ fun x hx=>go x ?_
  have E:PT.ev (a0B Tab (n+3)) a2w {i:=[],b:=[],v:=[.ref h 0],m:=σ,k:=σ.length}=some (.jump 1 (b8b σ.length (M'.set h (.cells (ckL s o vcl' (.msl ha 0 c.out.length c.out.length 6) (.msl hb 0 c.out.length c.out.length 1) (.msl hd 0 c.out.length c.out.length 1) c.p false) 79)) (a1w s.ps) h (.msl σ.length 0 c.out.length c.out.length 6))):=by
   simp only[a2w,↓reduceIte,a0t,a0r,a0h,a0k,a0l,BE.safe,BE.pe,IE.pe,PEnv.at,Q3,Q5,Q7,Qd,a0y,a0A,QL,Qe,Qf,Nat.reduceAdd,Q2,a0w,a0p,a0x,Q1,Q0,PEnv.push,Q6,Q4,Q8,SV.pvs,SV.pv,a3w,a2y,a3t,a3v,Qg,r18,r01,p3,c1,r15,a6s,c2,u8,hc.one,hc.kind,hc.len,hz,u9,u15,u16]
   repeat' (first|with_reducible rfl|apply a4g|simp only[↓reduceIte,a0h,a0k,a0q,a0b,a0m,BE.safe,BE.pe,IE.pe,PEnv.at,Q3,Q5,Q7,Qd,a0y,a0A,Qe,Qf,Nat.reduceAdd,a0w,Q1,Q0,PEnv.push,Q6,Q4,SV.pvs,SV.pv,BE.all,Q9,Qb,a1h,X5,X6,X7,X8,a2y,Qg,u8,hc.one,a1,a2,a7e,Nat.reduceLeDiff,c6H,b8b,]|unfold a5P|unfold a5L|unfold a5O|unfold a5H|unfold a5I|unfold a5J|unfold a5M|unfold a5E|unfold a5N|unfold a5t)
  rw[E];exact hx
 ·
  have hpos:0<c.cl.length:=Xv.2 hcl;have hz:ltB 0 (c.cl.length:Int)=true:=by rw[a0O];omega
  have hgo:c.gots s.ps o=apW o.un (a1w s.ps) c.prev c.ask:=by unfold Ck.gots;rw[if_neg hcl]
  have hlA:(σ++[MO.cells (c.ask.map W6.pv).flatten 51]).length=σ.length+1:=by simp
  have c3:=c5J k (n+3) (by omega) (by have:=hk.cl;omega) hcl (fun r hr=>by rw[(hk.rn r hr).2.2.1,hN]) [.cells (c.ask.map W6.pv).flatten 51] (by omega);rw[hlA] at c3;obtain⟨r,hrr⟩:=a0P (show c.cl.length-1<c.cl.length by omega);have hlast:c.cl.getLast?=some r:=by rw[Xw];exact hrr
  obtain⟨y1,y2,y3,y4,y5,y6⟩:=hk.rn r (Qt hrr)
  have hpv:c.prev=prN r.got c.out c.out.length:=by
   rw[c1Q c (by rw[hlast];simp only[Q1,Xx];rw[y3,hk.out];exact Qm _),hlast];rfl
  have hpl:c.prev.length=c.out.length:=by rw[hpv,b6n,y3,hN]
  have hpo:∀w∈c.prev,w.ok:=by rw[hpv];exact d0m y6
  have hpg:(pvM σ [.cells (c.ask.map W6.pv).flatten 51] c.prev)[σ.length+1]?=some (.cells (c.prev.map W6.pv).flatten 51):=by simp[pvM]
  have hpvl:(pvM σ [.cells (c.ask.map W6.pv).flatten 51] c.prev).length=σ.length+2:=by simp[pvM]
  have hal:=(Qn.1 k.ask).1;have hask2:BSl (pvM σ [.cells (c.ask.map W6.pv).flatten 51] c.prev) (fun x=>x=ha) (.msl ha 0 c.out.length c.out.length 6) c.ask:=.inl ⟨ha,rfl,by rw[k.la],a1R (a1R k.ask)⟩;have c4:=c8W (pvM σ [.cells (c.ask.map W6.pv).flatten 51] c.prev) (n+3) o.un (a1w s.ps) (σ.length+1) _ (.msl ha 0 c.out.length c.out.length 6) c.prev c.ask hpg (by unfold Po.ok at ho;omega) hsp hask2 (by rw[k.la,hpl]) (by rw[hpl,hN];exact l2) (by rw[hpl,hN];exact l3) hk.ok hpo (by omega);rw[hpl,hpvl,<- hgo] at c4;have hM3:aoM (pvM σ [.cells (c.ask.map W6.pv).flatten 51] c.prev) (c.gots s.ps o)=σ++[.cells (c.ask.map W6.pv).flatten 51,.cells (c.prev.map W6.pv).flatten 51,.row ((c.gots s.ps o).map W6.pv) 6 51]:=by simp[aoM,pvM]
  rw[hM3] at c4;simp only[a8X,b1U,pv6] at c3 c4;have hobB:(pvM σ [.cells (c.ask.map W6.pv).flatten 51] c.prev)[h]?=some (ckO s o vcl (.msl ha 0 c.out.length c.out.length 6) (.msl hb 0 c.out.length c.out.length 1) (.msl hd 0 c.out.length c.out.length 1) c.p false):=a1R hobA;have hobC:(σ++[.cells (c.ask.map W6.pv).flatten 51,.cells (c.prev.map W6.pv).flatten 51,.row ((c.gots s.ps o).map W6.pv) 6 51])[h]?=some (ckO s o vcl (.msl ha 0 c.out.length c.out.length 6) (.msl hb 0 c.out.length c.out.length 1) (.msl hd 0 c.out.length c.out.length 1) c.p false):=by rw[<- hov];exact a1R hob
  have hlowC:Low (σ++[.cells (c.ask.map W6.pv).flatten 51,.cells (c.prev.map W6.pv).flatten 51,.row ((c.gots s.ps o).map W6.pv) 6 51]):=by
   rw[<- hM3];exact Low.app (Low.app hlowA (a5K _ _ _)) (d1F _ _ _)
  obtain⟨vcl',M',a1,a3,a2,a4⟩:=fin [.cells (c.ask.map W6.pv).flatten 51,.cells (c.prev.map W6.pv).flatten 51,.row ((c.gots s.ps o).map W6.pv) 6 51] hlowC (got:=.rsl (σ.length+2) c.out.length 6) (.inr ⟨σ.length+2,⟨by omega,by simp⟩,by rw[gl,hN],by simp⟩);have w0:∀is bs vs k,a0e {i:=is,b:=bs,v:=vs,m:=pvM σ [.cells (c.ask.map W6.pv).flatten 51] c.prev,k:=k} false 4 (.obj h 0)=some [s.P,s.B,s.C,s.A]:=a0F hobB 0 4 (by decide);have w01:∀is bs vs k,a0e {i:=is,b:=bs,v:=vs,m:=pvM σ [.cells (c.ask.map W6.pv).flatten 51] c.prev,k:=k} false 1 (.obj h 0)=some [s.P]:=a0F hobB 0 1 (by decide);have w4:∀is bs vs k,a0e {i:=is,b:=bs,v:=vs,m:=pvM σ [.cells (c.ask.map W6.pv).flatten 51] c.prev,k:=k} false 4 (.obj h 4)=some [.int .i64 o.st,.int .i64 o.pc,.int .i64 o.un,.int .i64 o.ru]:=a0F hobB 4 4 (by decide);have w6:∀is bs vs k,a0e {i:=is,b:=bs,v:=vs,m:=pvM σ [.cells (c.ask.map W6.pv).flatten 51] c.prev,k:=k} false 1 (.obj h 6)=some [.int .i64 o.un]:=a0F hobB 6 1 (by decide);have w7:∀is bs vs k,a0e {i:=is,b:=bs,v:=vs,m:=pvM σ [.cells (c.ask.map W6.pv).flatten 51] c.prev,k:=k} false 1 (.obj h 7)=some [.int .i64 o.ru]:=a0F hobB 7 1 (by decide);have w8:∀is bs vs k,a0e {i:=is,b:=bs,v:=vs,m:=pvM σ [.cells (c.ask.map W6.pv).flatten 51] c.prev,k:=k} false 1 (.obj h 8)=some [vcl]:=a0F hobB 8 1 (by decide);have w9:∀is bs vs k,a0e {i:=is,b:=bs,v:=vs,m:=pvM σ [.cells (c.ask.map W6.pv).flatten 51] c.prev,k:=k} false 6 (.obj h 9)=some [.int .i64 c.p.a,.int .i64 c.p.b,.int .i64 c.p.c,.int .i64 c.p.d,.int .i64 c.p.e,.int .i64 c.p.f]:=a0F hobB 9 6 (by decide);have w15:∀is bs vs k,a0e {i:=is,b:=bs,v:=vs,m:=pvM σ [.cells (c.ask.map W6.pv).flatten 51] c.prev,k:=k} false 1 (.obj h 15)=some [.msl ha 0 c.out.length c.out.length 6]:=a0F hobB 15 1 (by decide);have w16:∀is bs vs k,a0e {i:=is,b:=bs,v:=vs,m:=pvM σ [.cells (c.ask.map W6.pv).flatten 51] c.prev,k:=k} false 1 (.obj h 16)=some [.msl hb 0 c.out.length c.out.length 1]:=a0F hobB 16 1 (by decide);have w17:∀is bs vs k,a0e {i:=is,b:=bs,v:=vs,m:=pvM σ [.cells (c.ask.map W6.pv).flatten 51] c.prev,k:=k} false 1 (.obj h 17)=some [.msl hd 0 c.out.length c.out.length 1]:=a0F hobB 17 1 (by decide);have w18:∀is bs vs k,a0e {i:=is,b:=bs,v:=vs,m:=pvM σ [.cells (c.ask.map W6.pv).flatten 51] c.prev,k:=k} false 1 (.obj h 18)=some [.bool false]:=a0F hobB 18 1 (by decide);have z0:∀is bs vs k,a0e {i:=is,b:=bs,v:=vs,m:=σ++[.cells (c.ask.map W6.pv).flatten 51,.cells (c.prev.map W6.pv).flatten 51,.row ((c.gots s.ps o).map W6.pv) 6 51],k:=k} false 4 (.obj h 0)=some [s.P,s.B,s.C,s.A]:=a0F hobC 0 4 (by decide);have z01:∀is bs vs k,a0e {i:=is,b:=bs,v:=vs,m:=σ++[.cells (c.ask.map W6.pv).flatten 51,.cells (c.prev.map W6.pv).flatten 51,.row ((c.gots s.ps o).map W6.pv) 6 51],k:=k} false 1 (.obj h 0)=some [s.P]:=a0F hobC 0 1 (by decide);have z4:∀is bs vs k,a0e {i:=is,b:=bs,v:=vs,m:=σ++[.cells (c.ask.map W6.pv).flatten 51,.cells (c.prev.map W6.pv).flatten 51,.row ((c.gots s.ps o).map W6.pv) 6 51],k:=k} false 4 (.obj h 4)=some [.int .i64 o.st,.int .i64 o.pc,.int .i64 o.un,.int .i64 o.ru]:=a0F hobC 4 4 (by decide);have z6:∀is bs vs k,a0e {i:=is,b:=bs,v:=vs,m:=σ++[.cells (c.ask.map W6.pv).flatten 51,.cells (c.prev.map W6.pv).flatten 51,.row ((c.gots s.ps o).map W6.pv) 6 51],k:=k} false 1 (.obj h 6)=some [.int .i64 o.un]:=a0F hobC 6 1 (by decide);have z7:∀is bs vs k,a0e {i:=is,b:=bs,v:=vs,m:=σ++[.cells (c.ask.map W6.pv).flatten 51,.cells (c.prev.map W6.pv).flatten 51,.row ((c.gots s.ps o).map W6.pv) 6 51],k:=k} false 1 (.obj h 7)=some [.int .i64 o.ru]:=a0F hobC 7 1 (by decide);have z8:∀is bs vs k,a0e {i:=is,b:=bs,v:=vs,m:=σ++[.cells (c.ask.map W6.pv).flatten 51,.cells (c.prev.map W6.pv).flatten 51,.row ((c.gots s.ps o).map W6.pv) 6 51],k:=k} false 1 (.obj h 8)=some [vcl]:=a0F hobC 8 1 (by decide);have z9:∀is bs vs k,a0e {i:=is,b:=bs,v:=vs,m:=σ++[.cells (c.ask.map W6.pv).flatten 51,.cells (c.prev.map W6.pv).flatten 51,.row ((c.gots s.ps o).map W6.pv) 6 51],k:=k} false 6 (.obj h 9)=some [.int .i64 c.p.a,.int .i64 c.p.b,.int .i64 c.p.c,.int .i64 c.p.d,.int .i64 c.p.e,.int .i64 c.p.f]:=a0F hobC 9 6 (by decide);have z15:∀is bs vs k,a0e {i:=is,b:=bs,v:=vs,m:=σ++[.cells (c.ask.map W6.pv).flatten 51,.cells (c.prev.map W6.pv).flatten 51,.row ((c.gots s.ps o).map W6.pv) 6 51],k:=k} false 1 (.obj h 15)=some [.msl ha 0 c.out.length c.out.length 6]:=a0F hobC 15 1 (by decide);have z16:∀is bs vs k,a0e {i:=is,b:=bs,v:=vs,m:=σ++[.cells (c.ask.map W6.pv).flatten 51,.cells (c.prev.map W6.pv).flatten 51,.row ((c.gots s.ps o).map W6.pv) 6 51],k:=k} false 1 (.obj h 16)=some [.msl hb 0 c.out.length c.out.length 1]:=a0F hobC 16 1 (by decide);have z17:∀is bs vs k,a0e {i:=is,b:=bs,v:=vs,m:=σ++[.cells (c.ask.map W6.pv).flatten 51,.cells (c.prev.map W6.pv).flatten 51,.row ((c.gots s.ps o).map W6.pv) 6 51],k:=k} false 1 (.obj h 17)=some [.msl hd 0 c.out.length c.out.length 1]:=a0F hobC 17 1 (by decide);have z18:∀is bs vs k,a0e {i:=is,b:=bs,v:=vs,m:=σ++[.cells (c.ask.map W6.pv).flatten 51,.cells (c.prev.map W6.pv).flatten 51,.row ((c.gots s.ps o).map W6.pv) 6 51],k:=k} false 1 (.obj h 18)=some [.bool false]:=a0F hobC 18 1 (by decide);generalize (σ++[MO.cells (c.ask.map W6.pv).flatten 51,MO.cells (c.prev.map W6.pv).flatten 51,MO.row ((c.gots s.ps o).map W6.pv) 6 51])=M3 at *
  have oR:PV.one (.rsl (σ.length+2) c.out.length 6)=true:=rfl;refine a4 n _ fun x hx=>go x ?_
  have E:PT.ev (a0B Tab (n+3)) a2w {i:=[],b:=[],v:=[.ref h 0],m:=σ,k:=σ.length}=some (.jump 0 {i:=[0,(a1w s.ps).a,(a1w s.ps).b,(a1w s.ps).c,(a1w s.ps).d,(a1w s.ps).e,(a1w s.ps).f],b:=[],v:=[.ref h 0,.rsl (σ.length+2) c.out.length 6],m:=M3,k:=σ.length}):=by
   simp only[a2w,↓reduceIte,a0t,a0r,a0h,a0k,a0l,BE.safe,BE.pe,IE.pe,PEnv.at,Q3,Q5,Q7,Qd,a0y,a0A,QL,Qe,Qf,Nat.reduceAdd,Q2,a0w,a0p,a0x,Q1,Q0,PEnv.push,Q6,Q4,Q8,SV.pvs,SV.pv,a3w,a2y,a3t,a3v,Qg,r18,r01,p3,c1,r15,a6s,c2,u8,hc.one,hc.kind,hc.len,hz]
   repeat' (first|with_reducible rfl|apply a4g|simp only[↓reduceIte,a0k,a0l,a0m,IE.pe,Q3,Q5,Q7,Qd,a0y,a0A,Qe,Qf,a0w,a0p,a0x,Q1,Q0,PEnv.push,Q6,Q4,Q8,SV.pvs,SV.pv,BE.all,Q9,Qb,Qg,u6,u15,w6,w15,c3,a6s,c4,a0U,oR]|unfold a5P|unfold a5L|unfold a5O|unfold a5H|unfold a5I|unfold a5J|unfold a5M|unfold a5E|unfold a5N|unfold a5t)
  have E2:PT.ev (a0B Tab (n+3)) a4U {i:=[0,(a1w s.ps).a,(a1w s.ps).b,(a1w s.ps).c,(a1w s.ps).d,(a1w s.ps).e,(a1w s.ps).f],b:=[],v:=[.ref h 0,.rsl (σ.length+2) c.out.length 6],m:=M3,k:=σ.length}=some (.jump 1 (b8b σ.length (M'.set h (.cells (ckL s o vcl' (.msl ha 0 c.out.length c.out.length 6) (.msl hb 0 c.out.length c.out.length 1) (.msl hd 0 c.out.length c.out.length 1) c.p false) 79)) (a1w s.ps) h (.rsl (σ.length+2) c.out.length 6))):=by
   have e0:eqB 0 0=true:=rfl;simp only[a4U,↓reduceIte,a0r,a0h,a0k,BE.safe,BE.pe,IE.pe,PEnv.at,Q3,Q7,a0y,a0A,Qe,Qf,Nat.reduceAdd,Q2,a0w,Q1,Q0,PEnv.push,Q6,Q4,Q8,Qk,e0,a2y,Qg,z9,z15,z16,a6s]
   repeat' (first|with_reducible rfl|apply a4g|simp only[↓reduceIte,a0h,a0k,a0q,a0b,a0m,BE.safe,BE.pe,IE.pe,PEnv.at,Q3,Q5,Q7,Qd,a0y,a0A,Qe,Qf,Nat.reduceAdd,a0w,Q1,Q0,PEnv.push,Q6,Q4,SV.pvs,SV.pv,BE.all,Q9,Qb,a1h,X5,X6,X7,X8,a2y,Qg,z8,hc.one,a1,a2,a7e,Nat.reduceLeDiff,c6H,b8b,]|unfold a8t|unfold a8v)
  rw[E,Q0];dsimp only;rw[Sys.loop,show d8T.loops[0]?=some a4U from rfl,Q0,E2];exact hx
end
theorem d0H{l:List W6}(h:∀w∈l,w.ok){i:Nat}{x:W6}(hx:x.ok):∀w∈l.set i x,w.ok:=fun w hw=>by
 rcases QU hw with hw|rfl
 ·exact h w hw
 ·exact hx
theorem c0c(N:Nat):∀w∈Qj N w0,w.ok:=fun w hw=>by rw[(List.mem_replicate.1 hw).2];exact c5x
theorem d4L{ps:List Pr}(hr:∀x∈ps,x.rng)(N:Nat):CkOk N (ck0 ps N) :=
 ⟨by simp[ck0],by simp[ck0],by simp[ck0],c0c N,d1s hr,fun r hr=>by simp[ck0] at hr,by simp[ck0],fun _=>by simp[ck0]⟩
section
variable {N:Nat}{c:Ck}(hk:CkOk N c)
include hk
theorem d3i:CkOk N c.stop.1:=by
 unfold Ck.stop;split
 ·exact hk
 ·exact⟨hk.out,by simp[Ck.blank,hk.out],by simp[Ck.blank,hk.out],c0c _,hk.p,hk.rn,hk.cl,fun h=>by simp at h⟩
theorem d2Z(i:Int):CkOk N (c.drop i).1:=by
 unfold Ck.drop;split
 ·split
  ·exact hk
  ·exact⟨by rw[Qp];exact hk.out,by rw[Qp];exact hk.la,by rw[Qp];exact hk.lb,d0H hk.ok c5x,hk.p,hk.rn,hk.cl,hk.ov⟩
 ·exact hk
theorem d1W(r:Int):CkOk N (c.reset r).1:=by
 unfold Ck.reset;split
 ·exact hk
 split
 ·exact hk
 split
 ·exact hk
 rename_i h1 h2 h3;refine⟨hk.out,by simp[Ck.blank,hk.out],by simp[Ck.blank,hk.out],c0c _,?_,fun q hq=>hk.rn q (QY hq),?_,fun _=>?_⟩
 ·show (((c.cl[r.toNat]?).map Rn.p).getD c.p).pok
  cases hr:c.cl[r.toNat]? with
  | none=>exact hk.p
  | some q=>exact(hk.rn q (Qt hr)).1
 ·show (c.cl.take r.toNat).length<=30
  rw[QS];have:=hk.cl;omega
 ·show (c.cl.take r.toNat).length<=29
  rw[QS];have:=hk.cl;by_cases h:r.toNat<c.cl.length
  ·omega
  ·have hov:c.over=false:=by
    cases hh:c.over with
    | false=>rfl
    | true=>exact absurd ⟨by omega,hh⟩ h3
   have:=hk.ov hov;omega
theorem d4e{s:St}(hN:s.bs.length=N)(cs ad:List Tri)(o:Po)(i:Int)(w:W6):CkOk N (c.doBid s.ps s.bs cs ad o s i w).1:=by
 unfold Ck.doBid;split
 ·rename_i h
  have hw:w.ok:=by
   unfold b3r at h;split at h
   ·cases h
   split at h
   ·split at h
    ·cases h
    split at h
    ·rename_i ha
     exact(d0n ha).2.2
    ·rename_i ha
     exact absurd h ha
   ·cases h
  exact⟨hk.out,by rw[Qp];exact hk.la,by rw[Qp];exact hk.lb,d0H hk.ok hw,hk.p,hk.rn,hk.cl,hk.ov⟩
 ·exact hk
theorem d1P{s:St}{o:Po}:CkOk N (c.close s.ps o).1:=by
 cases hov:c.over with
 | true=>unfold Ck.close;rw[hov,if_pos rfl];exact hk
 | false =>
  rw[c6g c s.ps o hov];obtain⟨gk,gl⟩:=c7R (s:=s) (o:=o) hk;have h29:=hk.ov hov
  have hrn:∀r∈c.cl++[⟨c.p,c.ask,c.gots s.ps o,c.bid⟩],r.p.pok/\r.ask.length=N/\r.got.length=N/\r.bid.length=N/\(∀w∈r.ask,w.ok)/\∀w∈r.got,w.ok:=fun r hr=>by
   rcases Xg.1 hr with hr|hr
   ·exact hk.rn r hr
   ·rw[Xy.1 hr]
    exact⟨hk.p,hk.la,gl,hk.lb,hk.ok,gk⟩
  unfold Ck.closeTo;split
  ·exact⟨hk.out,by simp[Ck.blank,hk.out],by simp[Ck.blank,hk.out],c0c _,hk.p,hrn,by simp;omega,fun h=>by simp at h⟩
  ·rename_i h
   simp only[Bool.or_eq_true,not_or,X4,a4u,Bool.not_eq_eq_eq_not,Qk,decide_eq_false_iff_not,Decidable.not_not] at h;refine⟨hk.out,by simp[Ck.blank,hk.out],by simp[Ck.blank,hk.out],c0c _,?_,hrn,by simp;omega,fun _=>?_⟩
   ·have:=h.2.2
    simpa using this
   ·have:=h.2.1
    simp only[Qv,QH] at this ⊢;omega
end
section
variable {s:St}{cs ad:List Tri}(hs:SuOk s cs ad)(hv:a4E s.ps s.bs cs ad=0){o:Po}{σ:List MO}{h:Nat}{F:Nat->Prop}{c:Ck}(K:a9o s o σ h F c)(hσ:Low σ)(hN:c.out.length<=1000)
 (hl:∀r∈c.cl,r.ask.length<=1000/\r.got.length<=1000/\r.bid.length<=1000) (hcl:c.cl.length<=1000) (n:Nat)
include hs hv K hσ hN hl hcl
end
theorem d2S(f:Pr->Int)(l:List Pr):∀n,ptS f l w0 n=0
 | 0=>rfl
 | n+1=>by
  have h:a3T w0 n=0:=by
   unfold a3T wl w0;rcases n with _|_|_|_|_|_|n<;>simp
  rw[ptS,d2S f l n,h];omega
theorem d5q(ps:List Pr)(g:Int):unV ps g w0=0:=by
 unfold unV;rw[d2S];simp
theorem c6e{ps:List Pr}{bs:List Bd}{cs ad:List Tri}(hv:a4E ps bs cs ad=0){i:Nat}(hi:i<bs.length):a6I ps bs cs ad (i:Int) w0=0:=by
 obtain⟨v1,v2,v3,v4⟩:=a9K hv;obtain⟨hl,hr⟩:=a5B v1
 have hc:b1f (bs.length:Int) cs=0:=by
  unfold a4E at hv;rw[if_pos v1,if_pos v2] at hv;split at hv
  ·assumption
  ·exact hv
 unfold a6I;have h1:ltB (i:Int) 0=false:=by rw[a0I];omega
 have h2:leB (bs.length:Int) (i:Int)=false:=by rw[a4u];omega
 have h3:w0.le (a1w ps):=by
  have hw:=b1s hr;simp only[W6.wide,W6.le,w0] at *
  omega
 have hz:∀c bc,oc c bc 0=0:=fun c bc=>by unfold oc;split;rfl;split<;>rfl
 have h4:∀c bc,(b2N c bc w0).le (shF ps ad).1:=fun c bc=>by
  have:=c3y hl hr v4;simp only[b2N,W6.le,w0,hz];exact this
 rw[h1,if_neg (by simp),h2,if_neg (by simp),if_pos c5x,if_pos ⟨h3,h4 _ _⟩]
 have h5:∀c∈cs,b3y ps (i:Int) w0 c=false:=fun c hc'=>by
  obtain⟨k,hk⟩:=Xs hc';unfold b1f at hc;split at hc
  ·cases hc
  ·have hb:=b6U _ _ hc (by omega) k c (by omega) hk
   unfold a1z at hb
   repeat' split at hb
   all_goals first|cases hb|skip
   rename_i a1 a2 a3 a4 a5 a6 _;rw[X4,a0I] at a5;unfold b3y;rw[d5q,show ltB c.z 0=false from(a0I ..).2 (by omega),Bool.and_false]
 unfold a7x;rw[if_neg (by simp only[List.any_eq_true,not_exists,not_and,X4];exact h5)]
structure Stp where
 (k i r:Int) (w:W6)
def Stp.row(q:Stp):List PV:=[.int .i64 q.k,.int .i64 q.i,.int .i64 q.r,.int .i64 q.w.a,.int .i64 q.w.b,.int .i64 q.w.c,.int .i64 q.w.d,.int .i64 q.w.e,.int .i64 q.w.f]
section
variable (cs ad:List Tri)(o:Po)(s:St)
noncomputable def Ck.step(c:Ck)(q:Stp):Ck×Bool×Int :=
 if q.k=0 then((c.doBid s.ps s.bs cs ad o s q.i q.w).1,false,(c.doBid s.ps s.bs cs ad o s q.i q.w).2) else
 if q.k=1 then c.close s.ps o else
 if q.k=2 then(c.stop.1,false,c.stop.2) else
 if q.k=3 then((c.drop q.i).1,false,(c.drop q.i).2) else((c.reset q.r).1,false,(c.reset q.r).2)
def c2I(ps:List Pr)(bs:List Bd)(c:Ck):Prop :=
 (∀(j:Nat) w,c.ask[j]?=some w->a6I ps bs cs ad (j:Int) w=0)/\∀r∈c.cl,∀(j:Nat) w,r.ask[j]?=some w->a6I ps bs cs ad (j:Int) w=0
variable {cs ad o s}
theorem d2Y{c:Ck}(hk:CkOk s.bs.length c)(q:Stp):CkOk s.bs.length (c.step cs ad o s q).1:=by
 unfold Ck.step
 repeat' split
 ·exact d4e hk rfl cs ad o q.i q.w
 ·exact d1P hk
 ·exact d3i hk
 ·exact d2Z hk q.i
 ·exact d1W hk q.r
theorem c9I{ps:List Pr}{bs:List Bd}(hv:a4E ps bs cs ad=0){N:Nat}(hN:N=bs.length)(j:Nat)(w:W6)(h:(Qj N w0)[j]?=some w):a6I ps bs cs ad (j:Int) w=0:=by
 rw[List.getElem?_replicate] at h;split at h
 ·cases h;exact c6e hv (by omega)
 ·cases h
theorem d4J(hv:a4E s.ps s.bs cs ad=0):c2I cs ad s.ps s.bs (ck0 s.ps s.bs.length):=⟨fun j w h=>c9I hv rfl j w h,fun r hr=>by simp[ck0] at hr⟩
theorem d3B(hv:a4E s.ps s.bs cs ad=0){c:Ck}(hk:CkOk s.bs.length c)(h:c2I cs ad s.ps s.bs c)(q:Stp):c2I cs ad s.ps s.bs (c.step cs ad o s q).1:=by
 have hbl:∀(j:Nat) w,c.blank.ask[j]?=some w->a6I s.ps s.bs cs ad (j:Int) w=0:=fun j w hw=>c9I hv hk.out j w hw
 unfold Ck.step;split
 ·unfold Ck.doBid
  split
  ·rename_i hb
   refine⟨fun j w hw=>?_,h.2⟩;rw[Xf] at hw;split at hw
   ·rename_i hij
    split at hw
    ·cases hw
     unfold b3r at hb;split at hb
     ·cases hb
     split at hb
     ·rename_i hh
      simp only[Ck.has,Qy,a1u] at hh;split at hb
      ·cases hb
      split at hb
      ·rename_i ha
       rw[<- hij,Int.toNat_of_nonneg hh.1];exact ha
      ·rename_i ha;exact absurd hb ha
     ·cases hb
    ·cases hw
   ·exact h.1 j w hw
  ·exact h
 split
 ·unfold Ck.close
  split
  ·exact h
  split
  ·refine⟨hbl,fun r hr=>?_⟩
   rcases Xg.1 hr with hr|hr
   ·exact h.2 r hr
   ·rw[Xy.1 hr];exact h.1
  ·refine⟨hbl,fun r hr=>?_⟩
   rcases Xg.1 hr with hr|hr
   ·exact h.2 r hr
   ·rw[Xy.1 hr];exact h.1
 split
 ·unfold Ck.stop
  split
  ·exact h
  ·exact⟨hbl,h.2⟩
 split
 ·unfold Ck.drop
  split
  ·rename_i hh
   simp only[Ck.has,Qy,a1u,a0O] at hh;split
   ·exact h
   ·refine⟨fun j w hw=>?_,h.2⟩
    rw[Xf] at hw;split at hw
    ·split at hw
     ·cases hw
      rename_i hij hlt;exact c6e hv (by rw[<- hk.la];omega)
     ·cases hw
    ·exact h.1 j w hw
  ·exact h
 ·unfold Ck.reset
  repeat' split
  ·exact h
  ·exact h
  ·exact h
  ·exact⟨hbl,fun r hr=>h.2 r (QY hr)⟩
section
variable (hs:SuOk s cs ad)(hv:a4E s.ps s.bs cs ad=0)(ho:o.ok){σ:List MO}{h:Nat}{F:Nat->Prop}{c:Ck}(K:a9o s o σ h F c)(hσ:Low σ)(hk:CkOk s.bs.length c)(n:Nat)
include hs hv ho K hσ hk
theorem d6n(q:Stp)(hn:33000<=n):c0a s o σ h F (c.step cs ad o s q).1 (.tup [.bool (c.step cs ad o s q).2.1,.int .i64 (c.step cs ad o s q).2.2]) (a0B Tab n a7N [.ref h 0,.agg q.row] σ):=by
 obtain⟨n,rfl⟩:∃k,n=k+1:=⟨n-1,by omega⟩;obtain⟨l1,l2,l3,l4,l5⟩:=SuOk.lens hv;have hN:c.out.length<=1000:=by rw[hk.out];omega
 have hcl:c.cl.length<=100:=by have:=hk.cl;omega
 have e5:∀a b:Int,eqB a b=decide (a=b):=fun _ _=>rfl
 have go:∀r,PT.ev (a0B Tab n) a2n {i:=[q.k,q.i,q.r,q.w.a,q.w.b,q.w.c,q.w.d,q.w.e,q.w.f],b:=[],v:=[.ref h 0],m:=σ,k:=σ.length}=some (.ret r.1 r.2)->a0B Tab (n+1) a7N [.ref h 0,.agg q.row] σ=some r:=fun r hr=>by
  rw[a0B];simp only[b7J,Q0,Sys.run,Stp.row];show ((a0E [.sh (.one _),.sh (.agg [_,_,_,_,_,_,_,_,_])] _).bind _)=_;simp only[a0E,a0x,a0w,Q1,Q0,Q8,Q4,if_true,a7s];show ((PT.ev (a0B Tab n) a2n _).bind _)=_;exact(congrArg (Xc · _) hr).trans rfl
 unfold Ck.step;by_cases h0:q.k=0
 ·obtain⟨σ',F',e1,e2⟩:=d4N hs hv ho K hσ hk n q.i q.w (by omega)
  simp only[if_pos h0];refine⟨σ',F',go (_,_) ?_,e2⟩;simp only[a3N,pv6] at e1;simp only[a2n,↓reduceIte,a0t,a0r,a0l,BE.safe,BE.pe,IE.pe,Q3,Q5,Q7,a0w,a0p,a0x,Q1,Q0,PEnv.push,Q6,Q4,SV.pvs,SV.pv,e5,dT0 h0,e1,a0C,true_or]
 simp only[if_neg h0];by_cases h1:q.k=1
 ·obtain⟨σ',F',e1,e2⟩:=d0J hs hv ho K hσ hk n (by omega)
  simp only[if_pos h1];refine⟨σ',F',go (_,_) ?_,e2⟩;simp only[a7g] at e1;simp only[a2n,↓reduceIte,a0t,a0r,a0l,BE.safe,BE.pe,IE.pe,Q3,Q5,Q7,Q2,a0w,a0p,a0x,Q1,Q0,PEnv.push,Q6,Q4,Q8,SV.pvs,SV.pv,e5,dF0 h0,dT0 h1,e1,a0U,a0C,true_or]
 simp only[if_neg h1];by_cases h2:q.k=2
 ·obtain⟨σ',F',e1,e2⟩:=d3r K hσ hN n (by omega)
  simp only[if_pos h2];refine⟨σ',F',go (_,_) ?_,e2⟩;simp only[a8d] at e1;simp only[a2n,↓reduceIte,a0t,a0r,a0l,BE.safe,BE.pe,IE.pe,Q3,Q5,Q7,Q2,a0w,a0p,a0x,Q1,Q0,PEnv.push,Q6,Q4,SV.pvs,SV.pv,e5,dF0 h0,dF0 h1,dT0 h2,e1,a0C,true_or]
 simp only[if_neg h2];by_cases h3:q.k=3
 ·obtain⟨σ',F',e1,e2⟩:=d3Y K hσ hN n q.i (by omega)
  simp only[if_pos h3];refine⟨σ',F',go (_,_) ?_,e2⟩;simp only[a8c] at e1;simp only[a2n,↓reduceIte,a0t,a0r,a0l,BE.safe,BE.pe,IE.pe,Q3,Q5,Q7,Q2,a0w,a0p,a0x,Q1,Q0,PEnv.push,Q6,Q4,SV.pvs,SV.pv,e5,dF0 h0,dF0 h1,dF0 h2,dT0 h3,e1,a0C,true_or]
 simp only[if_neg h3];obtain⟨σ',F',e1,e2⟩:=d2e K hσ hN hcl n q.r (by omega);refine⟨σ',F',go (_,_) ?_,e2⟩;simp only[a7v] at e1;simp only[a2n,↓reduceIte,a0t,a0r,a0l,BE.safe,BE.pe,IE.pe,Q3,Q5,Q7,Q2,a0w,a0p,a0x,Q1,Q0,PEnv.push,Q6,Q4,SV.pvs,SV.pv,e5,dF0 h0,dF0 h1,dF0 h2,dF0 h3,e1,a0C,true_or]
end
end
theorem c8D(σ:List MO)(is:List Int)(b:List Bool)(vs:List PV)(z:Bool):a0C {i:=is,b:=b,v:=vs,m:=σ,k:=0} false (.bool z)=some (.bool z,[]):=by
 unfold a0C;dsimp only;split
 ·rename_i h
  have h:σ=[]:=by
   rcases h with h|h
   ·cases h
   ·exact List.length_eq_zero_iff.1 h
  rw[h]
 ·rw[QC];rfl
theorem c9D(σ:List MO)(n:Nat)(hn:1<=n){P B C A E:PV}{p b c a e:Nat}(hp:P.isKind 0=true/\P.len=(p:Int)/\P.one=true)(hb:B.isKind 0=true/\B.len=(b:Int)/\B.one=true)(hc:C.isKind 0=true/\C.len=(c:Int)/\C.one=true)(ha:A.isKind 0=true/\A.len=(a:Int)/\A.one=true)(he:E.isKind 0=true/\E.len=(e:Int)/\E.one=true) :
  ∃z,a0B Tab n a9G [.agg [P,B,C,A],E] σ=some (.bool z,σ)/\(z=false->p<=10/\b<=10/\c<=20/\a<=10/\e<=200):=by
 obtain⟨n,rfl⟩:∃k,n=k+1:=⟨n-1,by omega⟩;refine⟨ltB 10 (p:Int)||(ltB 10 (b:Int)||(ltB 20 (c:Int)||(ltB 10 (a:Int)||ltB 200 (e:Int)))),?_,fun h=>?_⟩
 ·rw[a0B]
  simp only[b3U,Q0,Sys.run];show ((a0E [.sh (.agg [_,_,_,_]),.sh (.one _)] _).bind _)=_;simp only[a0E,a0x,a0w,Q1,Q0,Q8,Q4,Q6,if_true,hp.2.2,hb.2.2,hc.2.2,ha.2.2,he.2.2];show (PT.ev _ a2e _).bind _=_;have dich:∀x:Bool,x=true\/x=false:=fun x=>by cases x<;>simp
  rcases dich (ltB 10 (p:Int)) with e1|e1
  ·simp only[a2e,↓reduceIte,a0t,a0r,a0h,BE.safe,BE.pe,IE.pe,PEnv.at,Q3,Q2,Q1,Q0,SV.pv,hp.1,hp.2.1,e1,a0C,or_true,QZ]
  rcases dich (ltB 10 (b:Int)) with e2|e2
  ·simp only[a2e,↓reduceIte,a0t,a0r,a0h,BE.safe,BE.pe,IE.pe,PEnv.at,Q3,Q5,Q2,Q1,Q0,SV.pv,hp.1,hp.2.1,hb.1,hb.2.1,e1,e2,a0C,or_true,QZ,Xh]
  rcases dich (ltB 20 (c:Int)) with e3|e3
  ·simp only[a2e,↓reduceIte,a0t,a0r,a0h,BE.safe,BE.pe,IE.pe,PEnv.at,Q3,Q5,Q2,Q1,Q0,SV.pv,hp.1,hp.2.1,hb.1,hb.2.1,hc.1,hc.2.1,e1,e2,e3,a0C,or_true,QZ,Xh]
  rcases dich (ltB 10 (a:Int)) with e4|e4
  ·simp only[a2e,↓reduceIte,a0t,a0r,a0h,BE.safe,BE.pe,IE.pe,PEnv.at,Q3,Q5,Q2,Q1,Q0,SV.pv,hp.1,hp.2.1,hb.1,hb.2.1,hc.1,hc.2.1,ha.1,ha.2.1,e1,e2,e3,e4,a0C,or_true,QZ,Xh]
  simp only[a2e,↓reduceIte,a0t,a0r,a0h,BE.safe,BE.pe,IE.pe,PEnv.at,Q3,Q5,Q2,Q1,Q0,SV.pv,hp.1,hp.2.1,hb.1,hb.2.1,hc.1,hc.2.1,ha.1,ha.2.1,he.1,he.2.1,e1,e2,e3,e4,a0C,or_true,Xh]
 ·simp only[Bool.or_eq_false_iff,a0I] at h
  omega
theorem d3m(q:Stp):q.row=[.int .i64 q.k,.int .i64 q.i,.int .i64 q.r,.int .i64 q.w.a,.int .i64 q.w.b,.int .i64 q.w.c,.int .i64 q.w.d,.int .i64 q.w.e,.int .i64 q.w.f]:=rfl
section
variable {s:St}{cs ad:List Tri}(hs:SuOk s cs ad)(hv:a4E s.ps s.bs cs ad=0){o:Po}(ho:o.ok)(n:Nat){E:PV}{l:List Stp}(hE:E.rowsOf 9=some (l.map Stp.row)){h:Nat}
def c3S(s:St)(M:List MO)(i:Int)(E:PV)(h:Nat):PEnv:={i:=[i],b:=[],v:=[E,.ref h 0,s.P,s.B,s.C,s.A],m:=M,k:=0}
def c4o(s:St)(M:List MO)(i:Int)(O:PV):PEnv:={i:=[i],b:=[],v:=[O,s.P,s.B,s.C,s.A],m:=M,k:=0}
def c6u(s:St)(M:List MO)(i j:Int)(O:PV):PEnv:={i:=[i,j],b:=[],v:=[O,s.P,s.B,s.C,s.A],m:=M,k:=0}
include hs hv ho hE in
theorem d3z(hn:33000<=n)(hl:l.length<=1000):∀d j,j+d=l.length->∀(M:List MO) (F:Nat->Prop) (c:Ck),a9o s o M h F c->Low M->CkOk s.bs.length c->c2I cs ad s.ps s.bs c->∀fuel,
  ∃M' F' c',d8H.loop (a0B a5a n) (fuel+d) 0 (c3S s M (j:Int) E h)=d8H.loop (a0B a5a n) fuel 0 (c3S s M' (l.length:Int) E h)/\a9o s o M' h F' c'/\Low M'/\CkOk s.bs.length c'/\c2I cs ad s.ps s.bs c':=by
 obtain⟨q1,q2,q3⟩:=a0D hE;rw[Qz] at q1;intro d
 induction d with
 | zero =>
  intro j hj M F c K hM hk hi fuel;exact⟨M,F,c,by rw[show j=l.length by omega];rfl,K,hM,hk,hi⟩
 | succ d ih =>
  intro j hj M F c K hM hk hi fuel;obtain⟨q,hq⟩:=a0P (show j<l.length by omega);obtain⟨σ',F',e1,e2,e3⟩:=d6n hs hv ho K hM hk n q hn;have e1:=evW e1;obtain⟨M',F'',c',f1,f2⟩:=ih (j+1) (by omega) σ' F' _ e2 e3.low (d2Y hk q) (d3B hv hk hi q) fuel;refine⟨M',F'',c',?_,f2⟩;have r:=a0J (off:=0) hE (show (l.map Stp.row)[j]?=some q.row by rw[QQ,hq];rfl);have hd:decide (j<l.length)=true:=dT0 (by omega);have lt:ltB (j:Int) (l.length:Int)=true:=a0O.2 (by omega);have le:leB 0 (j:Int)=true:=a1u.2 (by omega);have up1:leB (-9223372036854775808) ((j:Int)+1)=true:=a1u.2 (by omega);have up2:leB ((j:Int)+1) 9223372036854775807=true:=a1u.2 (by omega);simp only[a7N,d3m] at e1 r;rw[<- f1,<- Nat.add_assoc,Sys.loop,show d8H.loops[0]?=some a2f from rfl];simp only[Q0,c3S,a2f,↓reduceIte,a0r,a0h,a0k,a0l,a0m,BE.safe,BE.pe,IE.pe,PEnv.at,Q3,Q5,Q7,Qd,a0y,a0e,a0z,Qr,Qe,Qf,Nat.reduceAdd,Qm,Q2,QK,QC,a0w,a0p,a0x,Q1,Q0,PEnv.push,Q6,Q4,Q8,SV.pvs,SV.pv,BE.all,Qa,Q9,Qb,q1,q2,lt,le,r,e1,a0U,up1,up2,a0T]
section
variable {M:List MO}{O:PV}{cl:List Rn}{R:Nat->Prop}(hO:CSl M R O cl)(hok:∀r∈cl,r.ask.length<=8/\∀(j:Nat) w,r.ask[j]?=some w->a6I s.ps s.bs cs ad (j:Int) w=0)(hcl:cl.length<=30)
include hs hv hO hok hcl
theorem d3K(hn:1300<=n){i:Nat}{r:Rn}(hr:cl[i]?=some r):∀d j,j+d=r.ask.length->∀fuel,
  d8H.loop (a0B a5a n) (fuel+d+1) 2 (c6u s M (i:Int) (j:Int) O)=d8H.loop (a0B a5a n) fuel 1 (c4o s M ((i:Int)+1) O):=by
 have hc:=hO.rd;have hi:=(Qn.1 hr).1;obtain⟨row,hrow,hrd⟩:=hc.rd i r hr;obtain⟨a,g,b,rfl,ha,_,_⟩:=hrow;obtain⟨L,l1,l2⟩:=hrd 6 1 (by decide);have l2:∀is bs vs k,a0e {i:=is,b:=bs,v:=vs,m:=M,k:=k} false 1 L=some [a]:=l2;obtain⟨h8,hal⟩:=hok r (Qt hr);have hA:=ha.rd;have lt:ltB (i:Int) (cl.length:Int)=true:=a0O.2 (by omega);have le:leB 0 (i:Int)=true:=a1u.2 (by omega);have ui1:leB (-9223372036854775808) ((i:Int)+1)=true:=a1u.2 (by omega);have ui2:leB ((i:Int)+1) 9223372036854775807=true:=a1u.2 (by omega);have p3:=(a0D hs.P).2.2;have b3:=(a0D hs.B).2.2;have c3:=(a0D hs.C).2.2;have a3:=(a0D hs.A).2.2;intro d
 induction d with
 | zero =>
  intro j hj fuel;have nl:ltB (j:Int) (r.ask.length:Int)=false:=(a0I ..).2 (by omega);rw[Sys.loop,show d8H.loops[2]?=some a2j from rfl];simp only[Q0,c6u,c4o,a2j,↓reduceIte,PT.ev,BE.safe,BE.pe,IE.pe,PEnv.at,Q3,Q5,Q7,Qd,a0y,Qe,Qf,Nat.reduceAdd,Q2,a0w,a0p,a0x,Q1,Q0,PEnv.push,Q6,Q4,Q8,SV.pvs,SV.pv,BE.all,Qa,Q9,Qb,hc.len,lt,le,l1,l2,hA.kind,hA.len,hA.one,nl,ui1,ui2]
 | succ d ih =>
  intro j hj fuel;obtain⟨w,hw⟩:=a0P (show j<r.ask.length by omega);have k1:=evW (c5z M s.ps s.bs cs ad s.P s.B s.C s.A hs.P hs.B hs.C hs.A n hv (j:Int) w (by omega));rw[hal j w hw] at k1;obtain⟨L2,hL⟩:=hA.rd j w hw;obtain⟨m1,m2⟩:=hL 0 6 (by decide);have m2:∀is bs vs k,a0e {i:=is,b:=bs,v:=vs,m:=M,k:=k} false 6 (L2 0)=some [.int .i64 w.a,.int .i64 w.b,.int .i64 w.c,.int .i64 w.d,.int .i64 w.e,.int .i64 w.f]:=m2;have jt:ltB (j:Int) (r.ask.length:Int)=true:=a0O.2 (by omega);have je:leB 0 (j:Int)=true:=a1u.2 (by omega);have uj1:leB (-9223372036854775808) ((j:Int)+1)=true:=a1u.2 (by omega);have uj2:leB ((j:Int)+1) 9223372036854775807=true:=a1u.2 (by omega);have e0:eqB 0 0=true:=rfl;have f1:=ih (j+1) (by omega) fuel;simp only[a8B,pv6] at k1;rw[<- f1,show fuel+(d+1)+1=(fuel+d+1)+1 by omega,Sys.loop,show d8H.loops[2]?=some a2j from rfl];simp only[Q0,c6u,a2j,↓reduceIte,PT.ev,BE.safe,BE.pe,IE.pe,PEnv.at,Q3,Q5,Q7,Qd,a0y,Qe,Qf,Nat.reduceAdd,Q2,a0w,a0p,a0x,Q1,Q0,PEnv.push,Q6,Q4,Q8,SV.pvs,SV.pv,BE.all,Qa,Qk,Q9,Qb,hc.len,lt,le,l1,l2,hA.kind,hA.len,hA.one,jt,je,m1,m2,k1,e0,uj1,uj2,a0T]
theorem d4a(hn:1300<=n)(aw:∀σ,a0B a5a n a1i [] σ=some (.bool true,σ)):∀d i,i+d=cl.length->∀fuel,d*20+1<=fuel ->
  d8H.loop (a0B a5a n) fuel 1 (c4o s M (i:Int) O)=some (.bool true,[]):=by
 have hc:=hO.rd;have p3:=(a0D hs.P).2.2;have b3:=(a0D hs.B).2.2;have c3:=(a0D hs.C).2.2;have a3:=(a0D hs.A).2.2;intro d
 induction d with
 | zero =>
  intro i hi fuel hf;obtain⟨fuel,rfl⟩:∃k,fuel=k+1:=⟨fuel-1,by omega⟩;have nl:ltB (i:Int) (cl.length:Int)=false:=(a0I ..).2 (by omega);have aw0:=aw M;simp only[a1i] at aw0;rw[Sys.loop,show d8H.loops[1]?=some a2l from rfl];simp only[Q0,c4o,a2l,↓reduceIte,a0t,a0r,a0h,a0l,BE.safe,BE.pe,IE.pe,PEnv.at,Q3,Q2,a0w,a0p,a0x,Q1,Q0,PEnv.push,Q6,Q4,SV.pvs,SV.pv,hc.kind,hc.len,nl,aw0,c8D]
 | succ d ih =>
  intro i hi fuel hf;obtain⟨r,hr⟩:=a0P (show i<cl.length by omega);have h8:=(hok r (Qt hr)).1;obtain⟨fuel,rfl⟩:∃k,fuel=k+r.ask.length+1+1:=⟨fuel-r.ask.length-2,by omega⟩;have lt:ltB (i:Int) (cl.length:Int)=true:=a0O.2 (by omega);have f1:=d3K hs hv n hO hok hcl hn hr r.ask.length 0 (by omega) fuel;have f2:=ih (i+1) (by omega) fuel (by omega);rw[a0T] at f2;rw[f2] at f1;have f1:d8H.loop (a0B a5a n) (fuel+r.ask.length+1) 2 (c6u s M (i:Int) 0 O)=some (.bool true,[]):=f1;rw[<- f1,Sys.loop,show d8H.loops[1]?=some a2l from rfl];simp only[Q0,c4o,c6u,a2l,↓reduceIte,a0r,a0h,a0m,BE.safe,BE.pe,IE.pe,PEnv.at,Q3,Q7,Qd,Q1,Q0,SV.pvs,SV.pv,BE.all,Q9,Qb,hc.kind,hc.len,lt,]
end
end
open Go.ChangeShapes Go.WideShapes Go.ChangeAt Go.RowKit Go.Sx
theorem d0h{n:Nat}{r:List PV}(h:a1s Tryz.prog n 29 r):∃x:Po,r=x.row:=by
 obtain⟨m,hm,hr⟩:=a4B Tryz.underlying29 h;simp only[Q9,Qb,a4j] at hr;obtain⟨_,_,rfl,h1,_,_,rfl,h2,_,_,rfl,h3,_,_,rfl,h4,rfl⟩:=hr;obtain⟨a,rfl,_⟩:=a1p (k:=.i64) (by kernel_rfl) h1;obtain⟨b,rfl,_⟩:=a1p (k:=.i64) (by kernel_rfl) h2;obtain⟨c,rfl,_⟩:=a1p (k:=.i64) (by kernel_rfl) h3;obtain⟨d,rfl,_⟩:=a1p (k:=.i64) (by kernel_rfl) h4;exact⟨⟨a,b,c,d⟩,rfl⟩
theorem c8r{n:Nat}{r:List PV}(h:a1s Tryz.prog n 53 r):∃x:Stp,r=x.row:=by
 obtain⟨m,hm,hr⟩:=a4B Tryz.underlying53 h;simp only[Q9,Qb,a4j] at hr;obtain⟨_,_,rfl,h1,_,_,rfl,h2,_,_,rfl,h3,_,_,rfl,h4,rfl⟩:=hr;obtain⟨k,rfl,_⟩:=a1p (k:=.i64) (by kernel_rfl) h1;obtain⟨i,rfl,_⟩:=a1p (k:=.i64) (by kernel_rfl) h2;obtain⟨r,rfl,_⟩:=a1p (k:=.i64) (by kernel_rfl) h3;obtain⟨m',_,h⟩:=c6j Tryz.underlying51 h4;simp only[Qj,a4j] at h;obtain⟨_,_,rfl,w1,_,_,rfl,w2,_,_,rfl,w3,_,_,rfl,w4,_,_,rfl,w5,_,_,rfl,w6,rfl⟩:=h;obtain⟨a,rfl,_⟩:=a1p (k:=.i64) (by kernel_rfl) w1;obtain⟨b,rfl,_⟩:=a1p (k:=.i64) (by kernel_rfl) w2;obtain⟨c,rfl,_⟩:=a1p (k:=.i64) (by kernel_rfl) w3;obtain⟨d,rfl,_⟩:=a1p (k:=.i64) (by kernel_rfl) w4;obtain⟨e,rfl,_⟩:=a1p (k:=.i64) (by kernel_rfl) w5;obtain⟨f,rfl,_⟩:=a1p (k:=.i64) (by kernel_rfl) w6;exact⟨⟨k,i,r,⟨a,b,c,d,e,f⟩⟩,rfl⟩
theorem knl{K:Nat}{P:PV}{rows:List (List PV)}{N:Nat}(h:P.rowsOf K=some rows)(hN:rows.length=N):P.isKind 0=true/\P.len=(N:Int)/\P.one=true:=by
 obtain⟨p1,p2,p3⟩:=a0D h;exact⟨p2,by rw[p1,hN],p3⟩
theorem c8K(n:Nat)(hn:40000<=n)(ps:List Pr)(bs:List Bd)(cs ad:List Tri)(o:Po)(l:List Stp)(aw:∀σ,a0B a5a n a1i [] σ=some (.bool true,σ)) :
  a0B a5a (n+1) a4s [.agg [.sl 5 (ps.map Pr.row),.sl 4 (bs.map Bd.row),.sl 3 (cs.map Tri.row),.sl 3 (ad.map Tri.row)],.agg o.row,.sl 9 (l.map Stp.row)] []=some (.bool true,[]):=by
 obtain⟨s,hse⟩:∃s:St,s=⟨ps,bs,.sl 5 (ps.map Pr.row),.sl 4 (bs.map Bd.row),.sl 3 (cs.map Tri.row),.sl 3 (ad.map Tri.row)⟩:=⟨_,rfl⟩;have hs:SuOk s cs ad:=by subst hse;exact⟨a1K _ _,a1K _ _,a1K _ _,a1K _ _⟩
 generalize hEe:PV.sl 9 (l.map Stp.row)=E;have hE:E.rowsOf 9=some (l.map Stp.row):=by rw[<- hEe];exact a1K _ _
 have hpv:[PV.sl 5 (ps.map Pr.row),.sl 4 (bs.map Bd.row),.sl 3 (cs.map Tri.row),.sl 3 (ad.map Tri.row)]=[s.P,s.B,s.C,s.A]:=by subst hse;rfl
 have hps:ps=s.ps:=by subst hse;rfl
 have hbs:bs=s.bs:=by subst hse;rfl
 rw[hpv];subst hps hbs;clear hse hpv hEe;obtain⟨_,_,p3⟩:=a0D hs.P;obtain⟨_,_,b3⟩:=a0D hs.B;obtain⟨_,_,c3⟩:=a0D hs.C;obtain⟨_,_,a3⟩:=a0D hs.A;obtain⟨_,_,q3⟩:=a0D hE;have aw0:=aw [];obtain⟨z,g1,g2⟩:=c9D [] n (by omega) (knl hs.P (Qz _)) (knl hs.B (Qz _)) (knl hs.C (Qz _)) (knl hs.A (Qz _)) (knl hE (Qz _));have g1:=evW g1;have k1:=evW (b3S [] n o (by omega));have k2:=evW (a9P [] s.ps s.bs cs ad s.P s.B s.C s.A hs.P hs.B hs.C hs.A n (by omega));have e5:∀a b:Int,eqB a b=decide (a=b):=fun _ _=>rfl
 simp only[a1i,a9G,a9C,a4x,a6T] at aw0 g1 k1 k2;rw[a0B,show a5a a4s=some d8H from c7S _ _ b0r];simp only[Q0,Sys.run,a6T];show ((a0E [.sh (.agg [_,_,_,_]),.sh (.agg [_,_,_,_]),.sh (.one _)] _).bind _)=_;simp only[a0E,a0x,a0w,Q1,Q0,Q8,Q4,Q6,if_true,p3,b3,c3,a3,q3];show (PT.ev _ a1Q _).bind _=_;cases z with
 | true=>simp only[a1Q,↓reduceIte,a0t,a0r,a0l,a0m,BE.safe,BE.pe,IE.pe,Q3,Q5,Q7,Qd,Qf,a0w,a0p,a0x,Q1,Q0,PEnv.push,Q6,Q4,SV.pvs,SV.pv,BE.all,Qa,Q9,Qb,g1,aw0,c8D]
 | false =>
  obtain⟨_,_,_,_,hl⟩:=g2 rfl;by_cases h1:a4c o=0
  case neg=>simp only[a1Q,↓reduceIte,a0t,a0r,a0l,a0m,BE.safe,BE.pe,IE.pe,Q3,Q5,Q7,Qd,Qf,Q2,a0w,a0p,a0x,Q1,Q0,PEnv.push,Q6,Q4,Q8,SV.pvs,SV.pv,BE.all,Qa,Qu,Q9,Qb,g1,aw0,k1,e5,dF0 h1,c8D]
  by_cases hv:a4E s.ps s.bs cs ad=0
  case neg=>simp only[a1Q,↓reduceIte,a0t,a0r,a0l,a0m,BE.safe,BE.pe,IE.pe,Q3,Q5,Q7,Qd,Qf,Q2,a0w,a0p,a0x,Q1,Q0,PEnv.push,Q6,Q4,Q8,SV.pvs,SV.pv,BE.all,Qa,Qk,Qu,Q9,Qb,g1,aw0,k1,k2,e5,dT0 h1,dF0 hv,c8D]
  have ho:o.ok:=by
   unfold a4c at h1;split at h1
   ·assumption
   ·cases h1
  obtain⟨v1,v2,v3,v4⟩:=a9K hv;obtain⟨hl6,hr6⟩:=a5B v1;have he:c6n s.ps s.bs cs ad o=0:=by unfold c6n;rw[if_pos hv];exact h1
  obtain⟨M,F,n1,K,nF,nk,nl,nlow⟩:=d4T hs o [] rfl n he (by omega);have n1:=evW n1;obtain⟨vcl,ha,hb,hd,R,k,hF⟩:=id K;have n2:=evW (c5Q k n (by omega));have n3:=evW (b9d M s.ps s.P hs.P hl6 n (by omega));obtain⟨M',F',c',f1,f2,f3,f4,f5⟩:=d3z hs hv ho n hE (h:=([]:List MO).length+1) (by omega) (by omega) l.length 0 (by omega) M F _ K nlow (d4L hr6 _) (d4J hv) (n-l.length);obtain⟨vcl',ha',hb',hd',R',k',hF'⟩:=id f2;have l8:=(SuOk.lens hv).2.2.1;have hrn:∀r∈c'.cl,r.ask.length<=1000/\r.got.length<=1000/\r.bid.length<=1000:=fun r hr=>by obtain⟨_,q1,q2,q3,_⟩:=f4.rn r hr;omega
  obtain⟨M2,O,r1,r2,r3,r4,r5⟩:=c8p k' f3 hrn (by have:=f4.cl;omega) n (by omega);have r1:=evW r1;have hO:=c6v r5;have r6:=d4a hs hv n hO (fun r hr=>⟨by obtain⟨_,q1,_⟩:=f4.rn r hr;omega,f5.2 r hr⟩) f4.cl (by omega) aw c'.cl.length 0 (by omega) (n-l.length-1) (by have:=f4.cl;omega);have oO:=hO.rd.one;obtain⟨q1,q2,_⟩:=a0D hE;rw[Qz] at q1;have nlt:ltB (l.length:Int) (l.length:Int)=false:=(a0I ..).2 (by omega)
  have f6:d8H.loop (a0B a5a n) (n-l.length) 0 (c3S s M' (l.length:Int) E (([]:List MO).length+1))=some (.bool true,[]):=by
   rw[<- r6,show n-l.length=(n-l.length-1)+1 by omega,Sys.loop,show d8H.loops[0]?=some a2f from rfl];have r1:a0B a5a n a6S [.ref 1 0] M'=some (O,M2):=r1;simp only[a6S] at r1;simp only[Q0,c3S,c4o,a2f,↓reduceIte,a0r,a0h,a0l,a0m,BE.safe,BE.pe,IE.pe,PEnv.at,Q3,Q7,Qd,Qf,Nat.reduceAdd,Q2,a0w,a0p,a0x,Q1,Q0,PEnv.push,Q6,Q4,SV.pvs,SV.pv,BE.all,Q9,Qb,q1,q2,nlt,r1,oO,Nat.add_sub_cancel];rfl
  rw[f6,Nat.sub_add_cancel (by omega)] at f1;have e0:∀a:Int,eqB a a=true:=fun a=>dT0 rfl
  have hck:(ck0 s.ps s.bs.length).p=a4F s.ps:=rfl;rw[hck] at n2;have n1:a0B a5a n b4W [.agg [s.P,s.B,s.C,s.A],.agg [.int .i64 o.st,.int .i64 o.pc,.int .i64 o.un,.int .i64 o.ru]] []=some (.tup [.ref 1 0,.int .i64 0],M):=n1;have n2:a0B a5a n a6D [.ref 1 0] M=some (.agg (a4F s.ps).pv,M):=n2;have f1:d8H.loop (a0B a5a n) n 0 (c3S s M 0 E 1)=some (.bool true,[]):=f1;simp only[b4W,a6D,a8f,pv6] at n1 n2 n3;simp only[a1Q,↓reduceIte,a0t,a0r,a0l,a0m,BE.safe,BE.pe,IE.pe,Q3,Q5,Q7,Qd,Qf,Q2,a0w,a0p,a0x,Q1,Q0,PEnv.push,Q6,Q4,Q8,SV.pvs,SV.pv,BE.all,Qa,Qk,Q9,Qb,g1,k1,k2,e5,dT0 h1,dT0 hv,n1,n2,n3,a0U,a7s,decide_true,Qa];exact f1
theorem c6T(n0:Nat)(ps:List PV)(hs:a1s Tryz.prog n0 27 ps)(n1:Nat)(po:List PV)(hp:a1s Tryz.prog n1 29 po)(n2:Nat)(rows:List (List PV))(h2:∀r∈rows,a1s Tryz.prog n2 53 r) :
  a0B a5a 40001 a4s [.agg ps,.agg po,.sl 9 rows] []=some (.bool true,[]):=by
 obtain⟨l1,l2,l3,l4,rfl⟩:=c9R hs;obtain⟨o,rfl⟩:=d0h hp;obtain⟨l,rfl⟩:=a7c (row:=Stp.row) (fun ps h=>c8r h) rows h2;exact c8K 40000 (by omega) l1 l2 l3 l4 o l (awW 39999)
theorem c3g:ownKnob Tryz.prog.godebug=none:=by kernel_rfl
theorem a9q:laidOutB Tryz.prog=true:=by kernel_rfl
theorem a8H:Go.Sx.closed Tryz.prog [27,29,47,22,23,24,25,2,3,53,93,102,89,91,51,9]=true:=by kernel_rfl
set_option maxRecDepth 100000 in
theorem c0d(os:Os)(started:os.Started)(H:Type)(enc:TypeId×Value->H) :
  ReturnsInHanded {} Tryz.checked os 5 .any (Rows.clockStartsSpec.pre6 enc Tryz.prog Tryz.f5 Rows.clockStartsRow.domain false) (Rows.clockStartsSpec.post enc Tryz.prog Tryz.f5 false true false false):=by
 refine returnsInHanded_of_change (C:=Tryz.checked) c3g started (by kernel_rfl) Tryz.func5
  (ChangeSpec.witness6 (enc:=enc) (C:=Tryz.checked) false ⟨#[],#[.agg #[.slice none 0 0,.slice none 0 0,.slice none 0 0,.slice none 0 0],.agg #[.int .i64 0,.int .i64 0,.int .i64 0,.int .i64 0],.slice none 0 0],[]⟩ 8 (by kernel_rfl) (by kernel_rfl) (by kernel_rfl) (by kernel_rfl)) ?_
 intro W base args ds gs before hval0 hW hcnd _;have hval:∀(j:Nat) t v,Tryz.f5.params[j]?=some t->args[j]?=some v->Value.okWide Tryz.prog W .any base t v:=hval0;have hW':=hW;obtain⟨p,q,hA0,hV,rfl,hfz,hnd⟩:=hW;have hA:DataW.TrodAll enc Tryz.prog W 0 (fun _=>true) true Tryz.f5.params.toList args.toList ds p:=hA0;rw[Tryz.params5] at hA hval;obtain⟨v0,vs0,d0,ds0,p0,q0,hargs,rfl,rfl,h0,r0⟩:=trodAll_cons hA;obtain⟨v1,vs1,d1,ds1,p1,q1,rfl,rfl,rfl,h1,r1⟩:=trodAll_cons r0;obtain⟨v2,vs2,d2,ds2,p2,q2,rfl,rfl,rfl,h2,r2⟩:=trodAll_cons r1;obtain⟨rfl,rfl,rfl⟩:=trodAll_nil r2;obtain rfl:args=#[v0,v1,v2]:=by cases args;simp_all
 obtain⟨rfl,rfl⟩:=trodVars_none hV;have k0:=h0;have lt0:∀x∈p0,x.block<W.heap.size:=by obtain⟨m,hm⟩:=k0;exact DataW.trod_lt m _ _ _ hm
 obtain⟨n0,a0,e0,s0,w0⟩:=c2Y a8H (t:=27) (by decide) Tryz.underlying27 (hval 0 27 v0 rfl rfl) h0;have k1:=h1;have lt1:∀x∈p1,x.block<W.heap.size:=by obtain⟨m,hm⟩:=k1;exact DataW.trod_lt m _ _ _ hm
 obtain⟨n1,a1,e1,s1,w1⟩:=c2Y a8H (t:=29) (by decide) Tryz.underlying29 (hval 1 29 v1 rfl rfl) h1;have k2:=h2;have lt2:∀x∈p2,x.block<W.heap.size:=by obtain⟨m,hm⟩:=k2;exact DataW.trod_lt m _ _ _ hm
 obtain⟨n2,a2,e2,s2,w2⟩:=d0w a8H (t:=47) (by decide) Tryz.underlying47 (hval 2 47 v2 rfl rfl) h2;clear hA0 hval0;rw[show Tryz.prog.cellsOf 53=9 by kernel_rfl] at e2;have hr:Go.Sx.Reps (Go.Sx.hpOf W) [] [.agg a0,.agg a1,.sl 9 a2] [v0,v1,v2]:=⟨v0,_,rfl,e0,⟨v1,_,rfl,e1,⟨v2,_,rfl,e2,rfl⟩⟩⟩;refine(Go.Sx.lift_true (Go.Sx.evalF_good d3Z 40001 5) (c6T n0 a0 s0 n1 a1 s1 n2 a2 s2) hr).mono fun e W' hh=>?_
 obtain⟨rfl,bel⟩:=hh;exact⟨_,rfl,_,_,_,[],_,[],hW',trodAll_mk1 (shut_bool Tryz.underlying4 _),(trodAll_cons_mk (Below.trod a9q (by kernel_rfl) (of_decide_eq_true (by kernel_rfl)) k0 bel lt0) (trodAll_cons_mk (Below.trod a9q (by kernel_rfl) (of_decide_eq_true (by kernel_rfl)) k1 bel lt1) (trodAll_cons_mk (Below.trod a9q (by kernel_rfl) (of_decide_eq_true (by kernel_rfl)) k2 bel lt2) trodAll_mk0))),rfl,bel.frame _,fun h=>by cases h⟩
theorem clockStarts_proved:Rows.ClockStartsSaid :=
 OpenClaim.holds_of_wide 5 Tryz.f5 rfl rfl rfl rfl rfl rfl rfl ⟨rfl,rfl,rfl,rfl,rfl⟩ rfl rfl rfl rfl rfl (by kernel_rfl) Tryz.func5 (by kernel_rfl)
  (of_decide_eq_true (by kernel_rfl)) (by unfold Func.isWrapper;first|(rw[if_pos (by decide +kernel)];kernel_rfl)|(rw[if_neg (by decide +kernel)];exact⟨rfl,rfl⟩))
  (fun os started H enc _=>c0d os started H enc)
end Go.Proofs.YtmekflfjaflmkaaGreat
