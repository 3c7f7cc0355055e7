/- The clock's law: what its operations do, without the program. -/
import Derived.Test.YtmekflfjaflmkaaHRvb
import Derived.Test.YtmekflfjaflmkaaHCkA
import Derived.Test.YtmekflfjaflmkaaRows
import Derived.WalkKit
import Derived.ProofKit
import Derived.OpenShut
import Derived.JoinedCond
import Derived.ShutString
set_option linter.unusedSimpArgs false
set_option linter.unusedVariables false
set_option linter.unusedSectionVars false
open Option renaming bind_some → Q0, map_some → Q1, bind → Xg, bind_eq_bind → Xk, pure_def → Xn, getD_some → Xr
open Bool renaming false_eq_true → Q2, and_self → Q9, not_true → Qk, not_false → Qr, and_eq_true → QA, true_and → QB, false_and → QC, true_or → QX, false_or → X8, not_eq_true → Xf, eq_iff_iff → XD
open List renaming getD_cons_zero → Q3, nil_append → Q4, getD_cons_succ → Q5, cons_append → Q6, getElem?_cons_zero → Q7, append_nil → Q8, map_cons → Qa, map_nil → Qb, length_cons → Qd, getElem?_cons_succ → Qe, length_nil → Qf, replicate → Qh, getElem?_set_ne → Qj, getElem?_eq_some_iff → Qm, length_set → Qp, flatten_cons → Qq, getElem?_append_left → Qs, drop_zero → Qt, all_eq_true → Qu, mem_of_getElem? → Qv, length_append → Qw, map → Qy, take_zero → QD, take_succ_cons → QJ, length_singleton → QK, getElem?_set_self → QL, take_of_length_le → QM, getElem?_map → QN, mem_or_eq_of_mem_set → QP, length_map → QQ, length_take → QS, replicate_succ → QU, all_append → QW, length_drop → QZ, getElem?_append_right → X0, mem_of_mem_take → X1, all_cons → X4, all_nil → X5, ext_getElem? → X7, take_left' → X9, drop_eq_nil_of_le → Xa, set_cons_zero → Xb, drop_left' → Xc, map_set → Xd, mapM_cons → Xh, mapM_nil → Xj, length_pos_iff → Xp, getLast?_eq_getElem? → Xq, drop_append → Xs, take_append → Xt, append_assoc → Xu, drop_eq_getElem_cons → Xv, getElem?_eq_getElem → Xw, drop_drop → Xx, drop_take → Xy, take_take → Xz, getElem?_of_mem → XA, foldl_cons → XC, set_append_right → XE, getElem?_set → XF, map_append → XG, set_append_left → XH, map_replicate → XJ, mem_append → XK
open Nat renaming zero_add → Qg, le_refl → Qn, add_zero → QH, add_mul → QY, add_sub_cancel_left → X2, min_eq_left → X3, sub_self → X6, le_succ → Xe
open Int renaming toNat_natCast → Qz, tdiv → QV
open Option.some renaming injEq → QE
set_option maxRecDepth 100000
namespace Go.Proofs.Ytmekflfjaflmkaa
open Go.Sx
structure Rn where
 (p:W6) (ask got:List W6) (bid:List Bool)
structure Ck where
 (cl:List Rn) (p:W6) (ask:List W6) (bid out:List Bool) (over:Bool)
structure Po where
 (st pc un ru:Int)
def Po.row(o:Po):List PV:=[.int .i64 o.st,.int .i64 o.pc,.int .i64 o.un,.int .i64 o.ru]
def Po.ok(o:Po):Prop:=1<=o.st/\o.st<=1000000/\0<=o.pc/\o.pc<=100/\1<=o.un/\o.un<=3/\1<=o.ru/\o.ru<=3
instance (o:Po):Decidable o.ok:=by unfold Po.ok;infer_instance
def c8I(f:Int->Int->Int)(a b:W6):W6:=⟨f a.a b.a,f a.b b.b,f a.c b.c,f a.d b.d,f a.e b.e,f a.f b.f⟩
def b8i(a b:W6):W6:=⟨a.a+b.a,a.b+b.b,a.c+b.c,a.d+b.d,a.e+b.e,a.f+b.f⟩
def b2M(l:List W6):W6:=l.foldl b8i w0
def exI(s t:Int):Int:=if s<t then t-s else 0
def exW(s:W6)(l:List W6):W6:=c8I exI s (b2M l)
def rsI(o:Po)(p:Int):Int:=p+o.st+QV (p*o.pc+99) 100
def rsW(o:Po)(p ex:W6):W6:=c8I (fun x e=>if 0<e then rsI o x else x) p ex
def rfI(s t n a:Int):Bool:=ltB a n&&ltB (t-n+a) s
def rfW(s t n a:W6):Bool:=rfI s.a t.a n.a a.a||(rfI s.b t.b n.b a.b||(rfI s.c t.c n.c a.c||(rfI s.d t.d n.d a.d||(rfI s.e t.e n.e a.e||rfI s.f t.f n.f a.f))))
def paI(s t n a:Int):Int:=if a<n then n-mnI (n-a) (mxI (t-s) 0) else a
def paW(s t n a:W6):W6:=⟨paI s.a t.a n.a a.a,paI s.b t.b n.b a.b,paI s.c t.c n.c a.c,paI s.d t.d n.d a.d,paI s.e t.e n.e a.e,paI s.f t.f n.f a.f⟩
def pick(un:Int)(s t n a:W6):W6:=if un=2 then(if rfW s t n a=true then n else a) else if un=3 then paW s t n a else a
def apN(un:Int)(s:W6)(asked out:List W6):Nat->List W6
 | 0=>out
 | i+1=>(apN un s asked out i).set i (pick un s (b2M (apN un s asked out i)) (wa (apN un s asked out i) i) (wa asked i))
def apW(un:Int)(s:W6)(before asked:List W6):List W6:=apN un s asked before asked.length
variable (ps:List Pr)(bs:List Bd)(cs ad:List Tri)(o:Po)
noncomputable def agB(l:List Ch):Bool:=@decide ((∀y∈l,y.ok)/\Pot l) (Classical.propDecidable _)
theorem d3i(l:List Ch):agB l=true↔(∀y∈l,y.ok)/\Pot l:=by unfold agB;rw[@decide_eq_true_iff]
namespace Ck
def has(c:Ck)(i:Int):Bool:=leB 0 i&&ltB i (c.out.length:Int)
def chs(c:Ck)(i:Nat):List Ch:=c.cl.map fun r=>⟨r.p,wa r.ask i⟩
def blank(c:Ck):Ck:={c with ask:=Qh c.out.length w0,bid:=Qh c.out.length false}
def stop(c:Ck):Ck×Int:=if c.over=true then(c,10) else({c.blank with over:=true},0)
def drop(c:Ck)(i:Int):Ck×Int :=
 if c.has i=true then(if c.out[i.toNat]?=some true then(c,10) else({c with out:=c.out.set i.toNat true,ask:=c.ask.set i.toNat w0,bid:=c.bid.set i.toNat false},0)) else(c,6)
def reset(c:Ck)(r:Int):Ck×Int :=
 if r<0 then(c,4) else if (c.cl.length:Int)<r then(c,4) else if r=(c.cl.length:Int)/\c.over=true then(c,4) else
  ({c.blank with p:=((c.cl[r.toNat]?).map Rn.p).getD c.p,cl:=c.cl.take r.toNat,over:=false},0)
def prev(c:Ck):List W6:=((c.cl.getLast?.map Rn.got).getD []).zipIdx.map fun x=>if c.out[x.2]?=some true then w0 else x.1
end Ck
noncomputable def b5e(s:St)(c:Ck)(i:Int)(w:W6):Int :=
 if c.over=true then 10 else if c.has i=true then(if c.out[i.toNat]?=some true then 10 else
  if b3Q ps bs cs ad i w=0 then(if c2h s i ⟨c.p,w⟩=0 then c5F s o.ru i (c.chs i.toNat) ⟨c.p,w⟩ (agB (c.chs i.toNat++[⟨c.p,w⟩])) else c2h s i ⟨c.p,w⟩) else b3Q ps bs cs ad i w) else 6
noncomputable def Ck.doBid(s:St)(c:Ck)(i:Int)(w:W6):Ck×Int :=
 if b5e ps bs cs ad o s c i w=0 then({c with ask:=c.ask.set i.toNat w,bid:=c.bid.set i.toNat true},0) else(c,b5e ps bs cs ad o s c i w)
def Ck.gots(c:Ck):List W6:=if c.cl=[] then c.ask else apW o.un (a1J ps) c.prev c.ask
def Ck.ex(c:Ck):W6:=exW (a1J ps) (c.gots ps o)
def Ck.nextP(c:Ck):W6:=rsW o c.p (c.ex ps o)
def Ck.ends(c:Ck):Bool:=(c.ex ps o).isZ||(leB 30 (c.cl.length+1:Int)||!decide (c.nextP ps o).pok)
def Ck.close(c:Ck):Ck×Bool×Int :=
 if c.over=true then(c,false,10) else
  if c.ends ps o=true then({c.blank with cl:=c.cl++[⟨c.p,c.ask,c.gots ps o,c.bid⟩],over:=true},true,0)
  else({c.blank with cl:=c.cl++[⟨c.p,c.ask,c.gots ps o,c.bid⟩],p:=c.nextP ps o},false,0)
end Go.Proofs.Ytmekflfjaflmkaa
set_option maxRecDepth 100000
namespace Go.Proofs.Ytmekflfjaflmkaa
open Go.Sx
theorem c4g{α:Type}{sz:Nat}:∀(rows:List (List α)) (_:∀r∈rows,r.length=sz) (i:Nat) (r:List α),rows[i]?=some r->(rows.flatten.drop (i*sz)).take sz=r/\i*sz+sz<=rows.flatten.length
 | [],_,i,r,h=>by simp at h
 | r0::rows,hl,0,r,h=>by
  simp only[Q7,QE] at h;subst h;have h0:=hl r0 (by simp);rw[Nat.zero_mul,Qt,Qq,X9 h0,Qw];exact⟨rfl,by omega⟩
 | r0::rows,hl,i+1,r,h=>by
  have h0:=hl r0 (by simp);obtain⟨h1,h2⟩:=c4g rows (fun q hq=>hl q (by simp[hq])) i r (by simpa using h);rw[Qq,show (i+1)*sz=r0.length+i*sz by rw[h0,QY];omega,Xs,Qw];refine⟨?_,by omega⟩;rw[Xa (by omega),Q4,X2];exact h1
theorem b7O{sz:Nat}:∀(rows:List (List PV)) (_:∀r∈rows,r.length=sz) (i:Nat) (_:i<rows.length) (x:List PV),x.length=sz->a2h rows.flatten (i*sz) x=(rows.set i x).flatten
 | [],_,i,h,_,_=>by simp at h
 | r0::rows,hl,0,_,x,hx=>by
  have h0:=hl r0 (by simp);unfold a2h;rw[Nat.zero_mul,QD,Q4,Qg,Qq,Xb,Qq,Xc (by omega)]
 | r0::rows,hl,i+1,h,x,hx=>by
  have h0:=hl r0 (by simp);have ih:=b7O rows (fun q hq=>hl q (by simp[hq])) i (by simpa using h) x hx;rw[List.set_cons_succ,Qq,Qq,<- ih];unfold a2h;rw[show (i+1)*sz=r0.length+i*sz by rw[h0,QY];omega,Xt,QM (by omega),X2,Nat.add_assoc,Xs,Xa (by omega),Q4,X2];simp only[Xu]
theorem b9L(w:W6):w.pv.length=6:=rfl
theorem c7p(l:List W6):∀r∈l.map W6.pv,r.length=6:=fun r hr=>by obtain⟨w,_,rfl⟩:=List.mem_map.1 hr;rfl
theorem b0j{n:Nat}{l:List PV}{r:List PV}(h:l.take n=r)(hl:n<=l.length):a0P n l=some r:=by unfold a0P;rw[if_pos hl,h]
theorem b6t(l:List W6):(l.map W6.pv).flatten.length=l.length*6:=by
 induction l with
 | nil=>rfl
 | cons w l ih=>rw[Qa,Qq,Qw,ih,b9L,Qd];omega
theorem c4A(l:List W6){i:Nat}(hi:i<l.length)(w:W6):a2h (l.map W6.pv).flatten (i*6) w.pv=((l.set i w).map W6.pv).flatten:=by
 rw[b7O (l.map W6.pv) (c7p l) i (by simpa using hi) w.pv rfl,Xd]
theorem c2b(l:List Bool){i:Nat}{b:Bool}(h:l[i]?=some b):a0P 1 ((l.map PV.bool).drop i)=some [.bool b]:=by
 have hi:=(Qm.1 h).1;have h1:(l.map PV.bool)[i]?=some (.bool b):=by rw[QN,h];rfl
 refine b0j ?_ (by simp;omega);rw[Xv (by simpa using hi)];simp only[QJ,QD];rw[Xw (by simpa using hi)] at h1;simpa using h1
theorem c9K(l:List Bool){i:Nat}(hi:i<l.length)(b:Bool):a2h (l.map PV.bool) i [.bool b]=(l.set i b).map PV.bool:=by
 unfold a2h;rw[Xd,List.set_eq_take_append_cons_drop,if_pos (by simpa using hi)];simp
def Low(σ:List MO):Prop:=σ.all (MO.low σ.length)=true
theorem Low.set{σ:List MO}(h:Low σ){x:Nat}{m:MO}(hm:m.low σ.length=true):Low (σ.set x m):=by
 unfold Low;rw[Qp];refine Qu.2 fun y hy=>?_
 rcases QP hy with hy|rfl
 ·exact Qu.1 h y hy
 ·exact hm
theorem Low.app{σ:List MO}(h:Low σ){m:MO}(hm:m.low (σ.length+1)=true):Low (σ++[m]):=by
 unfold Low;rw[Qw,QK,QW,QA];refine⟨Qu.2 fun y hy=>MO.low_mono (Xe _) (Qu.1 h y hy),?_⟩;simpa using hm
theorem Low.get{σ:List MO}(h:Low σ){x:Nat}{m:MO}(hx:σ[x]?=some m):m.low σ.length=true:=Qu.1 h m (Qv hx)
theorem Low.flat{σ:List MO}(h:Low σ):b1a σ:=fun k hk=>Qu.2 fun y hy=>MO.low_mono hk (Qu.1 h y hy)
theorem a6i(k:Nat)(l:List W6)(T:Nat):(MO.cells (l.map W6.pv).flatten T).low k=true:=by
 show PV.lows k (l.map W6.pv).flatten=true
 induction l with
 | nil=>rfl
 | cons w l ih=>rw[Qa,Qq];simpa[W6.pv,PV.lows,PV.low] using ih
theorem a7j(k:Nat)(l:List Bool)(T:Nat):(MO.cells (l.map PV.bool) T).low k=true:=by
 show PV.lows k (l.map PV.bool)=true
 induction l with
 | nil=>rfl
 | cons w l ih=>rw[Qa];simpa[PV.lows,PV.low] using ih
theorem d0F(k:Nat)(l:List W6)(T:Nat):(MO.row (l.map W6.pv) 6 T).low k=true:=by
 show PV.lowss k (l.map W6.pv)=true
 induction l with
 | nil=>rfl
 | cons w l ih=>rw[Qa];simpa[W6.pv,PV.lowss,PV.lows,PV.low] using ih
structure BRd (σ:List MO)(v:PV)(l:List W6):Prop where
 kind:v.isKind 0=true
 one:v.one=true
 len:v.len=(l.length:Int)
 rd:∀(i:Nat) (w:W6),l[i]?=some w->∃L:Nat->Sx.Loc,∀off n,off+n<=6->a3E (i:Int) 6 off v=some (L off)/\∀(is:List Int) (bs:List Bool) (vs:List PV) (k:Nat),a0a {i:=is,b:=bs,v:=vs,m:=σ,k:=k} false n (L off)=some ((w.pv.drop off).take n)
def BSl(σ:List MO)(R:Nat->Prop)(v:PV)(l:List W6):Prop :=
 (∃h,R h/\v=.msl h 0 l.length l.length 6/\σ[h]?=some (.cells (l.map W6.pv).flatten 38))\/(∃h,R h/\v=.rsl h l.length 6/\σ[h]?=some (.row (l.map W6.pv) 6 38))
def OSl(σ:List MO)(R:Nat->Prop)(v:PV)(l:List Bool):Prop:=∃h,R h/\v=.msl h 0 l.length l.length 1/\σ[h]?=some (.cells (l.map PV.bool) 4)
section
variable {σ σ':List MO}{R R':Nat->Prop}{v:PV}{l:List W6}{lb:List Bool}
theorem c8y{h i n c sz:Nat}(hi:i<n):a3E (i:Int) sz 0 (.msl h 0 n c sz)=some (.obj h (i*sz)):=by
 simp only[a3E];rw[if_pos ⟨by omega,by omega,trivial⟩];simp
theorem c8T{h i n sz off:Nat}(hi:i<n):a3E (i:Int) sz off (.rsl h n sz)=some (.elt h n i sz off):=by
 simp only[a3E];rw[if_pos ⟨by omega,by omega,trivial⟩];simp
theorem BSl.rd(h:BSl σ R v l):BRd σ v l:=by
 rcases h with ⟨h,_,rfl,hh⟩|⟨h,_,rfl,hh⟩
 ·refine⟨rfl,rfl,rfl,fun i w hw=>⟨fun off=>Sx.Loc.obj h (0+(i*6+off)),fun off n hn=>⟨?_,fun _ _ _ _=>?_⟩⟩⟩
  ·have hi:=(Qm.1 hw).1
   simp only[a3E];rw[if_pos ⟨by omega,by omega,trivial⟩];simp
  ·obtain⟨f1,f2⟩:=c4g (l.map W6.pv) (c7p l) i w.pv (by rw[QN,hw];rfl)
   simp only[a0a,hh,Q0,MO.list,Q2,if_false];refine b0j ?_ (by rw[QZ];omega);rw[Qg,<- Xx,<- f1,Xy,Xz,X3 (by omega)]
 ·refine⟨rfl,rfl,rfl,fun i w hw=>⟨fun off=>Sx.Loc.elt h l.length i 6 off,fun off n hn=>⟨c8T (Qm.1 hw).1,fun _ _ _ _=>?_⟩⟩⟩
  simp only[a0a,hh,Q0,MO.elts,QQ,and_self,if_true,Q2,if_false,QN,hw,Q1];exact b0j rfl (by rw[QZ,b9L];omega)
theorem BSl.frame(h:BSl σ R v l)(hf:∀x,R x->σ'[x]?=σ[x]?):BSl σ' R v l:=by
 rcases h with ⟨h,hR,rfl,hh⟩|⟨h,hR,rfl,hh⟩
 ·exact .inl ⟨h,hR,rfl,by rw[hf h hR];exact hh⟩
 ·exact .inr ⟨h,hR,rfl,by rw[hf h hR];exact hh⟩
theorem OSl.frame(h:OSl σ R v lb)(hf:∀x,R x->σ'[x]?=σ[x]?):OSl σ' R v lb:=by
 obtain⟨h,hR,rfl,hh⟩:=h;exact⟨h,hR,rfl,by rw[hf h hR];exact hh⟩
theorem BSl.mono(h:BSl σ R v l)(hR:∀x,R x->R' x):BSl σ R' v l:=by
 rcases h with ⟨h,h1,rfl,hh⟩|⟨h,h1,rfl,hh⟩
 ·exact .inl ⟨h,hR _ h1,rfl,hh⟩
 ·exact .inr ⟨h,hR _ h1,rfl,hh⟩
theorem OSl.mono(h:OSl σ R v lb)(hR:∀x,R x->R' x):OSl σ R' v lb:=by
 obtain⟨h,h1,rfl,hh⟩:=h;exact⟨h,hR _ h1,rfl,hh⟩
theorem BSl.low(h:BSl σ R v l){k:Nat}(hR:∀x,R x->x<k):v.low k=true:=by
 rcases h with ⟨h,h1,rfl,hh⟩|⟨h,h1,rfl,hh⟩
 ·simpa[PV.low] using hR h h1
 ·simpa[PV.low] using hR h h1
theorem OSl.low(h:OSl σ R v lb){k:Nat}(hR:∀x,R x->x<k):v.low k=true:=by
 obtain⟨h,h1,rfl,hh⟩:=h;simpa[PV.low] using hR h h1
theorem BSl.one(h:BSl σ R v l):v.one=true:=h.rd.one
theorem OSl.one(h:OSl σ R v lb):v.one=true:=by obtain⟨h,_,rfl,_⟩:=h;rfl
end
def a6q(σ:List MO)(R:Nat->Prop)(r:Rn)(row:List PV):Prop :=
 ∃a g b,row=[.int .i64 r.p.a,.int .i64 r.p.b,.int .i64 r.p.c,.int .i64 r.p.d,.int .i64 r.p.e,.int .i64 r.p.f,a,g,b]/\BSl σ R a r.ask/\BSl σ R g r.got/\OSl σ R b r.bid
def a2b(σ:List MO)(R:Nat->Prop)(cl:List Rn)(rows:List (List PV)):Prop:=rows.length=cl.length/\∀(i:Nat) r row,cl[i]?=some r->rows[i]?=some row->a6q σ R r row
def CSl(σ:List MO)(R:Nat->Prop)(v:PV)(cl:List Rn):Prop :=
 (v=.nilS/\cl=[])\/(∃h rows,R h/\v=.msl h 0 cl.length cl.length 9/\σ[h]?=some (.cells rows.flatten 54)/\a2b σ R cl rows) \/
  (∃h rows,R h/\v=.rsl h cl.length 9/\cl≠[]/\σ[h]?=some (.row rows 9 54)/\a2b σ R cl rows)
section
variable {σ σ':List MO}{R R':Nat->Prop}{v:PV}{cl:List Rn}{rows:List (List PV)}{r:Rn}{row:List PV}
theorem a6q.frame(h:a6q σ R r row)(hf:∀x,R x->σ'[x]?=σ[x]?):a6q σ' R r row:=by
 obtain⟨a,g,b,rfl,h1,h2,h3⟩:=h;exact⟨a,g,b,rfl,h1.frame hf,h2.frame hf,h3.frame hf⟩
theorem a6q.mono(h:a6q σ R r row)(hR:∀x,R x->R' x):a6q σ R' r row:=by
 obtain⟨a,g,b,rfl,h1,h2,h3⟩:=h;exact⟨a,g,b,rfl,h1.mono hR,h2.mono hR,h3.mono hR⟩
theorem a6q.len(h:a6q σ R r row):row.length=9:=by obtain⟨a,g,b,rfl,_⟩:=h;rfl
theorem a6q.ones(h:a6q σ R r row):row.all PV.one=true:=by
 obtain⟨a,g,b,rfl,h1,h2,h3⟩:=h;have e:∀z:Int,PV.one (.int .i64 z)=true:=fun _=>rfl
 simp only[X4,X5,e,h1.one,h2.one,h3.one,Q9]
theorem a6q.low(h:a6q σ R r row){k:Nat}(hR:∀x,R x->x<k):PV.lows k row=true:=by
 obtain⟨a,g,b,rfl,h1,h2,h3⟩:=h;simp only[PV.lows,PV.low,h1.low hR,h2.low hR,h3.low hR,Q9]
theorem a2b.frame(h:a2b σ R cl rows)(hf:∀x,R x->σ'[x]?=σ[x]?):a2b σ' R cl rows:=⟨h.1,fun i r row h1 h2=>(h.2 i r row h1 h2).frame hf⟩
theorem a2b.mono(h:a2b σ R cl rows)(hR:∀x,R x->R' x):a2b σ R' cl rows:=⟨h.1,fun i r row h1 h2=>(h.2 i r row h1 h2).mono hR⟩
theorem a2b.mem(h:a2b σ R cl rows){row:List PV}(hr:row∈rows):∃r∈cl,a6q σ R r row:=by
 obtain⟨i,hi⟩:=XA hr;have hl:=(Qm.1 hi).1;obtain⟨r,hr⟩:=a0U (show i<cl.length by rw[<- h.1];exact hl);exact⟨r,Qv hr,h.2 i r row hr hi⟩
theorem a2b.lens(h:a2b σ R cl rows):∀r∈rows,r.length=9:=fun row hr=>by obtain⟨r,_,k⟩:=h.mem hr;exact k.len
theorem a2b.snoc(h:a2b σ R cl rows)(hr:a6q σ R r row):a2b σ R (cl++[r]) (rows++[row]):=by
 refine⟨by simp[h.1],fun i x y hx hy=>?_⟩;by_cases hi:i<cl.length
 ·rw[Qs hi] at hx
  rw[Qs (by rw[h.1];exact hi)] at hy;exact h.2 i x y hx hy
 ·have hl:i=cl.length:=by have:=(Qm.1 hx).1;simp at this;omega
  subst hl;rw[X0 (by omega)] at hx;rw[<- h.1,X0 (by omega)] at hy;simp at hx hy;subst hx hy;exact hr
theorem a2b.take(h:a2b σ R cl rows)(n:Nat):a2b σ R (cl.take n) (rows.take n):=by
 refine⟨by rw[QS,QS,h.1],fun i x y hx hy=>?_⟩;rw[List.getElem?_take] at hx hy;split at hx
 ·rename_i hi
  rw[if_pos hi] at hy;exact h.2 i x y hx hy
 ·cases hx
theorem CSl.frame(h:CSl σ R v cl)(hf:∀x,R x->σ'[x]?=σ[x]?):CSl σ' R v cl:=by
 rcases h with h|⟨h,rows,h1,h2,h3,h4⟩|⟨h,rows,h1,h2,h0,h3,h4⟩
 ·exact .inl h
 ·exact .inr (.inl ⟨h,rows,h1,h2,by rw[hf h h1];exact h3,h4.frame hf⟩)
 ·exact .inr (.inr ⟨h,rows,h1,h2,h0,by rw[hf h h1];exact h3,h4.frame hf⟩)
theorem CSl.mono(h:CSl σ R v cl)(hR:∀x,R x->R' x):CSl σ R' v cl:=by
 rcases h with h|⟨h,rows,h1,h2,h3,h4⟩|⟨h,rows,h1,h2,h0,h3,h4⟩
 ·exact .inl h
 ·exact .inr (.inl ⟨h,rows,hR _ h1,h2,h3,h4.mono hR⟩)
 ·exact .inr (.inr ⟨h,rows,hR _ h1,h2,h0,h3,h4.mono hR⟩)
theorem CSl.low(h:CSl σ R v cl){k:Nat}(hR:∀x,R x->x<k):v.low k=true:=by
 rcases h with ⟨rfl,_⟩|⟨h,rows,h1,rfl,h3,h4⟩|⟨h,rows,h1,rfl,h0,h3,h4⟩
 ·rfl
 ·simpa[PV.low] using hR h h1
 ·simpa[PV.low] using hR h h1
structure CRd (σ:List MO)(R:Nat->Prop)(v:PV)(cl:List Rn):Prop where
 kind:v.isKind 0=true
 one:v.one=true
 len:v.len=(cl.length:Int)
 rd:∀(i:Nat) r,cl[i]?=some r->∃row,a6q σ R r row/\∀off n,off+n<=9->∃L,a3E (i:Int) 9 off v=some L/\∀(is:List Int) (bs:List Bool) (vs:List PV) (k:Nat),a0a {i:=is,b:=bs,v:=vs,m:=σ,k:=k} false n L=some ((row.drop off).take n)
theorem CSl.rd(h:CSl σ R v cl):CRd σ R v cl:=by
 rcases h with ⟨rfl,rfl⟩|⟨h,rows,h1,rfl,h3,h4⟩|⟨h,rows,h1,rfl,h0,h3,h4⟩
 ·exact⟨rfl,rfl,rfl,fun i r hr=>by simp at hr⟩
 ·refine⟨rfl,rfl,rfl,fun i r hr=>?_⟩
  have hi:=(Qm.1 hr).1;obtain⟨row,hrow⟩:=a0U (show i<rows.length by rw[h4.1];exact hi);have hR:=h4.2 i r row hr hrow;refine⟨row,hR,fun off n hn=>⟨Sx.Loc.obj h (0+(i*9+off)),?_,fun _ _ _ _=>?_⟩⟩
  ·simp only[a3E]
   rw[if_pos ⟨by omega,by omega,trivial⟩];simp
  ·obtain⟨f1,f2⟩:=c4g rows h4.lens i row hrow
   simp only[a0a,h3,Q0,MO.list,Q2,if_false];refine b0j ?_ (by rw[QZ];omega);rw[Qg,<- Xx,<- f1,Xy,Xz,X3 (by omega)]
 ·refine⟨rfl,rfl,rfl,fun i r hr=>?_⟩
  have hi:=(Qm.1 hr).1;obtain⟨row,hrow⟩:=a0U (show i<rows.length by rw[h4.1];exact hi);have hR:=h4.2 i r row hr hrow;refine⟨row,hR,fun off n hn=>⟨_,c8T hi,fun _ _ _ _=>?_⟩⟩;simp only[a0a,h3,Q0,MO.elts,h4.1,and_self,if_true,Q2,if_false,hrow];exact b0j rfl (by rw[QZ,hR.len];omega)
end
def ckL(s:St)(o:Po)(vcl va vb vd:PV)(p:W6)(ov:Bool):List PV :=
 [s.P,s.B,s.C,s.A,.int .i64 o.st,.int .i64 o.pc,.int .i64 o.un,.int .i64 o.ru,vcl,.int .i64 p.a,.int .i64 p.b,.int .i64 p.c,.int .i64 p.d,.int .i64 p.e,.int .i64 p.f,va,vb,vd,.bool ov]
def ckO(s:St)(o:Po)(vcl va vb vd:PV)(p:W6)(ov:Bool):MO:=.cells (ckL s o vcl va vb vd p ov) 81
section
variable (s:St)(o:Po)(vcl va vb vd:PV)(p:W6)(ov:Bool)
theorem a6N:(ckL s o vcl va vb vd p ov).length=19:=rfl
theorem c2x(v:PV):a2h (ckL s o vcl va vb vd p ov) 8 [v]=ckL s o v va vb vd p ov:=rfl
theorem c9t(q:W6):a2h (ckL s o vcl va vb vd p ov) 9 [.int .i64 q.a,.int .i64 q.b,.int .i64 q.c,.int .i64 q.d,.int .i64 q.e,.int .i64 q.f]=ckL s o vcl va vb vd q ov:=rfl
theorem b5R(b:Bool):a2h (ckL s o vcl va vb vd p ov) 18 [.bool b]=ckL s o vcl va vb vd p b:=rfl
variable {s o vcl va vb vd p ov}
theorem a0e{m:List MO}{h:Nat}(hob:m[h]?=some (ckO s o vcl va vb vd p ov))(off n:Nat)(hn:off+n<=19)(is:List Int)(bs:List Bool)(vs:List PV)(k:Nat) :
  a0a {i:=is,b:=bs,v:=vs,m:=m,k:=k} false n (.obj h off)=some (((ckL s o vcl va vb vd p ov).drop off).take n):=by
 simp only[a0a,hob,ckO,Q0,MO.list,Q2,if_false];exact b0j rfl (by rw[QZ,a6N];omega)
end
structure CkAt (s:St)(o:Po)(σ:List MO)(h:Nat)(vcl:PV)(ha hb hd:Nat)(R:Nat->Prop)(c:Ck):Prop where
 obj:σ[h]?=some (ckO s o vcl (.msl ha 0 c.out.length c.out.length 6) (.msl hb 0 c.out.length c.out.length 1) (.msl hd 0 c.out.length c.out.length 1) c.p c.over)
 ask:σ[ha]?=some (.cells (c.ask.map W6.pv).flatten 38)
 bid:σ[hb]?=some (.cells (c.bid.map PV.bool) 4)
 out:σ[hd]?=some (.cells (c.out.map PV.bool) 4)
 la:c.ask.length=c.out.length
 lb:c.bid.length=c.out.length
 cl:CSl σ R vcl c.cl
 bd:∀x,R x->x<σ.length
 na:¬R ha
 nb:¬R hb
 nd:¬R hd
 nh:¬R h
 nbd:hb≠hd
def a4x(s:St)(o:Po)(σ:List MO)(h:Nat)(F:Nat->Prop)(c:Ck):Prop :=
 ∃vcl ha hb hd R,CkAt s o σ h vcl ha hb hd R c/\∀x,F x↔(x=h\/x=ha\/x=hb\/x=hd\/R x)
section
variable {s:St}{o:Po}{σ σ':List MO}{h:Nat}{F:Nat->Prop}{c:Ck}
end
structure Adv (σ σ':List MO)(F F':Nat->Prop):Prop where
 len:σ.length<=σ'.length
 keep:∀x,x<σ.length->¬F x->σ'[x]?=σ[x]?
 own:∀x,F' x->F x\/σ.length<=x
 low:Low σ'
theorem Adv.refl{σ:List MO}{F:Nat->Prop}(h:Low σ):Adv σ σ F F:=⟨Qn _,fun _ _ _=>rfl,fun _ h=>.inl h,h⟩
def W6.sm(w:W6)(b:Int):Prop:=0<=w.a/\w.a<=b/\0<=w.b/\w.b<=b/\0<=w.c/\w.c<=b/\0<=w.d/\w.d<=b/\0<=w.e/\w.e<=b/\0<=w.f/\w.f<=b
theorem W6.ok.sm{w:W6}(h:w.ok):w.sm 4:=h
theorem W6.sm.mono{w:W6}{a b:Int}(h:w.sm a)(hab:a<=b):w.sm b:=by unfold W6.sm at *;omega
theorem c5Q{v w:W6}{a b:Int}(h:v.sm a)(k:w.sm b):(b8i v w).sm (a+b):=by unfold W6.sm at *;simp only[b8i];omega
theorem c9z:∀(l:List W6) (v:W6) (a:Int),v.sm a->(∀w∈l,w.ok)->(l.foldl b8i v).sm (a+4*l.length)
 | [],v,a,h,_=>by simpa using h
 | w::l,v,a,h,k=>by
  have:=c9z l (b8i v w) (a+4) (c5Q h (k w (by simp)).sm) (fun x hx=>k x (by simp[hx]));rw[XC];refine this.mono ?_;simp only[Qd];omega
theorem c9u{l:List W6}(h:∀w∈l,w.ok)(h8:l.length<=8):(b2M l).sm 32:=(c9z l w0 0 (by simp[W6.sm,w0]) h).mono (by omega)
theorem pv6(w:W6):w.pv=[.int .i64 w.a,.int .i64 w.b,.int .i64 w.c,.int .i64 w.d,.int .i64 w.e,.int .i64 w.f]:=rfl
section
variable (σ:List MO)(v:PV)(l:List W6)(hv:BRd σ v l)(hok:∀w∈l,w.ok)(hl:l.length<=8)(n:Nat)
def c7W(σ:List MO)(v:PV)(N i:Int)(t:W6):PEnv:={i:=[N,i,t.a,t.b,t.c,t.d,t.e,t.f],b:=[],v:=[v],m:=σ,k:=σ.length}
include hv hok hl in
theorem d2N:∀d i,i+d=l.length->∀(t:W6),t.sm (4*i)->∀fuel,d+1<=fuel ->
  a4E.loop (a0b Tab n) fuel 0 (c7W σ v (l.length:Int) (i:Int) t)=some (.agg ((l.drop i).foldl b8i t).pv,σ):=by
 intro d
 induction d with
 | zero =>
  intro i hi t ht fuel hf;obtain⟨fuel,rfl⟩:∃k,fuel=k+1:=⟨fuel-1,by omega⟩;have hd:ltB (i:Int) (l.length:Int)=false:=by rw[a0F];omega
  rw[Xa (by omega),Sys.loop,show a4E.loops[0]?=some a6H from rfl];simp only[Q0,c7W,a6H,↓reduceIte,a0j,a0d,BE.safe,BE.pe,IE.pe,Q3,Q5,Q2,Q1,Q0,SV.pvs,SV.pv,hd,a0m,or_true,List.foldl_nil,pv6]
 | succ d ih =>
  intro i hi t ht fuel hf;obtain⟨fuel,rfl⟩:∃k,fuel=k+1:=⟨fuel-1,by omega⟩;obtain⟨w,hw⟩:=a0U (show i<l.length by omega);have hd:ltB (i:Int) (l.length:Int)=true:=by rw[a0Q];omega
  obtain⟨L,hL⟩:=hv.rd i w hw;obtain⟨q1,q2⟩:=hL 0 6 (by decide);have q2:∀is bs vs k,a0a {i:=is,b:=bs,v:=vs,m:=σ,k:=k} false 6 (L 0)=some w.pv:=fun a b c d=>q2 a b c d
  have hwk0:=(hok w (Qv hw)).sm;have ht0:=ht;have hwk:=hwk0;have ht':=c5Q ht hwk;simp only[W6.sm] at ht ht' hwk;simp only[b8i] at ht';have ih:=ih (i+1) (by omega) (b8i t w) ((c5Q (a:=4*(i:Int)) ht0 hwk0).mono (by omega)) fuel (by omega);have hdr:l.drop i=w::l.drop (i+1):=by rw[Xv (by omega),(Qm.1 hw).2]
  rw[hdr,XC];rw[Sys.loop,show a4E.loops[0]?=some a6H from rfl];have hup:=a3I (show i<=1000000000 by omega);simp only[c7W,b8i,a1q] at ih;simp only[Q0,c7W,a6H,↓reduceIte,PT.ev,BE.safe,BE.pe,IE.pe,PEnv.at,Q3,Q5,Q7,a0p,Qd,Qf,Nat.reduceAdd,a0c,Q1,Q0,PEnv.push,Q6,Q4,SV.pvs,SV.pv,BE.all,Q9,Qa,Qb,hd,le0,hv.len,q1,q2,pv6,if_pos hup,if_pos (a0C (z:=t.a+w.a) (by omega)),if_pos (a0C (z:=t.b+w.b) (by omega)),if_pos (a0C (z:=t.c+w.c) (by omega)),if_pos (a0C (z:=t.d+w.d) (by omega)),if_pos (a0C (z:=t.e+w.e) (by omega)),if_pos (a0C (z:=t.f+w.f) (by omega))];exact ih
include hv hok hl in
theorem c4z(hn:20<=n):a0b Tab n b2y [v] σ=some (.agg (b2M l).pv,σ):=by
 obtain⟨n,rfl⟩:∃k,n=k+1:=⟨n-1,by omega⟩;have key:=d2N σ v l hv hok hl n l.length 0 (by omega) w0 (by simp[W6.sm,w0]) n (by omega);rw[a0b];simp only[c2r,Q0,Sys.run];show ((a0f [.sh (.one _)] _).bind _)=_;simp only[a0f,a0g,a0c,Q1,Q0,Q8,if_true,hv.one];show (PT.ev _ b2E _).bind _=_;simp only[b2E,↓reduceIte,a0h,a0k,BE.safe,BE.pe,IE.pe,PEnv.at,Q3,Q7,Q1,Q0,SV.pvs,SV.pv,BE.all,Qa,Qb,hv.kind,hv.len];exact key
include hv hok hl in
theorem d2b(hn:21<=n):a0b Tab n c0Z [v] σ=some (.agg (b2M l).pv,σ):=by
 obtain⟨n,rfl⟩:∃k,n=k+1:=⟨n-1,by omega⟩;have k1:=c4z σ v l hv hok hl n (by omega);simp only[b2y,pv6] at k1;rw[a0b];simp only[c5e,Q0,Sys.run,pv6];show ((a0f [.sh (.one _)] _).bind _)=_;simp only[a0f,a0g,a0c,Q1,Q0,Q8,if_true,hv.one];show (PT.ev _ b5w _).bind _=_;simp only[b5w,↓reduceIte,a0j,a0n,IE.pe,Q3,Q5,Q7,Q2,a0c,a0l,a0g,Q1,Q0,PEnv.push,Q6,Q4,SV.pvs,SV.pv,k1,a0m,or_true]
end
section
variable (σ:List MO)(n:Nat)
def a6y(σ:List MO)(k:Int)(a b o:W6):PEnv:={i:=[k,a.a,a.b,a.c,a.d,a.e,a.f,b.a,b.b,b.c,b.d,b.e,b.f,o.a,o.b,o.c,o.d,o.e,o.f],b:=[],v:=[],m:=σ,k:=σ.length}
def a1W(σ:List MO)(k:Int)(s t m a:W6):PEnv:={i:=[k,s.a,s.b,s.c,s.d,s.e,s.f,t.a,t.b,t.c,t.d,t.e,t.f,m.a,m.b,m.c,m.d,m.e,m.f,a.a,a.b,a.c,a.d,a.e,a.f],b:=[],v:=[],m:=σ,k:=σ.length}
theorem d1t(a b o:W6)(ha:a.sm 1000)(hb:b.sm 1000)(ho:o.a=0)(fuel:Nat) :
  a0L.loop (a0b Tab n) (fuel+1) 0 (a6y σ 0 a b o)=a0L.loop (a0b Tab n) fuel 0 (a6y σ 1 a b {o with a:=exI b.a a.a}):=by
 have e5:∀a b:Int,eqB a b=decide (a=b):=fun _ _=>rfl
 have e6:∀a b:Int,ltB a b=decide (a<b):=fun _ _=>rfl
 simp only[W6.sm] at ha hb;have hr:=a0C (z:=a.a-b.a) (by omega);rw[Sys.loop,show a0L.loops[0]?=some a1y from rfl];simp only[a6y,exI];simp only[Q0,a1y,↓reduceIte,a0d,a0h,a0k,BE.safe,BE.pe,IE.pe,Q3,Q5,Q2,Q1,Q0,SV.pvs,BE.all,Q9,Qa,Qb,e5,e6,Int.reduceEq,Int.reduceLT,decide_true,decide_false];by_cases h:b.a<a.a
 ·simp only[↓reduceIte,Q0,dT0 h,if_pos h,if_pos hr]
 ·simp only[↓reduceIte,Q2,Q0,dF0 h,if_neg h,ho]
theorem d1v(s t m a:W6)(hs:s.sm 1000)(ht:t.sm 1000)(hm:m.sm 1000)(ha:a.sm 1000)(fuel:Nat) :
  a0v.loop (a0b Tab n) (fuel+1) 0 (a1W σ 0 s t m a)=a0v.loop (a0b Tab n) fuel 0 (a1W σ 1 s t m {a with a:=paI s.a t.a m.a a.a}):=by
 have e5:∀a b:Int,eqB a b=decide (a=b):=fun _ _=>rfl
 have e6:∀a b:Int,ltB a b=decide (a<b):=fun _ _=>rfl
 simp only[W6.sm] at hs ht hm ha;have h1:=a0C (z:=m.a-a.a) (by omega);have h2:=a0C (z:=t.a-s.a) (by omega);have h3:=a0C (z:=m.a-mnI (m.a-a.a) (mxI (t.a-s.a) 0)) (by unfold mnI mxI;split<;>split<;>omega);rw[Sys.loop,show a0v.loops[0]?=some a0S from rfl];simp only[a1W,paI];simp only[Q0,a0S,↓reduceIte,a0d,a0h,a0k,BE.safe,BE.pe,IE.pe,Q3,Q5,Q2,Q1,Q0,SV.pvs,BE.all,Q9,Qa,Qb,e5,e6,Int.reduceEq,Int.reduceLT,decide_true,decide_false];by_cases h:a.a<m.a
 ·simp only[↓reduceIte,Q0,dT0 h,if_pos h,if_pos h1,if_pos h2,if_pos h3]
 ·simp only[↓reduceIte,Q2,Q0,dF0 h,if_neg h]
theorem d1T(s t m a:W6)(hs:s.sm 1000)(ht:t.sm 1000)(hm:m.sm 1000)(ha:a.sm 1000)(fuel:Nat) :
  a0t.loop (a0b Tab n) (fuel+1) 0 (a1W σ 0 s t m a)=if rfI s.a t.a m.a a.a=true then some (.bool true,σ) else a0t.loop (a0b Tab n) fuel 0 (a1W σ 1 s t m a):=by
 have e5:∀a b:Int,eqB a b=decide (a=b):=fun _ _=>rfl
 have e6:∀a b:Int,ltB a b=decide (a<b):=fun _ _=>rfl
 simp only[W6.sm] at hs ht hm ha;have h1:=a0C (z:=t.a-m.a) (by omega);have h2:=a0C (z:=t.a-m.a+a.a) (by omega);rw[Sys.loop,show a0t.loops[0]?=some a0K from rfl];simp only[a1W,rfI];simp only[Q0,a0K,↓reduceIte,a0j,a0d,a0h,a0k,BE.safe,BE.pe,IE.pe,Q3,Q5,Q2,Q1,Q0,SV.pvs,SV.pv,BE.all,Q9,Qa,Qb,e5,e6,Int.reduceEq,Int.reduceLT,decide_true,decide_false];cases decide (a.a<m.a) with
 | true =>
  simp only[↓reduceIte,if_pos h1,if_pos h2,QB];cases decide (t.a-m.a+a.a<s.a)<;>simp only[↓reduceIte,Q2,Q1,Q0,Q2,a0m,or_true]
 | false=>simp only[↓reduceIte,Q2,Q0,QC,Q2]
theorem d0V(a b o:W6)(ha:a.sm 1000)(hb:b.sm 1000)(ho:o.b=0)(fuel:Nat) :
  a0L.loop (a0b Tab n) (fuel+1) 0 (a6y σ 1 a b o)=a0L.loop (a0b Tab n) fuel 0 (a6y σ 2 a b {o with b:=exI b.b a.b}):=by
 have e5:∀a b:Int,eqB a b=decide (a=b):=fun _ _=>rfl
 have e6:∀a b:Int,ltB a b=decide (a<b):=fun _ _=>rfl
 simp only[W6.sm] at ha hb;have hr:=a0C (z:=a.b-b.b) (by omega);rw[Sys.loop,show a0L.loops[0]?=some a1y from rfl];simp only[a6y,exI];simp only[Q0,a1y,↓reduceIte,a0d,a0h,a0k,BE.safe,BE.pe,IE.pe,Q3,Q5,Q2,Q1,Q0,SV.pvs,BE.all,Q9,Qa,Qb,e5,e6,Int.reduceEq,Int.reduceLT,decide_true,decide_false];by_cases h:b.b<a.b
 ·simp only[↓reduceIte,Q0,dT0 h,if_pos h,if_pos hr]
 ·simp only[↓reduceIte,Q2,Q0,dF0 h,if_neg h,ho]
theorem d1K(s t m a:W6)(hs:s.sm 1000)(ht:t.sm 1000)(hm:m.sm 1000)(ha:a.sm 1000)(fuel:Nat) :
  a0v.loop (a0b Tab n) (fuel+1) 0 (a1W σ 1 s t m a)=a0v.loop (a0b Tab n) fuel 0 (a1W σ 2 s t m {a with b:=paI s.b t.b m.b a.b}):=by
 have e5:∀a b:Int,eqB a b=decide (a=b):=fun _ _=>rfl
 have e6:∀a b:Int,ltB a b=decide (a<b):=fun _ _=>rfl
 simp only[W6.sm] at hs ht hm ha;have h1:=a0C (z:=m.b-a.b) (by omega);have h2:=a0C (z:=t.b-s.b) (by omega);have h3:=a0C (z:=m.b-mnI (m.b-a.b) (mxI (t.b-s.b) 0)) (by unfold mnI mxI;split<;>split<;>omega);rw[Sys.loop,show a0v.loops[0]?=some a0S from rfl];simp only[a1W,paI];simp only[Q0,a0S,↓reduceIte,a0d,a0h,a0k,BE.safe,BE.pe,IE.pe,Q3,Q5,Q2,Q1,Q0,SV.pvs,BE.all,Q9,Qa,Qb,e5,e6,Int.reduceEq,Int.reduceLT,decide_true,decide_false];by_cases h:a.b<m.b
 ·simp only[↓reduceIte,Q0,dT0 h,if_pos h,if_pos h1,if_pos h2,if_pos h3]
 ·simp only[↓reduceIte,Q2,Q0,dF0 h,if_neg h]
theorem d1j(s t m a:W6)(hs:s.sm 1000)(ht:t.sm 1000)(hm:m.sm 1000)(ha:a.sm 1000)(fuel:Nat) :
  a0t.loop (a0b Tab n) (fuel+1) 0 (a1W σ 1 s t m a)=if rfI s.b t.b m.b a.b=true then some (.bool true,σ) else a0t.loop (a0b Tab n) fuel 0 (a1W σ 2 s t m a):=by
 have e5:∀a b:Int,eqB a b=decide (a=b):=fun _ _=>rfl
 have e6:∀a b:Int,ltB a b=decide (a<b):=fun _ _=>rfl
 simp only[W6.sm] at hs ht hm ha;have h1:=a0C (z:=t.b-m.b) (by omega);have h2:=a0C (z:=t.b-m.b+a.b) (by omega);rw[Sys.loop,show a0t.loops[0]?=some a0K from rfl];simp only[a1W,rfI];simp only[Q0,a0K,↓reduceIte,a0j,a0d,a0h,a0k,BE.safe,BE.pe,IE.pe,Q3,Q5,Q2,Q1,Q0,SV.pvs,SV.pv,BE.all,Q9,Qa,Qb,e5,e6,Int.reduceEq,Int.reduceLT,decide_true,decide_false];cases decide (a.b<m.b) with
 | true =>
  simp only[↓reduceIte,if_pos h1,if_pos h2,QB];cases decide (t.b-m.b+a.b<s.b)<;>simp only[↓reduceIte,Q2,Q1,Q0,Q2,a0m,or_true]
 | false=>simp only[↓reduceIte,Q2,Q0,QC,Q2]
theorem d1d(a b o:W6)(ha:a.sm 1000)(hb:b.sm 1000)(ho:o.c=0)(fuel:Nat) :
  a0L.loop (a0b Tab n) (fuel+1) 0 (a6y σ 2 a b o)=a0L.loop (a0b Tab n) fuel 0 (a6y σ 3 a b {o with c:=exI b.c a.c}):=by
 have e5:∀a b:Int,eqB a b=decide (a=b):=fun _ _=>rfl
 have e6:∀a b:Int,ltB a b=decide (a<b):=fun _ _=>rfl
 simp only[W6.sm] at ha hb;have hr:=a0C (z:=a.c-b.c) (by omega);rw[Sys.loop,show a0L.loops[0]?=some a1y from rfl];simp only[a6y,exI];simp only[Q0,a1y,↓reduceIte,a0d,a0h,a0k,BE.safe,BE.pe,IE.pe,Q3,Q5,Q2,Q1,Q0,SV.pvs,BE.all,Q9,Qa,Qb,e5,e6,Int.reduceEq,Int.reduceLT,decide_true,decide_false];by_cases h:b.c<a.c
 ·simp only[↓reduceIte,Q0,dT0 h,if_pos h,if_pos hr]
 ·simp only[↓reduceIte,Q2,Q0,dF0 h,if_neg h,ho]
theorem d1F(s t m a:W6)(hs:s.sm 1000)(ht:t.sm 1000)(hm:m.sm 1000)(ha:a.sm 1000)(fuel:Nat) :
  a0v.loop (a0b Tab n) (fuel+1) 0 (a1W σ 2 s t m a)=a0v.loop (a0b Tab n) fuel 0 (a1W σ 3 s t m {a with c:=paI s.c t.c m.c a.c}):=by
 have e5:∀a b:Int,eqB a b=decide (a=b):=fun _ _=>rfl
 have e6:∀a b:Int,ltB a b=decide (a<b):=fun _ _=>rfl
 simp only[W6.sm] at hs ht hm ha;have h1:=a0C (z:=m.c-a.c) (by omega);have h2:=a0C (z:=t.c-s.c) (by omega);have h3:=a0C (z:=m.c-mnI (m.c-a.c) (mxI (t.c-s.c) 0)) (by unfold mnI mxI;split<;>split<;>omega);rw[Sys.loop,show a0v.loops[0]?=some a0S from rfl];simp only[a1W,paI];simp only[Q0,a0S,↓reduceIte,a0d,a0h,a0k,BE.safe,BE.pe,IE.pe,Q3,Q5,Q2,Q1,Q0,SV.pvs,BE.all,Q9,Qa,Qb,e5,e6,Int.reduceEq,Int.reduceLT,decide_true,decide_false];by_cases h:a.c<m.c
 ·simp only[↓reduceIte,Q0,dT0 h,if_pos h,if_pos h1,if_pos h2,if_pos h3]
 ·simp only[↓reduceIte,Q2,Q0,dF0 h,if_neg h]
theorem d1m(s t m a:W6)(hs:s.sm 1000)(ht:t.sm 1000)(hm:m.sm 1000)(ha:a.sm 1000)(fuel:Nat) :
  a0t.loop (a0b Tab n) (fuel+1) 0 (a1W σ 2 s t m a)=if rfI s.c t.c m.c a.c=true then some (.bool true,σ) else a0t.loop (a0b Tab n) fuel 0 (a1W σ 3 s t m a):=by
 have e5:∀a b:Int,eqB a b=decide (a=b):=fun _ _=>rfl
 have e6:∀a b:Int,ltB a b=decide (a<b):=fun _ _=>rfl
 simp only[W6.sm] at hs ht hm ha;have h1:=a0C (z:=t.c-m.c) (by omega);have h2:=a0C (z:=t.c-m.c+a.c) (by omega);rw[Sys.loop,show a0t.loops[0]?=some a0K from rfl];simp only[a1W,rfI];simp only[Q0,a0K,↓reduceIte,a0j,a0d,a0h,a0k,BE.safe,BE.pe,IE.pe,Q3,Q5,Q2,Q1,Q0,SV.pvs,SV.pv,BE.all,Q9,Qa,Qb,e5,e6,Int.reduceEq,Int.reduceLT,decide_true,decide_false];cases decide (a.c<m.c) with
 | true =>
  simp only[↓reduceIte,if_pos h1,if_pos h2,QB];cases decide (t.c-m.c+a.c<s.c)<;>simp only[↓reduceIte,Q2,Q1,Q0,Q2,a0m,or_true]
 | false=>simp only[↓reduceIte,Q2,Q0,QC,Q2]
theorem d0U(a b o:W6)(ha:a.sm 1000)(hb:b.sm 1000)(ho:o.d=0)(fuel:Nat) :
  a0L.loop (a0b Tab n) (fuel+1) 0 (a6y σ 3 a b o)=a0L.loop (a0b Tab n) fuel 0 (a6y σ 4 a b {o with d:=exI b.d a.d}):=by
 have e5:∀a b:Int,eqB a b=decide (a=b):=fun _ _=>rfl
 have e6:∀a b:Int,ltB a b=decide (a<b):=fun _ _=>rfl
 simp only[W6.sm] at ha hb;have hr:=a0C (z:=a.d-b.d) (by omega);rw[Sys.loop,show a0L.loops[0]?=some a1y from rfl];simp only[a6y,exI];simp only[Q0,a1y,↓reduceIte,a0d,a0h,a0k,BE.safe,BE.pe,IE.pe,Q3,Q5,Q2,Q1,Q0,SV.pvs,BE.all,Q9,Qa,Qb,e5,e6,Int.reduceEq,Int.reduceLT,decide_true,decide_false];by_cases h:b.d<a.d
 ·simp only[↓reduceIte,Q0,dT0 h,if_pos h,if_pos hr]
 ·simp only[↓reduceIte,Q2,Q0,dF0 h,if_neg h,ho]
theorem d1q(s t m a:W6)(hs:s.sm 1000)(ht:t.sm 1000)(hm:m.sm 1000)(ha:a.sm 1000)(fuel:Nat) :
  a0v.loop (a0b Tab n) (fuel+1) 0 (a1W σ 3 s t m a)=a0v.loop (a0b Tab n) fuel 0 (a1W σ 4 s t m {a with d:=paI s.d t.d m.d a.d}):=by
 have e5:∀a b:Int,eqB a b=decide (a=b):=fun _ _=>rfl
 have e6:∀a b:Int,ltB a b=decide (a<b):=fun _ _=>rfl
 simp only[W6.sm] at hs ht hm ha;have h1:=a0C (z:=m.d-a.d) (by omega);have h2:=a0C (z:=t.d-s.d) (by omega);have h3:=a0C (z:=m.d-mnI (m.d-a.d) (mxI (t.d-s.d) 0)) (by unfold mnI mxI;split<;>split<;>omega);rw[Sys.loop,show a0v.loops[0]?=some a0S from rfl];simp only[a1W,paI];simp only[Q0,a0S,↓reduceIte,a0d,a0h,a0k,BE.safe,BE.pe,IE.pe,Q3,Q5,Q2,Q1,Q0,SV.pvs,BE.all,Q9,Qa,Qb,e5,e6,Int.reduceEq,Int.reduceLT,decide_true,decide_false];by_cases h:a.d<m.d
 ·simp only[↓reduceIte,Q0,dT0 h,if_pos h,if_pos h1,if_pos h2,if_pos h3]
 ·simp only[↓reduceIte,Q2,Q0,dF0 h,if_neg h]
theorem d0B(s t m a:W6)(hs:s.sm 1000)(ht:t.sm 1000)(hm:m.sm 1000)(ha:a.sm 1000)(fuel:Nat) :
  a0t.loop (a0b Tab n) (fuel+1) 0 (a1W σ 3 s t m a)=if rfI s.d t.d m.d a.d=true then some (.bool true,σ) else a0t.loop (a0b Tab n) fuel 0 (a1W σ 4 s t m a):=by
 have e5:∀a b:Int,eqB a b=decide (a=b):=fun _ _=>rfl
 have e6:∀a b:Int,ltB a b=decide (a<b):=fun _ _=>rfl
 simp only[W6.sm] at hs ht hm ha;have h1:=a0C (z:=t.d-m.d) (by omega);have h2:=a0C (z:=t.d-m.d+a.d) (by omega);rw[Sys.loop,show a0t.loops[0]?=some a0K from rfl];simp only[a1W,rfI];simp only[Q0,a0K,↓reduceIte,a0j,a0d,a0h,a0k,BE.safe,BE.pe,IE.pe,Q3,Q5,Q2,Q1,Q0,SV.pvs,SV.pv,BE.all,Q9,Qa,Qb,e5,e6,Int.reduceEq,Int.reduceLT,decide_true,decide_false];cases decide (a.d<m.d) with
 | true =>
  simp only[↓reduceIte,if_pos h1,if_pos h2,QB];cases decide (t.d-m.d+a.d<s.d)<;>simp only[↓reduceIte,Q2,Q1,Q0,Q2,a0m,or_true]
 | false=>simp only[↓reduceIte,Q2,Q0,QC,Q2]
theorem d1W(a b o:W6)(ha:a.sm 1000)(hb:b.sm 1000)(ho:o.e=0)(fuel:Nat) :
  a0L.loop (a0b Tab n) (fuel+1) 0 (a6y σ 4 a b o)=a0L.loop (a0b Tab n) fuel 0 (a6y σ 5 a b {o with e:=exI b.e a.e}):=by
 have e5:∀a b:Int,eqB a b=decide (a=b):=fun _ _=>rfl
 have e6:∀a b:Int,ltB a b=decide (a<b):=fun _ _=>rfl
 simp only[W6.sm] at ha hb;have hr:=a0C (z:=a.e-b.e) (by omega);rw[Sys.loop,show a0L.loops[0]?=some a1y from rfl];simp only[a6y,exI];simp only[Q0,a1y,↓reduceIte,a0d,a0h,a0k,BE.safe,BE.pe,IE.pe,Q3,Q5,Q2,Q1,Q0,SV.pvs,BE.all,Q9,Qa,Qb,e5,e6,Int.reduceEq,Int.reduceLT,decide_true,decide_false];by_cases h:b.e<a.e
 ·simp only[↓reduceIte,Q0,dT0 h,if_pos h,if_pos hr]
 ·simp only[↓reduceIte,Q2,Q0,dF0 h,if_neg h,ho]
theorem d1N(s t m a:W6)(hs:s.sm 1000)(ht:t.sm 1000)(hm:m.sm 1000)(ha:a.sm 1000)(fuel:Nat) :
  a0v.loop (a0b Tab n) (fuel+1) 0 (a1W σ 4 s t m a)=a0v.loop (a0b Tab n) fuel 0 (a1W σ 5 s t m {a with e:=paI s.e t.e m.e a.e}):=by
 have e5:∀a b:Int,eqB a b=decide (a=b):=fun _ _=>rfl
 have e6:∀a b:Int,ltB a b=decide (a<b):=fun _ _=>rfl
 simp only[W6.sm] at hs ht hm ha;have h1:=a0C (z:=m.e-a.e) (by omega);have h2:=a0C (z:=t.e-s.e) (by omega);have h3:=a0C (z:=m.e-mnI (m.e-a.e) (mxI (t.e-s.e) 0)) (by unfold mnI mxI;split<;>split<;>omega);rw[Sys.loop,show a0v.loops[0]?=some a0S from rfl];simp only[a1W,paI];simp only[Q0,a0S,↓reduceIte,a0d,a0h,a0k,BE.safe,BE.pe,IE.pe,Q3,Q5,Q2,Q1,Q0,SV.pvs,BE.all,Q9,Qa,Qb,e5,e6,Int.reduceEq,Int.reduceLT,decide_true,decide_false];by_cases h:a.e<m.e
 ·simp only[↓reduceIte,Q0,dT0 h,if_pos h,if_pos h1,if_pos h2,if_pos h3]
 ·simp only[↓reduceIte,Q2,Q0,dF0 h,if_neg h]
theorem d0z(s t m a:W6)(hs:s.sm 1000)(ht:t.sm 1000)(hm:m.sm 1000)(ha:a.sm 1000)(fuel:Nat) :
  a0t.loop (a0b Tab n) (fuel+1) 0 (a1W σ 4 s t m a)=if rfI s.e t.e m.e a.e=true then some (.bool true,σ) else a0t.loop (a0b Tab n) fuel 0 (a1W σ 5 s t m a):=by
 have e5:∀a b:Int,eqB a b=decide (a=b):=fun _ _=>rfl
 have e6:∀a b:Int,ltB a b=decide (a<b):=fun _ _=>rfl
 simp only[W6.sm] at hs ht hm ha;have h1:=a0C (z:=t.e-m.e) (by omega);have h2:=a0C (z:=t.e-m.e+a.e) (by omega);rw[Sys.loop,show a0t.loops[0]?=some a0K from rfl];simp only[a1W,rfI];simp only[Q0,a0K,↓reduceIte,a0j,a0d,a0h,a0k,BE.safe,BE.pe,IE.pe,Q3,Q5,Q2,Q1,Q0,SV.pvs,SV.pv,BE.all,Q9,Qa,Qb,e5,e6,Int.reduceEq,Int.reduceLT,decide_true,decide_false];cases decide (a.e<m.e) with
 | true =>
  simp only[↓reduceIte,if_pos h1,if_pos h2,QB];cases decide (t.e-m.e+a.e<s.e)<;>simp only[↓reduceIte,Q2,Q1,Q0,Q2,a0m,or_true]
 | false=>simp only[↓reduceIte,Q2,Q0,QC,Q2]
theorem d1i(a b o:W6)(ha:a.sm 1000)(hb:b.sm 1000)(ho:o.f=0)(fuel:Nat) :
  a0L.loop (a0b Tab n) (fuel+1) 0 (a6y σ 5 a b o)=a0L.loop (a0b Tab n) fuel 0 (a6y σ 6 a b {o with f:=exI b.f a.f}):=by
 have e5:∀a b:Int,eqB a b=decide (a=b):=fun _ _=>rfl
 have e6:∀a b:Int,ltB a b=decide (a<b):=fun _ _=>rfl
 simp only[W6.sm] at ha hb;have hr:=a0C (z:=a.f-b.f) (by omega);rw[Sys.loop,show a0L.loops[0]?=some a1y from rfl];simp only[a6y,exI];simp only[Q0,a1y,↓reduceIte,a0d,a0h,a0k,BE.safe,BE.pe,IE.pe,Q3,Q5,Q1,Q0,SV.pvs,BE.all,Q9,Qa,Qb,e5,e6,Int.reduceLT,decide_true,];by_cases h:b.f<a.f
 ·simp only[↓reduceIte,Q0,dT0 h,if_pos h,if_pos hr]
 ·simp only[↓reduceIte,Q2,Q0,dF0 h,if_neg h,ho]
theorem d1g(s t m a:W6)(hs:s.sm 1000)(ht:t.sm 1000)(hm:m.sm 1000)(ha:a.sm 1000)(fuel:Nat) :
  a0v.loop (a0b Tab n) (fuel+1) 0 (a1W σ 5 s t m a)=a0v.loop (a0b Tab n) fuel 0 (a1W σ 6 s t m {a with f:=paI s.f t.f m.f a.f}):=by
 have e5:∀a b:Int,eqB a b=decide (a=b):=fun _ _=>rfl
 have e6:∀a b:Int,ltB a b=decide (a<b):=fun _ _=>rfl
 simp only[W6.sm] at hs ht hm ha;have h1:=a0C (z:=m.f-a.f) (by omega);have h2:=a0C (z:=t.f-s.f) (by omega);have h3:=a0C (z:=m.f-mnI (m.f-a.f) (mxI (t.f-s.f) 0)) (by unfold mnI mxI;split<;>split<;>omega);rw[Sys.loop,show a0v.loops[0]?=some a0S from rfl];simp only[a1W,paI];simp only[Q0,a0S,↓reduceIte,a0d,a0h,a0k,BE.safe,BE.pe,IE.pe,Q3,Q5,Q1,Q0,SV.pvs,BE.all,Q9,Qa,Qb,e5,e6,Int.reduceLT,decide_true,];by_cases h:a.f<m.f
 ·simp only[↓reduceIte,Q0,dT0 h,if_pos h,if_pos h1,if_pos h2,if_pos h3]
 ·simp only[↓reduceIte,Q2,Q0,dF0 h,if_neg h]
theorem d1E(s t m a:W6)(hs:s.sm 1000)(ht:t.sm 1000)(hm:m.sm 1000)(ha:a.sm 1000)(fuel:Nat) :
  a0t.loop (a0b Tab n) (fuel+1) 0 (a1W σ 5 s t m a)=if rfI s.f t.f m.f a.f=true then some (.bool true,σ) else a0t.loop (a0b Tab n) fuel 0 (a1W σ 6 s t m a):=by
 have e5:∀a b:Int,eqB a b=decide (a=b):=fun _ _=>rfl
 have e6:∀a b:Int,ltB a b=decide (a<b):=fun _ _=>rfl
 simp only[W6.sm] at hs ht hm ha;have h1:=a0C (z:=t.f-m.f) (by omega);have h2:=a0C (z:=t.f-m.f+a.f) (by omega);rw[Sys.loop,show a0t.loops[0]?=some a0K from rfl];simp only[a1W,rfI];simp only[Q0,a0K,↓reduceIte,a0j,a0d,a0h,a0k,BE.safe,BE.pe,IE.pe,Q3,Q5,Q1,Q0,SV.pvs,SV.pv,BE.all,Q9,Qa,Qb,e5,e6,Int.reduceLT,decide_true,];cases decide (a.f<m.f) with
 | true =>
  simp only[↓reduceIte,if_pos h1,if_pos h2,QB];cases decide (t.f-m.f+a.f<s.f)<;>simp only[↓reduceIte,Q2,Q1,Q0,Q2,a0m,or_true]
 | false=>simp only[↓reduceIte,Q2,Q0,QC,Q2]
theorem d0P(a b:W6)(ha:a.sm 1000)(hb:b.sm 1000)(hn:10<=n):a0b Tab n b9N [.agg a.pv,.agg b.pv] σ=some (.agg (c8I exI b a).pv,σ):=by
 obtain⟨n,rfl⟩:∃k,n=k+8:=⟨n-8,by omega⟩
 have fin:∀(w:W6) fuel,a0L.loop (a0b Tab (n+7)) (fuel+1) 0 (a6y σ 6 a b w)=some (.agg w.pv,σ):=fun w fuel=>by
  have e6:ltB 6 6=false:=rfl;rw[Sys.loop,show a0L.loops[0]?=some a1y from rfl];simp only[Q0,a6y,a1y,↓reduceIte,a0j,a0d,BE.safe,BE.pe,IE.pe,Q3,Q5,Q2,Q1,Q0,SV.pvs,SV.pv,e6,pv6,a0m,or_true]
 have key:a0L.loop (a0b Tab (n+7)) (n+7) 0 (a6y σ 0 a b w0)=some (.agg (c8I exI b a).pv,σ):=by
  rw[d1t σ _ a b _ ha hb rfl (n+6),d0V σ _ a b _ ha hb rfl (n+5),d1d σ _ a b _ ha hb rfl (n+4),d0U σ _ a b _ ha hb rfl (n+3),d1W σ _ a b _ ha hb rfl (n+2),d1i σ _ a b _ ha hb rfl (n+1)];exact fin _ n
 rw[a0b];simp only[c3V,Q0,Sys.run,pv6];show ((a0f [.sh (.agg [_,_,_,_,_,_]),.sh (.agg [_,_,_,_,_,_])] _).bind _)=_;simp only[a0f,a0g,a0c,Q1,Q0,Q8,Q4,Q6,if_true];show (PT.ev _ b3J _).bind _=_;simp only[b3J,a0k,IE.pe,Q3,Q5,Q1,Q0,SV.pvs,BE.all,Qa,Qb];exact key
theorem c8f(s t m a:W6)(hs:s.sm 100)(ht:t.sm 100)(hm:m.sm 100)(ha:a.sm 100)(hn:10<=n):a0b Tab n b2t [.agg s.pv,.agg t.pv,.agg m.pv,.agg a.pv] σ=some (.agg (paW s t m a).pv,σ):=by
 obtain⟨n,rfl⟩:∃k,n=k+8:=⟨n-8,by omega⟩
 have fin:∀(w:W6) fuel,a0v.loop (a0b Tab (n+7)) (fuel+1) 0 (a1W σ 6 s t m w)=some (.agg w.pv,σ):=fun w fuel=>by
  have e6:ltB 6 6=false:=rfl;rw[Sys.loop,show a0v.loops[0]?=some a0S from rfl];simp only[Q0,a1W,a0S,↓reduceIte,a0j,a0d,BE.safe,BE.pe,IE.pe,Q3,Q5,Q2,Q1,Q0,SV.pvs,SV.pv,e6,pv6,a0m,or_true]
 have hs':=hs.mono (show (100:Int)<=1000 by decide);have ht':=ht.mono (show (100:Int)<=1000 by decide);have hm':=hm.mono (show (100:Int)<=1000 by decide)
 have bd:∀{x y z w:Int},0<=z->z<=100->0<=w->w<=100->0<=paI x y z w/\paI x y z w<=1000:=fun {x y z w} h1 h2 h3 h4=>by
  unfold paI mnI mxI
  repeat' split
  all_goals omega
 have key:a0v.loop (a0b Tab (n+7)) (n+7) 0 (a1W σ 0 s t m a)=some (.agg (paW s t m a).pv,σ):=by
  have q:=ha.mono (show (100:Int)<=1000 by decide);have g:=hm;simp only[W6.sm] at ha g;have pa:=fun x y=>bd (x:=x) (y:=y) g.1 g.2.1 ha.1 ha.2.1
  have pb:=fun x y=>bd (x:=x) (y:=y) g.2.2.1 g.2.2.2.1 ha.2.2.1 ha.2.2.2.1
  have pc:=fun x y=>bd (x:=x) (y:=y) g.2.2.2.2.1 g.2.2.2.2.2.1 ha.2.2.2.2.1 ha.2.2.2.2.2.1
  have pd:=fun x y=>bd (x:=x) (y:=y) g.2.2.2.2.2.2.1 g.2.2.2.2.2.2.2.1 ha.2.2.2.2.2.2.1 ha.2.2.2.2.2.2.2.1
  have pe:=fun x y=>bd (x:=x) (y:=y) g.2.2.2.2.2.2.2.2.1 g.2.2.2.2.2.2.2.2.2.1 ha.2.2.2.2.2.2.2.2.1 ha.2.2.2.2.2.2.2.2.2.1
  rw[d1v σ _ s t m _ hs' ht' hm' q (n+6)];rw[d1K σ _ s t m _ hs' ht' hm' (by have:=pa s.a t.a;simp only[W6.sm] at q ⊢;omega) (n+5)];rw[d1F σ _ s t m _ hs' ht' hm' (by have:=pa s.a t.a;have:=pb s.b t.b;simp only[W6.sm] at q ⊢;omega) (n+4)];rw[d1q σ _ s t m _ hs' ht' hm' (by have:=pa s.a t.a;have:=pb s.b t.b;have:=pc s.c t.c;simp only[W6.sm] at q ⊢;omega) (n+3)];rw[d1N σ _ s t m _ hs' ht' hm' (by have:=pa s.a t.a;have:=pb s.b t.b;have:=pc s.c t.c;have:=pd s.d t.d;simp only[W6.sm] at q ⊢;omega) (n+2)];rw[d1g σ _ s t m _ hs' ht' hm' (by have:=pa s.a t.a;have:=pb s.b t.b;have:=pc s.c t.c;have:=pd s.d t.d;have:=pe s.e t.e;simp only[W6.sm] at q ⊢;omega) (n+1)];exact fin _ n
 rw[a0b];simp only[b7g,Q0,Sys.run,pv6];show ((a0f [.sh (.agg [_,_,_,_,_,_]),.sh (.agg [_,_,_,_,_,_]),.sh (.agg [_,_,_,_,_,_]),.sh (.agg [_,_,_,_,_,_])] _).bind _)=_;simp only[a0f,a0g,a0c,Q1,Q0,Q8,Q4,Q6,if_true];show (PT.ev _ a8G _).bind _=_;simp only[a8G,a0k,IE.pe,Q3,Q5,Q1,Q0,SV.pvs,BE.all,Qa,Qb];exact key
theorem c7d(s t m a:W6)(hs:s.sm 1000)(ht:t.sm 1000)(hm:m.sm 1000)(ha:a.sm 1000)(hn:10<=n):a0b Tab n b1s [.agg s.pv,.agg t.pv,.agg m.pv,.agg a.pv] σ=some (.bool (rfW s t m a),σ):=by
 obtain⟨n,rfl⟩:∃k,n=k+8:=⟨n-8,by omega⟩
 have fin:∀fuel,a0t.loop (a0b Tab (n+7)) (fuel+1) 0 (a1W σ 6 s t m a)=some (.bool false,σ):=fun fuel=>by
  have e6:ltB 6 6=false:=rfl;rw[Sys.loop,show a0t.loops[0]?=some a0K from rfl];simp only[Q0,a1W,a0K,↓reduceIte,a0j,a0d,BE.safe,BE.pe,IE.pe,Q3,Q2,Q1,Q0,SV.pv,e6,a0m,or_true]
 have key:a0t.loop (a0b Tab (n+7)) (n+7) 0 (a1W σ 0 s t m a)=some (.bool (rfW s t m a),σ):=by
  rw[d1T σ _ s t m a hs ht hm ha (n+6),d1j σ _ s t m a hs ht hm ha (n+5),d1m σ _ s t m a hs ht hm ha (n+4),d0B σ _ s t m a hs ht hm ha (n+3),d0z σ _ s t m a hs ht hm ha (n+2),d1E σ _ s t m a hs ht hm ha (n+1),fin n];unfold rfW
  repeat' split
  all_goals simp_all
 rw[a0b];simp only[b5X,Q0,Sys.run,pv6];show ((a0f [.sh (.agg [_,_,_,_,_,_]),.sh (.agg [_,_,_,_,_,_]),.sh (.agg [_,_,_,_,_,_]),.sh (.agg [_,_,_,_,_,_])] _).bind _)=_;simp only[a0f,a0g,a0c,Q1,Q0,Q8,Q4,Q6,if_true];show (PT.ev _ a7T _).bind _=_;simp only[a7T,a0k,IE.pe,Q3,Q5,Q1,Q0,SV.pvs,BE.all,Qa,Qb];exact key
theorem c9c(v:PV)(l:List W6)(hv:BRd σ v l)(hok:∀w∈l,w.ok)(hl:l.length<=8)(s:W6)(hs:s.sm 1000)(hn:30<=n):a0b Tab n b6L [.agg s.pv,v] σ=some (.agg (exW s l).pv,σ):=by
 obtain⟨n,rfl⟩:∃k,n=k+1:=⟨n-1,by omega⟩;have k1:=c4z σ v l hv hok hl n (by omega);have k2:=d0P σ n (b2M l) s ((c9u hok hl).mono (by decide)) hs (by omega);simp only[b2y,b9N,pv6] at k1 k2;rw[a0b];simp only[c1w,Q0,Sys.run,pv6,exW];show ((a0f [.sh (.agg [_,_,_,_,_,_]),.sh (.one _)] _).bind _)=_;simp only[a0f,a0g,a0c,Q1,Q0,Q8,Q4,if_true,hv.one];show (PT.ev _ b1K _).bind _=_;simp only[b1K,↓reduceIte,a0j,a0n,IE.pe,Q3,Q5,Q7,Q2,a0c,a0l,a0g,Q1,Q0,PEnv.push,Q6,Q4,SV.pvs,SV.pv,k1,k2,a0m,or_true]
end
theorem a6I(o:Po):o.row=[.int .i64 o.st,.int .i64 o.pc,.int .i64 o.un,.int .i64 o.ru]:=rfl
def a8Z(o:Po)(p ex:W6):W6×Int:=if (rsW o p ex).pok then(rsW o p ex,0) else(w0,4)
section
variable (σ:List MO)(n:Nat)
def a9z(o:Po):Int:=if o.ok then 0 else 4
theorem a6V(o:Po)(hn:1<=n):a0b Tab n a5N [.agg o.row] σ=some (.int .i64 (a9z o),σ):=by
 obtain⟨n,rfl⟩:∃k,n=k+1:=⟨n-1,by omega⟩;rw[a0b];simp only[b8d,Q0,Sys.run,a6I];show ((a0f [.sh (.agg [_,_,_,_])] _).bind _)=_;simp only[a0f,a0g,a0c,Q1,Q0,Q8,if_true];show (PT.ev _ a8n _).bind _=_;have e6:∀a b:Int,ltB a b=decide (a<b):=fun _ _=>rfl
 simp only[a8n,↓reduceIte,a0j,a0d,BE.safe,BE.pe,IE.pe,Q3,Q5,Q2,Q1,Q0,SV.pv,e6,a0m,or_true];by_cases h1:o.st<1
 ·rw[show a9z o=4 from if_neg (by unfold Po.ok;omega)];simp only[dT0 h1,↓reduceIte,Q0,]
 rw[dF0 h1];by_cases h2:1000000<o.st
 ·rw[show a9z o=4 from if_neg (by unfold Po.ok;omega)];simp only[dT0 h2,↓reduceIte,Q2,Q0,]
 rw[dF0 h2];by_cases h3:o.pc<0
 ·rw[show a9z o=4 from if_neg (by unfold Po.ok;omega)];simp only[dT0 h3,↓reduceIte,Q2,Q0,]
 rw[dF0 h3];by_cases h4:100<o.pc
 ·rw[show a9z o=4 from if_neg (by unfold Po.ok;omega)];simp only[dT0 h4,↓reduceIte,Q2,Q0,]
 rw[dF0 h4];by_cases h5:o.un<1
 ·rw[show a9z o=4 from if_neg (by unfold Po.ok;omega)];simp only[dT0 h5,↓reduceIte,Q2,Q0,]
 rw[dF0 h5];by_cases h6:3<o.un
 ·rw[show a9z o=4 from if_neg (by unfold Po.ok;omega)];simp only[dT0 h6,↓reduceIte,Q2,Q0,]
 rw[dF0 h6];by_cases h7:o.ru<1
 ·rw[show a9z o=4 from if_neg (by unfold Po.ok;omega)];simp only[dT0 h7,↓reduceIte,Q2,Q0,]
 rw[dF0 h7];by_cases h8:3<o.ru
 ·rw[show a9z o=4 from if_neg (by unfold Po.ok;omega)];simp only[dT0 h8,↓reduceIte,Q2,Q0,]
 rw[dF0 h8,show a9z o=0 from if_pos (by unfold Po.ok;omega)];simp only[↓reduceIte,Q2,Q0,]
def c8O(z:Int):Int:=if 0<=z/\z<=1000000 then 0 else 4
theorem c8X(z:Int)(hn:2<=n):a0b Tab n b6r [.int .i64 z] σ=some (.int .i64 (c8O z),σ):=by
 obtain⟨n,rfl⟩:∃k,n=k+1+1:=⟨n-2,by omega⟩
 have k1:a0b Tab (n+1) c1h [.int .i64 z] σ=some (.bool (decide (0<=z/\z<=1000000)),σ):=by
  rw[a0b];simp only[c5b,Q0,Sys.run];show ((a0f [.sh (.one _)] _).bind _)=_;simp only[a0f,a0g,a0c,Q1,Q0,Q8,if_true];show (PT.ev _ b5o _).bind _=_;simp only[b5o,↓reduceIte,a0j,a0d,BE.safe,BE.pe,IE.pe,Q3,Q0,SV.pv,];by_cases h:0<=z
  ·rw[a2H.2 h]
   simp only[↓reduceIte,Q2,Q1,Q0,a0m,or_true]
   congr 3
   simp[leB,h]
  ·rw[b0K.2 h]
   simp only[↓reduceIte,Q2,Q1,Q0,a0m,or_true];rw[dF0 (by omega)]
 simp only[c1h] at k1;rw[a0b];simp only[c1H,Q0,Sys.run];show ((a0f [.sh (.one _)] _).bind _)=_;simp only[a0f,a0g,a0c,Q1,Q0,Q8,if_true];show (PT.ev _ b1V _).bind _=_;unfold c8O;simp only[b1V,↓reduceIte,a0j,a0d,a0n,BE.safe,BE.pe,IE.pe,Q3,a0c,a0l,a0g,Q1,Q0,PEnv.push,Q6,Q4,SV.pvs,SV.pv,k1];by_cases h:0<=z/\z<=1000000
 ·rw[dT0 h,if_pos h];simp only[↓reduceIte,Q2,Q1,Q0,Qk,a0m,or_true]
 ·rw[dF0 h,if_neg h];simp only[↓reduceIte,Q2,Q1,Q0,Qr,a0m,or_true]
theorem d4a(z:Int):eqB (c8O z) 0=decide (0<=z/\z<=1000000):=by
 unfold c8O;split<;>rename_i h
 ·rw[dT0 h];rfl
 ·rw[dF0 h];rfl
theorem d2T(w:W6):decide w.pok=(decide (0<=w.a/\w.a<=1000000)&&(decide (0<=w.b/\w.b<=1000000)&&(decide (0<=w.c/\w.c<=1000000)&&(decide (0<=w.d/\w.d<=1000000)&&(decide (0<=w.e/\w.e<=1000000)&&decide (0<=w.f/\w.f<=1000000)))))):=by
 rw[XD];simp only[decide_eq_true_eq,QA];unfold W6.pok;omega
theorem a5g(p:W6)(hn:3<=n):a0b Tab n a2i [.agg p.pv] σ=some (.bool (decide p.pok),σ):=by
 obtain⟨n,rfl⟩:∃k,n=k+1:=⟨n-1,by omega⟩;have k1:=fun z=>c8X σ n z (by omega)
 simp only[b6r] at k1;rw[a0b];simp only[b8j,Q0,Sys.run,pv6];show ((a0f [.sh (.agg [_,_,_,_,_,_])] _).bind _)=_;simp only[a0f,a0g,a0c,Q1,Q0,Q8,if_true];show (PT.ev _ a8v _).bind _=_;rw[d2T];simp only[a8v,↓reduceIte,a0j,a0d,a0n,BE.safe,BE.pe,IE.pe,Q3,Q5,a0c,a0l,a0g,Q1,Q0,PEnv.push,Q6,Q4,Q8,SV.pvs,SV.pv,k1,d4a];cases decide (0<=p.a/\p.a<=1000000) with
 | false=>simp only[↓reduceIte,Q2,Q1,Q0,Qr,a0m,or_true,QC]
 | true =>
 simp only[↓reduceIte,Q2,Qk,QB];cases decide (0<=p.b/\p.b<=1000000) with
 | false=>simp only[↓reduceIte,Q2,Q1,Q0,Qr,a0m,or_true,QC]
 | true =>
 simp only[↓reduceIte,Q2,Qk,QB];cases decide (0<=p.c/\p.c<=1000000) with
 | false=>simp only[↓reduceIte,Q2,Q1,Q0,Qr,a0m,or_true,QC]
 | true =>
 simp only[↓reduceIte,Q2,Qk,QB];cases decide (0<=p.d/\p.d<=1000000) with
 | false=>simp only[↓reduceIte,Q2,Q1,Q0,Qr,a0m,or_true,QC]
 | true =>
 simp only[↓reduceIte,Q2,Qk,QB];cases decide (0<=p.e/\p.e<=1000000) with
 | false=>simp only[↓reduceIte,Q2,Q1,Q0,Qr,a0m,or_true,QC]
 | true =>
 simp only[↓reduceIte,Q2,Qk,QB];cases decide (0<=p.f/\p.f<=1000000)<;>simp only[↓reduceIte,Q2,Q1,Q0,Qk,Qr,a0m,or_true]
theorem d5u{o:Po}(ho:o.ok){p:Int}(h0:0<=p)(h1:p<=1000000):0<=p*o.pc/\p*o.pc<=100000000/\0<=QV (p*o.pc+99) 100/\QV (p*o.pc+99) 100<=1000001/\p<rsI o p:=by
 unfold Po.ok at ho;have a0:0<=p*o.pc:=Int.mul_nonneg h0 ho.2.2.1;have a1:p*o.pc<=1000000*100:=Int.mul_le_mul h1 ho.2.2.2.1 ho.2.2.1 (by omega);have e:QV (p*o.pc+99) 100=(p*o.pc+99) / 100:=Int.tdiv_eq_ediv_of_nonneg (by omega);unfold rsI;rw[e];omega
theorem a8U(o:Po)(ho:o.ok)(p:Int)(h0:0<=p)(h1:p<=1000000)(hn:1<=n):a0b Tab n a4y [.int .i64 p,.cell o.row 0] σ=some (.int .i64 (rsI o p),σ):=by
 obtain⟨n,rfl⟩:∃k,n=k+1:=⟨n-1,by omega⟩;obtain⟨b1,b2,b3,b4,_⟩:=d5u ho h0 h1;unfold Po.ok at ho;have g1:=a0C (z:=p+o.st) (by omega);have g2:=a0C (z:=p*o.pc) (by omega);have g3:=a0C (z:=p*o.pc+99) (by omega);have g4:=a0C (z:=QV (p*o.pc+99) 100) (by omega);have g5:=a0C (z:=p+o.st+QV (p*o.pc+99) 100) (by omega);rw[a0b];simp only[b4z,Q0,Sys.run,a6I];show ((a0f [.sh (.one _),.ptr] _).bind _)=_;simp only[a0f,a0g,a0c,Q1,Q0,Q8,Q4,if_true,PV.isPtr];show (PT.ev _ a6F _).bind _=_;simp only[a6F,↓reduceIte,a0j,a0h,a0u,BE.safe,BE.pe,IE.pe,Q3,Q5,Q7,a0p,a1k,a0a,a0P,QH,Qt,Qd,Qf,Nat.reduceAdd,Q2,QJ,QD,a0c,Q1,Q0,PEnv.push,Q6,Q4,SV.pv,Q9,List.drop_succ_cons,Nat.reduceLeDiff,if_pos g1,if_pos g2,if_pos g3,if_pos g4,if_pos g5,a0m,true_or,rsI]
theorem c8H(hσ:Low σ)(o:Po)(hn:1<=n):a0b Tab n b1u [.agg o.row] σ=some (.fn a4y [.cell o.row 0],σ):=by
 obtain⟨n,rfl⟩:∃k,n=k+1:=⟨n-1,by omega⟩;rw[a0b];simp only[b5Q,Q0,Sys.run,a6I];show ((a0f [.sh (.agg [_,_,_,_])] _).bind _)=_;simp only[a0f,a0g,a0c,Q1,Q0,Q8,if_true];show (PT.ev _ a7F _).bind _=_;have h1:¬(σ.length+1=σ.length):=by omega
 have h2:¬σ.length<σ.length:=by omega
 have hl:List.all σ (MO.low σ.length)=true:=hσ;simp only[a7F,↓reduceIte,a0j,a5x,IE.pe,Q3,Q5,Q7,Q1,Q0,Q4,SV.pvs,SV.pv,];simp[a0m,PV.on,hl,PV.frz,PV.frzs,b1l,MO.list]
end
theorem d1o(x y:W6):W6.beq x y=true↔x=y:=by
 obtain⟨a,b,c,d,e,f⟩:=x;obtain⟨a',b',c',d',e',f'⟩:=y;simp[W6.beq,eqB]
def fnV(o:Po):PV:=.fn a4y [.cell o.row 0]
section
variable (σ:List MO)(n:Nat)(o:Po)(ho:o.ok)(p ex:W6)(hp:p.pok)
def a5t(σ:List MO)(o:Po)(p ex:W6)(k:Int)(w:W6):PEnv:={i:=[ex.a,ex.b,ex.c,ex.d,ex.e,ex.f,k,o.st,o.pc,o.un,o.ru,p.a,p.b,p.c,p.d,p.e,p.f,w.a,w.b,w.c,w.d,w.e,w.f],b:=[],v:=[fnV o],m:=σ,k:=σ.length}
def upI(o:Po)(e p:Int):Int:=if 0<e then rsI o p else p
include ho hp in
theorem d1Q(hn:4<=n)(w:W6)(hw:w.a=p.a)(fuel:Nat) :
  a0z.loop (a0b Tab n) (fuel+1) 0 (a5t σ o p ex 0 w)=a0z.loop (a0b Tab n) fuel 0 (a5t σ o p ex 1 {w with a:=upI o ex.a p.a}):=by
 have e5:∀a b:Int,eqB a b=decide (a=b):=fun _ _=>rfl
 have e6:∀a b:Int,ltB a b=decide (a<b):=fun _ _=>rfl
 have hp':=hp;simp only[W6.pok] at hp';have k1:=a5g σ n p (by omega);have k2:=a8U σ n o ho p.a (by omega) (by omega) (by omega);rw[dT0 hp] at k1;simp only[a2i,pv6] at k1;rw[Sys.loop,show a0z.loops[0]?=some a0Z from rfl];simp only[a5t,upI,fnV];simp only[Q0,a0Z,↓reduceIte,a0d,a0n,a2l,a0k,BE.safe,BE.pe,IE.pe,Q3,Q5,Q7,Q2,a0l,a0g,Q1,Q0,PEnv.push,Q6,Q4,SV.pvs,SV.pv,BE.all,Qa,Qb,e5,e6,Int.reduceEq,Int.reduceLT,decide_true,decide_false];by_cases h:0<ex.a
 ·simp only[↓reduceIte,Q3,a0c,Q1,Q0,Q4,dT0 h,if_pos h,k1,k2]
 ·simp only[↓reduceIte,Q2,Q0,dF0 h,if_neg h,hw]
include ho hp in
theorem d1O(hn:4<=n)(w:W6)(hw:w.b=p.b)(fuel:Nat) :
  a0z.loop (a0b Tab n) (fuel+1) 0 (a5t σ o p ex 1 w)=a0z.loop (a0b Tab n) fuel 0 (a5t σ o p ex 2 {w with b:=upI o ex.b p.b}):=by
 have e5:∀a b:Int,eqB a b=decide (a=b):=fun _ _=>rfl
 have e6:∀a b:Int,ltB a b=decide (a<b):=fun _ _=>rfl
 have hp':=hp;simp only[W6.pok] at hp';have k1:=a5g σ n p (by omega);have k2:=a8U σ n o ho p.b (by omega) (by omega) (by omega);rw[dT0 hp] at k1;simp only[a2i,pv6] at k1;rw[Sys.loop,show a0z.loops[0]?=some a0Z from rfl];simp only[a5t,upI,fnV];simp only[Q0,a0Z,↓reduceIte,a0d,a0n,a2l,a0k,BE.safe,BE.pe,IE.pe,Q3,Q5,Q7,Q2,a0l,a0g,Q1,Q0,PEnv.push,Q6,Q4,SV.pvs,SV.pv,BE.all,Qa,Qb,e5,e6,Int.reduceEq,Int.reduceLT,decide_true,decide_false];by_cases h:0<ex.b
 ·simp only[↓reduceIte,Q3,a0c,Q1,Q0,Q4,dT0 h,if_pos h,k1,k2]
 ·simp only[↓reduceIte,Q2,Q0,dF0 h,if_neg h,hw]
include ho hp in
theorem d0E(hn:4<=n)(w:W6)(hw:w.c=p.c)(fuel:Nat) :
  a0z.loop (a0b Tab n) (fuel+1) 0 (a5t σ o p ex 2 w)=a0z.loop (a0b Tab n) fuel 0 (a5t σ o p ex 3 {w with c:=upI o ex.c p.c}):=by
 have e5:∀a b:Int,eqB a b=decide (a=b):=fun _ _=>rfl
 have e6:∀a b:Int,ltB a b=decide (a<b):=fun _ _=>rfl
 have hp':=hp;simp only[W6.pok] at hp';have k1:=a5g σ n p (by omega);have k2:=a8U σ n o ho p.c (by omega) (by omega) (by omega);rw[dT0 hp] at k1;simp only[a2i,pv6] at k1;rw[Sys.loop,show a0z.loops[0]?=some a0Z from rfl];simp only[a5t,upI,fnV];simp only[Q0,a0Z,↓reduceIte,a0d,a0n,a2l,a0k,BE.safe,BE.pe,IE.pe,Q3,Q5,Q7,Q2,a0l,a0g,Q1,Q0,PEnv.push,Q6,Q4,SV.pvs,SV.pv,BE.all,Qa,Qb,e5,e6,Int.reduceEq,Int.reduceLT,decide_true,decide_false];by_cases h:0<ex.c
 ·simp only[↓reduceIte,Q3,a0c,Q1,Q0,Q4,dT0 h,if_pos h,k1,k2]
 ·simp only[↓reduceIte,Q2,Q0,dF0 h,if_neg h,hw]
include ho hp in
theorem d0C(hn:4<=n)(w:W6)(hw:w.d=p.d)(fuel:Nat) :
  a0z.loop (a0b Tab n) (fuel+1) 0 (a5t σ o p ex 3 w)=a0z.loop (a0b Tab n) fuel 0 (a5t σ o p ex 4 {w with d:=upI o ex.d p.d}):=by
 have e5:∀a b:Int,eqB a b=decide (a=b):=fun _ _=>rfl
 have e6:∀a b:Int,ltB a b=decide (a<b):=fun _ _=>rfl
 have hp':=hp;simp only[W6.pok] at hp';have k1:=a5g σ n p (by omega);have k2:=a8U σ n o ho p.d (by omega) (by omega) (by omega);rw[dT0 hp] at k1;simp only[a2i,pv6] at k1;rw[Sys.loop,show a0z.loops[0]?=some a0Z from rfl];simp only[a5t,upI,fnV];simp only[Q0,a0Z,↓reduceIte,a0d,a0n,a2l,a0k,BE.safe,BE.pe,IE.pe,Q3,Q5,Q7,Q2,a0l,a0g,Q1,Q0,PEnv.push,Q6,Q4,SV.pvs,SV.pv,BE.all,Qa,Qb,e5,e6,Int.reduceEq,Int.reduceLT,decide_true,decide_false];by_cases h:0<ex.d
 ·simp only[↓reduceIte,Q3,a0c,Q1,Q0,Q4,dT0 h,if_pos h,k1,k2]
 ·simp only[↓reduceIte,Q2,Q0,dF0 h,if_neg h,hw]
include ho hp in
theorem d1P(hn:4<=n)(w:W6)(hw:w.e=p.e)(fuel:Nat) :
  a0z.loop (a0b Tab n) (fuel+1) 0 (a5t σ o p ex 4 w)=a0z.loop (a0b Tab n) fuel 0 (a5t σ o p ex 5 {w with e:=upI o ex.e p.e}):=by
 have e5:∀a b:Int,eqB a b=decide (a=b):=fun _ _=>rfl
 have e6:∀a b:Int,ltB a b=decide (a<b):=fun _ _=>rfl
 have hp':=hp;simp only[W6.pok] at hp';have k1:=a5g σ n p (by omega);have k2:=a8U σ n o ho p.e (by omega) (by omega) (by omega);rw[dT0 hp] at k1;simp only[a2i,pv6] at k1;rw[Sys.loop,show a0z.loops[0]?=some a0Z from rfl];simp only[a5t,upI,fnV];simp only[Q0,a0Z,↓reduceIte,a0d,a0n,a2l,a0k,BE.safe,BE.pe,IE.pe,Q3,Q5,Q7,Q2,a0l,a0g,Q1,Q0,PEnv.push,Q6,Q4,SV.pvs,SV.pv,BE.all,Qa,Qb,e5,e6,Int.reduceEq,Int.reduceLT,decide_true,decide_false];by_cases h:0<ex.e
 ·simp only[↓reduceIte,Q3,a0c,Q1,Q0,Q4,dT0 h,if_pos h,k1,k2]
 ·simp only[↓reduceIte,Q2,Q0,dF0 h,if_neg h,hw]
include ho hp in
theorem d0I(hn:4<=n)(w:W6)(hw:w.f=p.f)(fuel:Nat) :
  a0z.loop (a0b Tab n) (fuel+1) 0 (a5t σ o p ex 5 w)=a0z.loop (a0b Tab n) fuel 0 (a5t σ o p ex 6 {w with f:=upI o ex.f p.f}):=by
 have e5:∀a b:Int,eqB a b=decide (a=b):=fun _ _=>rfl
 have e6:∀a b:Int,ltB a b=decide (a<b):=fun _ _=>rfl
 have hp':=hp;simp only[W6.pok] at hp';have k1:=a5g σ n p (by omega);have k2:=a8U σ n o ho p.f (by omega) (by omega) (by omega);rw[dT0 hp] at k1;simp only[a2i,pv6] at k1;rw[Sys.loop,show a0z.loops[0]?=some a0Z from rfl];simp only[a5t,upI,fnV];simp only[Q0,a0Z,↓reduceIte,a0d,a0n,a2l,a0k,BE.safe,BE.pe,IE.pe,Q3,Q5,Q7,a0l,a0g,Q1,Q0,PEnv.push,Q6,Q4,SV.pvs,SV.pv,BE.all,Qa,Qb,e5,e6,Int.reduceLT,decide_true,];by_cases h:0<ex.f
 ·simp only[↓reduceIte,Q3,a0c,Q1,Q0,Q4,dT0 h,if_pos h,k1,k2]
 ·simp only[↓reduceIte,Q2,Q0,dF0 h,if_neg h,hw]
include ho hp in
theorem d2d(hσ:Low σ)(hn:20<=n):a0b Tab n b2S [.agg o.row,.agg p.pv,.agg ex.pv] σ=some (.tup [.agg (a8Z o p ex).1.pv,.int .i64 (a8Z o p ex).2],σ):=by
 obtain⟨n,rfl⟩:∃k,n=k+8:=⟨n-8,by omega⟩;have v1:=a5g σ (n+7) p (by omega);have v2:=a5g σ (n+7) (rsW o p ex) (by omega);have c1:=a6V σ (n+7) o (by omega);have c2:=c8H σ (n+7) hσ o (by omega);rw[dT0 hp] at v1;rw[show a9z o=0 by unfold a9z;rw[if_pos ho]] at c1;simp only[a2i,a5N,b1u,pv6,a6I] at v1 v2 c1 c2;have e6:ltB 6 6=false:=rfl
 have fin:∀fuel,a0z.loop (a0b Tab (n+7)) (fuel+1) 0 (a5t σ o p ex 6 (rsW o p ex))=some (.tup [.agg (a8Z o p ex).1.pv,.int .i64 (a8Z o p ex).2],σ):=fun fuel=>by
  unfold a8Z;have hb:(eqB (rsW o p ex).a p.a&&(eqB (rsW o p ex).b p.b&&(eqB (rsW o p ex).c p.c&&(eqB (rsW o p ex).d p.d&&(eqB (rsW o p ex).e p.e&&eqB (rsW o p ex).f p.f)))))=W6.beq (rsW o p ex) p:=rfl;rw[Sys.loop,show a0z.loops[0]?=some a0Z from rfl];simp only[Q0,a5t,a0Z,↓reduceIte,a0j,a0d,a0n,BE.safe,BE.pe,IE.pe,Q3,Q5,Q2,a0c,a0l,a0g,Q1,Q0,PEnv.push,Q6,Q4,SV.pvs,SV.pv,Q9,Qk,e6,v1,hb];by_cases hq:W6.beq (rsW o p ex) p=true
  ·have he:=(d1o _ _).1 hq
   simp only[hq,↓reduceIte,Q2,Q1,Q0,Qk,a0m,or_true];rw[if_pos (by rw[he];exact hp)];rfl
  ·rw[Xf] at hq
   simp only[hq,↓reduceIte,Q3,a0c,Q1,Q0,Qr,v2];by_cases hk:(rsW o p ex).pok
   ·rw[dT0 hk,if_pos hk]
    simp only[↓reduceIte,Q2,Q1,Q0,Qk,a0m,or_true,pv6]
   ·rw[dF0 hk,if_neg hk]
    simp only[↓reduceIte,Q2,Q1,Q0,Qr,a0m,or_true,pv6,w0]
 have key:a0z.loop (a0b Tab (n+7)) (n+7) 0 (a5t σ o p ex 0 p)=some (.tup [.agg (a8Z o p ex).1.pv,.int .i64 (a8Z o p ex).2],σ):=by
  rw[d1Q σ _ o ho p ex hp (by omega) p rfl (n+6),d1O σ _ o ho p ex hp (by omega) ⟨upI o ex.a p.a,p.b,p.c,p.d,p.e,p.f⟩ rfl (n+5),d0E σ _ o ho p ex hp (by omega) ⟨upI o ex.a p.a,upI o ex.b p.b,p.c,p.d,p.e,p.f⟩ rfl (n+4),d0C σ _ o ho p ex hp (by omega) ⟨upI o ex.a p.a,upI o ex.b p.b,upI o ex.c p.c,p.d,p.e,p.f⟩ rfl (n+3),d1P σ _ o ho p ex hp (by omega) ⟨upI o ex.a p.a,upI o ex.b p.b,upI o ex.c p.c,upI o ex.d p.d,p.e,p.f⟩ rfl (n+2),d0I σ _ o ho p ex hp (by omega) ⟨upI o ex.a p.a,upI o ex.b p.b,upI o ex.c p.c,upI o ex.d p.d,upI o ex.e p.e,p.f⟩ rfl (n+1)];exact fin n
 rw[a0b];simp only[b8y,Q0,Sys.run,pv6,a6I];show ((a0f [.sh (.agg [_,_,_,_]),.sh (.agg [_,_,_,_,_,_]),.sh (.agg [_,_,_,_,_,_])] _).bind _)=_;simp only[a0f,a0g,a0c,Q1,Q0,Q8,Q4,Q6,if_true]
 have E:∃b,PT.ev (a0b Tab (n+7)) a6D {i:=[o.st,o.pc,o.un,o.ru,p.a,p.b,p.c,p.d,p.e,p.f,ex.a,ex.b,ex.c,ex.d,ex.e,ex.f],b:=[],v:=[],m:=σ,k:=σ.length}=some (.jump 0 b)/\b=a5t σ o p ex 0 p:=by
  refine⟨_,?_,rfl⟩;have e0:eqB 0 0=true:=rfl;have one1:PV.one (.fn a4y [.cell [.int .i64 o.st,.int .i64 o.pc,.int .i64 o.un,.int .i64 o.ru] 0])=true:=rfl;simp only[a6D,↓reduceIte,a0j,a0d,a0n,BE.safe,BE.pe,IE.pe,Q3,Q5,Q2,a0c,a0l,a0g,Q1,Q0,PEnv.push,Q6,Q4,SV.pvs,SV.pv,Qk,c1,e0]
  repeat' (first|with_reducible rfl|apply a3d|simp only[↓reduceIte,a0n,a0k,IE.pe,Q3,Q5,Q7,a0c,a0l,a0g,Q1,Q0,PEnv.push,Q6,Q4,SV.pvs,SV.pv,BE.all,Qa,Qb,c2,one1,a5t,fnV,a6I]|unfold a7g)
 obtain⟨b,E,rfl⟩:=E;show ((PT.ev (a0b Tab (n+7)) a6D _).bind _)=_;exact(congrArg (Xg · _) E).trans key
end
def a5u(l:List Pr):W6:=⟨((l.map Pr.r)[0]?).getD 0,((l.map Pr.r)[1]?).getD 0,((l.map Pr.r)[2]?).getD 0,((l.map Pr.r)[3]?).getD 0,((l.map Pr.r)[4]?).getD 0,((l.map Pr.r)[5]?).getD 0⟩
theorem d2c{l:List Pr}(h:∀x∈l,x.rng):(a5u l).pok:=by
 have g:∀i:Nat,0<=((l.map Pr.r)[i]?).getD 0/\((l.map Pr.r)[i]?).getD 0<=1000000:=fun i=>by
  rw[QN];cases hx:l[i]? with
  | none=>simp
  | some x=>have:=h x (Qv hx);simp only[Pr.rng] at this;simp;omega
 have:=g 0;have:=g 1;have:=g 2;have:=g 3;have:=g 4;have:=g 5;simp only[W6.pok,a5u];omega
section
variable (σ:List MO)(l:List Pr)(P:PV)(hP:P.rowsOf 5=some (l.map Pr.row))(hl:l.length<=6)(n:Nat)
def c0g(P:PV)(σ:List MO)(N i:Nat)(w:W6):PEnv:={i:=[(N:Int),(i:Int),w.a,w.b,w.c,w.d,w.e,w.f],b:=[],v:=[P],m:=σ,k:=σ.length}
include hP hl in
theorem c4t(hn:10<=n):a0b Tab n b2v [P] σ=some (.agg (a5u l).pv,σ):=by
 obtain⟨n,rfl⟩:∃k,n=k+1:=⟨n-1,by omega⟩;obtain⟨q1,q2,q3⟩:=a0i hP;rw[QQ] at q1;have hP2:(PV.sl 5 (l.map Pr.row)).rowsOf 5=some (l.map Pr.row):=a1C _ _;obtain⟨p1,p2,p3⟩:=a0i hP2;rw[QQ] at p1
 have step:∀i x,l[i]?=some x->∀fuel (w:W6),a1H.loop (a0b Tab n) (fuel+1) 0 (c0g (.sl 5 (l.map Pr.row)) σ l.length i w)=a1H.loop (a0b Tab n) fuel 0 (c0g (.sl 5 (l.map Pr.row)) σ l.length (i+1) (match i with|0=>{w with a:=x.r}|1=>{w with b:=x.r}|2=>{w with c:=x.r}|3=>{w with d:=x.r}|4=>{w with e:=x.r}|_=>{w with f:=x.r})):=by
  intro i x hx fuel w;have hlt:i<l.length:=(Qm.1 hx).1;have hd:decide (i<l.length)=true:=dT0 hlt;have h0:=a1d (off:=0) hP2 (b0m hx);have e5:∀a b:Int,eqB a b=decide (a=b):=fun _ _=>rfl
  rw[Sys.loop,show a1H.loops[0]?=some a4a from rfl];simp only[c0g];simp only[Q0,a4a,↓reduceIte,a0d,a0h,a0u,a0k,BE.safe,BE.pe,IE.pe,PEnv.at,Q3,Q5,Q7,a0p,a0a,a0P,Qt,Qd,Qf,Nat.reduceAdd,Qn,Q2,QJ,QD,a0c,Q1,Q0,PEnv.push,Q6,Q4,SV.pvs,SV.pv,BE.all,Q9,Qa,Qb,p1,a0x,hd,le0,h0,a7s,a3M];obtain rfl|rfl|rfl|rfl|rfl|rfl:i=0\/i=1\/i=2\/i=3\/i=4\/i=5:=by omega
  all_goals rfl
 have fin:∀fuel (w:W6),a1H.loop (a0b Tab n) (fuel+1) 0 (c0g (.sl 5 (l.map Pr.row)) σ l.length l.length w)=some (.agg w.pv,σ):=by
  intro fuel w;have hd:decide (l.length<l.length)=false:=by simp
  rw[Sys.loop,show a1H.loops[0]?=some a4a from rfl];simp only[c0g];simp only[Q0,a4a,↓reduceIte,a0j,a0d,BE.safe,BE.pe,IE.pe,Q3,Q5,Q2,Q1,Q0,SV.pvs,SV.pv,a0x,hd,a0m,or_true,W6.pv]
 have key:a1H.loop (a0b Tab n) n 0 (c0g (.sl 5 (l.map Pr.row)) σ l.length 0 ⟨0,0,0,0,0,0⟩)=some (.agg (a5u l).pv,σ):=by
  obtain⟨m,rfl⟩:∃m,n=m+7:=⟨n-7,by omega⟩;rcases l with _|⟨a,_|⟨b,_|⟨c,_|⟨d,_|⟨e,_|⟨f,_|⟨z,r⟩⟩⟩⟩⟩⟩⟩
  ·exact fin _ _
  ·rw[step 0 a rfl];exact fin _ _
  ·rw[step 0 a rfl,step 1 b rfl];exact fin _ _
  ·rw[step 0 a rfl,step 1 b rfl,step 2 c rfl];exact fin _ _
  ·rw[step 0 a rfl,step 1 b rfl,step 2 c rfl,step 3 d rfl];exact fin _ _
  ·rw[step 0 a rfl,step 1 b rfl,step 2 c rfl,step 3 d rfl,step 4 e rfl];exact fin _ _
  ·rw[step 0 a rfl,step 1 b rfl,step 2 c rfl,step 3 d rfl,step 4 e rfl,step 5 f rfl];exact fin _ _
  ·simp at hl
 rw[a0b];simp only[b6X,Q0,Sys.run];show ((a0f [.sh (.one _)] _).bind _)=_;simp only[a0f,a0g,a0c,Q1,Q0,Q8,if_true,q3];show (PT.ev _ a8x _).bind _=_;have hm:mnI (l.length:Int) 6=(l.length:Int):=by unfold mnI;rw[if_neg (by omega)]
 have c1:(0:Int)<=0/\(0:Int)<=(l.length:Int)/\(l.length:Int)<=((l.map Pr.row).length:Int):=by rw[QQ];omega
 have c2:((l.map Pr.row).take (l.length:Int).toNat).drop (0:Int).toNat=l.map Pr.row:=by rw[Qz,QM (by simp)];rfl
 simp only[a8x,↓reduceIte,a0h,a5L,a0k,BE.safe,BE.pe,IE.pe,PEnv.at,Q3,Q5,Q7,Qe,Q1,Q0,Q6,Q4,SV.pvs,SV.pv,BE.all,Qa,Qb,q1,q2,hP,a3c,a3b,hm,if_pos c1,c2,p1,p2];exact key
end
theorem b5V(un:Int)(s:W6)(asked out:List W6):∀i,(apN un s asked out i).length=out.length
 | 0=>rfl
 | i+1=>by rw[apN,Qp,b5V un s asked out i]
theorem b6N{s t m a:Int}(h1:0<=m)(h2:m<=4)(h3:0<=a)(h4:a<=4):0<=paI s t m a/\paI s t m a<=4:=by
 unfold paI mnI mxI
 repeat' split
 all_goals omega
theorem d3K(s t m a:W6)(hm:m.ok)(ha:a.ok):(paW s t m a).ok:=by
 simp only[W6.ok] at hm ha;have g1:=@b6N s.a t.a m.a a.a (by omega) (by omega) (by omega) (by omega);have g2:=@b6N s.b t.b m.b a.b (by omega) (by omega) (by omega) (by omega);have g3:=@b6N s.c t.c m.c a.c (by omega) (by omega) (by omega) (by omega);have g4:=@b6N s.d t.d m.d a.d (by omega) (by omega) (by omega) (by omega);have g5:=@b6N s.e t.e m.e a.e (by omega) (by omega) (by omega) (by omega);have g6:=@b6N s.f t.f m.f a.f (by omega) (by omega) (by omega) (by omega);simp only[W6.ok,paW];omega
theorem d2S(un:Int)(s t m a:W6)(hm:m.ok)(ha:a.ok):(pick un s t m a).ok:=by
 unfold pick;split
 ·split
  ·exact hm
  ·exact ha
 ·split
  ·exact d3K s t m a hm ha
  ·exact ha
theorem c6h(un:Int)(s:W6){asked out:List W6}(ha:∀w∈asked,w.ok)(ho:∀w∈out,w.ok)(hl:asked.length=out.length):∀i,i<=out.length->∀w∈apN un s asked out i,w.ok
 | 0,_=>ho
 | i+1,hi=>by
  have ih:=c6h un s ha ho hl i (by omega);intro w hw;rcases QP hw with hw|rfl
  ·exact ih w hw
  ·obtain⟨m,hm⟩:=a0U (show i<(apN un s asked out i).length by rw[b5V];omega)
   obtain⟨a,ha'⟩:=a0U (show i<asked.length by omega);rw[b9y hm,b9y ha'];exact d2S _ _ _ _ _ (ih m (Qv hm)) (ha a (Qv ha'))
theorem d2n{w:W6}(h:w.ok):a3S w=0:=by unfold a3S;rw[if_pos h]
theorem c4r:∀l:List W6,a4V 6 l.length (l.map W6.pv).flatten=some (l.map W6.pv)
 | []=>rfl
 | w::l=>by
  have ih:=c4r l;rw[Qa,Qq,Qd,a4V,X9 (b9L w),Xc (b9L w),if_pos ⟨by simp[b9L],rfl⟩,ih];rfl
section
variable (σ:List MO)(n:Nat)(un:Int)(s:W6)(v0 v1:PV)(l0 l1:List W6)
def b7f(σ:List MO)(v0 v1 v:PV)(q N j:Int):PEnv:={i:=[q,N,j],b:=[],v:=[v0,v1,v],m:=σ,k:=σ.length}
theorem c7y(v:PV)(l:List W6)(hv:BRd σ v l)(hok:∀w∈l,w.ok)(hl:l.length<=8)(hn:1<=n)(q:Int):∀d j,j+d=l.length->∀fuel,a1p.loop (a0b Tab n) (fuel+d) 0 (b7f σ v0 v1 v q (l.length:Int) (j:Int))=a1p.loop (a0b Tab n) fuel 0 (b7f σ v0 v1 v q (l.length:Int) (l.length:Int)):=by
 intro d
 induction d with
 | zero=>intro j hj fuel;rw[show j=l.length by omega];rfl
 | succ d ih =>
  intro j hj fuel;obtain⟨w,hw⟩:=a0U (show j<l.length by omega);have hd:ltB (j:Int) (l.length:Int)=true:=by rw[a0Q];omega
  obtain⟨L,hL⟩:=hv.rd j w hw;obtain⟨q1,q2⟩:=hL 0 6 (by decide);have k1:=a2I σ w n hn;rw[d2n (hok w (Qv hw))] at k1;simp only[a2P,pv6] at k1;have hup:=a3I (show j<=1000000000 by omega);have ih:=ih (j+1) (by omega) fuel;rw[a1q] at ih;rw[<- ih,show fuel+(d+1)=fuel+d+1 from rfl,Sys.loop,show a1p.loops[0]?=some a2F from rfl];have e0:eqB 0 0=true:=rfl;simp only[Q0,b7f,a2F,↓reduceIte,PT.ev,BE.safe,BE.pe,IE.pe,PEnv.at,Q3,Q5,Q7,Qe,a0p,Qt,Qd,Qf,Nat.reduceAdd,Q2,QJ,QD,a0c,a0l,a0g,Q1,Q0,PEnv.push,Q6,Q4,SV.pvs,SV.pv,BE.all,Q9,Qk,Qa,Qb,hd,le0,hv.len,q1,q2,pv6,Qt,k1,e0,if_pos hup]
theorem c8z(hp:1<=un/\un<=3)(hs:s.ok)(h0:BRd σ v0 l0)(h1:BRd σ v1 l1)(k0:∀w∈l0,w.ok)(k1:∀w∈l1,w.ok)(hl:l0.length=l1.length)(h8:l0.length<=8)(hn:30<=n) :
  a0b Tab n b2Y [.int .i64 un,.agg s.pv,v0,v1] σ=some (.int .i64 0,σ):=by
 obtain⟨n,rfl⟩:∃k,n=k+1:=⟨n-1,by omega⟩;have c1:=a2I σ s n (by omega);rw[d2n hs] at c1;simp only[a2P,pv6] at c1;have e0:eqB 0 0=true:=rfl;have e1:ltB un 1=false:=by rw[a0F];omega
 have e2:ltB 3 un=false:=by rw[a0F];omega
 have e3:eqB (l0.length:Int) (l1.length:Int)=true:=by rw[b3B,hl]
 have e4:ltB 8 (l0.length:Int)=false:=by rw[a0F];omega
 have nx:∀fuel,a1p.loop (a0b Tab n) (fuel+1) 0 (b7f σ v0 v1 v0 0 (l0.length:Int) (l0.length:Int))=a1p.loop (a0b Tab n) fuel 0 (b7f σ v0 v1 v1 1 (l1.length:Int) 0):=fun fuel=>by
  have hd:ltB (l0.length:Int) (l0.length:Int)=false:=by rw[a0F];omega
  have e7:ltB 1 2=true:=rfl;have e8:eqB 1 1=true:=rfl;have hup:=a0C (z:=1) (by omega);rw[Sys.loop,show a1p.loops[0]?=some a2F from rfl];simp only[Q0,b7f,a2F,↓reduceIte,a0d,a0h,a0k,BE.safe,BE.pe,IE.pe,PEnv.at,Q3,Q5,Q7,Qe,Q2,Q1,Q0,SV.pvs,SV.pv,BE.all,Q9,Qa,Qb,hd,Int.zero_add,if_pos hup,e7,e8,h1.kind,h1.len]
 have fi:∀fuel,a1p.loop (a0b Tab n) (fuel+1) 0 (b7f σ v0 v1 v1 1 (l1.length:Int) (l1.length:Int))=some (.int .i64 0,σ):=fun fuel=>by
  have hd:ltB (l1.length:Int) (l1.length:Int)=false:=by rw[a0F];omega
  have e7:ltB 2 2=false:=rfl;have hup:=a0C (z:=2) (by omega);rw[Sys.loop,show a1p.loops[0]?=some a2F from rfl];simp only[Q0,b7f,a2F,↓reduceIte,a0j,a0d,a0h,BE.safe,BE.pe,IE.pe,Q3,Q5,Q2,Q1,Q0,SV.pv,Q9,hd,Int.reduceAdd,if_pos hup,e7,a0m,or_true]
 have key:a1p.loop (a0b Tab n) n 0 (b7f σ v0 v1 v0 0 (l0.length:Int) 0)=some (.int .i64 0,σ):=by
  have a1:=c7y σ n v0 v1 v0 l0 h0 k0 h8 (by omega) 0 l0.length 0 (by omega) (n-l0.length);rw[show n-l0.length+l0.length=n by omega] at a1;have a2:=c7y σ n v0 v1 v1 l1 h1 k1 (by omega) (by omega) 1 l1.length 0 (by omega) (n-l0.length-1-l1.length);rw[show n-l0.length-1-l1.length+l1.length=n-l0.length-1 by omega] at a2;have a3:=nx (n-l0.length-1);have a4:=fi (n-l0.length-1-l1.length-1);rw[show n-l0.length-1+1=n-l0.length by omega] at a3;rw[show n-l0.length-1-l1.length-1+1=n-l0.length-1-l1.length by omega] at a4;exact a1.trans (a3.trans (a2.trans a4))
 rw[a0b];simp only[b8z,Q0,Sys.run,pv6];show ((a0f [.sh (.one _),.sh (.agg [_,_,_,_,_,_]),.sh (.one _),.sh (.one _)] _).bind _)=_;simp only[a0f,a0g,a0c,Q1,Q0,Q8,Q4,Q6,if_true,h0.one,h1.one];show (PT.ev _ a9C _).bind _=_;simp only[a9C,↓reduceIte,a0j,a0d,a0h,a0n,a0k,BE.safe,BE.pe,IE.pe,PEnv.at,Q3,Q5,Q7,Qe,Q2,a0c,a0l,a0g,Q1,Q0,PEnv.push,Q6,Q4,SV.pvs,SV.pv,BE.all,Qk,Qa,Qb,e1,e2,h0.kind,h1.kind,h0.len,h1.len,e3,e4,c1,e0];exact key
end
section
variable (σ:List MO)(n:Nat)(un:Int)(s:W6)(hb:Nat)(R:Nat->Prop)(v1:PV)(bf ak:List W6)
def aoM(σ:List MO)(out:List W6):List MO:=σ++[.row (out.map W6.pv) 6 38]
theorem c7O(σ:List MO)(out:List W6):(aoM σ out)[σ.length]?=some (.row (out.map W6.pv) 6 38):=by simp[aoM]
theorem d3B(σ:List MO)(out:List W6):BRd (aoM σ out) (.rsl σ.length out.length 6) out:=BSl.rd (R:=fun _=>True) (.inr ⟨σ.length,trivial,rfl,c7O σ out⟩)
def c5x(σ:List MO)(un N i:Int)(s:W6)(out:List W6)(v1:PV):PEnv:={i:=[un,N,i,s.a,s.b,s.c,s.d,s.e,s.f],b:=[],v:=[.rsl σ.length out.length 6,v1],m:=aoM σ out,k:=σ.length}
theorem d3o(σ:List MO)(out:List W6){i:Nat}(w:W6):(aoM σ out).set σ.length (.row ((out.map W6.pv).set i w.pv) 6 38)=aoM σ (out.set i w):=by
 unfold aoM;rw[XE _ _ (Qn _),X6,Xb,Xd]
theorem d3k(hp:1<=un/\un<=3)(hs:s.ok)(h1:BSl σ R v1 ak)(out:List W6)(hl:ak.length=out.length)(h8:out.length<=8)(ka:∀w∈ak,w.ok)(ko:∀w∈out,w.ok)(hn:40<=n){i:Nat}(hi:i<out.length)(fuel:Nat) :
  a1Z.loop (a0b Tab n) (fuel+1) 0 (c5x σ un (ak.length:Int) (i:Int) s out v1)=a1Z.loop (a0b Tab n) fuel 0 (c5x σ un (ak.length:Int) ((i:Int)+1) s (out.set i (pick un s (b2M out) (wa out i) (wa ak i))) v1):=by
 obtain⟨a,ha⟩:=a0U (show i<ak.length by omega);obtain⟨m,hm⟩:=a0U hi
 have g1:BRd (aoM σ out) v1 ak:=by
  rcases h1 with ⟨h,hR,rfl,hh⟩|⟨h,hR,rfl,hh⟩
  ·exact BSl.rd (R:=R) (.inl ⟨h,hR,rfl,by unfold aoM;rw[Qs (Qm.1 hh).1];exact hh⟩)
  ·exact BSl.rd (R:=R) (.inr ⟨h,hR,rfl,by unfold aoM;rw[Qs (Qm.1 hh).1];exact hh⟩)
 have g2:=d3B σ out;have hd:ltB (i:Int) (ak.length:Int)=true:=by rw[a0Q];omega
 have hd2:ltB (i:Int) (out.length:Int)=true:=by rw[a0Q];omega
 obtain⟨L1,hL1⟩:=g1.rd i a ha;obtain⟨L2,hL2⟩:=g2.rd i m hm;obtain⟨q1,q2⟩:=hL1 0 6 (by decide);obtain⟨r1,r2⟩:=hL2 0 6 (by decide);have hak:=ka a (Qv ha);have hmk:=ko m (Qv hm);have c1:=d2b (aoM σ out) _ out g2 ko h8 n (by omega);have tsm:=c9u ko h8;have c2:=c7d (aoM σ out) n s (b2M out) m a (hs.sm.mono (by decide)) (tsm.mono (by decide)) (hmk.sm.mono (by decide)) (hak.sm.mono (by decide)) (by omega);have c3:=c8f (aoM σ out) n s (b2M out) m a (hs.sm.mono (by decide)) (tsm.mono (by decide)) (hmk.sm.mono (by decide)) (hak.sm.mono (by decide)) (by omega);have hup:=a3I (show i<=1000000000 by omega);simp only[c0Z,b1s,b2t,pv6] at c1 c2 c3;have e5:∀a b:Int,eqB a b=decide (a=b):=fun _ _=>rfl
 have hre:=c8T (h:=σ.length) (sz:=6) (off:=0) hi;have hL20:L2 0=.elt σ.length out.length i 6 0:=Option.some.inj (r1.symm.trans hre);rw[hL20] at r2;have hrow:(out.map W6.pv)[i]?=some m.pv:=by rw[QN,hm];rfl
 have st:∀w:W6,(6<=m.pv.length/\[PV.int .i64 w.a,.int .i64 w.b,.int .i64 w.c,.int .i64 w.d,.int .i64 w.e,.int .i64 w.f].all PV.one=true):=fun w=>⟨by simp[pv6],rfl⟩
 have hset:∀w:W6,(aoM σ out).set σ.length (.row ((out.map W6.pv).set i (a2h m.pv 0 [PV.int .i64 w.a,.int .i64 w.b,.int .i64 w.c,.int .i64 w.d,.int .i64 w.e,.int .i64 w.f])) 6 38)=aoM σ (out.set i w):=fun w=>d3o σ out w
 have hself:out.set i m=out:=by
  apply X7;intro j;rw[XF];split
  ·rename_i h;subst h;first|exact hm.symm|(rw[if_pos hi];exact hm.symm)
  ·rfl
 have hlen:∀w:W6,(out.set i w).length=out.length:=fun w=>Qp
 have hol:(out.map W6.pv).length=out.length:=QQ ..
 rw[b9y ha,b9y hm,Sys.loop,show a1Z.loops[0]?=some a4w from rfl];unfold pick;have hgt:=c7O σ out;simp only[c5x];simp only[Q0,a4w,↓reduceIte,PT.ev,BE.safe,BE.pe,IE.pe,PEnv.at,Q3,Q5,Q7,Qe,a0p,Qt,Qd,Qf,Nat.reduceAdd,QJ,QD,a0c,a0l,a0g,Q1,Q0,PEnv.push,Q6,Q4,Q8,SV.pvs,SV.pv,BE.all,Q9,Qa,Qb,hd,le0,g1.len,g2.len,q1,q2,pv6,Qt,c1,e5];obtain rfl|rfl|rfl:un=1\/un=2\/un=3:=by omega
 ·simp only[↓reduceIte,Nat.reduceAdd,Q2,Q0,Q9,Int.reduceEq,decide_false,hd2,hre,hgt,hol,and_self,hrow,Q0,if_pos (st a),hset a,hlen,if_pos hup]
 ·simp only[↓reduceIte,Q3,Q5,Qt,Nat.reduceAdd,QJ,QD,a0c,Q1,Q0,Q4,Q9,decide_true,hd2,hre,r2,pv6,Qt,c2]
  cases hq:rfW s (b2M out) m a with
  | true =>
   simp only[↓reduceIte,Q0,if_pos hup,hself]
  | false =>
   simp only[↓reduceIte,Q2,Q0,Q2,hgt,hol,and_self,hrow,Q0,if_pos (st a),hset a,hlen,if_pos hup]
 ·simp only[↓reduceIte,Q3,Q5,Qt,Nat.reduceAdd,Q2,QJ,QD,a0c,Q1,Q0,Q6,Q4,Q9,Int.reduceEq,decide_false,decide_true,hd2,hre,r2,pv6,Qt,c3,]
  simp only[↓reduceIte,Q0,hgt,hol,and_self,hrow,Q0,if_pos (st (paW s (b2M out) m a)),hset (paW s (b2M out) m a),hlen,if_pos hup]
end
theorem b7k(F:List PV->List MO->Option (PV×List MO))(Φ:Fns)(n:Nat)(a:List PV)(σ:List MO):Sys.run Φ (⟨[],.stuck,[],some F,none⟩:Sx.Sys) n a σ=F a σ:=rfl
section
variable (σ:List MO)(n:Nat)(un:Int)(s:W6)(hb:Nat)(R:Nat->Prop)(v1:PV)(bf ak:List W6)
theorem c9E(hh:σ[hb]?=some (.cells (bf.map W6.pv).flatten 38))(hp:0<bf.length)(h8:bf.length<=8)(hn:1<=n) :
  a0b Tab n a2C [.msl hb 0 bf.length bf.length 6] σ=some (.rsl σ.length bf.length 6,aoM σ bf):=by
 obtain⟨n,rfl⟩:∃k,n=k+1:=⟨n-1,by omega⟩;rw[a0b,show Tab a2C=some a1v from a7J,Q0,a1v,b7k];unfold c2U;simp only[hh];rw[if_pos (by refine⟨?_,?_,?_,?_⟩<;>first|trivial|omega),Qt,c4r];rfl
theorem d2V(hp:1<=un/\un<=3)(hs:s.ok)(h1:BSl σ R v1 ak)(hl:ak.length=bf.length)(h8:bf.length<=8)(ka:∀w∈ak,w.ok)(kb:∀w∈bf,w.ok)(hn:40<=n):∀d i,i+d=bf.length->∀fuel,
  a1Z.loop (a0b Tab n) (fuel+d+1) 0 (c5x σ un (ak.length:Int) (i:Int) s (apN un s ak bf i) v1)=some (.tup [.rsl σ.length bf.length 6,.int .i64 0],aoM σ (apW un s bf ak)):=by
 intro d
 induction d with
 | zero =>
  intro i hi fuel;rw[QH] at hi;subst hi;have hd:ltB (bf.length:Int) (bf.length:Int)=false:=by rw[a0F];omega
  rw[Sys.loop,show a1Z.loops[0]?=some a4w from rfl];simp only[Q0,c5x,a4w,↓reduceIte,a0j,a0d,BE.safe,BE.pe,IE.pe,Q3,Q5,Q7,Q2,Q1,Q0,SV.pvs,SV.pv,hd,a0m,true_or,apW,hl,b5V]
 | succ d ih =>
  intro i hi fuel;have hlen:=b5V un s ak bf i;have st:=d3k σ n un s R v1 ak hp hs h1 (apN un s ak bf i) (by rw[hlen,hl]) (by omega) ka (c6h un s ka kb hl i (by omega)) hn (i:=i) (by omega) (fuel+d+1);have ih:=ih (i+1) (by omega) fuel;rw[a1q] at ih;rw[show fuel+(d+1)+1=fuel+d+1+1 from rfl,st];exact ih
theorem c8g(hh:σ[hb]?=some (.cells (bf.map W6.pv).flatten 38))(hp:1<=un/\un<=3)(hs:s.ok)(h1:BSl σ R v1 ak)(hl:ak.length=bf.length)(h0:0<bf.length)(h8:bf.length<=8)(ka:∀w∈ak,w.ok)(kb:∀w∈bf,w.ok)(hn:60<=n) :
  a0b Tab n b2T [.int .i64 un,.agg s.pv,.msl hb 0 bf.length bf.length 6,v1] σ=some (.tup [.rsl σ.length bf.length 6,.int .i64 0],aoM σ (apW un s bf ak)):=by
 obtain⟨n,rfl⟩:∃k,n=k+1:=⟨n-1,by omega⟩;have g0:BRd σ (.msl hb 0 bf.length bf.length 6) bf:=BSl.rd (R:=fun _=>True) (.inl ⟨hb,trivial,rfl,hh⟩);have g1:=h1.rd;have c1:=c8z σ n un s _ v1 bf ak hp hs g0 g1 kb ka hl.symm h8 (by omega);have c2:=c9E σ n hb bf hh h0 h8 (by omega);have key:=d2V σ n un s R v1 bf ak hp hs h1 hl h8 ka kb (by omega) bf.length 0 (by omega) (n-bf.length-1);rw[show n-bf.length-1+bf.length+1=n by omega] at key;simp only[b2Y,a2C,pv6] at c1 c2;have e0:eqB 0 0=true:=rfl;have one1:PV.one (.msl hb 0 bf.length bf.length 6)=true:=rfl;have one2:PV.one (.rsl σ.length bf.length 6)=true:=rfl;rw[a0b];simp only[b8N,Q0,Sys.run,pv6];show ((a0f [.sh (.one _),.sh (.agg [_,_,_,_,_,_]),.sh (.one _),.sh (.one _)] _).bind _)=_;simp only[a0f,a0g,a0c,Q1,Q0,Q8,Q4,Q6,if_true,g1.one,one1];show (PT.ev _ a9E _).bind _=_;simp only[a9E,↓reduceIte,a0j,a0d,a0h,a0n,a0k,BE.safe,BE.pe,IE.pe,PEnv.at,Q3,Q5,Q7,Qe,Q2,a0c,a0l,a0g,Q1,Q0,PEnv.push,Q6,Q4,SV.pvs,SV.pv,BE.all,Qk,Qa,Qb,c1,e0,c2,one2,g1.kind,g1.len];exact key
end
section
variable (σ:List MO)(v:PV)(l:List W6)(hv:BRd σ v l)(hok:∀w∈l,w.ok)(hl:l.length<=8)(n:Nat)
end
section
variable (σ:List MO)(v:PV)(l:List W6)(hv:BRd σ v l)(hok:∀w∈l,w.ok)(hl:l.length<=8)(n:Nat)(s a:W6)(hs:s.ok)(ha:a.ok){i:Nat}{m:W6}(hm:l[i]?=some m)
end
section
variable (σ:List MO)(n:Nat)(un:Int)(s:W6)(v0 v1:PV)(bf ak:List W6)
end
theorem a5o(h:Nat):PV.isKind 4 (.ref h 0)=true:=rfl
theorem a2S(h:Nat):PV.isKind 1 (.ref h 0)=true:=rfl
theorem b1B(h:Nat):PV.one (.ref h 0)=true:=rfl
theorem a5v(h:Nat):PV.isNil (.ref h 0)=false:=rfl
theorem a5l(h:Nat):PV.nilOk (.ref h 0)=true:=rfl
theorem d3I(h n sz:Nat):PV.isKind 0 (.msl h 0 n n sz)=true:=rfl
theorem b5H(h n sz:Nat):PV.len (.msl h 0 n n sz)=(n:Int):=rfl
theorem a7L(h n sz:Nat):PV.one (.msl h 0 n n sz)=true:=rfl
section
variable {s:St}{o:Po}{σ:List MO}{h:Nat}{vcl:PV}{ha hb hd:Nat}{R:Nat->Prop}{c:Ck}(k:CkAt s o σ h vcl ha hb hd R c)(n:Nat)
include k in
theorem c4N(i:Int)(hn:1<=n):a0b Tab n a9y [.ref h 0,.int .i64 i] σ=some (.bool (c.has i),σ):=by
 obtain⟨n,rfl⟩:∃k,n=k+1:=⟨n-1,by omega⟩;have hob:=k.obj;have r0:∀is bs vs k,a0a {i:=is,b:=bs,v:=vs,m:=σ,k:=k} false 4 (.obj h 0)=some [s.P,s.B,s.C,s.A]:=a0e hob 0 4 (by decide);have r01:∀is bs vs k,a0a {i:=is,b:=bs,v:=vs,m:=σ,k:=k} false 1 (.obj h 0)=some [s.P]:=a0e hob 0 1 (by decide);have r4:∀is bs vs k,a0a {i:=is,b:=bs,v:=vs,m:=σ,k:=k} false 4 (.obj h 4)=some [.int .i64 o.st,.int .i64 o.pc,.int .i64 o.un,.int .i64 o.ru]:=a0e hob 4 4 (by decide);have r6:∀is bs vs k,a0a {i:=is,b:=bs,v:=vs,m:=σ,k:=k} false 1 (.obj h 6)=some [.int .i64 o.un]:=a0e hob 6 1 (by decide);have r7:∀is bs vs k,a0a {i:=is,b:=bs,v:=vs,m:=σ,k:=k} false 1 (.obj h 7)=some [.int .i64 o.ru]:=a0e hob 7 1 (by decide);have r8:∀is bs vs k,a0a {i:=is,b:=bs,v:=vs,m:=σ,k:=k} false 1 (.obj h 8)=some [vcl]:=a0e hob 8 1 (by decide);have r9:∀is bs vs k,a0a {i:=is,b:=bs,v:=vs,m:=σ,k:=k} false 6 (.obj h 9)=some [.int .i64 c.p.a,.int .i64 c.p.b,.int .i64 c.p.c,.int .i64 c.p.d,.int .i64 c.p.e,.int .i64 c.p.f]:=a0e hob 9 6 (by decide);have r15:∀is bs vs k,a0a {i:=is,b:=bs,v:=vs,m:=σ,k:=k} false 1 (.obj h 15)=some [.msl ha 0 c.out.length c.out.length 6]:=a0e hob 15 1 (by decide);have r16:∀is bs vs k,a0a {i:=is,b:=bs,v:=vs,m:=σ,k:=k} false 1 (.obj h 16)=some [.msl hb 0 c.out.length c.out.length 1]:=a0e hob 16 1 (by decide);have r17:∀is bs vs k,a0a {i:=is,b:=bs,v:=vs,m:=σ,k:=k} false 1 (.obj h 17)=some [.msl hd 0 c.out.length c.out.length 1]:=a0e hob 17 1 (by decide);have r18:∀is bs vs k,a0a {i:=is,b:=bs,v:=vs,m:=σ,k:=k} false 1 (.obj h 18)=some [.bool c.over]:=a0e hob 18 1 (by decide);rw[a0b];simp only[b8I,Q0,Sys.run];show ((a0f [.sh (.one _),.sh (.one _)] _).bind _)=_;simp only[a0f,a0g,a0c,Q1,Q0,Q8,Q4,if_true,b1B];show (PT.ev _ a9A _).bind _=_;unfold Ck.has;simp only[a9A,↓reduceIte,PT.ev,BE.safe,BE.pe,IE.pe,PEnv.at,Q3,Q5,Q7,a0p,a1k,Qd,Qf,Nat.reduceAdd,Q0,PEnv.push,Q6,Q4,SV.pv,];cases leB 0 i<;>simp only[↓reduceIte,Q3,Q2,a0c,Q1,Q0,a2S,r17,a7L,d3I,b5H,a0m,or_true,QB,QC]
def d1S(σ:List MO)(i N j:Int)(O V:PV):PEnv:={i:=[i,N,j],b:=[],v:=[O,V],m:=σ,k:=σ.length}
include k in
theorem d2Z(hl:c.cl.length<=100){i:Nat}(hi:∀r∈c.cl,i<r.ask.length):∀d j,j+d=c.cl.length->∀(O:PV),O.rowsOf 12=some (((c.cl.take j).map fun r=>(⟨r.p,wa r.ask i⟩:Ch)).map Ch.row)->∀fuel,d+1<=fuel ->
  ∃L,a1L.loop (a0b Tab n) fuel 0 (d1S σ (i:Int) (c.cl.length:Int) (j:Int) O vcl)=some (L,σ)/\L.rowsOf 12=some ((c.chs i).map Ch.row):=by
 have hc:=k.cl.rd;intro d
 induction d with
 | zero =>
  intro j hj O hO fuel hf;obtain⟨fuel,rfl⟩:∃k,fuel=k+1:=⟨fuel-1,by omega⟩;obtain rfl:j=c.cl.length:=by omega
  have hd:ltB (c.cl.length:Int) (c.cl.length:Int)=false:=by rw[a0F];omega
  refine⟨O,?_,by rw[List.take_length] at hO;exact hO⟩;rw[Sys.loop,show a1L.loops[0]?=some a2Z from rfl];simp only[Q0,d1S,a2Z,↓reduceIte,a0j,a0d,BE.safe,BE.pe,IE.pe,Q3,Q5,Q7,Q2,Q1,Q0,SV.pv,hd,a0m,or_true]
 | succ d ih =>
  intro j hj O hO fuel hf;obtain⟨fuel,rfl⟩:∃k,fuel=k+1:=⟨fuel-1,by omega⟩;obtain⟨r,hr⟩:=a0U (show j<c.cl.length by omega);obtain⟨row,hrow,hrd⟩:=hc.rd j r hr;obtain⟨a,g,b,rfl,ba,bg,bb⟩:=hrow;obtain⟨L,q1,q2⟩:=hrd 0 9 (by decide);have q2:∀is bs vs k,a0a {i:=is,b:=bs,v:=vs,m:=σ,k:=k} false 9 L=some [.int .i64 r.p.a,.int .i64 r.p.b,.int .i64 r.p.c,.int .i64 r.p.d,.int .i64 r.p.e,.int .i64 r.p.f,a,g,b]:=q2;have hir:=hi r (Qv hr);obtain⟨w,hw⟩:=a0U hir;have hba:=ba.rd;obtain⟨L2,hL2⟩:=hba.rd i w hw;obtain⟨u1,u2⟩:=hL2 0 6 (by decide);have hd:ltB (j:Int) (c.cl.length:Int)=true:=by rw[a0Q];omega
  have hd2:ltB (i:Int) (r.ask.length:Int)=true:=by rw[a0Q];omega
  have hup:=a3I (show j<=1000000000 by omega);obtain⟨p1,p2,p3⟩:=a0i hO;have t1:(0:Nat)+1<=1000000:=by decide
  have t2:(((c.cl.take j).map fun r=>(⟨r.p,wa r.ask i⟩:Ch)).map Ch.row).length+1<=1000000:=by simp;omega
  obtain⟨L',e1,e2⟩:=ih (j+1) (by omega) (.sl 12 (((c.cl.take j).map fun r=>(⟨r.p,wa r.ask i⟩:Ch)).map Ch.row++[(⟨r.p,w⟩:Ch).row])) (by
   rw[a1C,List.take_add_one,hr,Option.toList_some,XG,XG,Qa,Qa,Qb,Qb,b9y hw]) fuel (by omega)
  refine⟨L',?_,e2⟩;rw[<- e1,a1q,Sys.loop,show a1L.loops[0]?=some a2Z from rfl];have oa:=ba.one;have og:=bg.one;have ob:=bb.one;generalize ((c.cl.take j).map fun r=>(⟨r.p,wa r.ask i⟩:Ch)).map Ch.row=RW at *
  simp only[Q0,d1S,a2Z,↓reduceIte,PT.ev,BE.safe,BE.pe,IE.pe,PEnv.at,Q3,Q5,Q7,Qe,a0p,Qt,Qd,Qf,Nat.reduceAdd,QJ,QD,a0c,Q1,Q0,PEnv.push,Q6,Q4,SV.pvs,SV.pv,BE.all,Q9,Qa,Qb,a0W,Xh,Xj,Xk,Xn,hd,le0,hc.len,q1,q2,oa,og,ob,hba.len,hd2,u1,u2,pv6,Qt,hO,if_pos t1,a1C,if_pos t2,if_pos hup,a2g]
include k in
theorem c7e(hl:c.cl.length<=100)(hi:∀r∈c.cl,r.ask.length=c.out.length)(i:Int)(hn:110<=n):∃L,a0b Tab n a6K [.ref h 0,.int .i64 i] σ=some (L,σ)/\L.rowsOf 12=some ((if c.has i=true then c.chs i.toNat else []).map Ch.row):=by
 obtain⟨n,rfl⟩:∃k,n=k+1:=⟨n-1,by omega⟩;have hob:=k.obj;have r0:∀is bs vs k,a0a {i:=is,b:=bs,v:=vs,m:=σ,k:=k} false 4 (.obj h 0)=some [s.P,s.B,s.C,s.A]:=a0e hob 0 4 (by decide);have r01:∀is bs vs k,a0a {i:=is,b:=bs,v:=vs,m:=σ,k:=k} false 1 (.obj h 0)=some [s.P]:=a0e hob 0 1 (by decide);have r4:∀is bs vs k,a0a {i:=is,b:=bs,v:=vs,m:=σ,k:=k} false 4 (.obj h 4)=some [.int .i64 o.st,.int .i64 o.pc,.int .i64 o.un,.int .i64 o.ru]:=a0e hob 4 4 (by decide);have r6:∀is bs vs k,a0a {i:=is,b:=bs,v:=vs,m:=σ,k:=k} false 1 (.obj h 6)=some [.int .i64 o.un]:=a0e hob 6 1 (by decide);have r7:∀is bs vs k,a0a {i:=is,b:=bs,v:=vs,m:=σ,k:=k} false 1 (.obj h 7)=some [.int .i64 o.ru]:=a0e hob 7 1 (by decide);have r8:∀is bs vs k,a0a {i:=is,b:=bs,v:=vs,m:=σ,k:=k} false 1 (.obj h 8)=some [vcl]:=a0e hob 8 1 (by decide);have r9:∀is bs vs k,a0a {i:=is,b:=bs,v:=vs,m:=σ,k:=k} false 6 (.obj h 9)=some [.int .i64 c.p.a,.int .i64 c.p.b,.int .i64 c.p.c,.int .i64 c.p.d,.int .i64 c.p.e,.int .i64 c.p.f]:=a0e hob 9 6 (by decide);have r15:∀is bs vs k,a0a {i:=is,b:=bs,v:=vs,m:=σ,k:=k} false 1 (.obj h 15)=some [.msl ha 0 c.out.length c.out.length 6]:=a0e hob 15 1 (by decide);have r16:∀is bs vs k,a0a {i:=is,b:=bs,v:=vs,m:=σ,k:=k} false 1 (.obj h 16)=some [.msl hb 0 c.out.length c.out.length 1]:=a0e hob 16 1 (by decide);have r17:∀is bs vs k,a0a {i:=is,b:=bs,v:=vs,m:=σ,k:=k} false 1 (.obj h 17)=some [.msl hd 0 c.out.length c.out.length 1]:=a0e hob 17 1 (by decide);have r18:∀is bs vs k,a0a {i:=is,b:=bs,v:=vs,m:=σ,k:=k} false 1 (.obj h 18)=some [.bool c.over]:=a0e hob 18 1 (by decide);have hc:=k.cl.rd;have c1:=c4N k n i (by omega);simp only[a9y] at c1
 have go:∀L,(PT.ev (a0b Tab n) a4C {i:=[i],b:=[],v:=[.ref h 0],m:=σ,k:=σ.length}).bind (fun x=>match x with|.ret r σ=>some (r,σ)|.jump q' ρ'=>Sys.loop (a0b Tab n) a1L n q' ρ')=some (L,σ)->a0b Tab (n+1) a6K [.ref h 0,.int .i64 i] σ=some (L,σ):=fun L hL=>by
  rw[a0b];simp only[b4l,Q0,Sys.run];show ((a0f [.sh (.one _),.sh (.one _)] _).bind _)=_;simp only[a0f,a0g,a0c,Q1,Q0,Q8,Q4,if_true,b1B];exact hL
 cases hh:c.has i with
 | false =>
  refine⟨.nilS,go _ ?_,rfl⟩;rw[hh] at c1;simp only[a4C,↓reduceIte,PT.ev,BE.safe,BE.pe,IE.pe,PEnv.at,Q3,Q5,Q7,Qe,a0p,a1k,Qd,Qf,Nat.reduceAdd,Q2,a0c,a0l,a0g,Q1,Q0,PEnv.push,Q6,Q4,SV.pvs,SV.pv,BE.all,Qr,Qa,Qb,a5o,a5v,a5l,c1,a0m,or_true]
 | true =>
  rw[hh] at c1;have hh':=hh;unfold Ck.has at hh';rw[QA,a2H,a0Q] at hh';obtain⟨j,rfl⟩:∃j:Nat,i=(j:Int):=⟨i.toNat,by omega⟩;obtain⟨L,e1,e2⟩:=d2Z k n hl (i:=j) (fun r hr=>by rw[hi r hr];omega) c.cl.length 0 (by omega) .nilS rfl n (by omega);refine⟨L,go _ ?_,by rw[if_pos rfl,Qz];exact e2⟩;simp only[a4C,↓reduceIte,PT.ev,BE.safe,BE.pe,IE.pe,PEnv.at,Q3,Q5,Q7,Qe,a0p,a1k,Qd,Qf,Q2,a0c,a0l,a0g,Q1,Q0,PEnv.push,Q6,Q4,SV.pvs,SV.pv,BE.all,Qk,Qa,Qb,a5o,a2S,a5v,a5l,c1,Qg,r8,hc.one,hc.kind,hc.len];exact e1
end
structure CpS (σ:List MO)(v:PV)(sz N:Nat)(cells:List PV):Prop where
 kind:v.isKind 0=true
 one:v.one=true
 len:v.len=(N:Int)
 src:∀(ρ:PEnv) (x:Nat) (τ:List MO),ρ.v[x]?=some v->ρ.m=σ++τ->a5k ρ sz x=some (N,cells)
 cl:cells.length=N*sz
 ones:cells.all PV.one=true
theorem d1k(l:List W6):(l.map W6.pv).flatten.all PV.one=true:=by
 induction l with
 | nil=>rfl
 | cons w l ih=>rw[Qa,Qq,QW,ih];rfl
theorem a1D{σ τ:List MO}{h:Nat}{x:MO}(hx:σ[h]?=some x):(σ++τ)[h]?=some x:=by rw[Qs (Qm.1 hx).1];exact hx
theorem BSl.cp{σ:List MO}{R:Nat->Prop}{v:PV}{l:List W6}(h:BSl σ R v l):CpS σ v 6 l.length (l.map W6.pv).flatten:=by
 refine⟨h.rd.kind,h.rd.one,h.rd.len,fun ρ x τ hx hm=>?_,b6t l,d1k l⟩;rcases h with ⟨h,_,rfl,hh⟩|⟨h,_,rfl,hh⟩
 ·unfold a5k
  rw[hx,hm];simp only[a1D hh,if_true,Q0,MO.list,Qg,b6t,Qn,Qt];rw[QM (by rw[b6t];exact Qn _)]
 ·unfold a5k
  rw[hx,hm];simp only[a1D hh,if_true,Q0,MO.elts,QQ,and_self,Q1]
theorem c2a{l new:List PV}(h:new.length=l.length):a2h l 0 new=new:=by
 unfold a2h;rw[QD,Q4,Qg,List.drop_of_length_le (by omega),Q8]
theorem b3N(σ:List MO)(x y:MO):(σ++[x]).set σ.length y=σ++[y]:=by
 rw[XE _ _ (Qn _),X6,Xb]
theorem c3Z(N sz:Nat)(z:List PV)(hz:z.length=sz):(Qh N z).flatten.length=N*sz:=by
 induction N with
 | zero=>simp
 | succ N ih=>rw[QU,Qq,Qw,ih,hz,QY];omega
theorem a2j{σ:List MO}{v:PV}{N:Nat}{cells:List PV}(h:CpS σ v 6 N cells)(hN:N<=1000)(n:Nat)(hn:1<=n):a0b Tab n a2z [v] σ=some (.msl σ.length 0 N N 6,σ++[.cells cells 38]):=by
 obtain⟨n,rfl⟩:∃k,n=k+1:=⟨n-1,by omega⟩;have c1:(0:Int)<=(N:Int)/\(N:Int)<=1000000/\100<=100000000:=⟨by omega,by omega,by decide⟩;have e1:=h.src;have hgt:∀x:MO,(σ++[x])[σ.length]?=some x:=fun x=>by simp
 have one2:PV.one (.msl σ.length 0 N N 6)=true:=rfl;rw[a0b];simp only[b2s,Q0,Sys.run];show ((a0f [.sh (.one _)] _).bind _)=_;simp only[a0f,a0g,a0c,Q1,Q0,Q8,if_true,h.one];show (PT.ev _ a5d _).bind _=_;unfold a5d;rw[a0h];simp only[↓reduceIte,a5K,BE.safe,BE.pe,IE.pe,PEnv.at,Q3,Q1,Q0,Q6,Q4,SV.pvs,SV.pv,h.kind];simp only[h.len,Qz];rw[if_pos (by refine⟨by omega,by omega,by decide⟩)];rw[b9d];simp only[Qe,Q7,hgt];rw[h.src _ 0 [_] rfl rfl];simp only[Q0,Nat.min_self];have hle:(Qh N ([.int .i64 0,.int .i64 0,.int .i64 0,.int .i64 0,.int .i64 0,.int .i64 0]:List PV)).flatten.length=N*6:=c3Z N 6 _ rfl;rw[if_pos (by rw[hle];refine⟨trivial,by omega,by rw[h.cl];omega,h.ones⟩),QM (by rw[h.cl];exact Qn _),c2a (by rw[hle,h.cl]),b3N];simp only[↓reduceIte,a0j,Q7,Qe,Q1,Q0,PEnv.push,Q4,Q8,SV.pv,a0m,true_or]
theorem b1H{σ:List MO}{v:PV}{N:Nat}{cells:List PV}(h:CpS σ v 9 N cells)(hN:N<=1000)(n:Nat)(hn:1<=n):a0b Tab n a7w [v] σ=some (.msl σ.length 0 N N 9,σ++[.cells cells 54]):=by
 obtain⟨n,rfl⟩:∃k,n=k+1:=⟨n-1,by omega⟩;have c1:(0:Int)<=(N:Int)/\(N:Int)<=1000000/\100<=100000000:=⟨by omega,by omega,by decide⟩;have e1:=h.src;have hgt:∀x:MO,(σ++[x])[σ.length]?=some x:=fun x=>by simp
 have one2:PV.one (.msl σ.length 0 N N 9)=true:=rfl;rw[a0b];simp only[b1F,Q0,Sys.run];show ((a0f [.sh (.one _)] _).bind _)=_;simp only[a0f,a0g,a0c,Q1,Q0,Q8,if_true,h.one];show (PT.ev _ a4G _).bind _=_;unfold a4G;rw[a0h];simp only[↓reduceIte,a5K,BE.safe,BE.pe,IE.pe,PEnv.at,Q3,Q1,Q0,Q6,Q4,SV.pvs,SV.pv,h.kind];simp only[h.len,Qz];rw[if_pos (by refine⟨by omega,by omega,by decide⟩)];rw[b9d];simp only[Qe,Q7,hgt];rw[h.src _ 0 [_] rfl rfl];simp only[Q0,Nat.min_self];have hle:(Qh N ([.int .i64 0,.int .i64 0,.int .i64 0,.int .i64 0,.int .i64 0,.int .i64 0,.nilS,.nilS,.nilS]:List PV)).flatten.length=N*9:=c3Z N 9 _ rfl;rw[if_pos (by rw[hle];refine⟨trivial,by omega,by rw[h.cl];omega,h.ones⟩),QM (by rw[h.cl];exact Qn _),c2a (by rw[hle,h.cl]),b3N];simp only[↓reduceIte,a0j,Q7,Qe,Q1,Q0,PEnv.push,Q4,Q8,SV.pv,a0m,true_or]
def c5L(s:St)(o:Po)(σ:List MO)(h:Nat)(F:Nat->Prop)(c':Ck)(r:PV)(res:Option (PV×List MO)):Prop:=∃σ' F',res=some (r,σ')/\a4x s o σ' h F' c'/\Adv σ σ' F F'
theorem a4K{s:St}{o:Po}{vcl va vb vd:PV}{p:W6}{ov:Bool}{N:Nat}:(ckO s o vcl va vb vd p ov).low N=true↔s.P.low N=true/\s.B.low N=true/\s.C.low N=true/\s.A.low N=true/\vcl.low N=true/\va.low N=true/\vb.low N=true/\vd.low N=true:=by
 simp only[ckO,MO.low,ckL,PV.lows,PV.low,QA,and_true,true_and]
section
variable {s:St}{o:Po}{σ:List MO}{h:Nat}{vcl:PV}{ha hb hd:Nat}{R:Nat->Prop}{c:Ck}(k:CkAt s o σ h vcl ha hb hd R c)
include k
theorem CkAt.lt:h<σ.length:=(Qm.1 k.obj).1
theorem CkAt.a_h:ha≠h:=by
 rintro rfl;have:=k.obj.symm.trans k.ask;simp[ckO] at this
theorem CkAt.b_h:hb≠h:=by
 rintro rfl;have:=k.obj.symm.trans k.bid;simp[ckO] at this
theorem CkAt.d_h:hd≠h:=by
 rintro rfl;have:=k.obj.symm.trans k.out;simp[ckO] at this
theorem CkAt.a_b:ha≠hb:=by
 rintro rfl;have:=k.ask.symm.trans k.bid;simp at this
theorem CkAt.a_d:ha≠hd:=by
 rintro rfl;have:=k.ask.symm.trans k.out;simp at this
end
def clM(σ:List MO)(h:Nat)(x:MO)(N:Nat):List MO:=σ.set h x++[.cells ((Qh N w0).map W6.pv).flatten 38,.cells ((Qh N false).map PV.bool) 4]
theorem a3L(σ:List MO)(h:Nat)(x:MO)(N:Nat):(clM σ h x N).length=σ.length+2:=by simp[clM]
theorem b0e{σ:List MO}{h:Nat}(hl:h<σ.length)(x:MO)(N:Nat):(clM σ h x N)[h]?=some x:=by
 unfold clM;rw[Qs (by rw[Qp];exact hl),QL hl]
theorem b2b{σ:List MO}{h y:Nat}(hl:y<σ.length)(hne:y≠h)(x:MO)(N:Nat):(clM σ h x N)[y]?=σ[y]?:=by
 unfold clM;rw[Qs (by rw[Qp];exact hl),Qj (Ne.symm hne)]
theorem c7V(σ:List MO)(h:Nat)(x:MO)(N:Nat):(clM σ h x N)[σ.length]?=some (.cells ((Qh N w0).map W6.pv).flatten 38):=by
 unfold clM;rw[X0 (by rw[Qp];exact Qn _),Qp,X6];rfl
theorem c8C(σ:List MO)(h:Nat)(x:MO)(N:Nat):(clM σ h x N)[σ.length+1]?=some (.cells ((Qh N false).map PV.bool) 4):=by
 unfold clM;rw[X0 (by rw[Qp];omega),Qp,show σ.length+1-σ.length=1 by omega];rfl
theorem b6D{σ:List MO}{h:Nat}(hl:h<σ.length)(x y:MO)(N:Nat):(clM σ h x N).set h y=clM σ h y N:=by
 unfold clM;rw[XH _ _ (by rw[Qp];exact hl),List.set_set]
section
variable {s:St}{o:Po}{σ:List MO}{h:Nat}{vcl:PV}{ha hb hd:Nat}{R:Nat->Prop}{c:Ck}(k:CkAt s o σ h vcl ha hb hd R c)(hσ:Low σ)(hN:c.out.length<=1000)
include k hσ hN
theorem d0r(n:Nat)(hn:1<=n):a0b Tab n a2t [.ref h 0] σ=some (.tup [],clM σ h (ckO s o vcl (.msl σ.length 0 c.out.length c.out.length 6) (.msl (σ.length+1) 0 c.out.length c.out.length 1) (.msl hd 0 c.out.length c.out.length 1) c.p c.over) c.out.length):=by
 obtain⟨n,rfl⟩:∃k,n=k+1:=⟨n-1,by omega⟩;have hob:=k.obj;rw[a0b,show Tab a2t=some a2u from b0O,Q0,a2u,c2D,b7k];unfold b9r;simp only[hob,ckO,ckL];rw[if_pos ⟨by omega,hσ⟩];have e1:Qy W6.pv (Qh c.out.length w0)=Qh c.out.length z6:=by rw[XJ];rfl
 have e2:∀N:Nat,Qy PV.bool (Qh N false)=(Qh N [PV.bool false]).flatten:=fun N=>by
  induction N with
  | zero=>rfl
  | succ N ih=>rw[QU,QU,Qa,Qq,ih];rfl
 unfold clM;rw[e1,e2]
theorem CkAt.cleared{vcl':PV}{cl':List Rn}{p':W6}{ov':Bool}{R':Nat->Prop}(τ:List MO)(hcl:CSl (clM σ h (ckO s o vcl' (.msl σ.length 0 c.out.length c.out.length 6) (.msl (σ.length+1) 0 c.out.length c.out.length 1) (.msl hd 0 c.out.length c.out.length 1) p' ov') c.out.length++τ) R' vcl' cl')
  (hR:∀x,R' x->x<σ.length+2+τ.length) (h1:¬R' σ.length) (h2:¬R' (σ.length+1)) (h3:¬R' hd) (h4:¬R' h) :
  CkAt s o (clM σ h (ckO s o vcl' (.msl σ.length 0 c.out.length c.out.length 6) (.msl (σ.length+1) 0 c.out.length c.out.length 1) (.msl hd 0 c.out.length c.out.length 1) p' ov') c.out.length++τ) h vcl' σ.length (σ.length+1) hd R' {cl:=cl',p:=p',ask:=c.blank.ask,bid:=c.blank.bid,out:=c.out,over:=ov'}:=by
 have hdl:=(Qm.1 k.out).1;refine⟨a1D (b0e k.lt _ _),a1D (c7V _ _ _ _),a1D (c8C _ _ _ _),a1D ?_,by simp[Ck.blank],by simp[Ck.blank],hcl,fun x hx=>by rw[Qw,a3L];exact hR x hx,h1,h2,h3,h4,by omega⟩;rw[b2b hdl k.d_h];exact k.out
theorem c7Q{vcl':PV}{p':W6}{ov':Bool}(hv:vcl'.low (σ.length+2)=true):Low (clM σ h (ckO s o vcl' (.msl σ.length 0 c.out.length c.out.length 6) (.msl (σ.length+1) 0 c.out.length c.out.length 1) (.msl hd 0 c.out.length c.out.length 1) p' ov') c.out.length):=by
 have hob:=a4K.1 (hσ.get k.obj);have up:∀{v:PV},v.low σ.length=true->v.low (σ.length+2)=true:=fun h=>PV.low_mono (by omega) _ h
 unfold Low;rw[a3L];unfold clM;rw[QW,QA];refine⟨Qu.2 fun y hy=>?_,by simp only[X4,X5,a6i,a7j,Q9]⟩;rcases QP hy with hy|rfl
 ·exact MO.low_mono (by omega) (Qu.1 hσ y hy)
 ·exact a4K.2 ⟨up hob.1,up hob.2.1,up hob.2.2.1,up hob.2.2.2.1,hv,by simp[PV.low],by simp[PV.low],up hob.2.2.2.2.2.2.2⟩
end
theorem c2R{h i n c:Nat}(hi:i<n):a3E (i:Int) 1 0 (.msl h 0 n c 1)=some (.obj h i):=by
 rw[c8y hi,Nat.mul_one]
theorem c4M{sz:Nat}:∀(rows:List (List PV)) (_:∀r∈rows,r.length=sz) (k:Nat),rows.flatten.take (k*sz)=(rows.take k).flatten
 | [],_,k=>by simp
 | r::rows,h,0=>by simp
 | r::rows,h,k+1=>by
  have h0:=h r (by simp);rw[Qq,QJ,Qq,show (k+1)*sz=r.length+k*sz by rw[h0,QY];omega,Xt,QM (by omega),X2,c4M rows (fun q hq=>h q (by simp[hq])) k]
theorem c4R{rows:List (List PV)}(h:∀r∈rows,r.all PV.one=true):rows.flatten.all PV.one=true:=by
 rw[Qu];intro p hp;obtain⟨r,hr,hp⟩:=List.mem_flatten.1 hp;exact Qu.1 (h r hr) p hp
theorem b4Q{sz:Nat}:∀(rows:List (List PV)) (_:∀r∈rows,r.length=sz),rows.flatten.length=rows.length*sz
 | [],_=>by simp
 | r::rows,h=>by
  rw[Qq,Qw,b4Q rows (fun q hq=>h q (by simp[hq])),h r (by simp),Qd,QY];omega
theorem d3R{σ:List MO}{R:Nat->Prop}{v:PV}{cl:List Rn}(h:CSl σ R v cl){r:Nat}(hr:r<cl.length) :
  ∃p rows,v.rowsOf 9=none/\(∀(ρ:PEnv) (e:IE),ρ.m=σ->e.pe ρ=(r:Int)->b7u ρ none (some e) 9 (some v)=some p)/\CpS σ p 9 r rows.flatten/\a2b σ R (cl.take r) rows:=by
 rcases h with ⟨rfl,rfl⟩|⟨h,rows,h1,rfl,h3,h4⟩|⟨h,rows,h1,rfl,h0,h3,h4⟩
 ·simp at hr
 ·refine⟨.msl h 0 r cl.length 9,rows.take r,rfl,fun ρ e hm he=>?_,⟨rfl,rfl,rfl,fun ρ x τ hx hm=>?_,?_,?_⟩,h4.take r⟩
  ·show (if 0<=e.pe ρ/\e.pe ρ<=(cl.length:Int)/\cl.length<=cl.length/\9=9 then some (PV.msl h 0 (e.pe ρ).toNat cl.length 9) else none)=_
   rw[he,if_pos (by omega),Qz]
  ·unfold a5k
   rw[hx,hm];have hfl:=b4Q rows h4.lens;rw[h4.1] at hfl;simp only[a1D h3,if_true,Q0,MO.list,Qg,Qt];rw[if_pos (by omega),c4M rows h4.lens]
  ·rw[b4Q _ (fun q hq=>h4.lens q (X1 hq)),QS,h4.1,X3 (by omega)]
  ·exact c4R fun q hq=>by obtain⟨_,_,kk⟩:=h4.mem (X1 hq);exact kk.ones
 ·refine⟨.rpl h r cl.length 9,rows.take r,rfl,fun ρ e hm he=>?_,⟨rfl,rfl,rfl,fun ρ x τ hx hm=>?_,?_,?_⟩,h4.take r⟩
  ·unfold b7u
   simp only[he,hm,h3,Q0,MO.elts,h4.1,and_self,if_true,Option.isSome_some,and_true];rw[if_pos (by omega),Qz]
  ·unfold a5k
   rw[hx,hm];simp only[a1D h3,Q0,MO.elts,h4.1,and_self,if_true,Q1,true_and];rw[if_pos (by omega)]
  ·rw[b4Q _ (fun q hq=>h4.lens q (X1 hq)),QS,h4.1,X3 (by omega)]
  ·exact c4R fun q hq=>by obtain⟨_,_,kk⟩:=h4.mem (X1 hq);exact kk.ones
section
variable {s:St}{o:Po}{σ:List MO}{h:Nat}{F:Nat->Prop}{c:Ck}(K:a4x s o σ h F c)(hσ:Low σ)(hN:c.out.length<=1000)(n:Nat)
include K hσ hN
theorem e0U(hn:2<=n):c5L s o σ h F c.stop.1 (.int .i64 c.stop.2) (a0b Tab n d9q [.ref h 0] σ):=by
 obtain⟨n,rfl⟩:∃k,n=k+1:=⟨n-1,by omega⟩;have K0:=K;obtain⟨vcl,ha,hb,hd,R,k,hF⟩:=K;have hob:=k.obj;have r0:∀is bs vs k,a0a {i:=is,b:=bs,v:=vs,m:=σ,k:=k} false 4 (.obj h 0)=some [s.P,s.B,s.C,s.A]:=a0e hob 0 4 (by decide);have r01:∀is bs vs k,a0a {i:=is,b:=bs,v:=vs,m:=σ,k:=k} false 1 (.obj h 0)=some [s.P]:=a0e hob 0 1 (by decide);have r4:∀is bs vs k,a0a {i:=is,b:=bs,v:=vs,m:=σ,k:=k} false 4 (.obj h 4)=some [.int .i64 o.st,.int .i64 o.pc,.int .i64 o.un,.int .i64 o.ru]:=a0e hob 4 4 (by decide);have r6:∀is bs vs k,a0a {i:=is,b:=bs,v:=vs,m:=σ,k:=k} false 1 (.obj h 6)=some [.int .i64 o.un]:=a0e hob 6 1 (by decide);have r7:∀is bs vs k,a0a {i:=is,b:=bs,v:=vs,m:=σ,k:=k} false 1 (.obj h 7)=some [.int .i64 o.ru]:=a0e hob 7 1 (by decide);have r8:∀is bs vs k,a0a {i:=is,b:=bs,v:=vs,m:=σ,k:=k} false 1 (.obj h 8)=some [vcl]:=a0e hob 8 1 (by decide);have r9:∀is bs vs k,a0a {i:=is,b:=bs,v:=vs,m:=σ,k:=k} false 6 (.obj h 9)=some [.int .i64 c.p.a,.int .i64 c.p.b,.int .i64 c.p.c,.int .i64 c.p.d,.int .i64 c.p.e,.int .i64 c.p.f]:=a0e hob 9 6 (by decide);have r15:∀is bs vs k,a0a {i:=is,b:=bs,v:=vs,m:=σ,k:=k} false 1 (.obj h 15)=some [.msl ha 0 c.out.length c.out.length 6]:=a0e hob 15 1 (by decide);have r16:∀is bs vs k,a0a {i:=is,b:=bs,v:=vs,m:=σ,k:=k} false 1 (.obj h 16)=some [.msl hb 0 c.out.length c.out.length 1]:=a0e hob 16 1 (by decide);have r17:∀is bs vs k,a0a {i:=is,b:=bs,v:=vs,m:=σ,k:=k} false 1 (.obj h 17)=some [.msl hd 0 c.out.length c.out.length 1]:=a0e hob 17 1 (by decide);have r18:∀is bs vs k,a0a {i:=is,b:=bs,v:=vs,m:=σ,k:=k} false 1 (.obj h 18)=some [.bool c.over]:=a0e hob 18 1 (by decide);have c1:=d0r k hσ hN n (by omega);simp only[a2t] at c1
 have go:∀r,(PT.ev (a0b Tab n) d9c {i:=[],b:=[],v:=[.ref h 0],m:=σ,k:=σ.length}).bind (fun x=>match x with|.ret r σ=>some (r,σ)|.jump q' ρ'=>Sys.loop (a0b Tab n) d9a n q' ρ')=some r->a0b Tab (n+1) d9q [.ref h 0] σ=some r:=fun r hr=>by
  rw[a0b];simp only[d9R,Q0,Sys.run];show ((a0f [.sh (.one _)] _).bind _)=_;simp only[a0f,a0g,a0c,Q1,Q0,Q8,if_true,b1B];exact hr
 unfold Ck.stop;cases hov:c.over with
 | true =>
  refine⟨σ,F,go _ ?_,K0,Adv.refl hσ⟩;rw[hov] at r18;simp only[d9c,↓reduceIte,PT.ev,BE.safe,BE.pe,IE.pe,PEnv.at,Q3,Q7,a0p,a1k,Qd,Qf,Nat.reduceAdd,Q2,a0c,a0l,a0g,Q1,Q0,PEnv.push,Q6,Q4,SV.pvs,SV.pv,a5o,a2S,a5v,a5l,Qg,r18,a0m,true_or]
 | false =>
  rw[hov] at r18 c1;refine⟨_,fun x=>x=h\/x=σ.length\/x=σ.length+1\/x=hd\/R x,go (.int .i64 0,clM σ h (ckO s o vcl (.msl σ.length 0 c.out.length c.out.length 6) (.msl (σ.length+1) 0 c.out.length c.out.length 1) (.msl hd 0 c.out.length c.out.length 1) c.p true) c.out.length) ?_,?_,?_⟩
  ·have g:=b0e k.lt (ckO s o vcl (.msl σ.length 0 c.out.length c.out.length 6) (.msl (σ.length+1) 0 c.out.length c.out.length 1) (.msl hd 0 c.out.length c.out.length 1) c.p false) c.out.length
   have g':=g;rw[show ∀b,ckO s o vcl (.msl σ.length 0 c.out.length c.out.length 6) (.msl (σ.length+1) 0 c.out.length c.out.length 1) (.msl hd 0 c.out.length c.out.length 1) c.p b=.cells (ckL s o vcl (.msl σ.length 0 c.out.length c.out.length 6) (.msl (σ.length+1) 0 c.out.length c.out.length 1) (.msl hd 0 c.out.length c.out.length 1) c.p b) 81 from fun _=>rfl] at g';have hs:=b6D k.lt (ckO s o vcl (.msl σ.length 0 c.out.length c.out.length 6) (.msl (σ.length+1) 0 c.out.length c.out.length 1) (.msl hd 0 c.out.length c.out.length 1) c.p false) (ckO s o vcl (.msl σ.length 0 c.out.length c.out.length 6) (.msl (σ.length+1) 0 c.out.length c.out.length 1) (.msl hd 0 c.out.length c.out.length 1) c.p true) c.out.length;simp only[ckO] at c1 g' hs ⊢;have l18:18+1<=19:=by decide
   simp only[d9c,↓reduceIte,PT.ev,BE.safe,BE.pe,IE.pe,PEnv.at,Q3,Q7,a0p,a1k,Qd,Qf,Nat.reduceAdd,Qn,Q2,a0c,a0l,a0g,Q1,Q0,PEnv.push,Q6,Q4,SV.pvs,SV.pv,a5o,a2S,a5v,a5l,Qg,r18,c1,a1h,g',a6N,b5R,hs,a0m,true_or]
  ·refine⟨vcl,σ.length,σ.length+1,hd,R,?_,fun x=>Iff.rfl⟩
   have:=k.cleared hσ hN (vcl':=vcl) (cl':=c.cl) (p':=c.p) (ov':=true) (R':=R) [] ?_ (fun x hx=>by have:=k.bd x hx;simp;omega) (fun hx=>by have:=k.bd _ hx;omega) (fun hx=>by have:=k.bd _ hx;omega) k.nd k.nh
   ·simpa[Ck.blank] using this
   ·refine k.cl.frame fun x hx=>?_
    rw[Q8];exact b2b (k.bd x hx) (by rintro rfl;exact k.nh hx) _ _
  ·refine⟨by rw[a3L];omega,fun x hx hn=>?_,fun x hx=>?_,?_⟩
   ·exact b2b hx (by rintro rfl;exact hn ((hF _).2 (.inl rfl))) _ _
   ·rcases hx with rfl|rfl|rfl|rfl|hx
    ·exact .inl ((hF _).2 (.inl rfl))
    ·exact .inr (Qn _)
    ·exact .inr (by omega)
    ·exact .inl ((hF _).2 (.inr (.inr (.inr (.inl rfl)))))
    ·exact .inl ((hF _).2 (.inr (.inr (.inr (.inr hx)))))
   ·exact c7Q k hσ hN (PV.low_mono (by omega) _ (a4K.1 (hσ.get k.obj)).2.2.2.2.1)
theorem e0W(i:Int)(hn:2<=n):c5L s o σ h F (c.drop i).1 (.int .i64 (c.drop i).2) (a0b Tab n d9l [.ref h 0,.int .i64 i] σ):=by
 obtain⟨n,rfl⟩:∃k,n=k+1:=⟨n-1,by omega⟩;have K0:=K;obtain⟨vcl,ha,hb,hd,R,k,hF⟩:=K;have hob:=k.obj;have r0:∀is bs vs k,a0a {i:=is,b:=bs,v:=vs,m:=σ,k:=k} false 4 (.obj h 0)=some [s.P,s.B,s.C,s.A]:=a0e hob 0 4 (by decide);have r01:∀is bs vs k,a0a {i:=is,b:=bs,v:=vs,m:=σ,k:=k} false 1 (.obj h 0)=some [s.P]:=a0e hob 0 1 (by decide);have r4:∀is bs vs k,a0a {i:=is,b:=bs,v:=vs,m:=σ,k:=k} false 4 (.obj h 4)=some [.int .i64 o.st,.int .i64 o.pc,.int .i64 o.un,.int .i64 o.ru]:=a0e hob 4 4 (by decide);have r6:∀is bs vs k,a0a {i:=is,b:=bs,v:=vs,m:=σ,k:=k} false 1 (.obj h 6)=some [.int .i64 o.un]:=a0e hob 6 1 (by decide);have r7:∀is bs vs k,a0a {i:=is,b:=bs,v:=vs,m:=σ,k:=k} false 1 (.obj h 7)=some [.int .i64 o.ru]:=a0e hob 7 1 (by decide);have r8:∀is bs vs k,a0a {i:=is,b:=bs,v:=vs,m:=σ,k:=k} false 1 (.obj h 8)=some [vcl]:=a0e hob 8 1 (by decide);have r9:∀is bs vs k,a0a {i:=is,b:=bs,v:=vs,m:=σ,k:=k} false 6 (.obj h 9)=some [.int .i64 c.p.a,.int .i64 c.p.b,.int .i64 c.p.c,.int .i64 c.p.d,.int .i64 c.p.e,.int .i64 c.p.f]:=a0e hob 9 6 (by decide);have r15:∀is bs vs k,a0a {i:=is,b:=bs,v:=vs,m:=σ,k:=k} false 1 (.obj h 15)=some [.msl ha 0 c.out.length c.out.length 6]:=a0e hob 15 1 (by decide);have r16:∀is bs vs k,a0a {i:=is,b:=bs,v:=vs,m:=σ,k:=k} false 1 (.obj h 16)=some [.msl hb 0 c.out.length c.out.length 1]:=a0e hob 16 1 (by decide);have r17:∀is bs vs k,a0a {i:=is,b:=bs,v:=vs,m:=σ,k:=k} false 1 (.obj h 17)=some [.msl hd 0 c.out.length c.out.length 1]:=a0e hob 17 1 (by decide);have r18:∀is bs vs k,a0a {i:=is,b:=bs,v:=vs,m:=σ,k:=k} false 1 (.obj h 18)=some [.bool c.over]:=a0e hob 18 1 (by decide);have c1:=c4N k n i (by omega);simp only[a9y] at c1
 have go:∀r,(PT.ev (a0b Tab n) d8Z {i:=[i],b:=[],v:=[.ref h 0],m:=σ,k:=σ.length}).bind (fun x=>match x with|.ret r σ=>some (r,σ)|.jump q' ρ'=>Sys.loop (a0b Tab n) d9b n q' ρ')=some r->a0b Tab (n+1) d9l [.ref h 0,.int .i64 i] σ=some r:=fun r hr=>by
  rw[a0b];simp only[d9S,Q0,Sys.run];show ((a0f [.sh (.one _),.sh (.one _)] _).bind _)=_;simp only[a0f,a0g,a0c,Q1,Q0,Q8,Q4,if_true,b1B];exact hr
 unfold Ck.drop;cases hh:c.has i with
 | false =>
  refine⟨σ,F,go _ ?_,K0,Adv.refl hσ⟩;rw[hh] at c1;simp only[d8Z,↓reduceIte,PT.ev,BE.safe,BE.pe,IE.pe,PEnv.at,Q3,Q5,Q7,Qe,a0p,a1k,Qd,Qf,Nat.reduceAdd,Q2,a0c,a0l,a0g,Q1,Q0,PEnv.push,Q6,Q4,SV.pvs,SV.pv,Q9,Qr,a5o,a5v,a5l,c1,a0m,true_or,Q2]
 | true =>
  rw[hh] at c1;have hh':=hh;unfold Ck.has at hh';rw[QA,a2H,a0Q] at hh';obtain⟨j,rfl⟩:∃j:Nat,i=(j:Int):=⟨i.toNat,by omega⟩;have hj:j<c.out.length:=by omega
  obtain⟨b,hb'⟩:=a0U hj;have q1:=c2R (h:=hd) (c:=c.out.length) hj
  have q2:∀is bs vs k,a0a {i:=is,b:=bs,v:=vs,m:=σ,k:=k} false 1 (.obj hd j)=some [.bool b]:=fun _ _ _ _=>by
   simp only[a0a,k.out,Q0,MO.list,Q2,if_false];exact c2b c.out hb'
  have hlt:ltB (j:Int) (c.out.length:Int)=true:=by rw[a0Q];omega
  rw[Qz,if_pos rfl,hb'];cases b with
  | true =>
   refine⟨σ,F,go _ ?_,K0,Adv.refl hσ⟩;simp only[d8Z,↓reduceIte,PT.ev,BE.safe,BE.pe,IE.pe,PEnv.at,Q3,Q5,Q7,Qe,a0p,a1k,Qd,Qf,Nat.reduceAdd,Q2,a0c,a0l,a0g,Q1,Q0,PEnv.push,Q6,Q4,Q8,SV.pvs,SV.pv,Q9,Qk,a5o,a2S,a5v,a5l,c1,Qg,r17,a7L,b5H,le0,hlt,q1,q2,a0m,true_or]
  | false =>
   have da:=k.a_d;have ab:=k.a_b;have db:=k.nbd;have la:=k.la;have lb:=k.lb;have hdl:=(Qm.1 k.out).1;have hal:=(Qm.1 k.ask).1;have hbl:=(Qm.1 k.bid).1;refine⟨((σ.set hd (.cells ((c.out.set j true).map PV.bool) 4)).set ha (.cells ((c.ask.set j w0).map W6.pv).flatten 38)).set hb (.cells ((c.bid.set j false).map PV.bool) 4),F,go _ ?_,?_,?_⟩
   ·have g1:=k.out
    have g2:(σ.set hd (.cells ((c.out.set j true).map PV.bool) 4))[ha]?=some (.cells (c.ask.map W6.pv).flatten 38):=by rw[Qj (Ne.symm da)];exact k.ask
    have g3:((σ.set hd (.cells ((c.out.set j true).map PV.bool) 4)).set ha (.cells ((c.ask.set j w0).map W6.pv).flatten 38))[hb]?=some (.cells (c.bid.map PV.bool) 4):=by rw[Qj ab,Qj (Ne.symm db)];exact k.bid
    have t1:j+1<=(c.out.map PV.bool).length:=by simp;omega
    have t2:j*6+6<=(c.ask.map W6.pv).flatten.length:=by rw[b6t];omega
    have t3:j+1<=(c.bid.map PV.bool).length:=by simp;omega
    have s1:=c9K c.out hj true;have s2:a2h (c.ask.map W6.pv).flatten (j*6) [.int .i64 0,.int .i64 0,.int .i64 0,.int .i64 0,.int .i64 0,.int .i64 0]=((c.ask.set j w0).map W6.pv).flatten:=c4A c.ask (by omega) w0;have s3:=c9K c.bid (i:=j) (by omega) false;have q1a:=c8y (h:=ha) (c:=c.out.length) (sz:=6) hj;have q1b:=c2R (h:=hb) (c:=c.out.length) hj;simp only[d8Z,↓reduceIte,PT.ev,BE.safe,BE.pe,IE.pe,PEnv.at,Q3,Q5,Q7,Qe,a0p,a1k,Qd,Qf,Nat.reduceAdd,Q2,a0c,a0l,a0g,Q1,Q0,PEnv.push,Q6,Q4,Q8,SV.pvs,SV.pv,Q9,Qk,a5o,a2S,a5v,a5l,c1,Qg,r17,r15,r16,a7L,b5H,le0,hlt,q1,q2,q1a,q1b,g1,g2,g3,if_pos t1,if_pos t2,if_pos t3,s1,s2,s3,a0m,true_or];rfl
   ·refine⟨vcl,ha,hb,hd,R,?_,hF⟩
    have keep:∀x,R x->(((σ.set hd (.cells ((c.out.set j true).map PV.bool) 4)).set ha (.cells ((c.ask.set j w0).map W6.pv).flatten 38)).set hb (.cells ((c.bid.set j false).map PV.bool) 4))[x]?=σ[x]?:=fun x hx=>by
     rw[Qj (by rintro rfl;exact k.nb hx),Qj (by rintro rfl;exact k.na hx),Qj (by rintro rfl;exact k.nd hx)]
    have hl:(c.out.set j true).length=c.out.length:=Qp;refine⟨?_,?_,?_,?_,?_,?_,k.cl.frame keep,fun x hx=>by simp only[Qp];exact k.bd x hx,k.na,k.nb,k.nd,k.nh,k.nbd⟩
    ·simp only[if_false,QE,Q2,hl]
     rw[Qj k.b_h,Qj k.a_h,Qj k.d_h];exact hob
    ·simp only[QE,Q2,if_false]
     rw[Qj (Ne.symm ab),QL (by simpa using hal)]
    ·simp only[QE,Q2,if_false]
     rw[QL (by simpa using hbl)]
    ·simp only[QE,Q2,if_false]
     rw[Qj db,Qj da,QL hdl]
    ·simp only[QE,Q2,if_false,Qp];exact la
    ·simp only[QE,Q2,if_false,Qp];exact lb
   ·refine⟨by simp,fun x hx hn=>?_,fun x hx=>.inl hx,?_⟩
    ·rw[Qj (by rintro rfl;exact hn ((hF _).2 (.inr (.inr (.inl rfl))))),Qj (by rintro rfl;exact hn ((hF _).2 (.inr (.inl rfl)))),Qj (by rintro rfl;exact hn ((hF _).2 (.inr (.inr (.inr (.inl rfl))))))]
    ·exact Low.set (Low.set (Low.set hσ (a7j _ _ _)) (a6i _ _ _)) (a7j _ _ _)
end
theorem c0W{σ:List MO}{h:Nat}(hl:h<σ.length)(x y:MO)(N:Nat)(τ:List MO):(clM σ h x N++τ).set h y=clM σ h y N++τ:=by
 rw[XH _ _ (by rw[a3L];omega),b6D hl]
section
variable {s:St}{o:Po}{σ:List MO}{h:Nat}{F:Nat->Prop}{c:Ck}(K:a4x s o σ h F c)(hσ:Low σ)(hN:c.out.length<=1000)(hcl:c.cl.length<=100)(n:Nat)
include K hσ hN hcl
set_option maxHeartbeats 4000000 in
theorem d0R(i:Int)(hn:2<=n):c5L s o σ h F (c.reset i).1 (.int .i64 (c.reset i).2) (a0b Tab n a7Q [.ref h 0,.int .i64 i] σ):=by
 obtain⟨n,rfl⟩:∃k,n=k+1:=⟨n-1,by omega⟩;have K0:=K;obtain⟨vcl,ha,hb,hd,R,k,hF⟩:=K;have hob:=k.obj;have r0:∀is bs vs k,a0a {i:=is,b:=bs,v:=vs,m:=σ,k:=k} false 4 (.obj h 0)=some [s.P,s.B,s.C,s.A]:=a0e hob 0 4 (by decide);have r01:∀is bs vs k,a0a {i:=is,b:=bs,v:=vs,m:=σ,k:=k} false 1 (.obj h 0)=some [s.P]:=a0e hob 0 1 (by decide);have r4:∀is bs vs k,a0a {i:=is,b:=bs,v:=vs,m:=σ,k:=k} false 4 (.obj h 4)=some [.int .i64 o.st,.int .i64 o.pc,.int .i64 o.un,.int .i64 o.ru]:=a0e hob 4 4 (by decide);have r6:∀is bs vs k,a0a {i:=is,b:=bs,v:=vs,m:=σ,k:=k} false 1 (.obj h 6)=some [.int .i64 o.un]:=a0e hob 6 1 (by decide);have r7:∀is bs vs k,a0a {i:=is,b:=bs,v:=vs,m:=σ,k:=k} false 1 (.obj h 7)=some [.int .i64 o.ru]:=a0e hob 7 1 (by decide);have r8:∀is bs vs k,a0a {i:=is,b:=bs,v:=vs,m:=σ,k:=k} false 1 (.obj h 8)=some [vcl]:=a0e hob 8 1 (by decide);have r9:∀is bs vs k,a0a {i:=is,b:=bs,v:=vs,m:=σ,k:=k} false 6 (.obj h 9)=some [.int .i64 c.p.a,.int .i64 c.p.b,.int .i64 c.p.c,.int .i64 c.p.d,.int .i64 c.p.e,.int .i64 c.p.f]:=a0e hob 9 6 (by decide);have r15:∀is bs vs k,a0a {i:=is,b:=bs,v:=vs,m:=σ,k:=k} false 1 (.obj h 15)=some [.msl ha 0 c.out.length c.out.length 6]:=a0e hob 15 1 (by decide);have r16:∀is bs vs k,a0a {i:=is,b:=bs,v:=vs,m:=σ,k:=k} false 1 (.obj h 16)=some [.msl hb 0 c.out.length c.out.length 1]:=a0e hob 16 1 (by decide);have r17:∀is bs vs k,a0a {i:=is,b:=bs,v:=vs,m:=σ,k:=k} false 1 (.obj h 17)=some [.msl hd 0 c.out.length c.out.length 1]:=a0e hob 17 1 (by decide);have r18:∀is bs vs k,a0a {i:=is,b:=bs,v:=vs,m:=σ,k:=k} false 1 (.obj h 18)=some [.bool c.over]:=a0e hob 18 1 (by decide);have c1:=d0r k hσ hN n (by omega);simp only[a2t] at c1;have hc:=k.cl.rd;have e6:∀a b:Int,ltB a b=decide (a<b):=fun _ _=>rfl
 have e5:∀a b:Int,eqB a b=decide (a=b):=fun _ _=>rfl
 have go:∀r,(PT.ev (a0b Tab n) a2r {i:=[i],b:=[],v:=[.ref h 0],m:=σ,k:=σ.length}).bind (fun x=>match x with|.ret r σ=>some (r,σ)|.jump q' ρ'=>Sys.loop (a0b Tab n) a4b n q' ρ')=some r->a0b Tab (n+1) a7Q [.ref h 0,.int .i64 i] σ=some r:=fun r hr=>by
  rw[a0b];simp only[b6s,Q0,Sys.run];show ((a0f [.sh (.one _),.sh (.one _)] _).bind _)=_;simp only[a0f,a0g,a0c,Q1,Q0,Q8,Q4,if_true,b1B];exact hr
 obtain⟨X,hX⟩:∃X:PV->W6->Bool->MO,∀v p ov,X v p ov=ckO s o v (.msl σ.length 0 c.out.length c.out.length 6) (.msl (σ.length+1) 0 c.out.length c.out.length 1) (.msl hd 0 c.out.length c.out.length 1) p ov:=⟨_,fun _ _ _=>rfl⟩
 have hclF:∀v p ov τ,CSl (clM σ h (X v p ov) c.out.length++τ) R vcl c.cl:=fun v p ov τ=>k.cl.frame fun x hx=>by
  rw[Qs (by rw[a3L];have:=k.bd x hx;omega)];exact b2b (k.bd x hx) (by rintro rfl;exact k.nh hx) _ _
 rw[<- hX] at c1
 have adv:∀v p ov τ F',(∀x,F' x->F x\/σ.length<=x)->Low (clM σ h (X v p ov) c.out.length++τ)->Adv σ (clM σ h (X v p ov) c.out.length++τ) F F':=fun v p ov τ F' h1 h2=>by
  refine⟨by rw[Qw,a3L];omega,fun x hx hn=>?_,h1,h2⟩;rw[Qs (by rw[a3L];omega)];exact b2b hx (by rintro rfl;exact hn ((hF _).2 (.inl rfl))) _ _
 have own:∀R':Nat->Prop,(∀x,R' x->R x\/σ.length<=x)->∀x,(x=h\/x=σ.length\/x=σ.length+1\/x=hd\/R' x)->F x\/σ.length<=x:=fun R' hR x hx=>by
  rcases hx with rfl|rfl|rfl|rfl|hx
  ·exact .inl ((hF _).2 (.inl rfl))
  ·exact .inr (Qn _)
  ·exact .inr (by omega)
  ·exact .inl ((hF _).2 (.inr (.inr (.inr (.inl rfl)))))
  ·rcases hR x hx with hx|hx
   ·exact .inl ((hF _).2 (.inr (.inr (.inr (.inr hx)))))
   ·exact .inr hx
 unfold Ck.reset;by_cases h1:i<0
 ·refine⟨σ,F,go _ ?_,by rw[if_pos h1];exact K0,Adv.refl hσ⟩
  rw[if_pos h1];simp only[a2r,↓reduceIte,PT.ev,BE.safe,BE.pe,IE.pe,PEnv.at,Q3,Q2,Q1,Q0,SV.pv,a5o,a5v,a5l,e6,dT0 h1,a0m,true_or]
 by_cases h2:(c.cl.length:Int)<i
 ·refine⟨σ,F,go _ ?_,by rw[if_neg h1,if_pos h2];exact K0,Adv.refl hσ⟩
  rw[if_neg h1,if_pos h2];simp only[a2r,↓reduceIte,PT.ev,BE.safe,BE.pe,IE.pe,PEnv.at,Q3,Q5,Q7,Qe,a0p,a1k,Qd,Qf,Nat.reduceAdd,Q2,a0c,a0l,a0g,Q1,Q0,PEnv.push,Q6,Q4,Q8,SV.pvs,SV.pv,Q9,a5o,a2S,a5v,a5l,e6,dF0 h1,Qg,r8,hc.one,hc.kind,hc.len,dT0 h2,a0m,true_or]
 obtain⟨j,rfl⟩:∃j:Nat,i=(j:Int):=⟨i.toNat,by omega⟩;by_cases h3:(j:Int)=(c.cl.length:Int)/\c.over=true
 ·refine⟨σ,F,go _ ?_,by rw[if_neg h1,if_neg h2,if_pos h3];exact K0,Adv.refl hσ⟩
  rw[if_neg h1,if_neg h2,if_pos h3];rw[h3.2] at r18;simp only[a2r,↓reduceIte,PT.ev,BE.safe,BE.pe,IE.pe,PEnv.at,Q3,Q5,Q7,Qe,a0p,a1k,Qd,Qf,Nat.reduceAdd,Q2,a0c,a0l,a0g,Q1,Q0,PEnv.push,Q6,Q4,Q8,SV.pvs,SV.pv,Q9,a5o,a2S,a5v,a5l,e6,e5,dF0 h1,Qg,r8,r18,hc.one,hc.kind,hc.len,dF0 h2,dT0 h3.1,a0m,true_or]
 rw[if_neg h1,if_neg h2,if_neg h3,Qz];by_cases h4:j<c.cl.length
 ·
  obtain⟨r,hr⟩:=a0U h4;have hclM:=hclF vcl c.p c.over [];rw[Q8] at hclM;obtain⟨row,hrow,hrd⟩:=hclM.rd.rd j r hr;obtain⟨a,g,b,rfl,_⟩:=hrow;obtain⟨L,q1,q2⟩:=hrd 0 6 (by decide);have q2:∀is bs vs k,a0a {i:=is,b:=bs,v:=vs,m:=clM σ h (X vcl c.p c.over) c.out.length,k:=k} false 6 L=some [.int .i64 r.p.a,.int .i64 r.p.b,.int .i64 r.p.c,.int .i64 r.p.d,.int .i64 r.p.e,.int .i64 r.p.f]:=q2;have hclP:=hclF vcl r.p c.over [];rw[Q8] at hclP;obtain⟨p,rows,p1,p2,p3,p4⟩:=d3R hclP h4;have ob1:=b0e k.lt (X vcl c.p c.over) c.out.length;have ob2:=b0e k.lt (X vcl r.p c.over) c.out.length;rw[hX] at ob1 ob2;have u0:∀is bs vs k,a0a {i:=is,b:=bs,v:=vs,m:=clM σ h (ckO s o vcl (.msl σ.length 0 c.out.length c.out.length 6) (.msl (σ.length+1) 0 c.out.length c.out.length 1) (.msl hd 0 c.out.length c.out.length 1) c.p c.over) c.out.length,k:=k} false 4 (.obj h 0)=some [s.P,s.B,s.C,s.A]:=a0e ob1 0 4 (by decide);have u01:∀is bs vs k,a0a {i:=is,b:=bs,v:=vs,m:=clM σ h (ckO s o vcl (.msl σ.length 0 c.out.length c.out.length 6) (.msl (σ.length+1) 0 c.out.length c.out.length 1) (.msl hd 0 c.out.length c.out.length 1) c.p c.over) c.out.length,k:=k} false 1 (.obj h 0)=some [s.P]:=a0e ob1 0 1 (by decide);have u4:∀is bs vs k,a0a {i:=is,b:=bs,v:=vs,m:=clM σ h (ckO s o vcl (.msl σ.length 0 c.out.length c.out.length 6) (.msl (σ.length+1) 0 c.out.length c.out.length 1) (.msl hd 0 c.out.length c.out.length 1) c.p c.over) c.out.length,k:=k} false 4 (.obj h 4)=some [.int .i64 o.st,.int .i64 o.pc,.int .i64 o.un,.int .i64 o.ru]:=a0e ob1 4 4 (by decide);have u6:∀is bs vs k,a0a {i:=is,b:=bs,v:=vs,m:=clM σ h (ckO s o vcl (.msl σ.length 0 c.out.length c.out.length 6) (.msl (σ.length+1) 0 c.out.length c.out.length 1) (.msl hd 0 c.out.length c.out.length 1) c.p c.over) c.out.length,k:=k} false 1 (.obj h 6)=some [.int .i64 o.un]:=a0e ob1 6 1 (by decide);have u7:∀is bs vs k,a0a {i:=is,b:=bs,v:=vs,m:=clM σ h (ckO s o vcl (.msl σ.length 0 c.out.length c.out.length 6) (.msl (σ.length+1) 0 c.out.length c.out.length 1) (.msl hd 0 c.out.length c.out.length 1) c.p c.over) c.out.length,k:=k} false 1 (.obj h 7)=some [.int .i64 o.ru]:=a0e ob1 7 1 (by decide);have u8:∀is bs vs k,a0a {i:=is,b:=bs,v:=vs,m:=clM σ h (ckO s o vcl (.msl σ.length 0 c.out.length c.out.length 6) (.msl (σ.length+1) 0 c.out.length c.out.length 1) (.msl hd 0 c.out.length c.out.length 1) c.p c.over) c.out.length,k:=k} false 1 (.obj h 8)=some [vcl]:=a0e ob1 8 1 (by decide);have u9:∀is bs vs k,a0a {i:=is,b:=bs,v:=vs,m:=clM σ h (ckO s o vcl (.msl σ.length 0 c.out.length c.out.length 6) (.msl (σ.length+1) 0 c.out.length c.out.length 1) (.msl hd 0 c.out.length c.out.length 1) c.p c.over) c.out.length,k:=k} false 6 (.obj h 9)=some [.int .i64 c.p.a,.int .i64 c.p.b,.int .i64 c.p.c,.int .i64 c.p.d,.int .i64 c.p.e,.int .i64 c.p.f]:=a0e ob1 9 6 (by decide);have u15:∀is bs vs k,a0a {i:=is,b:=bs,v:=vs,m:=clM σ h (ckO s o vcl (.msl σ.length 0 c.out.length c.out.length 6) (.msl (σ.length+1) 0 c.out.length c.out.length 1) (.msl hd 0 c.out.length c.out.length 1) c.p c.over) c.out.length,k:=k} false 1 (.obj h 15)=some [.msl σ.length 0 c.out.length c.out.length 6]:=a0e ob1 15 1 (by decide);have u16:∀is bs vs k,a0a {i:=is,b:=bs,v:=vs,m:=clM σ h (ckO s o vcl (.msl σ.length 0 c.out.length c.out.length 6) (.msl (σ.length+1) 0 c.out.length c.out.length 1) (.msl hd 0 c.out.length c.out.length 1) c.p c.over) c.out.length,k:=k} false 1 (.obj h 16)=some [.msl (σ.length+1) 0 c.out.length c.out.length 1]:=a0e ob1 16 1 (by decide);have u17:∀is bs vs k,a0a {i:=is,b:=bs,v:=vs,m:=clM σ h (ckO s o vcl (.msl σ.length 0 c.out.length c.out.length 6) (.msl (σ.length+1) 0 c.out.length c.out.length 1) (.msl hd 0 c.out.length c.out.length 1) c.p c.over) c.out.length,k:=k} false 1 (.obj h 17)=some [.msl hd 0 c.out.length c.out.length 1]:=a0e ob1 17 1 (by decide);have u18:∀is bs vs k,a0a {i:=is,b:=bs,v:=vs,m:=clM σ h (ckO s o vcl (.msl σ.length 0 c.out.length c.out.length 6) (.msl (σ.length+1) 0 c.out.length c.out.length 1) (.msl hd 0 c.out.length c.out.length 1) c.p c.over) c.out.length,k:=k} false 1 (.obj h 18)=some [.bool c.over]:=a0e ob1 18 1 (by decide);have w0:∀is bs vs k,a0a {i:=is,b:=bs,v:=vs,m:=clM σ h (ckO s o vcl (.msl σ.length 0 c.out.length c.out.length 6) (.msl (σ.length+1) 0 c.out.length c.out.length 1) (.msl hd 0 c.out.length c.out.length 1) r.p c.over) c.out.length,k:=k} false 4 (.obj h 0)=some [s.P,s.B,s.C,s.A]:=a0e ob2 0 4 (by decide);have w01:∀is bs vs k,a0a {i:=is,b:=bs,v:=vs,m:=clM σ h (ckO s o vcl (.msl σ.length 0 c.out.length c.out.length 6) (.msl (σ.length+1) 0 c.out.length c.out.length 1) (.msl hd 0 c.out.length c.out.length 1) r.p c.over) c.out.length,k:=k} false 1 (.obj h 0)=some [s.P]:=a0e ob2 0 1 (by decide);have w4:∀is bs vs k,a0a {i:=is,b:=bs,v:=vs,m:=clM σ h (ckO s o vcl (.msl σ.length 0 c.out.length c.out.length 6) (.msl (σ.length+1) 0 c.out.length c.out.length 1) (.msl hd 0 c.out.length c.out.length 1) r.p c.over) c.out.length,k:=k} false 4 (.obj h 4)=some [.int .i64 o.st,.int .i64 o.pc,.int .i64 o.un,.int .i64 o.ru]:=a0e ob2 4 4 (by decide);have w6:∀is bs vs k,a0a {i:=is,b:=bs,v:=vs,m:=clM σ h (ckO s o vcl (.msl σ.length 0 c.out.length c.out.length 6) (.msl (σ.length+1) 0 c.out.length c.out.length 1) (.msl hd 0 c.out.length c.out.length 1) r.p c.over) c.out.length,k:=k} false 1 (.obj h 6)=some [.int .i64 o.un]:=a0e ob2 6 1 (by decide);have w7:∀is bs vs k,a0a {i:=is,b:=bs,v:=vs,m:=clM σ h (ckO s o vcl (.msl σ.length 0 c.out.length c.out.length 6) (.msl (σ.length+1) 0 c.out.length c.out.length 1) (.msl hd 0 c.out.length c.out.length 1) r.p c.over) c.out.length,k:=k} false 1 (.obj h 7)=some [.int .i64 o.ru]:=a0e ob2 7 1 (by decide);have w8:∀is bs vs k,a0a {i:=is,b:=bs,v:=vs,m:=clM σ h (ckO s o vcl (.msl σ.length 0 c.out.length c.out.length 6) (.msl (σ.length+1) 0 c.out.length c.out.length 1) (.msl hd 0 c.out.length c.out.length 1) r.p c.over) c.out.length,k:=k} false 1 (.obj h 8)=some [vcl]:=a0e ob2 8 1 (by decide);have w9:∀is bs vs k,a0a {i:=is,b:=bs,v:=vs,m:=clM σ h (ckO s o vcl (.msl σ.length 0 c.out.length c.out.length 6) (.msl (σ.length+1) 0 c.out.length c.out.length 1) (.msl hd 0 c.out.length c.out.length 1) r.p c.over) c.out.length,k:=k} false 6 (.obj h 9)=some [.int .i64 r.p.a,.int .i64 r.p.b,.int .i64 r.p.c,.int .i64 r.p.d,.int .i64 r.p.e,.int .i64 r.p.f]:=a0e ob2 9 6 (by decide);have w15:∀is bs vs k,a0a {i:=is,b:=bs,v:=vs,m:=clM σ h (ckO s o vcl (.msl σ.length 0 c.out.length c.out.length 6) (.msl (σ.length+1) 0 c.out.length c.out.length 1) (.msl hd 0 c.out.length c.out.length 1) r.p c.over) c.out.length,k:=k} false 1 (.obj h 15)=some [.msl σ.length 0 c.out.length c.out.length 6]:=a0e ob2 15 1 (by decide);have w16:∀is bs vs k,a0a {i:=is,b:=bs,v:=vs,m:=clM σ h (ckO s o vcl (.msl σ.length 0 c.out.length c.out.length 6) (.msl (σ.length+1) 0 c.out.length c.out.length 1) (.msl hd 0 c.out.length c.out.length 1) r.p c.over) c.out.length,k:=k} false 1 (.obj h 16)=some [.msl (σ.length+1) 0 c.out.length c.out.length 1]:=a0e ob2 16 1 (by decide);have w17:∀is bs vs k,a0a {i:=is,b:=bs,v:=vs,m:=clM σ h (ckO s o vcl (.msl σ.length 0 c.out.length c.out.length 6) (.msl (σ.length+1) 0 c.out.length c.out.length 1) (.msl hd 0 c.out.length c.out.length 1) r.p c.over) c.out.length,k:=k} false 1 (.obj h 17)=some [.msl hd 0 c.out.length c.out.length 1]:=a0e ob2 17 1 (by decide);have w18:∀is bs vs k,a0a {i:=is,b:=bs,v:=vs,m:=clM σ h (ckO s o vcl (.msl σ.length 0 c.out.length c.out.length 6) (.msl (σ.length+1) 0 c.out.length c.out.length 1) (.msl hd 0 c.out.length c.out.length 1) r.p c.over) c.out.length,k:=k} false 1 (.obj h 18)=some [.bool c.over]:=a0e ob2 18 1 (by decide);rw[<- hX] at u8 w8;have c2:=b1H p3 (by omega) n (by omega);have hlen:(clM σ h (X vcl r.p c.over) c.out.length).length=σ.length+2:=a3L _ _ _ _;rw[hlen] at c2;simp only[a7w] at c2;have hXc:∀v p ov,X v p ov=.cells (ckL s o v (.msl σ.length 0 c.out.length c.out.length 6) (.msl (σ.length+1) 0 c.out.length c.out.length 1) (.msl hd 0 c.out.length c.out.length 1) p ov) 81:=fun v p ov=>by rw[hX];rfl
  have g1:(clM σ h (X vcl c.p c.over) c.out.length)[h]?=some (.cells (ckL s o vcl (.msl σ.length 0 c.out.length c.out.length 6) (.msl (σ.length+1) 0 c.out.length c.out.length 1) (.msl hd 0 c.out.length c.out.length 1) c.p c.over) 81):=by rw[b0e k.lt,hXc]
  have g2:∀τ,(clM σ h (X vcl r.p c.over) c.out.length++τ)[h]?=some (.cells (ckL s o vcl (.msl σ.length 0 c.out.length c.out.length 6) (.msl (σ.length+1) 0 c.out.length c.out.length 1) (.msl hd 0 c.out.length c.out.length 1) r.p c.over) 81):=fun τ=>by rw[a1D (b0e k.lt _ _),hXc]
  have g3:∀v τ,(clM σ h (X v r.p c.over) c.out.length++τ)[h]?=some (.cells (ckL s o v (.msl σ.length 0 c.out.length c.out.length 6) (.msl (σ.length+1) 0 c.out.length c.out.length 1) (.msl hd 0 c.out.length c.out.length 1) r.p c.over) 81):=fun v τ=>by rw[a1D (b0e k.lt _ _),hXc]
  have z1:∀(y:W6),(clM σ h (X vcl c.p c.over) c.out.length).set h (.cells (ckL s o vcl (.msl σ.length 0 c.out.length c.out.length 6) (.msl (σ.length+1) 0 c.out.length c.out.length 1) (.msl hd 0 c.out.length c.out.length 1) y c.over) 81)=clM σ h (X vcl y c.over) c.out.length:=fun y=>by rw[b6D k.lt,hXc]
  have z2:∀v τ,(clM σ h (X vcl r.p c.over) c.out.length++τ).set h (.cells (ckL s o v (.msl σ.length 0 c.out.length c.out.length 6) (.msl (σ.length+1) 0 c.out.length c.out.length 1) (.msl hd 0 c.out.length c.out.length 1) r.p c.over) 81)=clM σ h (X v r.p c.over) c.out.length++τ:=fun v τ=>by rw[c0W k.lt,hXc]
  have z3:∀v τ,(clM σ h (X v r.p c.over) c.out.length++τ).set h (.cells (ckL s o v (.msl σ.length 0 c.out.length c.out.length 6) (.msl (σ.length+1) 0 c.out.length c.out.length 1) (.msl hd 0 c.out.length c.out.length 1) r.p false) 81)=clM σ h (X v r.p false) c.out.length++τ:=fun v τ=>by rw[c0W k.lt,hXc]
  have hne:(j:Int)=(c.cl.length:Int)->False:=fun h=>by omega
  have e1:decide ((j:Int)<(c.cl.length:Int))=true:=dT0 (by omega);have one3:PV.one p=true:=p3.one;have p2':∀is bs vs k,b7u {i:=is,b:=bs,v:=vs,m:=clM σ h (X vcl r.p c.over) c.out.length,k:=k} none (some (.a 0)) 9 (some vcl)=some p->True:=fun _ _ _ _ _=>trivial
  refine⟨clM σ h (X (.msl (σ.length+2) 0 j j 9) r.p false) c.out.length++[.cells rows.flatten 54],fun x=>x=h\/x=σ.length\/x=σ.length+1\/x=hd\/(R x\/x=σ.length+2),go (.int .i64 0,_) ?_,?_,?_⟩
  ·have hcut:=fun (is:List Int) (bs:List Bool) (vs:List PV) (k:Nat)=>p2 {i:=(j:Int)::is,b:=bs,v:=vs,m:=clM σ h (X vcl r.p c.over) c.out.length,k:=k} (.a 0) rfl rfl
   simp only[a2r,↓reduceIte,PT.ev,BE.safe,BE.pe,IE.pe,PEnv.at,Q3,Q5,Q7,Qe,a0p,a1k,Qd,Qf,Nat.reduceAdd,Qn,Q2,a0c,a0l,a0g,Q1,Q0,PEnv.push,Q6,Q4,Q8,SV.pvs,SV.pv,Q9,a5o,a2S,a5v,a5l,e6,e5,dF0 h1,Qg,r8,hc.one,hc.kind,hc.len,dF0 h2,dF0 hne,c1,a1h,u8,e1,le0,q1,q2,g1,a6N,Nat.reduceLeDiff,c9t,z1,w8,p1,hcut,c2,a7L,g2,c2x,z2,g3,b5R,z3,a0m,true_or]
  ·refine⟨.msl (σ.length+2) 0 j j 9,σ.length,σ.length+1,hd,fun x=>R x\/x=σ.length+2,?_,fun x=>Iff.rfl⟩
   have hlt:(c.cl.take j).length=j:=by rw[QS];omega
   have key:=k.cleared hσ hN (vcl':=.msl (σ.length+2) 0 j j 9) (cl':=c.cl.take j) (p':=r.p) (ov':=false) (R':=fun x=>R x\/x=σ.length+2) [.cells rows.flatten 54] ?_ (fun x hx=>by rcases hx with hx|rfl;(have:=k.bd x hx;simp;omega);simp) (fun hx=>by rcases hx with hx|hx;(have:=k.bd _ hx;omega);omega) (fun hx=>by rcases hx with hx|hx;(have:=k.bd _ hx;omega);omega) (fun hx=>by rcases hx with hx|hx;exact k.nd hx;have:=(Qm.1 k.out).1;omega) (fun hx=>by rcases hx with hx|hx;exact k.nh hx;have:=k.lt;omega)
   ·rw[hX,hr]
    exact key
   ·refine .inr (.inl ⟨σ.length+2,rows,.inr rfl,by rw[hlt],?_,?_⟩)
    ·rw[X0 (by rw[a3L];omega),a3L,X6];rfl
    ·refine(p4.frame fun x hx=>?_).mono fun x hx=>.inl hx
     rw[Qs (by rw[a3L];have:=k.bd x hx;omega),b2b (k.bd x hx) (by rintro rfl;exact k.nh hx),b2b (k.bd x hx) (by rintro rfl;exact k.nh hx)]
  ·refine adv _ _ _ _ _ (own _ fun x hx=>?_) ?_
   ·rcases hx with hx|rfl
    ·exact .inl hx
    ·exact .inr (by omega)
   ·have hl0:∀v p ov,v.low (σ.length+3)=true->(X v p ov).low (σ.length+3)=true:=fun v p ov hv=>by
     have ho:=a4K.1 (hσ.get k.obj);have up:∀{v:PV},v.low σ.length=true->v.low (σ.length+3)=true:=fun h=>PV.low_mono (by omega) _ h
     rw[hX];exact a4K.2 ⟨up ho.1,up ho.2.1,up ho.2.2.1,up ho.2.2.2.1,hv,by simp[PV.low],by simp[PV.low],up ho.2.2.2.2.2.2.2⟩
    have hlc:=c7Q k hσ hN (vcl':=vcl) (p':=c.p) (ov':=c.over) (PV.low_mono (by omega) _ (a4K.1 (hσ.get k.obj)).2.2.2.2.1);rw[<- hX] at hlc
    have hrows:(MO.cells rows.flatten 54).low (σ.length+3)=true:=by
     show PV.lows _ _=true
     have:∀l:List (List PV),(∀q∈l,PV.lows (σ.length+3) q=true)->PV.lows (σ.length+3) l.flatten=true:=by
      intro l
      induction l with
      | nil=>intro _;rfl
      | cons q l ih =>
       intro hq;rw[Qq];have a1:=hq q (by simp);have a2:=ih fun z hz=>hq z (by simp[hz])
       clear ih hq
       induction q with
       | nil=>exact a2
       | cons z q ih=>simp only[Q6,PV.lows,QA] at a1 ⊢;exact⟨a1.1,ih a1.2⟩
     refine this _ fun q hq=>?_
     obtain⟨_,_,kk⟩:=p4.mem hq;exact kk.low fun x hx=>by have:=k.bd x hx;omega
    unfold Low;rw[Qw,a3L,QK,QW,QA];refine⟨Qu.2 fun y hy=>?_,by simpa using hrows⟩;unfold clM at hy;rcases XK.1 hy with hy|hy
    ·rcases QP hy with hy|rfl
     ·exact MO.low_mono (by omega) (Qu.1 hσ y hy)
     ·exact hl0 _ _ _ (by simp[PV.low])
    ·simp only[List.mem_cons,List.not_mem_nil,or_false] at hy
     rcases hy with rfl|rfl
     ·exact a6i _ _ _
     ·exact a7j _ _ _
 ·
  have hjl:(j:Int)=(c.cl.length:Int):=by omega
  obtain rfl:j=c.cl.length:=by omega
  have hov:c.over=false:=by
   cases h:c.over with
   | false=>rfl
   | true=>exact absurd ⟨rfl,h⟩ h3
  rw[hov] at r18 c1;have ob1:=b0e k.lt (X vcl c.p false) c.out.length;rw[hX] at ob1;have u0:∀is bs vs k,a0a {i:=is,b:=bs,v:=vs,m:=clM σ h (ckO s o vcl (.msl σ.length 0 c.out.length c.out.length 6) (.msl (σ.length+1) 0 c.out.length c.out.length 1) (.msl hd 0 c.out.length c.out.length 1) c.p false) c.out.length,k:=k} false 4 (.obj h 0)=some [s.P,s.B,s.C,s.A]:=a0e ob1 0 4 (by decide);have u01:∀is bs vs k,a0a {i:=is,b:=bs,v:=vs,m:=clM σ h (ckO s o vcl (.msl σ.length 0 c.out.length c.out.length 6) (.msl (σ.length+1) 0 c.out.length c.out.length 1) (.msl hd 0 c.out.length c.out.length 1) c.p false) c.out.length,k:=k} false 1 (.obj h 0)=some [s.P]:=a0e ob1 0 1 (by decide);have u4:∀is bs vs k,a0a {i:=is,b:=bs,v:=vs,m:=clM σ h (ckO s o vcl (.msl σ.length 0 c.out.length c.out.length 6) (.msl (σ.length+1) 0 c.out.length c.out.length 1) (.msl hd 0 c.out.length c.out.length 1) c.p false) c.out.length,k:=k} false 4 (.obj h 4)=some [.int .i64 o.st,.int .i64 o.pc,.int .i64 o.un,.int .i64 o.ru]:=a0e ob1 4 4 (by decide);have u6:∀is bs vs k,a0a {i:=is,b:=bs,v:=vs,m:=clM σ h (ckO s o vcl (.msl σ.length 0 c.out.length c.out.length 6) (.msl (σ.length+1) 0 c.out.length c.out.length 1) (.msl hd 0 c.out.length c.out.length 1) c.p false) c.out.length,k:=k} false 1 (.obj h 6)=some [.int .i64 o.un]:=a0e ob1 6 1 (by decide);have u7:∀is bs vs k,a0a {i:=is,b:=bs,v:=vs,m:=clM σ h (ckO s o vcl (.msl σ.length 0 c.out.length c.out.length 6) (.msl (σ.length+1) 0 c.out.length c.out.length 1) (.msl hd 0 c.out.length c.out.length 1) c.p false) c.out.length,k:=k} false 1 (.obj h 7)=some [.int .i64 o.ru]:=a0e ob1 7 1 (by decide);have u8:∀is bs vs k,a0a {i:=is,b:=bs,v:=vs,m:=clM σ h (ckO s o vcl (.msl σ.length 0 c.out.length c.out.length 6) (.msl (σ.length+1) 0 c.out.length c.out.length 1) (.msl hd 0 c.out.length c.out.length 1) c.p false) c.out.length,k:=k} false 1 (.obj h 8)=some [vcl]:=a0e ob1 8 1 (by decide);have u9:∀is bs vs k,a0a {i:=is,b:=bs,v:=vs,m:=clM σ h (ckO s o vcl (.msl σ.length 0 c.out.length c.out.length 6) (.msl (σ.length+1) 0 c.out.length c.out.length 1) (.msl hd 0 c.out.length c.out.length 1) c.p false) c.out.length,k:=k} false 6 (.obj h 9)=some [.int .i64 c.p.a,.int .i64 c.p.b,.int .i64 c.p.c,.int .i64 c.p.d,.int .i64 c.p.e,.int .i64 c.p.f]:=a0e ob1 9 6 (by decide);have u15:∀is bs vs k,a0a {i:=is,b:=bs,v:=vs,m:=clM σ h (ckO s o vcl (.msl σ.length 0 c.out.length c.out.length 6) (.msl (σ.length+1) 0 c.out.length c.out.length 1) (.msl hd 0 c.out.length c.out.length 1) c.p false) c.out.length,k:=k} false 1 (.obj h 15)=some [.msl σ.length 0 c.out.length c.out.length 6]:=a0e ob1 15 1 (by decide);have u16:∀is bs vs k,a0a {i:=is,b:=bs,v:=vs,m:=clM σ h (ckO s o vcl (.msl σ.length 0 c.out.length c.out.length 6) (.msl (σ.length+1) 0 c.out.length c.out.length 1) (.msl hd 0 c.out.length c.out.length 1) c.p false) c.out.length,k:=k} false 1 (.obj h 16)=some [.msl (σ.length+1) 0 c.out.length c.out.length 1]:=a0e ob1 16 1 (by decide);have u17:∀is bs vs k,a0a {i:=is,b:=bs,v:=vs,m:=clM σ h (ckO s o vcl (.msl σ.length 0 c.out.length c.out.length 6) (.msl (σ.length+1) 0 c.out.length c.out.length 1) (.msl hd 0 c.out.length c.out.length 1) c.p false) c.out.length,k:=k} false 1 (.obj h 17)=some [.msl hd 0 c.out.length c.out.length 1]:=a0e ob1 17 1 (by decide);have u18:∀is bs vs k,a0a {i:=is,b:=bs,v:=vs,m:=clM σ h (ckO s o vcl (.msl σ.length 0 c.out.length c.out.length 6) (.msl (σ.length+1) 0 c.out.length c.out.length 1) (.msl hd 0 c.out.length c.out.length 1) c.p false) c.out.length,k:=k} false 1 (.obj h 18)=some [.bool false]:=a0e ob1 18 1 (by decide);rw[<- hX] at u8;have hXc:∀v p ov,X v p ov=.cells (ckL s o v (.msl σ.length 0 c.out.length c.out.length 6) (.msl (σ.length+1) 0 c.out.length c.out.length 1) (.msl hd 0 c.out.length c.out.length 1) p ov) 81:=fun v p ov=>by rw[hX];rfl
  have g1:(clM σ h (X vcl c.p false) c.out.length)[h]?=some (.cells (ckL s o vcl (.msl σ.length 0 c.out.length c.out.length 6) (.msl (σ.length+1) 0 c.out.length c.out.length 1) (.msl hd 0 c.out.length c.out.length 1) c.p false) 81):=by rw[b0e k.lt,hXc]
  have z1:(clM σ h (X vcl c.p false) c.out.length).set h (.cells (ckL s o vcl (.msl σ.length 0 c.out.length c.out.length 6) (.msl (σ.length+1) 0 c.out.length c.out.length 1) (.msl hd 0 c.out.length c.out.length 1) c.p false) 81)=clM σ h (X vcl c.p false) c.out.length:=by rw[b6D k.lt,hXc]
  refine⟨clM σ h (X vcl c.p false) c.out.length++[],fun x=>x=h\/x=σ.length\/x=σ.length+1\/x=hd\/R x,go (.int .i64 0,_) ?_,?_,?_⟩
  ·have e1:decide ((c.cl.length:Int)<(c.cl.length:Int))=false:=dF0 (by omega)
   have e0:decide ((c.cl.length:Int)<0)=false:=dF0 (by omega);rw[Q8];simp only[a2r,↓reduceIte,PT.ev,BE.safe,BE.pe,IE.pe,PEnv.at,Q3,Q5,Q7,Qe,a0p,a1k,Qd,Qf,Nat.reduceAdd,Qn,Q2,a0c,a0l,a0g,Q1,Q0,PEnv.push,Q6,Q4,Q8,SV.pvs,SV.pv,Q9,a5o,a2S,a5v,a5l,e6,e5,e0,Qg,r8,r18,hc.one,hc.kind,hc.len,e1,decide_true,c1,a1h,u8,g1,a6N,Nat.reduceLeDiff,b5R,z1,a0m,true_or]
  ·refine⟨vcl,σ.length,σ.length+1,hd,R,?_,fun x=>Iff.rfl⟩
   have key:=k.cleared hσ hN (vcl':=vcl) (cl':=c.cl) (p':=c.p) (ov':=false) (R':=R) [] (by rw[<- hX];exact hclF vcl c.p false []) (fun x hx=>by have:=k.bd x hx;simp;omega) (fun hx=>by have:=k.bd _ hx;omega) (fun hx=>by have:=k.bd _ hx;omega) k.nd k.nh;rw[hX,QM (Qn _),List.getElem?_eq_none (Qn _)];exact key
  ·refine adv _ _ _ _ _ (own _ fun x hx=>.inl hx) ?_
   rw[Q8,hX];exact c7Q k hσ hN (PV.low_mono (by omega) _ (a4K.1 (hσ.get k.obj)).2.2.2.2.1)
end
section
variable (σ:List MO)(R:Nat->Prop)(V:PV)(cl:List Rn)(hV:CSl σ R V cl)(hR:∀x,R x->x<σ.length)(hl:∀r∈cl,r.ask.length<=1000/\r.got.length<=1000/\r.bid.length<=1000)(hcl:cl.length<=1000)(n:Nat)
end
section
variable {s:St}{o:Po}{σ:List MO}{h:Nat}{vcl:PV}{ha hb hd:Nat}{R:Nat->Prop}{c:Ck}(k:CkAt s o σ h vcl ha hb hd R c)(hσ:Low σ)(hl:∀r∈c.cl,r.ask.length<=1000/\r.got.length<=1000/\r.bid.length<=1000)(hcl:c.cl.length<=1000)(n:Nat)
end
theorem b4N{K:Nat}{p:PV}{rows:List (List PV)}(h:p.rowsOf K=some rows)(hl:rows.length<=1000000)(σ:List MO):a4Q K [p] σ=some (p,σ):=by
 unfold PV.rowsOf at h;split at h
 ·rfl
 ·rename_i n r
  split at h
  ·rename_i hn
   simp only[QE] at h;subst h;simp only[a4Q];rw[if_pos ⟨hn,hl⟩,hn]
  ·cases h
 ·cases h
structure SuOk (s:St)(cs ad:List Tri):Prop where
 P:s.P.rowsOf 5=some (s.ps.map Pr.row)
 B:s.B.rowsOf 4=some (s.bs.map Bd.row)
 C:s.C.rowsOf 3=some (cs.map Tri.row)
 A:s.A.rowsOf 3=some (ad.map Tri.row)
theorem SuOk.ok{s:St}{cs ad:List Tri}(h:SuOk s cs ad):s.Ok:=⟨h.P,h.B,(a0i h.C).2.2,(a0i h.A).2.2⟩
theorem SuOk.lens{s:St}{cs ad:List Tri}(hv:a7m s.ps s.bs cs ad=0):s.ps.length<=6/\0<s.bs.length/\s.bs.length<=8/\cs.length<=16/\ad.length<=6:=by
 obtain⟨v1,v2,v3,v4⟩:=b4L hv;have a1:=(b0L v1).1
 have a2:0<s.bs.length/\s.bs.length<=8:=by
  unfold b9M at v2;split at v2
  ·cases v2
  ·split at v2
   ·cases v2
   ·rename_i h1 h2
    have e5:∀a b:Int,eqB a b=decide (a=b):=fun _ _=>rfl
    have e6:∀a b:Int,ltB a b=decide (a<b):=fun _ _=>rfl
    simp only[e5,e6,decide_eq_true_eq] at h1 h2;omega
 have a3:ad.length<=6:=by
  unfold asV at v4;split at v4
  ·cases v4
  ·rename_i h;rw[Xf,a0F] at h;omega
 exact⟨a1,a2.1,a2.2,v3,a3⟩
section
variable {s:St}{cs ad:List Tri}(hs:SuOk s cs ad)(hv:a7m s.ps s.bs cs ad=0)(σ:List MO)(n:Nat)
include hs hv in
theorem b7I(hn:2<=n):a0b Tab n b2I [.agg s.pv] σ=some (.agg s.pv,σ):=by
 obtain⟨n,rfl⟩:∃k,n=k+1+1:=⟨n-2,by omega⟩;obtain⟨l1,l2,l3,l4,l5⟩:=SuOk.lens hv
 have told:∀(F:Nat) (K:Nat) (p:PV),Tab F=some (⟨[],.stuck,[],some (a4Q K),none⟩:Sx.Sys)->a0b Tab (n+1) F [p] σ=a4Q K [p] σ:=fun F K p h=>by
  rw[a0b,h,Q0,b7k]
 have c1:=(told _ 5 s.P a7l).trans (b4N hs.P (by simp;omega) σ);have c2:=(told _ 4 s.B a7E).trans (b4N hs.B (by simp;omega) σ);have c3:=(told _ 3 s.C b0o).trans (b4N hs.C (by simp;omega) σ);have c4:=(told _ 3 s.A a8M).trans (b4N hs.A (by simp;omega) σ);obtain⟨_,_,p3⟩:=a0i hs.P;obtain⟨_,_,b3⟩:=a0i hs.B;obtain⟨_,_,c3'⟩:=a0i hs.C;obtain⟨_,_,a3⟩:=a0i hs.A;rw[a0b];simp only[c2N,Q0,Sys.run,St.pv];show ((a0f [.sh (.agg [_,_,_,_])] _).bind _)=_;simp only[a0f,a0g,a0c,Q1,Q0,Q8,if_true,p3,b3,c3',a3];show (PT.ev _ b2D _).bind _=_;simp only[b2D,↓reduceIte,a0j,a0n,Q7,Qe,Q2,a0c,a0l,a0g,Q1,Q0,PEnv.push,Q6,Q4,SV.pvs,SV.pv,c1,c2,c3,c4,p3,b3,c3',a3,a0m,or_true]
end
theorem b7G{K:Nat}{p:PV}{rows:List (List PV)}(h:p.rowsOf K=some rows){N:Nat}(hl:PV.lowss N rows=true):p.low N=true:=by
 unfold PV.rowsOf at h;split at h
 ·rfl
 ·split at h
  ·simp only[QE] at h;subst h;exact hl
  ·cases h
 ·cases h
theorem SuOk.low{s:St}{cs ad:List Tri}(h:SuOk s cs ad)(N:Nat):s.P.low N=true/\s.B.low N=true/\s.C.low N=true/\s.A.low N=true:=by
 have g:∀{α:Type} (row:α->List PV) (_:∀x,PV.lows N (row x)=true) (l:List α),PV.lowss N (l.map row)=true:=by
  intro α row hr l
  induction l with
  | nil=>rfl
  | cons x l ih=>simp only[Qa,PV.lowss,hr x,ih,Q9]
 exact⟨b7G h.P (g _ (fun _=>rfl) _),b7G h.B (g _ (fun _=>rfl) _),b7G h.C (g _ (fun _=>rfl) _),b7G h.A (g _ (fun _=>rfl) _)⟩
theorem c4p{s:St}{o:Po}{σ:List MO}{h:Nat}{vcl va vb:PV}{hd N:Nat}{p:W6}{ov:Bool}(hob:σ[h]?=some (ckO s o vcl va vb (.msl hd 0 N N 1) p ov))(hσ:Low σ)(hN:N<=1000)(n:Nat)(hn:1<=n) :
  a0b Tab n a2t [.ref h 0] σ=some (.tup [],clM σ h (ckO s o vcl (.msl σ.length 0 N N 6) (.msl (σ.length+1) 0 N N 1) (.msl hd 0 N N 1) p ov) N):=by
 obtain⟨n,rfl⟩:∃k,n=k+1:=⟨n-1,by omega⟩;rw[a0b,show Tab a2t=some a2u from b0O,Q0,a2u,c2D,b7k];unfold b9r;simp only[hob,ckO,ckL];rw[if_pos ⟨by omega,hσ⟩];have e1:Qy W6.pv (Qh N w0)=Qh N z6:=by rw[XJ];rfl
 have e2:∀N:Nat,Qy PV.bool (Qh N false)=(Qh N [PV.bool false]).flatten:=fun N=>by
  induction N with
  | zero=>rfl
  | succ N ih=>rw[QU,QU,Qa,Qq,ih];rfl
 unfold clM;rw[e1,e2]
def ck0(ps:List Pr)(N:Nat):Ck:={cl:=[],p:=a5u ps,ask:=Qh N w0,bid:=Qh N false,out:=Qh N false,over:=false}
def b5D(ps:List Pr)(bs:List Bd)(cs ad:List Tri)(o:Po):Int:=if a7m ps bs cs ad=0 then a9z o else a7m ps bs cs ad
section
variable {s:St}{cs ad:List Tri}(hs:SuOk s cs ad)(o:Po)(σ:List MO)(hσ:Low σ)(n:Nat)
include hs in
theorem d3Y(he:b5D s.ps s.bs cs ad o≠0)(hn:1200<=n):a0b Tab n a9V [.agg s.pv,.agg o.row] σ=some (.tup [.nilP,.int .i64 (b5D s.ps s.bs cs ad o)],σ):=by
 obtain⟨n,rfl⟩:∃k,n=k+1:=⟨n-1,by omega⟩;obtain⟨_,_,p3⟩:=a0i hs.P;obtain⟨_,_,b3⟩:=a0i hs.B;obtain⟨_,_,c3⟩:=a0i hs.C;obtain⟨_,_,a3⟩:=a0i hs.A;have k1:=b0Q σ s.ps s.bs cs ad s.P s.B s.C s.A hs.P hs.B hs.C hs.A n (by omega);have k2:=a6V σ n o (by omega);have e5:∀a b:Int,eqB a b=decide (a=b):=fun _ _=>rfl
 simp only[b0g,a5N,a6I] at k1 k2;rw[a0b];simp only[b8p,Q0,Sys.run,St.pv,a6I];show ((a0f [.sh (.agg [_,_,_,_]),.sh (.agg [_,_,_,_])] _).bind _)=_;simp only[a0f,a0g,a0c,Q1,Q0,Q8,Q4,if_true,p3,b3,c3,a3];show (PT.ev _ a6h _).bind _=_;unfold b5D at he ⊢;by_cases h1:a7m s.ps s.bs cs ad=0
 ·rw[if_pos h1] at he ⊢
  simp only[a6h,↓reduceIte,a0j,a0d,a0h,a0n,BE.safe,BE.pe,IE.pe,PEnv.at,Q3,Q5,Q7,Qe,Q2,a0c,a0l,a0g,Q1,Q0,PEnv.push,Q6,Q4,Q8,SV.pvs,SV.pv,Qk,Qr,k1,k2,e5,dT0 h1,dF0 he,a0m,true_or]
 ·rw[if_neg h1]
  simp only[a6h,↓reduceIte,a0j,a0d,a0h,a0n,BE.safe,BE.pe,IE.pe,PEnv.at,Q3,Q5,Q7,Qe,a0c,a0l,a0g,Q1,Q0,PEnv.push,Q6,Q4,SV.pvs,SV.pv,Qr,k1,e5,dF0 h1,a0m,true_or]
include hs hσ in
theorem d3u(he:b5D s.ps s.bs cs ad o=0)(hn:1200<=n):∃M F,a0b Tab n a9V [.agg s.pv,.agg o.row] σ=some (.tup [.ref (σ.length+1) 0,.int .i64 0],M)/\a4x s o M (σ.length+1) F (ck0 s.ps s.bs.length)/\(∀x,F x->σ.length<=x)/\(∀x,x<σ.length->M[x]?=σ[x]?)/\σ.length<=M.length/\Low M:=by
 obtain⟨n,rfl⟩:∃k,n=k+1:=⟨n-1,by omega⟩
 have hv:a7m s.ps s.bs cs ad=0:=by
  unfold b5D at he;split at he
  ·assumption
  ·exact he
 have ho:o.ok:=by
  unfold b5D at he;rw[if_pos hv] at he;unfold a9z at he;split at he
  ·assumption
  ·cases he
 obtain⟨l1,l2,l3,l4,l5⟩:=SuOk.lens hv;obtain⟨_,_,p3⟩:=a0i hs.P;obtain⟨b1,b2,b3⟩:=a0i hs.B;rw[QQ] at b1;obtain⟨_,_,c3⟩:=a0i hs.C;obtain⟨_,_,a3⟩:=a0i hs.A;have k1:=b0Q σ s.ps s.bs cs ad s.P s.B s.C s.A hs.P hs.B hs.C hs.A n (by omega);have k2:=a6V σ n o (by omega);rw[hv] at k1;rw[show a9z o=0 from if_pos ho] at k2;have k3:=b7I hs hv σ n (by omega);have k3':=b7I hs hv (σ++[.cells ((Qh s.bs.length [PV.bool false]).flatten) 4]) n (by omega);have k4:=c4t σ s.ps s.P hs.P l1 n (by omega);have k4':=c4t (σ++[.cells ((Qh s.bs.length [PV.bool false]).flatten) 4]) s.ps s.P hs.P l1 n (by omega)
 have e2:(Qh s.bs.length [PV.bool false]).flatten=Qy PV.bool (Qh s.bs.length false):=by
  generalize s.bs.length=N
  induction N with
  | zero=>rfl
  | succ N ih=>rw[QU,QU,Qa,Qq,ih];rfl
 have hlw:=hs.low (σ.length+2)
 have hM2:Low (σ++[MO.cells (Qy PV.bool (Qh s.bs.length false)) 4]++[ckO s o .nilS .nilS .nilS (.msl σ.length 0 s.bs.length s.bs.length 1) (a5u s.ps) false]):=by
  refine Low.app (Low.app hσ (a7j _ _ _)) ?_;rw[Qw,QK];exact a4K.2 ⟨hlw.1,hlw.2.1,hlw.2.2.1,hlw.2.2.2,rfl,rfl,rfl,by simp[PV.low];try omega⟩
 have hob:(σ++[MO.cells (Qy PV.bool (Qh s.bs.length false)) 4]++[ckO s o .nilS .nilS .nilS (.msl σ.length 0 s.bs.length s.bs.length 1) (a5u s.ps) false])[σ.length+1]?=some (ckO s o .nilS .nilS .nilS (.msl σ.length 0 s.bs.length s.bs.length 1) (a5u s.ps) false):=by simp
 have k5:=c4p hob hM2 (by omega) n (by omega);have hlen:(σ++[MO.cells (Qy PV.bool (Qh s.bs.length false)) 4]++[ckO s o .nilS .nilS .nilS (.msl σ.length 0 s.bs.length s.bs.length 1) (a5u s.ps) false]).length=σ.length+2:=by simp
 have hlt:σ.length+1<(σ++[MO.cells (Qy PV.bool (Qh s.bs.length false)) 4]++[ckO s o .nilS .nilS .nilS (.msl σ.length 0 s.bs.length s.bs.length 1) (a5u s.ps) false]).length:=by rw[hlen];omega
 have hold:∀x,x<σ.length->(σ++[MO.cells (Qy PV.bool (Qh s.bs.length false)) 4]++[ckO s o .nilS .nilS .nilS (.msl σ.length 0 s.bs.length s.bs.length 1) (a5u s.ps) false])[x]?=σ[x]?:=fun x hx=>by
  rw[Xu,Qs hx]
 have hdr:(σ++[MO.cells (Qy PV.bool (Qh s.bs.length false)) 4]++[ckO s o .nilS .nilS .nilS (.msl σ.length 0 s.bs.length s.bs.length 1) (a5u s.ps) false])[σ.length]?=some (.cells (Qy PV.bool (Qh s.bs.length false)) 4):=by simp
 rw[hlen] at k5;simp only[b0g,a5N,b2I,b2v,a2t,a6I,pv6,St.pv,e2] at k1 k2 k3 k3' k4 k4' k5;generalize hM2e:(σ++[MO.cells (Qy PV.bool (Qh s.bs.length false)) 4]++[ckO s o .nilS .nilS .nilS (.msl σ.length 0 s.bs.length s.bs.length 1) (a5u s.ps) false])=M2 at *
 have hnew:∀l,(σ++[MO.cells (Qy PV.bool (Qh s.bs.length false)) 4]++[MO.cells [s.P,s.B,s.C,s.A,.int .i64 o.st,.int .i64 o.pc,.int .i64 o.un,.int .i64 o.ru,.nilS,.int .i64 (a5u s.ps).a,.int .i64 (a5u s.ps).b,.int .i64 (a5u s.ps).c,.int .i64 (a5u s.ps).d,.int .i64 (a5u s.ps).e,.int .i64 (a5u s.ps).f,.nilS,.nilS,.msl σ.length 0 s.bs.length s.bs.length 1,.bool false] 81])=l->l=M2:=fun l hl=>by rw[<- hl,<- hM2e];rfl
 have hnew:=hnew _ rfl;refine⟨clM M2 (σ.length+1) (ckO s o .nilS (.msl (σ.length+2) 0 s.bs.length s.bs.length 6) (.msl (σ.length+2+1) 0 s.bs.length s.bs.length 1) (.msl σ.length 0 s.bs.length s.bs.length 1) (a5u s.ps) false) s.bs.length,fun x=>x=σ.length+1\/x=σ.length+2\/x=σ.length+3\/x=σ.length\/False,?_,?_,?_,?_,?_,?_⟩
 ·have e0:eqB 0 0=true:=rfl
  have cN:(0:Int)<=(s.bs.length:Int)/\(s.bs.length:Int)<=1000000:=by omega
  rw[a0b];simp only[b8p,Q0,Sys.run,St.pv,a6I];show ((a0f [.sh (.agg [_,_,_,_]),.sh (.agg [_,_,_,_])] _).bind _)=_;simp only[a0f,a0g,a0c,Q1,Q0,Q8,Q4,if_true,p3,b3,c3,a3]
  have E:PT.ev (a0b Tab n) a6h {i:=[o.st,o.pc,o.un,o.ru],b:=[],v:=[s.P,s.B,s.C,s.A],m:=σ,k:=σ.length}=some (.ret (.tup [.ref (σ.length+1) 0,.int .i64 0]) (clM M2 (σ.length+1) (ckO s o .nilS (.msl (σ.length+2) 0 s.bs.length s.bs.length 6) (.msl (σ.length+2+1) 0 s.bs.length s.bs.length 1) (.msl σ.length 0 s.bs.length s.bs.length 1) (a5u s.ps) false) s.bs.length)):=by
   have hl1:∀x:MO,(σ++[x]).length=σ.length+1:=fun x=>by simp
   simp only[a6h,↓reduceIte,a0j,a0d,a0h,a0n,BE.safe,BE.pe,IE.pe,PEnv.at,Q3,Q5,Q7,Qe,Q2,a0c,a0l,a0g,Q1,Q0,PEnv.push,Q6,Q4,Q8,SV.pvs,SV.pv,Qk,k1,k2,e0,b2]
   repeat' (first|with_reducible rfl|apply a3d|simp only[↓reduceIte,a0j,a0n,a5x,a5K,BE.safe,BE.pe,IE.pe,PEnv.at,Q3,Q5,Q7,Qe,QH,a0c,a0l,a0g,Q1,Q0,PEnv.push,Q6,Q4,Q8,SV.pvs,SV.pv,k3,k3',k4,k4',p3,b3,c3,a3,b1,cN.1,cN.2,Qz,and_self,Nat.reduceLeDiff,e2,hnew,k5,a1h,hl1,PV.on,a0m,true_or]|unfold b5S|unfold b6e|unfold b6y|unfold b6i)
  show ((PT.ev (a0b Tab n) a6h _).bind _)=_;exact(congrArg (Xg · _) E).trans rfl
 ·refine⟨.nilS,σ.length+2,σ.length+3,σ.length,fun _=>False,?_,fun x=>Iff.rfl⟩
  refine⟨?_,?_,?_,?_,by simp[ck0],by simp[ck0],.inl ⟨rfl,rfl⟩,fun x hx=>hx.elim,id,id,id,id,by omega⟩
  ·rw[b0e hlt];simp[ck0]
  ·have:=c7V M2 (σ.length+1) (ckO s o .nilS (.msl (σ.length+2) 0 s.bs.length s.bs.length 6) (.msl (σ.length+2+1) 0 s.bs.length s.bs.length 1) (.msl σ.length 0 s.bs.length s.bs.length 1) (a5u s.ps) false) s.bs.length
   rw[hlen] at this;exact this
  ·have:=c8C M2 (σ.length+1) (ckO s o .nilS (.msl (σ.length+2) 0 s.bs.length s.bs.length 6) (.msl (σ.length+2+1) 0 s.bs.length s.bs.length 1) (.msl σ.length 0 s.bs.length s.bs.length 1) (a5u s.ps) false) s.bs.length
   rw[hlen] at this;exact this
  ·rw[b2b (by omega) (by omega)];exact hdr
 ·intro x hx;rcases hx with rfl|rfl|rfl|rfl|hx
  ·omega
  ·omega
  ·omega
  ·exact Qn _
  ·exact hx.elim
 ·intro x hx
  rw[b2b (by omega) (by omega),hold x hx]
 ·rw[a3L];omega
 ·have hob2:=a4K.1 (hM2.get hob)
  unfold Low;rw[a3L,hlen];unfold clM;rw[QW,QA];refine⟨Qu.2 fun y hy=>?_,by simp only[X4,X5,a6i,a7j,Q9]⟩;rcases QP hy with hy|rfl
  ·exact MO.low_mono (by omega) (Qu.1 hM2 y hy)
  ·have hl4:=hs.low (σ.length+2+2)
   exact a4K.2 ⟨hl4.1,hl4.2.1,hl4.2.2.1,hl4.2.2.2,rfl,by simp[PV.low],by simp[PV.low],by simp[PV.low];omega⟩
end
def prN(got:List W6)(out:List Bool)(j:Nat):List W6:=got.zipIdx.map fun x=>if x.2<j/\out[x.2]?=some true then w0 else x.1
theorem b3w(got:List W6)(out:List Bool)(j i:Nat):(prN got out j)[i]?=(got[i]?).map fun w=>if i<j/\out[i]?=some true then w0 else w:=by
 unfold prN;rw[QN,List.getElem?_zipIdx];cases got[i]?<;>simp
theorem b6A(got:List W6)(out:List Bool)(j:Nat):(prN got out j).length=got.length:=by simp[prN]
theorem d1U(got:List W6)(out:List Bool):prN got out 0=got:=by
 apply X7;intro i;rw[b3w];cases got[i]?<;>simp
theorem d3a{got:List W6}{out:List Bool}{j:Nat}(h:out[j]?=some true)(hj:j<got.length):(prN got out j).set j w0=prN got out (j+1):=by
 apply X7;intro i;rw[XF,b3w,b3w,b6A];by_cases hi:j=i
 ·subst hi
  rw[if_pos rfl,if_pos hj,Xw hj,Q1,if_pos ⟨by omega,h⟩]
 ·rw[if_neg hi]
  congr 1
  funext w;by_cases h1:i<j
  ·by_cases h2:out[i]?=some true
   ·rw[if_pos ⟨h1,h2⟩,if_pos ⟨by omega,h2⟩]
   ·rw[if_neg (fun q=>h2 q.2),if_neg (fun q=>h2 q.2)]
  ·rw[if_neg (fun q=>h1 q.1),if_neg (fun q=>by omega)]
theorem d3G{got:List W6}{out:List Bool}{j:Nat}(h:out[j]?=some false):prN got out j=prN got out (j+1):=by
 apply X7;intro i;rw[b3w,b3w]
 congr 1
 funext w;by_cases hi:j=i
 ·subst hi
  rw[h,if_neg (fun q=>by simp at q),if_neg (fun q=>by simp at q)]
 ·by_cases h1:i<j
  ·by_cases h2:out[i]?=some true
   ·rw[if_pos ⟨h1,h2⟩,if_pos ⟨by omega,h2⟩]
   ·rw[if_neg (fun q=>h2 q.2),if_neg (fun q=>h2 q.2)]
  ·rw[if_neg (fun q=>h1 q.1),if_neg (fun q=>by omega)]
theorem c1P(c:Ck)(hl:((c.cl.getLast?.map Rn.got).getD []).length<=c.out.length):c.prev=prN ((c.cl.getLast?.map Rn.got).getD []) c.out c.out.length:=by
 unfold Ck.prev prN;apply List.map_congr_left;rintro⟨w,i⟩ hx;obtain⟨h1,h2⟩:=List.mem_zipIdx' hx;by_cases h:c.out[i]?=some true
 ·simp only
  rw[if_pos h,if_pos ⟨by omega,h⟩]
 ·simp only
  rw[if_neg h,if_neg (fun q=>h q.2)]
theorem d0j{got:List W6}{out:List Bool}{j:Nat}(h:∀w∈got,w.ok):∀w∈prN got out j,w.ok:=by
 intro w hw;obtain⟨i,hi⟩:=XA hw;rw[b3w] at hi;cases hg:got[i]? with
 | none=>rw[hg] at hi;cases hi
 | some w' =>
  rw[hg] at hi;simp only[Q1,QE] at hi;subst hi;split
  ·exact d2k
  ·exact h _ (Qv hg)
section
variable {s:St}{o:Po}{σ:List MO}{h:Nat}{vcl:PV}{ha hb hd:Nat}{R:Nat->Prop}{c:Ck}(k:CkAt s o σ h vcl ha hb hd R c)(n:Nat)
def pvM(σ τ:List MO)(l:List W6):List MO:=σ++τ++[.cells (l.map W6.pv).flatten 38]
def c4k(σ τ:List MO)(N j:Int)(l:List W6)(hd M:Nat):PEnv:={i:=[N,j],b:=[],v:=[.msl (σ++τ).length 0 l.length l.length 6,.msl hd 0 M M 1],m:=pvM σ τ l,k:=(σ++τ).length}
include k in
theorem d3n(hN:c.out.length<=1000)(τ:List MO)(got:List W6)(hg:got.length=c.out.length):∀d j,j+d=c.out.length->∀fuel,
  a1Q.loop (a0b Tab n) (fuel+d+1) 0 (c4k σ τ (c.out.length:Int) (j:Int) (prN got c.out j) hd c.out.length)=some (.msl (σ++τ).length 0 c.out.length c.out.length 6,pvM σ τ (prN got c.out c.out.length)):=by
 intro d
 induction d with
 | zero =>
  intro j hj fuel;obtain rfl:j=c.out.length:=by omega
  have hd':ltB (c.out.length:Int) (c.out.length:Int)=false:=by rw[a0F];omega
  have hlen:=b6A got c.out c.out.length;rw[hg] at hlen;rw[Sys.loop,show a1Q.loops[0]?=some a2m from rfl];simp only[Q0,c4k,a2m,↓reduceIte,a0j,a0d,BE.safe,BE.pe,IE.pe,Q3,Q5,Q7,Q2,Q1,Q0,SV.pv,hd',hlen,a0m,true_or]
 | succ d ih =>
  intro j hj fuel;have ih:=ih (j+1) (by omega) fuel;have hjl:j<c.out.length:=by omega
  obtain⟨b,hb⟩:=a0U hjl;have hlen:=fun j=>b6A got c.out j
  rw[hg] at hlen;have hgt:(pvM σ τ (prN got c.out j))[hd]?=some (.cells (c.out.map PV.bool) 4):=a1D (a1D k.out);have hgl:(pvM σ τ (prN got c.out j))[(σ++τ).length]?=some (.cells ((prN got c.out j).map W6.pv).flatten 38):=by simp[pvM]
  have q1:=c2R (h:=hd) (c:=c.out.length) hjl;have q1a:=c8y (h:=(σ++τ).length) (c:=c.out.length) (sz:=6) hjl
  have q2:∀is bs vs k,a0a {i:=is,b:=bs,v:=vs,m:=pvM σ τ (prN got c.out j),k:=k} false 1 (.obj hd j)=some [.bool b]:=fun _ _ _ _=>by
   simp only[a0a,hgt,Q0,MO.list,Q2,if_false];exact c2b c.out hb
  have hlt:ltB (j:Int) (c.out.length:Int)=true:=by rw[a0Q];omega
  have hup:=a3I (show j<=1000000000 by omega);have t2:j*6+6<=((prN got c.out j).map W6.pv).flatten.length:=by rw[b6t,hlen];omega
  have s2:a2h ((prN got c.out j).map W6.pv).flatten (j*6) [.int .i64 0,.int .i64 0,.int .i64 0,.int .i64 0,.int .i64 0,.int .i64 0]=(((prN got c.out j).set j w0).map W6.pv).flatten:=c4A _ (by rw[hlen];omega) w0;have s3:∀l,(pvM σ τ (prN got c.out j)).set (σ++τ).length (.cells (l.map W6.pv).flatten 38)=pvM σ τ l:=fun l=>b3N _ _ _
  simp only[c4k,hlen] at ih;rw[a1q] at ih;rw[<- ih,show fuel+(d+1)+1=fuel+d+1+1 from rfl,Sys.loop,show a1Q.loops[0]?=some a2m from rfl];cases b with
  | true =>
   rw[<- d3a hb (by omega)];simp only[Q0,c4k,hlen,a2m,↓reduceIte,PT.ev,BE.safe,BE.pe,IE.pe,PEnv.at,Q3,Q5,Q7,Qe,a0p,Qd,Qf,Nat.reduceAdd,a0c,Q1,Q0,PEnv.push,Q6,Q4,SV.pvs,SV.pv,BE.all,Q9,Qa,Qb,hlt,le0,b5H,q1,q2,q1a,hgl,if_pos t2,s2,s3,if_pos hup]
  | false =>
   rw[<- d3G hb];simp only[Q0,c4k,hlen,a2m,↓reduceIte,PT.ev,BE.safe,BE.pe,IE.pe,PEnv.at,Q3,Q5,Q7,Qe,a0p,Qd,Qf,Nat.reduceAdd,Q2,a0c,Q1,Q0,PEnv.push,Q6,Q4,SV.pvs,SV.pv,BE.all,Q9,Qa,Qb,hlt,le0,b5H,q1,q2,q1a,if_pos hup]
include k in
theorem c6y(hN:c.out.length<=1000)(hcl:c.cl.length<=1000)(hne:c.cl≠[])(hg:∀r∈c.cl,r.got.length=c.out.length)(τ:List MO)(hn:1100<=n) :
  a0b Tab n a9M [.ref h 0] (σ++τ)=some (.msl (σ++τ).length 0 c.out.length c.out.length 6,pvM σ τ c.prev):=by
 obtain⟨n,rfl⟩:∃k,n=k+1:=⟨n-1,by omega⟩;have hob:(σ++τ)[h]?=some (ckO s o vcl (.msl ha 0 c.out.length c.out.length 6) (.msl hb 0 c.out.length c.out.length 1) (.msl hd 0 c.out.length c.out.length 1) c.p c.over):=a1D k.obj;have r0:∀is bs vs k,a0a {i:=is,b:=bs,v:=vs,m:=σ++τ,k:=k} false 4 (.obj h 0)=some [s.P,s.B,s.C,s.A]:=a0e hob 0 4 (by decide);have r01:∀is bs vs k,a0a {i:=is,b:=bs,v:=vs,m:=σ++τ,k:=k} false 1 (.obj h 0)=some [s.P]:=a0e hob 0 1 (by decide);have r4:∀is bs vs k,a0a {i:=is,b:=bs,v:=vs,m:=σ++τ,k:=k} false 4 (.obj h 4)=some [.int .i64 o.st,.int .i64 o.pc,.int .i64 o.un,.int .i64 o.ru]:=a0e hob 4 4 (by decide);have r6:∀is bs vs k,a0a {i:=is,b:=bs,v:=vs,m:=σ++τ,k:=k} false 1 (.obj h 6)=some [.int .i64 o.un]:=a0e hob 6 1 (by decide);have r7:∀is bs vs k,a0a {i:=is,b:=bs,v:=vs,m:=σ++τ,k:=k} false 1 (.obj h 7)=some [.int .i64 o.ru]:=a0e hob 7 1 (by decide);have r8:∀is bs vs k,a0a {i:=is,b:=bs,v:=vs,m:=σ++τ,k:=k} false 1 (.obj h 8)=some [vcl]:=a0e hob 8 1 (by decide);have r9:∀is bs vs k,a0a {i:=is,b:=bs,v:=vs,m:=σ++τ,k:=k} false 6 (.obj h 9)=some [.int .i64 c.p.a,.int .i64 c.p.b,.int .i64 c.p.c,.int .i64 c.p.d,.int .i64 c.p.e,.int .i64 c.p.f]:=a0e hob 9 6 (by decide);have r15:∀is bs vs k,a0a {i:=is,b:=bs,v:=vs,m:=σ++τ,k:=k} false 1 (.obj h 15)=some [.msl ha 0 c.out.length c.out.length 6]:=a0e hob 15 1 (by decide);have r16:∀is bs vs k,a0a {i:=is,b:=bs,v:=vs,m:=σ++τ,k:=k} false 1 (.obj h 16)=some [.msl hb 0 c.out.length c.out.length 1]:=a0e hob 16 1 (by decide);have r17:∀is bs vs k,a0a {i:=is,b:=bs,v:=vs,m:=σ++τ,k:=k} false 1 (.obj h 17)=some [.msl hd 0 c.out.length c.out.length 1]:=a0e hob 17 1 (by decide);have r18:∀is bs vs k,a0a {i:=is,b:=bs,v:=vs,m:=σ++τ,k:=k} false 1 (.obj h 18)=some [.bool c.over]:=a0e hob 18 1 (by decide);have hclM:CSl (σ++τ) R vcl c.cl:=k.cl.frame fun x hx=>Qs (k.bd x hx)
 have hc:=hclM.rd;have hpos:0<c.cl.length:=Xp.2 hne;obtain⟨r,hr⟩:=a0U (show c.cl.length-1<c.cl.length by omega);have hlast:c.cl.getLast?=some r:=by rw[Xq];exact hr
 obtain⟨row,hrow,hrd⟩:=hc.rd _ r hr;obtain⟨a,g,b,rfl,ba,bg,bb⟩:=hrow;obtain⟨L,q1,q2⟩:=hrd 7 1 (by decide);have q2:∀is bs vs k,a0a {i:=is,b:=bs,v:=vs,m:=σ++τ,k:=k} false 1 L=some [g]:=q2;rw[show ((c.cl.length-1:Nat):Int)=(c.cl.length:Int)-1 by omega] at q1;have hrg:=hg r (Qv hr);have c1:=a2j bg.cp (by omega) n (by omega);rw[hrg] at c1;simp only[a2z] at c1;have i1:=a0C (z:=(c.cl.length:Int)-1) (by omega);have i2:leB 0 ((c.cl.length:Int)-1)=true:=by rw[a2H];omega
 have i3:ltB ((c.cl.length:Int)-1) (c.cl.length:Int)=true:=by rw[a0Q];omega
 have key:=d3n k n hN τ r.got hrg c.out.length 0 (by omega) (n-c.out.length-1);rw[show n-c.out.length-1+c.out.length+1=n by omega,d1U] at key;rw[c1P c (by rw[hlast];simp;omega),hlast];simp only[Q1,Xr];simp only[c4k,pvM,hrg] at key;rw[a0b];simp only[b3F,Q0,Sys.run];show ((a0f [.sh (.one _)] _).bind _)=_;simp only[a0f,a0g,a0c,Q1,Q0,Q8,if_true,b1B];show (PT.ev _ a6c _).bind _=_;have og:=bg.one;have c1k:∀is bs vs k,a0a {i:=is,b:=bs,v:=vs,m:=σ++τ++[.cells (r.got.map W6.pv).flatten 38],k:=k} false 1 (.obj h 17)=some [.msl hd 0 c.out.length c.out.length 1]:=a0e (a1D hob) 17 1 (by decide);simp only[a6c,↓reduceIte,PT.ev,BE.safe,BE.pe,IE.pe,PEnv.at,Q3,Q5,Q7,Qe,a0p,a1k,Qd,Qf,a0c,a0l,a0g,Q1,Q0,PEnv.push,Q6,Q4,Q8,SV.pvs,SV.pv,BE.all,Q9,Qa,Qb,a2S,Qg,r8,hc.one,hc.kind,hc.len,if_pos i1,i2,i3,q1,q2,og,c1,a7L,d3I,b5H,c1k];unfold pvM;exact key
end
theorem d1L{σ:List MO}{R:Nat->Prop}{r:Rn}{row:List PV}(h:a6q σ R r row){hc:Nat}{rows:List (List PV)}{T:Nat}(hh:σ[hc]?=some (.row rows 9 T)):a6q σ (fun x=>R x/\x≠hc) r row:=by
 have gb:∀{v:PV} {l:List W6},BSl σ R v l->BSl σ (fun x=>R x/\x≠hc) v l:=fun {v l} hb=>by
  rcases hb with ⟨h,h1,rfl,h2⟩|⟨h,h1,rfl,h2⟩
  ·exact .inl ⟨h,⟨h1,by rintro rfl;rw[hh] at h2;cases h2⟩,rfl,h2⟩
  ·exact .inr ⟨h,⟨h1,by rintro rfl;rw[hh] at h2;simp at h2⟩,rfl,h2⟩
 obtain⟨a,g,b,rfl,h1,h2,h3⟩:=h;refine⟨a,g,b,rfl,gb h1,gb h2,?_⟩;obtain⟨h,q1,rfl,q2⟩:=h3;exact⟨h,⟨q1,by rintro rfl;rw[hh] at q2;cases q2⟩,rfl,q2⟩
theorem c0N:∀(rows:List (List PV)) (_:∀r∈rows,r.length=9) (_:∀r∈rows,r.all PV.one=true),a4V 9 rows.length rows.flatten=some rows
 | [],_,_=>rfl
 | r::rows,h1,h2=>by
  have ih:=c0N rows (fun q hq=>h1 q (by simp[hq])) (fun q hq=>h2 q (by simp[hq]));have hr:=h1 r (by simp);rw[Qq,Qd,a4V,X9 hr,Xc hr,if_pos ⟨by rw[Qw];omega,h2 r (by simp)⟩,ih];rfl
theorem b7D{N:Nat}{row:List PV}(hr:PV.lows N row=true):∀{rows:List (List PV)},PV.lowss N rows=true->PV.lowss N (rows++[row])=true
 | [],_=>by simp only[Q4,PV.lowss,hr,Q9]
 | q::rows,h=>by
  simp only[PV.lowss,QA] at h;simp only[Q6,PV.lowss,h.1,b7D hr h.2,Q9]
theorem d3w{M:List MO}{R R1:Nat->Prop}{vcl:PV}{cl:List Rn}{r:Rn}{row:List PV}(h:CSl M R vcl cl)(hR:∀x,R x->x<M.length)(hrow:a6q M R1 r row)(hR1:∀x,R1 x->¬R x/\x<M.length)(hl:cl.length<=1000) :
  ∃vcl' M',(∀(Φ:Fns) (k:PT) (is:List Int) (bs:List Bool) (vs:List PV) (K nv ns:Nat),vs[nv]?=some vcl->vs[ns]?=some (.sl 9 [row])->(PT.appM (.va nv) (.va ns) 9 54 k).ev Φ {i:=is,b:=bs,v:=vs,m:=M,k:=K}=k.ev Φ {i:=is,b:=bs,v:=vs++[vcl'],m:=M',k:=K}) /\
   CSl M' (fun x=>R x\/R1 x\/(M.length<=x/\x<M'.length)) vcl' (cl++[r])/\M.length<=M'.length/\(∀x,x<M.length->¬R x->M'[x]?=M[x]?)/\(Low M->Low M')/\vcl'.one=true:=by
 have hsr:∀(is:List Int) (bs:List Bool) (vs:List PV) (K ns:Nat),vs[ns]?=some (.sl 9 [row])->a0W {i:=is,b:=bs,v:=vs,m:=M,k:=K} 9 (.va ns)=some [row]:=fun is bs vs K ns hs=>by
  simp only[a0W,hs,Q0,PV.rowsOf,if_true]
 have hlowrow:PV.lows M.length row=true:=hrow.low fun x hx=>(hR1 x hx).2
 rcases h with ⟨rfl,rfl⟩|⟨h,rows,h1,rfl,h3,h4⟩|⟨h,rows,h1,rfl,h0,h3,h4⟩
 ·refine⟨.rsl M.length 1 9,M++[.row [row] 9 54],fun Φ k is bs vs K nv ns hv hs=>?_,?_,by simp,fun x hx _=>Qs hx,fun hM=>Low.app hM ?_,rfl⟩
  ·rw[a6r]
   simp only[SV.pv,hv,Q0,hsr is bs vs K ns hs,QK];rfl
  ·refine .inr (.inr ⟨M.length,[row],.inr (.inr ⟨Qn _,by simp⟩),rfl,by simp,by simp,?_⟩)
   exact a2b.snoc (rows:=[]) ⟨rfl,fun i x y hx=>by simp at hx⟩ ((hrow.frame fun x hx=>Qs (hR1 x hx).2).mono fun x hx=>.inr (.inl hx))
  ·show PV.lowss _ [row]=true
   simp only[PV.lowss,PV.lows_mono (Xe _) row hlowrow,Q9]
 ·have hone:∀q∈rows,q.all PV.one=true:=fun q hq=>by obtain⟨_,_,kk⟩:=h4.mem hq;exact kk.ones
  refine⟨.rsl M.length (cl.length+1) 9,M++[.row (rows++[row]) 9 54],fun Φ k is bs vs K nv ns hv hs=>?_,?_,by simp,fun x hx _=>Qs hx,fun hM=>Low.app hM ?_,rfl⟩
  ·rw[a6r]
   have hrn:=c0N rows h4.lens hone;rw[h4.1] at hrn;simp only[SV.pv,hv,Q0,hsr is bs vs K ns hs,QK,h3,Qt,hrn];rw[if_pos ⟨trivial,trivial,by omega⟩];rfl
  ·refine .inr (.inr ⟨M.length,rows++[row],.inr (.inr ⟨Qn _,by simp⟩),by simp,by simp,by simp,?_⟩)
   exact((h4.frame fun x hx=>Qs (hR x hx)).mono fun x hx=>.inl hx).snoc ((hrow.frame fun x hx=>Qs (hR1 x hx).2).mono fun x hx=>.inr (.inl hx))
  ·show PV.lowss _ (rows++[row])=true
   refine b7D (PV.lows_mono (Xe _) row hlowrow) ?_
   have:∀l:List (List PV),(∀q∈l,PV.lows (M.length+1) q=true)->PV.lowss (M.length+1) l=true:=by
    intro l
    induction l with
    | nil=>intro _;rfl
    | cons q l ih=>intro hq;simp only[PV.lowss,hq q (by simp),ih fun z hz=>hq z (by simp[hz]),Q9]
   refine this _ fun q hq=>?_
   obtain⟨_,_,kk⟩:=h4.mem hq;exact kk.low fun x hx=>by have:=hR x hx;omega
 ·refine⟨.rsl h (cl.length+1) 9,M.set h (.row (rows++[row]) 9 54),fun Φ k is bs vs K nv ns hv hs=>?_,?_,by simp,fun x hx hn=>Qj (by rintro rfl;exact hn h1),fun hM=>Low.set hM ?_,rfl⟩
  ·rw[a6r]
   simp only[SV.pv,hv,Q0,hsr is bs vs K ns hs,QK,h3,h4.1];rw[if_pos ⟨trivial,trivial,trivial,trivial,by omega⟩];rfl
  ·have hh:=(Qm.1 h3).1
   refine .inr (.inr ⟨h,rows++[row],.inl h1,by simp,by simp,by rw[QL hh],?_⟩);have h4':a2b M (fun x=>R x/\x≠h) cl rows:=⟨h4.1,fun i x y hx hy=>d1L (h4.2 i x y hx hy) h3⟩;refine((h4'.frame fun x hx=>Qj (Ne.symm hx.2)).mono fun x hx=>.inl hx.1).snoc ((hrow.frame fun x hx=>Qj ?_).mono fun x hx=>.inr (.inl hx));rintro rfl;exact(hR1 _ hx).1 h1
  ·show PV.lowss _ (rows++[row])=true
   exact b7D hlowrow (hM.get h3)
structure CkOk (N:Nat)(c:Ck):Prop where
 out:c.out.length=N
 la:c.ask.length=N
 lb:c.bid.length=N
 ok:∀w∈c.ask,w.ok
 p:c.p.pok
 rn:∀r∈c.cl,r.p.pok/\r.ask.length=N/\r.got.length=N/\r.bid.length=N/\(∀w∈r.ask,w.ok)/\∀w∈r.got,w.ok
 cl:c.cl.length<=30
 ov:c.over=false->c.cl.length<=29
theorem e0A{N:Nat}{c:Ck}(h:CkOk N c)(i:Nat):∀x∈c.chs i,x.ok:=by
 intro x hx;obtain⟨r,hr,rfl⟩:=List.mem_map.1 hx;obtain⟨h1,h2,_,_,h5,_⟩:=h.rn r hr;refine⟨h1,?_⟩;show (wa r.ask i).ok;unfold wa;cases hw:r.ask[i]? with
 | none=>exact d2k
 | some w=>exact h5 w (Qv hw)
theorem c7S(c:Ck)(i:Nat):(c.chs i).length=c.cl.length:=by simp[Ck.chs]
theorem d0k{ps:List Pr}{bs:List Bd}{cs ad:List Tri}{i:Int}{w:W6}(h:b3Q ps bs cs ad i w=0):0<=i/\i<(bs.length:Int)/\w.ok:=by
 unfold b3Q at h
 repeat' split at h
 all_goals first|(cases h;done)|skip
 all_goals
  rename_i h1 h2 h3 _;rw[a0Q] at h1;rw[a2H] at h2;exact⟨by omega,by omega,h3⟩
section
variable {s:St}{cs ad:List Tri}(hs:SuOk s cs ad)(hv:a7m s.ps s.bs cs ad=0){o:Po}(ho:o.ok){σ:List MO}{h:Nat}{F:Nat->Prop}{c:Ck}(K:a4x s o σ h F c)(hσ:Low σ)(hk:CkOk s.bs.length c)(n:Nat)
include hs hv ho K hσ hk
set_option maxHeartbeats 4000000 in
theorem c6q(i:Int)(w:W6)(hn:32000<=n):c5L s o σ h F (c.doBid s.ps s.bs cs ad o s i w).1 (.int .i64 (c.doBid s.ps s.bs cs ad o s i w).2) (a0b Tab n a2U [.ref h 0,.int .i64 i,.agg w.pv] σ):=by
 obtain⟨n,rfl⟩:∃k,n=k+1+1:=⟨n-2,by omega⟩;obtain⟨l1,l2,l3,l4,l5⟩:=SuOk.lens hv;have hN:=hk.out;have K0:=K;obtain⟨vcl,ha,hb,hd,R,k,hF⟩:=K;have hob:=k.obj;have r0:∀is bs vs k,a0a {i:=is,b:=bs,v:=vs,m:=σ,k:=k} false 4 (.obj h 0)=some [s.P,s.B,s.C,s.A]:=a0e hob 0 4 (by decide);have r01:∀is bs vs k,a0a {i:=is,b:=bs,v:=vs,m:=σ,k:=k} false 1 (.obj h 0)=some [s.P]:=a0e hob 0 1 (by decide);have r4:∀is bs vs k,a0a {i:=is,b:=bs,v:=vs,m:=σ,k:=k} false 4 (.obj h 4)=some [.int .i64 o.st,.int .i64 o.pc,.int .i64 o.un,.int .i64 o.ru]:=a0e hob 4 4 (by decide);have r6:∀is bs vs k,a0a {i:=is,b:=bs,v:=vs,m:=σ,k:=k} false 1 (.obj h 6)=some [.int .i64 o.un]:=a0e hob 6 1 (by decide);have r7:∀is bs vs k,a0a {i:=is,b:=bs,v:=vs,m:=σ,k:=k} false 1 (.obj h 7)=some [.int .i64 o.ru]:=a0e hob 7 1 (by decide);have r8:∀is bs vs k,a0a {i:=is,b:=bs,v:=vs,m:=σ,k:=k} false 1 (.obj h 8)=some [vcl]:=a0e hob 8 1 (by decide);have r9:∀is bs vs k,a0a {i:=is,b:=bs,v:=vs,m:=σ,k:=k} false 6 (.obj h 9)=some [.int .i64 c.p.a,.int .i64 c.p.b,.int .i64 c.p.c,.int .i64 c.p.d,.int .i64 c.p.e,.int .i64 c.p.f]:=a0e hob 9 6 (by decide);have r15:∀is bs vs k,a0a {i:=is,b:=bs,v:=vs,m:=σ,k:=k} false 1 (.obj h 15)=some [.msl ha 0 c.out.length c.out.length 6]:=a0e hob 15 1 (by decide);have r16:∀is bs vs k,a0a {i:=is,b:=bs,v:=vs,m:=σ,k:=k} false 1 (.obj h 16)=some [.msl hb 0 c.out.length c.out.length 1]:=a0e hob 16 1 (by decide);have r17:∀is bs vs k,a0a {i:=is,b:=bs,v:=vs,m:=σ,k:=k} false 1 (.obj h 17)=some [.msl hd 0 c.out.length c.out.length 1]:=a0e hob 17 1 (by decide);have r18:∀is bs vs k,a0a {i:=is,b:=bs,v:=vs,m:=σ,k:=k} false 1 (.obj h 18)=some [.bool c.over]:=a0e hob 18 1 (by decide);have c1:=c4N k (n+1) i (by omega);simp only[a9y] at c1
 have go:∀r,(PT.ev (a0b Tab (n+1)) a1M {i:=[i,w.a,w.b,w.c,w.d,w.e,w.f],b:=[],v:=[.ref h 0],m:=σ,k:=σ.length}).bind (fun x=>match x with|.ret r σ=>some (r,σ)|.jump q' ρ'=>Sys.loop (a0b Tab (n+1)) a4L (n+1) q' ρ')=some r->a0b Tab (n+1+1) a2U [.ref h 0,.int .i64 i,.agg w.pv] σ=some r:=fun r hr=>by
  rw[a0b];simp only[b8C,Q0,Sys.run,pv6];show ((a0f [.sh (.one _),.sh (.one _),.sh (.agg [_,_,_,_,_,_])] _).bind _)=_;simp only[a0f,a0g,a0c,Q1,Q0,Q8,Q4,Q6,if_true,b1B];exact hr
 have goE:∀r,PT.ev (a0b Tab (n+1)) a1M {i:=[i,w.a,w.b,w.c,w.d,w.e,w.f],b:=[],v:=[.ref h 0],m:=σ,k:=σ.length}=some (.ret r.1 r.2)->a0b Tab (n+1+1) a2U [.ref h 0,.int .i64 i,.agg w.pv] σ=some r:=fun r hr=>go r (by rw[hr];rfl)
 have no:∀e:Int,b5e s.ps s.bs cs ad o s c i w=e->e≠0->a0b Tab (n+1+1) a2U [.ref h 0,.int .i64 i,.agg w.pv] σ=some (.int .i64 e,σ)->c5L s o σ h F (c.doBid s.ps s.bs cs ad o s i w).1 (.int .i64 (c.doBid s.ps s.bs cs ad o s i w).2) (a0b Tab (n+1+1) a2U [.ref h 0,.int .i64 i,.agg w.pv] σ):=fun e he hne hev=>by
  unfold Ck.doBid;rw[he,if_neg hne];exact⟨σ,F,hev,K0,Adv.refl hσ⟩
 cases hov:c.over with
 | true =>
  rw[hov] at r18;refine no 10 (by unfold b5e;rw[if_pos hov]) (by decide) (go _ ?_);simp only[a1M,↓reduceIte,PT.ev,BE.safe,BE.pe,IE.pe,PEnv.at,Q3,Q5,Q7,Qe,a0p,a1k,Qd,Qf,Q2,a0c,a0l,a0g,Q1,Q0,PEnv.push,Q6,Q4,SV.pvs,SV.pv,Q9,a5o,a2S,a5v,a5l,Qg,r18,a0m,true_or]
 | false =>
 rw[hov] at r18;have hov':¬c.over=true:=by rw[hov];simp
 cases hh:c.has i with
 | false =>
  rw[hh] at c1;refine no 6 (by unfold b5e;rw[if_neg hov',hh];rfl) (by decide) (go _ ?_);simp only[a1M,↓reduceIte,PT.ev,BE.safe,BE.pe,IE.pe,PEnv.at,Q3,Q5,Q7,Qe,a0p,a1k,Qd,Qf,Q2,a0c,a0l,a0g,Q1,Q0,PEnv.push,Q6,Q4,Q8,SV.pvs,SV.pv,Q9,Qr,a5o,a2S,a5v,a5l,Qg,r18,c1,a0m,true_or]
 | true =>
 rw[hh] at c1;have hh':=hh;unfold Ck.has at hh';rw[QA,a2H,a0Q] at hh';obtain⟨j,rfl⟩:∃j:Nat,i=(j:Int):=⟨i.toNat,by omega⟩;have hj:j<c.out.length:=by omega
 obtain⟨b,hb'⟩:=a0U hj;have q1:=c2R (h:=hd) (c:=c.out.length) hj
 have q2:∀is bs vs k,a0a {i:=is,b:=bs,v:=vs,m:=σ,k:=k} false 1 (.obj hd j)=some [.bool b]:=fun _ _ _ _=>by
  simp only[a0a,k.out,Q0,MO.list,Q2,if_false];exact c2b c.out hb'
 have hlt:ltB (j:Int) (c.out.length:Int)=true:=by rw[a0Q];omega
 cases b with
 | true =>
  refine no 10 (by unfold b5e;rw[if_neg hov',if_pos hh,Qz,if_pos hb']) (by decide) (go _ ?_);simp only[a1M,↓reduceIte,PT.ev,BE.safe,BE.pe,IE.pe,PEnv.at,Q3,Q5,Q7,Qe,a0p,a1k,Qd,Qf,Q2,a0c,a0l,a0g,Q1,Q0,PEnv.push,Q6,Q4,Q8,SV.pvs,SV.pv,Q9,Qk,a5o,a2S,a5v,a5l,Qg,r18,c1,r17,a7L,b5H,le0,hlt,q1,q2,a0m,true_or]
 | false =>
 have hbn:¬c.out[j]?=some true:=by rw[hb'];simp
 have c2:=c6Q σ s.ps s.bs cs ad s.P s.B s.C s.A hs.P hs.B hs.C hs.A (n+1) hσ hv (j:Int) w (by omega);simp only[b4P,pv6] at c2
 have hbv:b5e s.ps s.bs cs ad o s c (j:Int) w=if b3Q s.ps s.bs cs ad (j:Int) w=0 then(if c2h s (j:Int) ⟨c.p,w⟩=0 then c5F s o.ru (j:Int) (c.chs j) ⟨c.p,w⟩ (agB (c.chs j++[⟨c.p,w⟩])) else c2h s (j:Int) ⟨c.p,w⟩) else b3Q s.ps s.bs cs ad (j:Int) w:=by
  unfold b5e;rw[if_neg hov',if_pos hh,Qz,if_neg hbn]
 have e5:∀a b:Int,eqB a b=decide (a=b):=fun _ _=>rfl
 obtain⟨_,_,p3⟩:=a0i hs.P;obtain⟨_,_,b3⟩:=a0i hs.B;obtain⟨_,_,c3'⟩:=a0i hs.C;obtain⟨_,_,a3⟩:=a0i hs.A;by_cases h1:b3Q s.ps s.bs cs ad (j:Int) w=0
 case neg =>
  refine no _ (by rw[hbv,if_neg h1]) h1 (goE (_,_) ?_);simp only[a1M,↓reduceIte,PT.ev,BE.safe,BE.pe,IE.pe,PEnv.at,Q3,Q5,Q7,Qe,a0p,a1k,Qd,Qf,Q2,a0c,a0l,a0g,Q1,Q0,PEnv.push,Q6,Q4,Q8,SV.pvs,SV.pv,Q9,Qk,a5o,a2S,a5v,a5l,Qg,r18,c1,r17,a7L,b5H,le0,hlt,q1,q2]
  repeat' (first|with_reducible rfl|apply a3d|simp only[↓reduceIte,a0j,a0d,a0h,a0u,a0n,BE.safe,BE.pe,IE.pe,PEnv.at,Q3,Q5,Q7,Qe,a0p,a1k,QH,Qd,Qf,Nat.reduceAdd,a0c,a0l,a0g,Q1,Q0,PEnv.push,Q6,Q4,Q8,SV.pvs,SV.pv,Qr,a2S,Qg,r9,r0,p3,b3,c3',a3,c2,e5,dF0 h1,a0m,true_or]|unfold a3t|unfold a3F|unfold a3u|unfold a3H|unfold a3r|unfold a3y|unfold a3D|unfold a3w|unfold a2M)
 have hw:=(d0k h1).2.2;have hx:(⟨c.p,w⟩:Ch).ok:=⟨hk.p,hw⟩;have c3:=b4s σ s hs.ok (j:Int) ⟨c.p,w⟩ hx n (by omega) (a8k σ c.p w hk.p hw n (by omega));simp only[b0N,St.pv,a2g] at c3;by_cases h2:c2h s (j:Int) ⟨c.p,w⟩=0
 case neg =>
  refine no _ (by rw[hbv,if_pos h1,if_neg h2]) h2 (goE (_,_) ?_);simp only[a1M,↓reduceIte,PT.ev,BE.safe,BE.pe,IE.pe,PEnv.at,Q3,Q5,Q7,Qe,a0p,a1k,Qd,Qf,Q2,a0c,a0l,a0g,Q1,Q0,PEnv.push,Q6,Q4,Q8,SV.pvs,SV.pv,Q9,Qk,a5o,a2S,a5v,a5l,Qg,r18,c1,r17,a7L,b5H,le0,hlt,q1,q2]
  repeat' (first|with_reducible rfl|apply a3d|simp only[↓reduceIte,a0j,a0d,a0h,a0u,a0n,BE.safe,BE.pe,IE.pe,PEnv.at,Q3,Q5,Q7,Qe,a0p,a1k,QH,Qd,Qf,Nat.reduceAdd,Q2,a0c,a0l,a0g,Q1,Q0,PEnv.push,Q6,Q4,Q8,SV.pvs,SV.pv,Qk,Qr,a2S,Qg,r9,r0,p3,b3,c3',a3,c2,e5,dT0 h1,c3,dF0 h2,a0m,true_or]|unfold a3t|unfold a3F|unfold a3u|unfold a3H|unfold a3r|unfold a3y|unfold a3D|unfold a3w|unfold a2M)
 have hcl29:=hk.ov hov;obtain⟨L,c4,hL⟩:=c7e k (n+1) (by omega) (fun r hr=>by rw[(hk.rn r hr).2.1,hN]) (j:Int) (by omega);rw[if_pos hh,Qz] at hL;obtain⟨_,_,oL⟩:=a0i hL
 have hag:∀m,n+1<=m+2->m<=n+1->a0b Tab m a1U [.agg (b0s s (j:Int) L),.agg (⟨c.p,w⟩:Ch).row] σ=some (.bool (agB (c.chs j++[⟨c.p,w⟩])),σ):=fun m hm1 hm2=>by
  obtain⟨b,e1,e2⟩:=c8D σ s hs.ok (j:Int) (c.chs j) L hL (by rw[c7S];exact hcl29) ⟨c.p,w⟩ m hσ.flat (by omega);rw[e1,show b=agB (c.chs j++[⟨c.p,w⟩]) from XD.2 (e2.trans (d3i _).symm)]
 have c5:=c8o σ s hs.ok o.ru (j:Int) (c.chs j) L hL (by rw[c7S];exact hcl29) ⟨c.p,w⟩ (n+1) (agB (c.chs j++[⟨c.p,w⟩])) (by omega) hag;simp only[b2W,a6K,St.pv,a2g] at c4 c5;by_cases h3:c5F s o.ru (j:Int) (c.chs j) ⟨c.p,w⟩ (agB (c.chs j++[⟨c.p,w⟩]))=0
 case neg =>
  refine no _ (by rw[hbv,if_pos h1,if_pos h2]) h3 (goE (_,_) ?_);simp only[a1M,↓reduceIte,PT.ev,BE.safe,BE.pe,IE.pe,PEnv.at,Q3,Q5,Q7,Qe,a0p,a1k,Qd,Qf,Q2,a0c,a0l,a0g,Q1,Q0,PEnv.push,Q6,Q4,Q8,SV.pvs,SV.pv,Q9,Qk,a5o,a2S,a5v,a5l,Qg,r18,c1,r17,a7L,b5H,le0,hlt,q1,q2]
  repeat' (first|with_reducible rfl|apply a3d|simp only[↓reduceIte,a0j,a0d,a0h,a0u,a0n,a1P,BE.safe,BE.pe,IE.pe,PEnv.at,Q3,Q5,Q7,Qe,a0p,a1k,QH,Qd,Qf,Nat.reduceAdd,Q2,a0c,a0l,a0g,Q1,Q0,PEnv.push,Q6,Q4,Q8,SV.pvs,SV.pv,Q9,Qk,Qr,a2S,Qg,r9,r0,r7,p3,b3,c3',a3,c2,e5,dT0 h1,c3,dT0 h2,c4,oL,c5,dF0 h3,a0m,true_or]|unfold a3t|unfold a3F|unfold a3u|unfold a3H|unfold a3r|unfold a3y|unfold a3D|unfold a3w|unfold a2M)
 have hz:b5e s.ps s.bs cs ad o s c (j:Int) w=0:=by rw[hbv,if_pos h1,if_pos h2];exact h3
 have da:=k.a_d;have ab:=k.a_b;have db:=k.nbd;have la:=k.la;have lb:=k.lb;have hal:=(Qm.1 k.ask).1;have hbl:=(Qm.1 k.bid).1;have g2:=k.ask;have g3:(σ.set ha (.cells ((c.ask.set j w).map W6.pv).flatten 38))[hb]?=some (.cells (c.bid.map PV.bool) 4):=by rw[Qj ab];exact k.bid
 have t2:j*6+6<=(c.ask.map W6.pv).flatten.length:=by rw[b6t];omega
 have t3:j+1<=(c.bid.map PV.bool).length:=by simp;omega
 have s2:a2h (c.ask.map W6.pv).flatten (j*6) [.int .i64 w.a,.int .i64 w.b,.int .i64 w.c,.int .i64 w.d,.int .i64 w.e,.int .i64 w.f]=((c.ask.set j w).map W6.pv).flatten:=c4A c.ask (by omega) w;have s3:=c9K c.bid (i:=j) (by omega) true;have q1a:=c8y (h:=ha) (c:=c.out.length) (sz:=6) hj;have q1b:=c2R (h:=hb) (c:=c.out.length) hj;unfold Ck.doBid;rw[hz,if_pos rfl,Qz];refine⟨(σ.set ha (.cells ((c.ask.set j w).map W6.pv).flatten 38)).set hb (.cells ((c.bid.set j true).map PV.bool) 4),F,goE (.int .i64 0,_) ?_,⟨vcl,ha,hb,hd,R,?_,hF⟩,?_⟩
 ·simp only[a1M,↓reduceIte,PT.ev,BE.safe,BE.pe,IE.pe,PEnv.at,Q3,Q5,Q7,Qe,a0p,a1k,Qd,Qf,Q2,a0c,a0l,a0g,Q1,Q0,PEnv.push,Q6,Q4,Q8,SV.pvs,SV.pv,Q9,Qk,a5o,a2S,a5v,a5l,Qg,r18,c1,r17,a7L,b5H,le0,hlt,q1,q2]
  repeat' (first|with_reducible rfl|apply a3d|simp only[↓reduceIte,a0j,a0d,a0h,a0u,a0n,a1P,BE.safe,BE.pe,IE.pe,PEnv.at,Q3,Q5,Q7,Qe,a0p,a1k,QH,Qd,Qf,Nat.reduceAdd,Q2,a0c,a0l,a0g,Q1,Q0,PEnv.push,Q6,Q4,Q8,SV.pvs,SV.pv,Q9,Qk,a2S,Qg,r9,r0,r7,p3,b3,c3',a3,c2,e5,dT0 h1,c3,dT0 h2,c4,oL,c5,dT0 h3,r15,r16,a7L,b5H,le0,hlt,q1a,q1b,g2,if_pos t2,s2,g3,if_pos t3,s3,a0m,true_or]|unfold a3t|unfold a3F|unfold a3u|unfold a3H|unfold a3r|unfold a3y|unfold a3D|unfold a3w|unfold a2M)
 ·have keep:∀x,R x->((σ.set ha (.cells ((c.ask.set j w).map W6.pv).flatten 38)).set hb (.cells ((c.bid.set j true).map PV.bool) 4))[x]?=σ[x]?:=fun x hx=>by
   rw[Qj (by rintro rfl;exact k.nb hx),Qj (by rintro rfl;exact k.na hx)]
  refine⟨?_,?_,?_,?_,by rw[Qp];exact la,by rw[Qp];exact lb,k.cl.frame keep,fun x hx=>by simp only[Qp];exact k.bd x hx,k.na,k.nb,k.nd,k.nh,k.nbd⟩
  ·rw[Qj k.b_h,Qj k.a_h];exact hob
  ·rw[Qj (Ne.symm ab),QL hal]
  ·rw[QL (by simpa using hbl)]
  ·rw[Qj db,Qj da];exact k.out
 ·refine⟨by simp,fun x hx hn=>?_,fun x hx=>.inl hx,Low.set (Low.set hσ (a6i _ _ _)) (a7j _ _ _)⟩
  rw[Qj (by rintro rfl;exact hn ((hF _).2 (.inr (.inr (.inl rfl))))),Qj (by rintro rfl;exact hn ((hF _).2 (.inr (.inl rfl))))]
end
def Ck.closeTo(c:Ck)(o:Po)(ex:W6)(cl':List Rn):Ck×Bool×Int :=
 if (ex.isZ||(leB 30 (cl'.length:Int)||!decide (rsW o c.p ex).pok))=true then({cl:=cl',p:=c.p,ask:=c.blank.ask,bid:=c.blank.bid,out:=c.out,over:=true},true,0)
 else({cl:=cl',p:=rsW o c.p ex,ask:=c.blank.ask,bid:=c.blank.bid,out:=c.out,over:=false},false,0)
theorem c1J(c:Ck)(ps:List Pr)(o:Po)(h:c.over=false):c.close ps o=c.closeTo o (c.ex ps o) (c.cl++[⟨c.p,c.ask,c.gots ps o,c.bid⟩]):=by
 unfold Ck.close Ck.closeTo Ck.ends Ck.nextP;rw[h,if_neg (by simp),Qw,QK,a1q];simp only[Ck.blank,h]
section
variable {s:St}{o:Po}(ho:o.ok){h hd:Nat}{c:Ck}(hp:c.p.pok)(n:Nat)(K:Nat)
def b7M(K:Nat)(M:List MO)(sp:W6)(h:Nat)(got:PV):PEnv:={i:=[sp.a,sp.b,sp.c,sp.d,sp.e,sp.f],b:=[],v:=[.ref h 0,got],m:=M,k:=K}
def c1Q(K:Nat)(M:List MO)(e:Int)(sp ex np:W6)(h:Nat):PEnv:={i:=[e,sp.a,sp.b,sp.c,sp.d,sp.e,sp.f,ex.a,ex.b,ex.c,ex.d,ex.e,ex.f,np.a,np.b,np.c,np.d,np.e,np.f],b:=[],v:=[.ref h 0],m:=M,k:=K}
include ho hp in
set_option maxHeartbeats 2000000 in
theorem c8v{M:List MO}{vcl va vb got:PV}{R:Nat->Prop}{cl':List Rn}{g:List W6}{sp:W6}(hob:M[h]?=some (ckO s o vcl va vb (.msl hd 0 c.out.length c.out.length 1) c.p false))(hM:Low M)(hcl:CSl M R vcl cl')(hR:∀x,R x->x<M.length)(hRd:¬R hd)(hRh:¬R h)(hdh:hd≠h)
  (hg:BSl M R got g) (hgk:∀w∈g,w.ok) (hg8:g.length<=8) (hout:M[hd]?=some (.cells (c.out.map PV.bool) 4)) (hN:c.out.length<=1000) (hsp:sp.sm 1000) (hn:100<=n) (fuel:Nat) :
  ∃M2,a1m.loop (a0b Tab n) (fuel+2) 1 (b7M K M sp h got)=some (.tup [.bool (c.closeTo o (exW sp g) cl').2.1,.int .i64 (c.closeTo o (exW sp g) cl').2.2],M2) /\
   CkAt s o M2 h vcl M.length (M.length+1) hd R (c.closeTo o (exW sp g) cl').1/\Low M2/\M.length<=M2.length/\∀x,x<M.length->x≠h->M2[x]?=M[x]?:=by
 have hlt:h<M.length:=(Qm.1 hob).1;have hdl:hd<M.length:=(Qm.1 hout).1;have c1:=c4p hob hM hN n (by omega);simp only[a2t] at c1;obtain⟨X,hX⟩:∃X:W6->Bool->MO,∀p ov,X p ov=ckO s o vcl (.msl M.length 0 c.out.length c.out.length 6) (.msl (M.length+1) 0 c.out.length c.out.length 1) (.msl hd 0 c.out.length c.out.length 1) p ov:=⟨_,fun _ _=>rfl⟩;have hXc:∀p ov,X p ov=.cells (ckL s o vcl (.msl M.length 0 c.out.length c.out.length 6) (.msl (M.length+1) 0 c.out.length c.out.length 1) (.msl hd 0 c.out.length c.out.length 1) p ov) 81:=fun p ov=>by rw[hX];rfl
 rw[<- hX] at c1;have ob1:=b0e hlt (X c.p false) c.out.length;rw[hX] at ob1;have u0:∀is bs vs k,a0a {i:=is,b:=bs,v:=vs,m:=clM M h (ckO s o vcl (.msl M.length 0 c.out.length c.out.length 6) (.msl (M.length+1) 0 c.out.length c.out.length 1) (.msl hd 0 c.out.length c.out.length 1) c.p false) c.out.length,k:=k} false 4 (.obj h 0)=some [s.P,s.B,s.C,s.A]:=a0e ob1 0 4 (by decide);have u01:∀is bs vs k,a0a {i:=is,b:=bs,v:=vs,m:=clM M h (ckO s o vcl (.msl M.length 0 c.out.length c.out.length 6) (.msl (M.length+1) 0 c.out.length c.out.length 1) (.msl hd 0 c.out.length c.out.length 1) c.p false) c.out.length,k:=k} false 1 (.obj h 0)=some [s.P]:=a0e ob1 0 1 (by decide);have u4:∀is bs vs k,a0a {i:=is,b:=bs,v:=vs,m:=clM M h (ckO s o vcl (.msl M.length 0 c.out.length c.out.length 6) (.msl (M.length+1) 0 c.out.length c.out.length 1) (.msl hd 0 c.out.length c.out.length 1) c.p false) c.out.length,k:=k} false 4 (.obj h 4)=some [.int .i64 o.st,.int .i64 o.pc,.int .i64 o.un,.int .i64 o.ru]:=a0e ob1 4 4 (by decide);have u6:∀is bs vs k,a0a {i:=is,b:=bs,v:=vs,m:=clM M h (ckO s o vcl (.msl M.length 0 c.out.length c.out.length 6) (.msl (M.length+1) 0 c.out.length c.out.length 1) (.msl hd 0 c.out.length c.out.length 1) c.p false) c.out.length,k:=k} false 1 (.obj h 6)=some [.int .i64 o.un]:=a0e ob1 6 1 (by decide);have u7:∀is bs vs k,a0a {i:=is,b:=bs,v:=vs,m:=clM M h (ckO s o vcl (.msl M.length 0 c.out.length c.out.length 6) (.msl (M.length+1) 0 c.out.length c.out.length 1) (.msl hd 0 c.out.length c.out.length 1) c.p false) c.out.length,k:=k} false 1 (.obj h 7)=some [.int .i64 o.ru]:=a0e ob1 7 1 (by decide);have u8:∀is bs vs k,a0a {i:=is,b:=bs,v:=vs,m:=clM M h (ckO s o vcl (.msl M.length 0 c.out.length c.out.length 6) (.msl (M.length+1) 0 c.out.length c.out.length 1) (.msl hd 0 c.out.length c.out.length 1) c.p false) c.out.length,k:=k} false 1 (.obj h 8)=some [vcl]:=a0e ob1 8 1 (by decide);have u9:∀is bs vs k,a0a {i:=is,b:=bs,v:=vs,m:=clM M h (ckO s o vcl (.msl M.length 0 c.out.length c.out.length 6) (.msl (M.length+1) 0 c.out.length c.out.length 1) (.msl hd 0 c.out.length c.out.length 1) c.p false) c.out.length,k:=k} false 6 (.obj h 9)=some [.int .i64 c.p.a,.int .i64 c.p.b,.int .i64 c.p.c,.int .i64 c.p.d,.int .i64 c.p.e,.int .i64 c.p.f]:=a0e ob1 9 6 (by decide);have u15:∀is bs vs k,a0a {i:=is,b:=bs,v:=vs,m:=clM M h (ckO s o vcl (.msl M.length 0 c.out.length c.out.length 6) (.msl (M.length+1) 0 c.out.length c.out.length 1) (.msl hd 0 c.out.length c.out.length 1) c.p false) c.out.length,k:=k} false 1 (.obj h 15)=some [.msl M.length 0 c.out.length c.out.length 6]:=a0e ob1 15 1 (by decide);have u16:∀is bs vs k,a0a {i:=is,b:=bs,v:=vs,m:=clM M h (ckO s o vcl (.msl M.length 0 c.out.length c.out.length 6) (.msl (M.length+1) 0 c.out.length c.out.length 1) (.msl hd 0 c.out.length c.out.length 1) c.p false) c.out.length,k:=k} false 1 (.obj h 16)=some [.msl (M.length+1) 0 c.out.length c.out.length 1]:=a0e ob1 16 1 (by decide);have u17:∀is bs vs k,a0a {i:=is,b:=bs,v:=vs,m:=clM M h (ckO s o vcl (.msl M.length 0 c.out.length c.out.length 6) (.msl (M.length+1) 0 c.out.length c.out.length 1) (.msl hd 0 c.out.length c.out.length 1) c.p false) c.out.length,k:=k} false 1 (.obj h 17)=some [.msl hd 0 c.out.length c.out.length 1]:=a0e ob1 17 1 (by decide);have u18:∀is bs vs k,a0a {i:=is,b:=bs,v:=vs,m:=clM M h (ckO s o vcl (.msl M.length 0 c.out.length c.out.length 6) (.msl (M.length+1) 0 c.out.length c.out.length 1) (.msl hd 0 c.out.length c.out.length 1) c.p false) c.out.length,k:=k} false 1 (.obj h 18)=some [.bool false]:=a0e ob1 18 1 (by decide);rw[<- hX] at u8 u4 u9;have fr:∀p ov x,R x->(clM M h (X p ov) c.out.length)[x]?=M[x]?:=fun p ov x hx=>b2b (hR x hx) (by rintro rfl;exact hRh hx) _ _
 have hcl1:=fun p ov=>hcl.frame (fr p ov)
 have hg1:=(hg.frame (fr c.p false)).rd;have hc:=(hcl1 c.p false).rd
 have lowX:∀p ov,Low (clM M h (X p ov) c.out.length):=fun p ov=>by
  have ho2:=a4K.1 (hM.get hob);have up:∀{v:PV},v.low M.length=true->v.low (M.length+2)=true:=fun h=>PV.low_mono (by omega) _ h
  unfold Low;rw[a3L];unfold clM;rw[QW,QA];refine⟨Qu.2 fun y hy=>?_,by simp only[X4,X5,a6i,a7j,Q9]⟩;rcases QP hy with hy|rfl
  ·exact MO.low_mono (by omega) (Qu.1 hM y hy)
  ·rw[hX]
   exact a4K.2 ⟨up ho2.1,up ho2.2.1,up ho2.2.2.1,up ho2.2.2.2.1,up ho2.2.2.2.2.1,by simp[PV.low],by simp[PV.low],up ho2.2.2.2.2.2.2.2⟩
 have atX:∀p ov,CkAt s o (clM M h (X p ov) c.out.length) h vcl M.length (M.length+1) hd R {cl:=cl',p:=p,ask:=c.blank.ask,bid:=c.blank.bid,out:=c.out,over:=ov}:=fun p ov=>by
  refine⟨?_,c7V _ _ _ _,c8C _ _ _ _,?_,by simp[Ck.blank],by simp[Ck.blank],hcl1 p ov,fun x hx=>by rw[a3L];have:=hR x hx;omega,fun hx=>by have:=hR _ hx;omega,fun hx=>by have:=hR _ hx;omega,hRd,hRh,by omega⟩
  ·rw[b0e hlt,hX]
  ·rw[b2b hdl hdh];exact hout
 have c2:=c9c (clM M h (X c.p false) c.out.length) n got g hg1 hgk hg8 sp hsp (by omega);have c3:=d2d (clM M h (X c.p false) c.out.length) n o ho c.p (exW sp g) hp (lowX c.p false) (by omega);simp only[b6L,b2S,pv6,a6I] at c2 c3
 have e1:a1m.loop (a0b Tab n) (fuel+2) 1 (b7M K M sp h got)=a1m.loop (a0b Tab n) (fuel+1) 2 (c1Q K (clM M h (X c.p false) c.out.length) (a8Z o c.p (exW sp g)).2 sp (exW sp g) (a8Z o c.p (exW sp g)).1 h):=by
  have og:=hg.one;rw[Sys.loop,show a1m.loops[1]?=some a5c from rfl]
  have E:PT.ev (a0b Tab n) a5c (b7M K M sp h got)=some (.jump 2 (c1Q K (clM M h (X c.p false) c.out.length) (a8Z o c.p (exW sp g)).2 sp (exW sp g) (a8Z o c.p (exW sp g)).1 h)):=by
   simp only[a5c,b7M,↓reduceIte,a0h,a0n,BE.safe,BE.pe,IE.pe,PEnv.at,Q3,Q5,Q7,Qe,a0c,a0l,a0g,Q1,Q0,PEnv.push,Q6,Q4,Q8,SV.pvs,SV.pv,c1,a1h,c2,a2S]
   repeat' (first|with_reducible rfl|apply a3d|simp only[↓reduceIte,a0u,a0n,a0k,IE.pe,Q3,Q5,Q7,a0p,a1k,Qd,Qf,Nat.reduceAdd,a0c,a0l,a0g,Q1,Q0,PEnv.push,Q6,Q4,Q8,SV.pvs,SV.pv,BE.all,Qa,Qb,Qg,u4,u9,c3,a1h,c1Q,]|unfold a5I|unfold a9o|unfold a9r|unfold a9m|unfold a5G|unfold a9q|unfold a9n|unfold a9u|unfold a9s|unfold a8A)
  rw[Q0,E];rfl
 have hst18:(clM M h (X c.p false) c.out.length).set h (.cells (ckL s o vcl (.msl M.length 0 c.out.length c.out.length 6) (.msl (M.length+1) 0 c.out.length c.out.length 1) (.msl hd 0 c.out.length c.out.length 1) c.p true) 81)=clM M h (X c.p true) c.out.length:=by rw[b6D hlt,hXc]
 have hst9:∀q,(clM M h (X c.p false) c.out.length).set h (.cells (ckL s o vcl (.msl M.length 0 c.out.length c.out.length 6) (.msl (M.length+1) 0 c.out.length c.out.length 1) (.msl hd 0 c.out.length c.out.length 1) q false) 81)=clM M h (X q false) c.out.length:=fun q=>by rw[b6D hlt,hXc]
 have hg2:(clM M h (X c.p false) c.out.length)[h]?=some (.cells (ckL s o vcl (.msl M.length 0 c.out.length c.out.length 6) (.msl (M.length+1) 0 c.out.length c.out.length 1) (.msl hd 0 c.out.length c.out.length 1) c.p false) 81):=by rw[b0e hlt,hXc]
 have hz:(eqB (exW sp g).a 0&&(eqB (exW sp g).b 0&&(eqB (exW sp g).c 0&&(eqB (exW sp g).d 0&&(eqB (exW sp g).e 0&&eqB (exW sp g).f 0)))))=(exW sp g).isZ:=rfl;have keep:∀p ov x,x<M.length->x≠h->(clM M h (X p ov) c.out.length)[x]?=M[x]?:=fun p ov x hx hne=>b2b hx hne _ _
 have len:∀p ov,M.length<=(clM M h (X p ov) c.out.length).length:=fun p ov=>by rw[a3L];omega
 rw[e1,Sys.loop,show a1m.loops[2]?=some a2L from rfl];unfold Ck.closeTo;cases hzz:(exW sp g).isZ with
 | true =>
  refine⟨clM M h (X c.p true) c.out.length,?_,atX c.p true,lowX c.p true,len _ _,keep _ _⟩;simp only[Q0,c1Q,a2L,↓reduceIte,PT.ev,BE.safe,BE.pe,IE.pe,PEnv.at,Q3,Q5,Q7,a0p,a1k,Qd,Qf,Nat.reduceAdd,Qn,Q1,Q0,SV.pvs,SV.pv,Q9,hz,hzz,a2S,Qg,hg2,a6N,b5R,hst18,a0m,true_or,QX]
 | false =>
  cases h30:leB 30 (cl'.length:Int) with
  | true =>
   refine⟨clM M h (X c.p true) c.out.length,?_,atX c.p true,lowX c.p true,len _ _,keep _ _⟩;simp only[Q0,c1Q,a2L,↓reduceIte,PT.ev,BE.safe,BE.pe,IE.pe,PEnv.at,Q3,Q5,Q7,a0p,a1k,Qd,Qf,Nat.reduceAdd,Qn,Q2,a0c,Q1,Q0,PEnv.push,Q6,Q4,SV.pvs,SV.pv,Q9,hz,hzz,a2S,Qg,u8,hc.one,hc.kind,hc.len,h30,hg2,a6N,Nat.reduceLeDiff,b5R,hst18,a0m,true_or,QX,Bool.or_true]
  | false =>
   by_cases hpk:(rsW o c.p (exW sp g)).pok
   ·have hnv:a8Z o c.p (exW sp g)=(rsW o c.p (exW sp g),0):=if_pos hpk
    rw[hnv,dT0 hpk];refine⟨clM M h (X (rsW o c.p (exW sp g)) false) c.out.length,?_,atX _ false,lowX _ false,len _ _,keep _ _⟩;have e0:eqB 0 0=true:=rfl;simp only[Q0,c1Q,a2L,↓reduceIte,PT.ev,BE.safe,BE.pe,IE.pe,PEnv.at,Q3,Q5,Q7,a0p,a1k,Qd,Qf,Nat.reduceAdd,Qn,Q2,a0c,Q1,Q0,PEnv.push,Q6,Q4,SV.pvs,SV.pv,Q9,Qk,hz,hzz,a2S,Qg,u8,hc.one,hc.kind,hc.len,h30,e0,hg2,a6N,Nat.reduceLeDiff,c9t,hst9,a0m,true_or,Bool.or_false,Qk,Q2]
   ·have hnv:a8Z o c.p (exW sp g)=(w0,4):=if_neg hpk
    rw[hnv,dF0 hpk];refine⟨clM M h (X c.p true) c.out.length,?_,atX c.p true,lowX c.p true,len _ _,keep _ _⟩;have e0:eqB 4 0=false:=rfl;simp only[Q0,c1Q,a2L,↓reduceIte,PT.ev,BE.safe,BE.pe,IE.pe,PEnv.at,Q3,Q5,Q7,a0p,a1k,Qd,Qf,Nat.reduceAdd,Qn,Q2,a0c,Q1,Q0,PEnv.push,Q6,Q4,SV.pvs,SV.pv,Q9,Qr,hz,hzz,a2S,Qg,u8,hc.one,hc.kind,hc.len,h30,e0,hg2,a6N,b5R,hst18,a0m,true_or,Bool.or_true,Qr]
end
theorem c7E{s:St}{o:Po}{c:Ck}{N:Nat}(hk:CkOk N c):(∀w∈c.gots s.ps o,w.ok)/\(c.gots s.ps o).length=N:=by
 unfold Ck.gots;split
 ·exact⟨hk.ok,hk.la⟩
 ·rename_i hne
  have hpos:0<c.cl.length:=Xp.2 hne;obtain⟨r,hr⟩:=a0U (show c.cl.length-1<c.cl.length by omega);have hlast:c.cl.getLast?=some r:=by rw[Xq];exact hr
  obtain⟨r1,r2,r3,r4,r5,r6⟩:=hk.rn r (Qv hr)
  have hpv:c.prev=prN r.got c.out c.out.length:=by
   rw[c1P c (by rw[hlast];simp only[Q1,Xr];rw[r3,hk.out];exact Qn _),hlast];rfl
  have hpl:c.prev.length=N:=by rw[hpv,b6A,r3]
  have hpo:∀w∈c.prev,w.ok:=by rw[hpv];exact d0j r6
  unfold apW;exact⟨c6h _ _ hk.ok hpo (by rw[hk.la,hpl]) _ (by rw[hk.la,hpl];exact Qn _),by rw[b5V,hpl]⟩
theorem c9q{s:St}{o:Po}{σ:List MO}{h:Nat}{F:Nat->Prop}{c:Ck}{vcl:PV}{ha hb hd:Nat}{R:Nat->Prop}(k:CkAt s o σ h vcl ha hb hd R c)(hF:∀x,F x↔(x=h\/x=ha\/x=hb\/x=hd\/R x))(hcl:c.cl.length<=1000)(τ:List MO)(hM:Low (σ++τ)){got:PV}{g:List W6}(hg:BSl (σ++τ) (fun x=>σ.length<=x/\x<(σ++τ).length) got g)(hov:c.over=false) :
  ∃vcl' M',(∀(Φ:Fns) (k:PT) (is:List Int) (bs:List Bool) (vs:List PV) (K nv ns:Nat),vs[nv]?=some vcl->vs[ns]?=some (.sl 9 [[.int .i64 c.p.a,.int .i64 c.p.b,.int .i64 c.p.c,.int .i64 c.p.d,.int .i64 c.p.e,.int .i64 c.p.f,.msl ha 0 c.out.length c.out.length 6,got,.msl hb 0 c.out.length c.out.length 1]])->(PT.appM (.va nv) (.va ns) 9 54 k).ev Φ {i:=is,b:=bs,v:=vs,m:=σ++τ,k:=K}=k.ev Φ {i:=is,b:=bs,v:=vs++[vcl'],m:=M',k:=K}) /\
   M'[h]?=some (ckO s o vcl (.msl ha 0 c.out.length c.out.length 6) (.msl hb 0 c.out.length c.out.length 1) (.msl hd 0 c.out.length c.out.length 1) c.p false) /\
   (let M1:=M'.set h (ckO s o vcl' (.msl ha 0 c.out.length c.out.length 6) (.msl hb 0 c.out.length c.out.length 1) (.msl hd 0 c.out.length c.out.length 1) c.p false)
    let R2:=fun x=>R x\/x=ha\/x=hb\/(σ.length<=x/\x<M1.length)
    Low M1/\CSl M1 R2 vcl' (c.cl++[⟨c.p,c.ask,g,c.bid⟩])/\(∀x,R2 x->x<M1.length)/\¬R2 hd/\¬R2 h/\BSl M1 R2 got g/\M1[hd]?=some (.cells (c.out.map PV.bool) 4)/\σ.length<=M1.length/\(∀x,x<σ.length->¬F x->M1[x]?=σ[x]?))/\vcl'.one=true/\h<M'.length:=by
 have hal:=(Qm.1 k.ask).1;have hbl:=(Qm.1 k.bid).1;have hdl:=(Qm.1 k.out).1;have hhl:=k.lt;have la:=k.la;have lb:=k.lb;have hlen:(σ++τ).length=σ.length+τ.length:=Qw;have up:∀x,x<σ.length->(σ++τ)[x]?=σ[x]?:=fun x hx=>Qs hx
 obtain⟨vcl',M',a1,a2,a3,a4,a5,a6⟩:=d3w (M:=σ++τ) (R:=R) (R1:=fun x=>x=ha\/x=hb\/(σ.length<=x/\x<(σ++τ).length)) (r:=⟨c.p,c.ask,g,c.bid⟩) (k.cl.frame fun x hx=>up x (k.bd x hx)) (fun x hx=>by have:=k.bd x hx;omega)
  ⟨.msl ha 0 c.out.length c.out.length 6,got,.msl hb 0 c.out.length c.out.length 1,rfl,.inl ⟨ha,.inl rfl,by rw[la],by rw[up ha hal];exact k.ask⟩,hg.mono fun x hx=>.inr (.inr hx),⟨hb,.inr (.inl rfl),by rw[lb],by rw[up hb hbl];exact k.bid⟩⟩
  (fun x hx=>by
   rcases hx with rfl|rfl|hx
   ·exact⟨k.na,by omega⟩
   ·exact⟨k.nb,by omega⟩
   ·exact⟨fun h=>by have:=k.bd x h;omega,hx.2⟩) hcl
 have hMh:M'[h]?=some (ckO s o vcl (.msl ha 0 c.out.length c.out.length 6) (.msl hb 0 c.out.length c.out.length 1) (.msl hd 0 c.out.length c.out.length 1) c.p false):=by
  rw[a4 h (by omega) k.nh,up h hhl,k.obj,hov]
 have hhM:h<M'.length:=by omega
 refine⟨vcl',M',a1,hMh,?_,a6,hhM⟩;have hkeep:∀x,x<M'.length->x≠h->(M'.set h (ckO s o vcl' (.msl ha 0 c.out.length c.out.length 6) (.msl hb 0 c.out.length c.out.length 1) (.msl hd 0 c.out.length c.out.length 1) c.p false))[x]?=M'[x]?:=fun x _ hne=>Qj (Ne.symm hne)
 have hR2h:¬(R h\/h=ha\/h=hb\/(σ.length<=h/\h<M'.length)):=by
  rintro (hx|hx|hx|hx)
  ·exact k.nh hx
  ·exact k.a_h hx.symm
  ·exact k.b_h hx.symm
  ·omega
 have hM':=a5 hM;have ho2:=a4K.1 (hM'.get hMh)
 have hvl:vcl'.low M'.length=true:=a2.low fun x hx=>by
  rcases hx with hx|hx|hx
  ·have:=k.bd x hx;omega
  ·rcases hx with rfl|rfl|hx<;>omega
  ·exact hx.2
 simp only[Qp];refine⟨Low.set hM' (a4K.2 ⟨ho2.1,ho2.2.1,ho2.2.2.1,ho2.2.2.2.1,hvl,ho2.2.2.2.2.2.1,ho2.2.2.2.2.2.2.1,ho2.2.2.2.2.2.2.2⟩),?_,fun x hx=>?_,?_,hR2h,?_,?_,by omega,fun x hx hn=>?_⟩
 ·have step:CSl M' (fun x=>R x\/x=ha\/x=hb\/(σ.length<=x/\x<M'.length)) vcl' (c.cl++[⟨c.p,c.ask,g,c.bid⟩]):=a2.mono fun x hx=>by
   rcases hx with hx|(rfl|rfl|hx)|hx
   ·exact .inl hx
   ·exact .inr (.inl rfl)
   ·exact .inr (.inr (.inl rfl))
   ·exact .inr (.inr (.inr ⟨hx.1,by omega⟩))
   ·exact .inr (.inr (.inr ⟨by omega,hx.2⟩))
  exact step.frame fun x hx=>Qj (by rintro rfl;exact hR2h hx)
 ·rcases hx with hx|rfl|rfl|hx
  ·have:=k.bd x hx;omega
  ·omega
  ·omega
  ·exact hx.2
 ·rintro (hx|hx|hx|hx)
  ·exact k.nd hx
  ·exact k.a_d hx.symm
  ·exact k.nbd hx.symm
  ·omega
 ·have g1:BSl M' (fun x=>σ.length<=x/\x<(σ++τ).length) got g:=hg.frame fun x hx=>a4 x hx.2 fun h=>by have:=k.bd x h;omega
  have g2:BSl M' (fun x=>R x\/x=ha\/x=hb\/(σ.length<=x/\x<M'.length)) got g:=g1.mono fun x hx=>.inr (.inr (.inr ⟨hx.1,by omega⟩))
  exact g2.frame fun x hx=>Qj (by rintro rfl;exact hR2h hx)
 ·rw[Qj k.d_h.symm,a4 hd (by omega) k.nd,up hd hdl];exact k.out
 ·rw[Qj (by rintro rfl;exact hn ((hF _).2 (.inl rfl))),a4 x (by omega) (fun h=>hn ((hF _).2 (.inr (.inr (.inr (.inr h)))))),up x hx]
section
variable {s:St}{cs ad:List Tri}(hs:SuOk s cs ad)(hv:a7m s.ps s.bs cs ad=0){o:Po}(ho:o.ok){σ:List MO}{h:Nat}{F:Nat->Prop}{c:Ck}(K:a4x s o σ h F c)(hσ:Low σ)(hk:CkOk s.bs.length c)(n:Nat)
include hs hv ho K hσ hk
set_option maxHeartbeats 4000000 in
theorem b7X(hn:2000<=n):c5L s o σ h F (c.close s.ps o).1 (.tup [.bool (c.close s.ps o).2.1,.int .i64 (c.close s.ps o).2.2]) (a0b Tab n a4e [.ref h 0] σ):=by
 obtain⟨n,rfl⟩:∃k,n=k+4:=⟨n-4,by omega⟩;obtain⟨l1,l2,l3,l4,l5⟩:=SuOk.lens hv;have hr:=(b0L (b4L hv).1).2;have hN:=hk.out;have K0:=K;obtain⟨vcl,ha,hb,hd,R,k,hF⟩:=K;have hob:=k.obj;have r0:∀is bs vs k,a0a {i:=is,b:=bs,v:=vs,m:=σ,k:=k} false 4 (.obj h 0)=some [s.P,s.B,s.C,s.A]:=a0e hob 0 4 (by decide);have r01:∀is bs vs k,a0a {i:=is,b:=bs,v:=vs,m:=σ,k:=k} false 1 (.obj h 0)=some [s.P]:=a0e hob 0 1 (by decide);have r4:∀is bs vs k,a0a {i:=is,b:=bs,v:=vs,m:=σ,k:=k} false 4 (.obj h 4)=some [.int .i64 o.st,.int .i64 o.pc,.int .i64 o.un,.int .i64 o.ru]:=a0e hob 4 4 (by decide);have r6:∀is bs vs k,a0a {i:=is,b:=bs,v:=vs,m:=σ,k:=k} false 1 (.obj h 6)=some [.int .i64 o.un]:=a0e hob 6 1 (by decide);have r7:∀is bs vs k,a0a {i:=is,b:=bs,v:=vs,m:=σ,k:=k} false 1 (.obj h 7)=some [.int .i64 o.ru]:=a0e hob 7 1 (by decide);have r8:∀is bs vs k,a0a {i:=is,b:=bs,v:=vs,m:=σ,k:=k} false 1 (.obj h 8)=some [vcl]:=a0e hob 8 1 (by decide);have r9:∀is bs vs k,a0a {i:=is,b:=bs,v:=vs,m:=σ,k:=k} false 6 (.obj h 9)=some [.int .i64 c.p.a,.int .i64 c.p.b,.int .i64 c.p.c,.int .i64 c.p.d,.int .i64 c.p.e,.int .i64 c.p.f]:=a0e hob 9 6 (by decide);have r15:∀is bs vs k,a0a {i:=is,b:=bs,v:=vs,m:=σ,k:=k} false 1 (.obj h 15)=some [.msl ha 0 c.out.length c.out.length 6]:=a0e hob 15 1 (by decide);have r16:∀is bs vs k,a0a {i:=is,b:=bs,v:=vs,m:=σ,k:=k} false 1 (.obj h 16)=some [.msl hb 0 c.out.length c.out.length 1]:=a0e hob 16 1 (by decide);have r17:∀is bs vs k,a0a {i:=is,b:=bs,v:=vs,m:=σ,k:=k} false 1 (.obj h 17)=some [.msl hd 0 c.out.length c.out.length 1]:=a0e hob 17 1 (by decide);have r18:∀is bs vs k,a0a {i:=is,b:=bs,v:=vs,m:=σ,k:=k} false 1 (.obj h 18)=some [.bool c.over]:=a0e hob 18 1 (by decide)
 have go:∀r,(PT.ev (a0b Tab (n+3)) a2s {i:=[],b:=[],v:=[.ref h 0],m:=σ,k:=σ.length}).bind (fun x=>match x with|.ret r σ=>some (r,σ)|.jump q' ρ'=>Sys.loop (a0b Tab (n+3)) a1m (n+3) q' ρ')=some r->a0b Tab (n+4) a4e [.ref h 0] σ=some r:=fun r hr=>by
  rw[a0b];simp only[b5T,Q0,Sys.run];show ((a0f [.sh (.one _)] _).bind _)=_;simp only[a0f,a0g,a0c,Q1,Q0,Q8,if_true,b1B];exact hr
 cases hov:c.over with
 | true =>
  have hce:c.close s.ps o=(c,false,10):=by unfold Ck.close;rw[hov,if_pos rfl]
  rw[hce];refine⟨σ,F,go _ ?_,K0,Adv.refl hσ⟩;rw[hov] at r18;simp only[a2s,↓reduceIte,PT.ev,BE.safe,BE.pe,IE.pe,PEnv.at,Q3,Q5,Q7,Qe,a0p,a1k,QH,Qd,Qf,Nat.reduceAdd,Q2,a0c,a0l,a0g,Q1,Q0,PEnv.push,Q6,Q4,SV.pvs,SV.pv,a5o,a2S,a5v,a5l,Qg,r18,a0m,true_or]
 | false =>
 rw[hov] at r18;rw[c1J c s.ps o hov];obtain⟨_,_,p3⟩:=a0i hs.P;obtain⟨gk,gl⟩:=c7E (s:=s) (o:=o) hk
 have hsp:(a1J s.ps).ok:=by
  have:=c4H hr;simp only[W6.wide] at this;simp only[W6.ok]
  have hw:∀i:Nat,0<=((s.ps.map Pr.s)[i]?).getD 0/\((s.ps.map Pr.s)[i]?).getD 0<=4:=fun i=>by
   rw[QN];cases hx:s.ps[i]? with
   | none=>simp
   | some x=>have:=hr x (Qv hx);simp only[Pr.rng] at this;simp;omega
  have a0:=hw 0;have a1:=hw 1;have a2:=hw 2;have a3:=hw 3;have a4:=hw 4;have a5:=hw 5;exact⟨a0.1,a0.2,a1.1,a1.2,a2.1,a2.2,a3.1,a3.2,a4.1,a4.2,a5.1,a5.2⟩
 have c1:=b3f σ s.ps s.P hs.P l1 (n+3) (by omega);have hask:BSl σ (fun x=>x=ha) (.msl ha 0 c.out.length c.out.length 6) c.ask:=.inl ⟨ha,rfl,by rw[k.la],k.ask⟩;have c2:=a2j hask.cp (by rw[hk.la];omega) (n+3) (by omega);rw[k.la] at c2;simp only[a5s,a2z,pv6] at c1 c2;have hc:=k.cl.rd;have hlowA:Low (σ++[.cells (c.ask.map W6.pv).flatten 38]):=Low.app hσ (a6i _ _ _);have hobA:(σ++[.cells (c.ask.map W6.pv).flatten 38])[h]?=some (ckO s o vcl (.msl ha 0 c.out.length c.out.length 6) (.msl hb 0 c.out.length c.out.length 1) (.msl hd 0 c.out.length c.out.length 1) c.p c.over):=a1D hob;rw[hov] at hobA;have u0:∀is bs vs k,a0a {i:=is,b:=bs,v:=vs,m:=σ++[.cells (c.ask.map W6.pv).flatten 38],k:=k} false 4 (.obj h 0)=some [s.P,s.B,s.C,s.A]:=a0e hobA 0 4 (by decide);have u01:∀is bs vs k,a0a {i:=is,b:=bs,v:=vs,m:=σ++[.cells (c.ask.map W6.pv).flatten 38],k:=k} false 1 (.obj h 0)=some [s.P]:=a0e hobA 0 1 (by decide);have u4:∀is bs vs k,a0a {i:=is,b:=bs,v:=vs,m:=σ++[.cells (c.ask.map W6.pv).flatten 38],k:=k} false 4 (.obj h 4)=some [.int .i64 o.st,.int .i64 o.pc,.int .i64 o.un,.int .i64 o.ru]:=a0e hobA 4 4 (by decide);have u6:∀is bs vs k,a0a {i:=is,b:=bs,v:=vs,m:=σ++[.cells (c.ask.map W6.pv).flatten 38],k:=k} false 1 (.obj h 6)=some [.int .i64 o.un]:=a0e hobA 6 1 (by decide);have u7:∀is bs vs k,a0a {i:=is,b:=bs,v:=vs,m:=σ++[.cells (c.ask.map W6.pv).flatten 38],k:=k} false 1 (.obj h 7)=some [.int .i64 o.ru]:=a0e hobA 7 1 (by decide);have u8:∀is bs vs k,a0a {i:=is,b:=bs,v:=vs,m:=σ++[.cells (c.ask.map W6.pv).flatten 38],k:=k} false 1 (.obj h 8)=some [vcl]:=a0e hobA 8 1 (by decide);have u9:∀is bs vs k,a0a {i:=is,b:=bs,v:=vs,m:=σ++[.cells (c.ask.map W6.pv).flatten 38],k:=k} false 6 (.obj h 9)=some [.int .i64 c.p.a,.int .i64 c.p.b,.int .i64 c.p.c,.int .i64 c.p.d,.int .i64 c.p.e,.int .i64 c.p.f]:=a0e hobA 9 6 (by decide);have u15:∀is bs vs k,a0a {i:=is,b:=bs,v:=vs,m:=σ++[.cells (c.ask.map W6.pv).flatten 38],k:=k} false 1 (.obj h 15)=some [.msl ha 0 c.out.length c.out.length 6]:=a0e hobA 15 1 (by decide);have u16:∀is bs vs k,a0a {i:=is,b:=bs,v:=vs,m:=σ++[.cells (c.ask.map W6.pv).flatten 38],k:=k} false 1 (.obj h 16)=some [.msl hb 0 c.out.length c.out.length 1]:=a0e hobA 16 1 (by decide);have u17:∀is bs vs k,a0a {i:=is,b:=bs,v:=vs,m:=σ++[.cells (c.ask.map W6.pv).flatten 38],k:=k} false 1 (.obj h 17)=some [.msl hd 0 c.out.length c.out.length 1]:=a0e hobA 17 1 (by decide);have u18:∀is bs vs k,a0a {i:=is,b:=bs,v:=vs,m:=σ++[.cells (c.ask.map W6.pv).flatten 38],k:=k} false 1 (.obj h 18)=some [.bool false]:=a0e hobA 18 1 (by decide)
 have fin:∀(τ:List MO) (hM:Low (σ++τ)) {got:PV} (hg:BSl (σ++τ) (fun x=>σ.length<=x/\x<(σ++τ).length) got (c.gots s.ps o)),
   ∃vcl' M',(∀(Φ:Fns) (k:PT) (is:List Int) (bs:List Bool) (vs:List PV) (K nv ns:Nat),vs[nv]?=some vcl->vs[ns]?=some (.sl 9 [[.int .i64 c.p.a,.int .i64 c.p.b,.int .i64 c.p.c,.int .i64 c.p.d,.int .i64 c.p.e,.int .i64 c.p.f,.msl ha 0 c.out.length c.out.length 6,got,.msl hb 0 c.out.length c.out.length 1]])->(PT.appM (.va nv) (.va ns) 9 54 k).ev Φ {i:=is,b:=bs,v:=vs,m:=σ++τ,k:=K}=k.ev Φ {i:=is,b:=bs,v:=vs++[vcl'],m:=M',k:=K})/\vcl'.one=true /\
    M'[h]?=some (.cells (ckL s o vcl (.msl ha 0 c.out.length c.out.length 6) (.msl hb 0 c.out.length c.out.length 1) (.msl hd 0 c.out.length c.out.length 1) c.p false) 81) /\
    ∀fuel res,(∀x,a1m.loop (a0b Tab (n+3)) (fuel+2) 1 (b7M σ.length (M'.set h (.cells (ckL s o vcl' (.msl ha 0 c.out.length c.out.length 6) (.msl hb 0 c.out.length c.out.length 1) (.msl hd 0 c.out.length c.out.length 1) c.p false) 81)) (a1J s.ps) h got)=some x->res=some x) ->
     c5L s o σ h F (c.closeTo o (c.ex s.ps o) (c.cl++[⟨c.p,c.ask,c.gots s.ps o,c.bid⟩])).1 (.tup [.bool (c.closeTo o (c.ex s.ps o) (c.cl++[⟨c.p,c.ask,c.gots s.ps o,c.bid⟩])).2.1,.int .i64 (c.closeTo o (c.ex s.ps o) (c.cl++[⟨c.p,c.ask,c.gots s.ps o,c.bid⟩])).2.2]) res:=by
  intro τ hM got hg;obtain⟨vcl',M',a1,a2,⟨b1,b2,b3,b4,b5,b6,b7,b8,b9⟩,a3,a4⟩:=c9q (F:=F) k hF (by have:=hk.cl;omega) τ hM hg hov;refine⟨vcl',M',a1,a3,a2,fun fuel res hres=>?_⟩;obtain⟨M2,e1,e2,e3,e4,e5⟩:=c8v ho (h:=h) (hd:=hd) (c:=c) hk.p (n+3) σ.length (QL a4) b1 b2 b3 b4 b5 k.d_h b6 gk (by rw[gl];exact l3) b7 (by omega) (hsp.sm.mono (by decide)) (by omega) fuel;refine⟨M2,_,hres _ e1,⟨vcl',_,_,hd,_,e2,fun x=>Iff.rfl⟩,?_⟩;refine⟨by omega,fun x hx hn=>?_,fun x hx=>?_,e3⟩
  ·rw[e5 x (by omega) (by rintro rfl;exact hn ((hF _).2 (.inl rfl))),b9 x hx hn]
  ·rcases hx with rfl|rfl|rfl|rfl|hx
   ·exact .inl ((hF _).2 (.inl rfl))
   ·exact .inr b8
   ·exact .inr (by omega)
   ·exact .inl ((hF _).2 (.inr (.inr (.inr (.inl rfl)))))
   ·rcases hx with hx|rfl|rfl|hx
    ·exact .inl ((hF _).2 (.inr (.inr (.inr (.inr hx)))))
    ·exact .inl ((hF _).2 (.inr (.inl rfl)))
    ·exact .inl ((hF _).2 (.inr (.inr (.inl rfl))))
    ·exact .inr hx.1
 have t1:(0:Nat)+1<=1000000:=by decide
 by_cases hcl:c.cl=[]
 ·
  have hz:ltB 0 (c.cl.length:Int)=false:=by rw[hcl];rfl
  have hgo:c.gots s.ps o=c.ask:=by unfold Ck.gots;rw[if_pos hcl]
  obtain⟨vcl',M',a1,a3,a2,a4⟩:=fin [.cells (c.ask.map W6.pv).flatten 38] hlowA (got:=.msl σ.length 0 c.out.length c.out.length 6) (by rw[hgo];exact .inl ⟨σ.length,⟨Qn _,by simp⟩,by rw[k.la],by simp⟩);refine a4 (n+1) _ fun x hx=>go x ?_
  have E:PT.ev (a0b Tab (n+3)) a2s {i:=[],b:=[],v:=[.ref h 0],m:=σ,k:=σ.length}=some (.jump 1 (b7M σ.length (M'.set h (.cells (ckL s o vcl' (.msl ha 0 c.out.length c.out.length 6) (.msl hb 0 c.out.length c.out.length 1) (.msl hd 0 c.out.length c.out.length 1) c.p false) 81)) (a1J s.ps) h (.msl σ.length 0 c.out.length c.out.length 6))):=by
   simp only[a2s,↓reduceIte,a0j,a0d,a0h,a0u,a0n,BE.safe,BE.pe,IE.pe,PEnv.at,Q3,Q5,Q7,Qe,a0p,a1k,QH,Qd,Qf,Nat.reduceAdd,Q2,a0c,a0l,a0g,Q1,Q0,PEnv.push,Q6,Q4,Q8,SV.pvs,SV.pv,a5o,a2S,a5v,a5l,Qg,r18,r01,p3,c1,r15,a7L,c2,u8,hc.one,hc.kind,hc.len,hz,u9,u15,u16]
   repeat' (first|with_reducible rfl|apply a3d|simp only[↓reduceIte,a0h,a0u,a7z,a1P,a0k,BE.safe,BE.pe,IE.pe,PEnv.at,Q3,Q5,Q7,Qe,a0p,a1k,Qd,Qf,Nat.reduceAdd,a0c,Q1,Q0,PEnv.push,Q6,Q4,SV.pvs,SV.pv,BE.all,Qa,Qb,a0W,Xh,Xj,Xk,Xn,a2S,Qg,u8,hc.one,a1,a2,a6N,Nat.reduceLeDiff,c2x,b7M,]|unfold a6s|unfold a6x|unfold a6b|unfold a6m|unfold a6n|unfold a6p|unfold a6o|unfold a6e|unfold a6v|unfold a5H)
  rw[E];exact hx
 ·
  have hpos:0<c.cl.length:=Xp.2 hcl;have hz:ltB 0 (c.cl.length:Int)=true:=by rw[a0Q];omega
  have hgo:c.gots s.ps o=apW o.un (a1J s.ps) c.prev c.ask:=by unfold Ck.gots;rw[if_neg hcl]
  have hlA:(σ++[MO.cells (c.ask.map W6.pv).flatten 38]).length=σ.length+1:=by simp
  have c3:=c6y k (n+3) (by omega) (by have:=hk.cl;omega) hcl (fun r hr=>by rw[(hk.rn r hr).2.2.1,hN]) [.cells (c.ask.map W6.pv).flatten 38] (by omega);rw[hlA] at c3;obtain⟨r,hrr⟩:=a0U (show c.cl.length-1<c.cl.length by omega);have hlast:c.cl.getLast?=some r:=by rw[Xq];exact hrr
  obtain⟨y1,y2,y3,y4,y5,y6⟩:=hk.rn r (Qv hrr)
  have hpv:c.prev=prN r.got c.out c.out.length:=by
   rw[c1P c (by rw[hlast];simp only[Q1,Xr];rw[y3,hk.out];exact Qn _),hlast];rfl
  have hpl:c.prev.length=c.out.length:=by rw[hpv,b6A,y3,hN]
  have hpo:∀w∈c.prev,w.ok:=by rw[hpv];exact d0j y6
  have hpg:(pvM σ [.cells (c.ask.map W6.pv).flatten 38] c.prev)[σ.length+1]?=some (.cells (c.prev.map W6.pv).flatten 38):=by simp[pvM]
  have hpvl:(pvM σ [.cells (c.ask.map W6.pv).flatten 38] c.prev).length=σ.length+2:=by simp[pvM]
  have hal:=(Qm.1 k.ask).1;have hask2:BSl (pvM σ [.cells (c.ask.map W6.pv).flatten 38] c.prev) (fun x=>x=ha) (.msl ha 0 c.out.length c.out.length 6) c.ask:=.inl ⟨ha,rfl,by rw[k.la],a1D (a1D k.ask)⟩;have c4:=c8g (pvM σ [.cells (c.ask.map W6.pv).flatten 38] c.prev) (n+3) o.un (a1J s.ps) (σ.length+1) _ (.msl ha 0 c.out.length c.out.length 6) c.prev c.ask hpg (by unfold Po.ok at ho;omega) hsp hask2 (by rw[k.la,hpl]) (by rw[hpl,hN];exact l2) (by rw[hpl,hN];exact l3) hk.ok hpo (by omega);rw[hpl,hpvl,<- hgo] at c4;have hM3:aoM (pvM σ [.cells (c.ask.map W6.pv).flatten 38] c.prev) (c.gots s.ps o)=σ++[.cells (c.ask.map W6.pv).flatten 38,.cells (c.prev.map W6.pv).flatten 38,.row ((c.gots s.ps o).map W6.pv) 6 38]:=by simp[aoM,pvM]
  rw[hM3] at c4;simp only[a9M,b2T,pv6] at c3 c4;have hobB:(pvM σ [.cells (c.ask.map W6.pv).flatten 38] c.prev)[h]?=some (ckO s o vcl (.msl ha 0 c.out.length c.out.length 6) (.msl hb 0 c.out.length c.out.length 1) (.msl hd 0 c.out.length c.out.length 1) c.p false):=a1D hobA;have hobC:(σ++[.cells (c.ask.map W6.pv).flatten 38,.cells (c.prev.map W6.pv).flatten 38,.row ((c.gots s.ps o).map W6.pv) 6 38])[h]?=some (ckO s o vcl (.msl ha 0 c.out.length c.out.length 6) (.msl hb 0 c.out.length c.out.length 1) (.msl hd 0 c.out.length c.out.length 1) c.p false):=by rw[<- hov];exact a1D hob
  have hlowC:Low (σ++[.cells (c.ask.map W6.pv).flatten 38,.cells (c.prev.map W6.pv).flatten 38,.row ((c.gots s.ps o).map W6.pv) 6 38]):=by
   rw[<- hM3];exact Low.app (Low.app hlowA (a6i _ _ _)) (d0F _ _ _)
  obtain⟨vcl',M',a1,a3,a2,a4⟩:=fin [.cells (c.ask.map W6.pv).flatten 38,.cells (c.prev.map W6.pv).flatten 38,.row ((c.gots s.ps o).map W6.pv) 6 38] hlowC (got:=.rsl (σ.length+2) c.out.length 6) (.inr ⟨σ.length+2,⟨by omega,by simp⟩,by rw[gl,hN],by simp⟩);have w0:∀is bs vs k,a0a {i:=is,b:=bs,v:=vs,m:=pvM σ [.cells (c.ask.map W6.pv).flatten 38] c.prev,k:=k} false 4 (.obj h 0)=some [s.P,s.B,s.C,s.A]:=a0e hobB 0 4 (by decide);have w01:∀is bs vs k,a0a {i:=is,b:=bs,v:=vs,m:=pvM σ [.cells (c.ask.map W6.pv).flatten 38] c.prev,k:=k} false 1 (.obj h 0)=some [s.P]:=a0e hobB 0 1 (by decide);have w4:∀is bs vs k,a0a {i:=is,b:=bs,v:=vs,m:=pvM σ [.cells (c.ask.map W6.pv).flatten 38] c.prev,k:=k} false 4 (.obj h 4)=some [.int .i64 o.st,.int .i64 o.pc,.int .i64 o.un,.int .i64 o.ru]:=a0e hobB 4 4 (by decide);have w6:∀is bs vs k,a0a {i:=is,b:=bs,v:=vs,m:=pvM σ [.cells (c.ask.map W6.pv).flatten 38] c.prev,k:=k} false 1 (.obj h 6)=some [.int .i64 o.un]:=a0e hobB 6 1 (by decide);have w7:∀is bs vs k,a0a {i:=is,b:=bs,v:=vs,m:=pvM σ [.cells (c.ask.map W6.pv).flatten 38] c.prev,k:=k} false 1 (.obj h 7)=some [.int .i64 o.ru]:=a0e hobB 7 1 (by decide);have w8:∀is bs vs k,a0a {i:=is,b:=bs,v:=vs,m:=pvM σ [.cells (c.ask.map W6.pv).flatten 38] c.prev,k:=k} false 1 (.obj h 8)=some [vcl]:=a0e hobB 8 1 (by decide);have w9:∀is bs vs k,a0a {i:=is,b:=bs,v:=vs,m:=pvM σ [.cells (c.ask.map W6.pv).flatten 38] c.prev,k:=k} false 6 (.obj h 9)=some [.int .i64 c.p.a,.int .i64 c.p.b,.int .i64 c.p.c,.int .i64 c.p.d,.int .i64 c.p.e,.int .i64 c.p.f]:=a0e hobB 9 6 (by decide);have w15:∀is bs vs k,a0a {i:=is,b:=bs,v:=vs,m:=pvM σ [.cells (c.ask.map W6.pv).flatten 38] c.prev,k:=k} false 1 (.obj h 15)=some [.msl ha 0 c.out.length c.out.length 6]:=a0e hobB 15 1 (by decide);have w16:∀is bs vs k,a0a {i:=is,b:=bs,v:=vs,m:=pvM σ [.cells (c.ask.map W6.pv).flatten 38] c.prev,k:=k} false 1 (.obj h 16)=some [.msl hb 0 c.out.length c.out.length 1]:=a0e hobB 16 1 (by decide);have w17:∀is bs vs k,a0a {i:=is,b:=bs,v:=vs,m:=pvM σ [.cells (c.ask.map W6.pv).flatten 38] c.prev,k:=k} false 1 (.obj h 17)=some [.msl hd 0 c.out.length c.out.length 1]:=a0e hobB 17 1 (by decide);have w18:∀is bs vs k,a0a {i:=is,b:=bs,v:=vs,m:=pvM σ [.cells (c.ask.map W6.pv).flatten 38] c.prev,k:=k} false 1 (.obj h 18)=some [.bool false]:=a0e hobB 18 1 (by decide);have z0:∀is bs vs k,a0a {i:=is,b:=bs,v:=vs,m:=σ++[.cells (c.ask.map W6.pv).flatten 38,.cells (c.prev.map W6.pv).flatten 38,.row ((c.gots s.ps o).map W6.pv) 6 38],k:=k} false 4 (.obj h 0)=some [s.P,s.B,s.C,s.A]:=a0e hobC 0 4 (by decide);have z01:∀is bs vs k,a0a {i:=is,b:=bs,v:=vs,m:=σ++[.cells (c.ask.map W6.pv).flatten 38,.cells (c.prev.map W6.pv).flatten 38,.row ((c.gots s.ps o).map W6.pv) 6 38],k:=k} false 1 (.obj h 0)=some [s.P]:=a0e hobC 0 1 (by decide);have z4:∀is bs vs k,a0a {i:=is,b:=bs,v:=vs,m:=σ++[.cells (c.ask.map W6.pv).flatten 38,.cells (c.prev.map W6.pv).flatten 38,.row ((c.gots s.ps o).map W6.pv) 6 38],k:=k} false 4 (.obj h 4)=some [.int .i64 o.st,.int .i64 o.pc,.int .i64 o.un,.int .i64 o.ru]:=a0e hobC 4 4 (by decide);have z6:∀is bs vs k,a0a {i:=is,b:=bs,v:=vs,m:=σ++[.cells (c.ask.map W6.pv).flatten 38,.cells (c.prev.map W6.pv).flatten 38,.row ((c.gots s.ps o).map W6.pv) 6 38],k:=k} false 1 (.obj h 6)=some [.int .i64 o.un]:=a0e hobC 6 1 (by decide);have z7:∀is bs vs k,a0a {i:=is,b:=bs,v:=vs,m:=σ++[.cells (c.ask.map W6.pv).flatten 38,.cells (c.prev.map W6.pv).flatten 38,.row ((c.gots s.ps o).map W6.pv) 6 38],k:=k} false 1 (.obj h 7)=some [.int .i64 o.ru]:=a0e hobC 7 1 (by decide);have z8:∀is bs vs k,a0a {i:=is,b:=bs,v:=vs,m:=σ++[.cells (c.ask.map W6.pv).flatten 38,.cells (c.prev.map W6.pv).flatten 38,.row ((c.gots s.ps o).map W6.pv) 6 38],k:=k} false 1 (.obj h 8)=some [vcl]:=a0e hobC 8 1 (by decide);have z9:∀is bs vs k,a0a {i:=is,b:=bs,v:=vs,m:=σ++[.cells (c.ask.map W6.pv).flatten 38,.cells (c.prev.map W6.pv).flatten 38,.row ((c.gots s.ps o).map W6.pv) 6 38],k:=k} false 6 (.obj h 9)=some [.int .i64 c.p.a,.int .i64 c.p.b,.int .i64 c.p.c,.int .i64 c.p.d,.int .i64 c.p.e,.int .i64 c.p.f]:=a0e hobC 9 6 (by decide);have z15:∀is bs vs k,a0a {i:=is,b:=bs,v:=vs,m:=σ++[.cells (c.ask.map W6.pv).flatten 38,.cells (c.prev.map W6.pv).flatten 38,.row ((c.gots s.ps o).map W6.pv) 6 38],k:=k} false 1 (.obj h 15)=some [.msl ha 0 c.out.length c.out.length 6]:=a0e hobC 15 1 (by decide);have z16:∀is bs vs k,a0a {i:=is,b:=bs,v:=vs,m:=σ++[.cells (c.ask.map W6.pv).flatten 38,.cells (c.prev.map W6.pv).flatten 38,.row ((c.gots s.ps o).map W6.pv) 6 38],k:=k} false 1 (.obj h 16)=some [.msl hb 0 c.out.length c.out.length 1]:=a0e hobC 16 1 (by decide);have z17:∀is bs vs k,a0a {i:=is,b:=bs,v:=vs,m:=σ++[.cells (c.ask.map W6.pv).flatten 38,.cells (c.prev.map W6.pv).flatten 38,.row ((c.gots s.ps o).map W6.pv) 6 38],k:=k} false 1 (.obj h 17)=some [.msl hd 0 c.out.length c.out.length 1]:=a0e hobC 17 1 (by decide);have z18:∀is bs vs k,a0a {i:=is,b:=bs,v:=vs,m:=σ++[.cells (c.ask.map W6.pv).flatten 38,.cells (c.prev.map W6.pv).flatten 38,.row ((c.gots s.ps o).map W6.pv) 6 38],k:=k} false 1 (.obj h 18)=some [.bool false]:=a0e hobC 18 1 (by decide);generalize (σ++[MO.cells (c.ask.map W6.pv).flatten 38,MO.cells (c.prev.map W6.pv).flatten 38,MO.row ((c.gots s.ps o).map W6.pv) 6 38])=M3 at *
  have oR:PV.one (.rsl (σ.length+2) c.out.length 6)=true:=rfl;refine a4 n _ fun x hx=>go x ?_
  have E:PT.ev (a0b Tab (n+3)) a2s {i:=[],b:=[],v:=[.ref h 0],m:=σ,k:=σ.length}=some (.jump 0 {i:=[0,(a1J s.ps).a,(a1J s.ps).b,(a1J s.ps).c,(a1J s.ps).d,(a1J s.ps).e,(a1J s.ps).f],b:=[],v:=[.ref h 0,.rsl (σ.length+2) c.out.length 6],m:=M3,k:=σ.length}):=by
   simp only[a2s,↓reduceIte,a0j,a0d,a0h,a0u,a0n,BE.safe,BE.pe,IE.pe,PEnv.at,Q3,Q5,Q7,Qe,a0p,a1k,QH,Qd,Qf,Nat.reduceAdd,Q2,a0c,a0l,a0g,Q1,Q0,PEnv.push,Q6,Q4,Q8,SV.pvs,SV.pv,a5o,a2S,a5v,a5l,Qg,r18,r01,p3,c1,r15,a7L,c2,u8,hc.one,hc.kind,hc.len,hz]
   repeat' (first|with_reducible rfl|apply a3d|simp only[↓reduceIte,a0u,a0n,a0k,IE.pe,Q3,Q5,Q7,Qe,a0p,a1k,Qd,Qf,a0c,a0l,a0g,Q1,Q0,PEnv.push,Q6,Q4,Q8,SV.pvs,SV.pv,BE.all,Qa,Qb,Qg,u6,u15,w6,w15,c3,a7L,c4,a1h,oR]|unfold a6s|unfold a6x|unfold a6b|unfold a6m|unfold a6n|unfold a6p|unfold a6o|unfold a6e|unfold a6v|unfold a5H)
  have E2:PT.ev (a0b Tab (n+3)) a4Y {i:=[0,(a1J s.ps).a,(a1J s.ps).b,(a1J s.ps).c,(a1J s.ps).d,(a1J s.ps).e,(a1J s.ps).f],b:=[],v:=[.ref h 0,.rsl (σ.length+2) c.out.length 6],m:=M3,k:=σ.length}=some (.jump 1 (b7M σ.length (M'.set h (.cells (ckL s o vcl' (.msl ha 0 c.out.length c.out.length 6) (.msl hb 0 c.out.length c.out.length 1) (.msl hd 0 c.out.length c.out.length 1) c.p false) 81)) (a1J s.ps) h (.rsl (σ.length+2) c.out.length 6))):=by
   have e0:eqB 0 0=true:=rfl;simp only[a4Y,↓reduceIte,a0d,a0h,a0u,BE.safe,BE.pe,IE.pe,PEnv.at,Q3,Q7,a0p,a1k,Qd,Qf,Nat.reduceAdd,Q2,a0c,Q1,Q0,PEnv.push,Q6,Q4,Q8,Qk,e0,a2S,Qg,z9,z15,z16,a7L]
   repeat' (first|with_reducible rfl|apply a3d|simp only[↓reduceIte,a0h,a0u,a7z,a1P,a0k,BE.safe,BE.pe,IE.pe,PEnv.at,Q3,Q5,Q7,Qe,a0p,a1k,Qd,Qf,Nat.reduceAdd,a0c,Q1,Q0,PEnv.push,Q6,Q4,SV.pvs,SV.pv,BE.all,Qa,Qb,a0W,Xh,Xj,Xk,Xn,a2S,Qg,z8,hc.one,a1,a2,a6N,Nat.reduceLeDiff,c2x,b7M,]|unfold a9l|unfold a9t)
  rw[E,Q0];dsimp only;rw[Sys.loop,show a1m.loops[0]?=some a4Y from rfl,Q0,E2];exact hx
end
theorem d3O{l:List W6}(h:∀w∈l,w.ok){i:Nat}{x:W6}(hx:x.ok):∀w∈l.set i x,w.ok:=fun w hw=>by
 rcases QP hw with hw|rfl
 ·exact h w hw
 ·exact hx
theorem c5E(N:Nat):∀w∈Qh N w0,w.ok:=fun w hw=>by rw[(List.mem_replicate.1 hw).2];exact d2k
theorem d3V{ps:List Pr}(hr:∀x∈ps,x.rng)(N:Nat):CkOk N (ck0 ps N) :=
 ⟨by simp[ck0],by simp[ck0],by simp[ck0],c5E N,d2c hr,fun r hr=>by simp[ck0] at hr,by simp[ck0],fun _=>by simp[ck0]⟩
section
variable {N:Nat}{c:Ck}(hk:CkOk N c)
include hk
theorem e1a:CkOk N c.stop.1:=by
 unfold Ck.stop;split
 ·exact hk
 ·exact⟨hk.out,by simp[Ck.blank,hk.out],by simp[Ck.blank,hk.out],c5E _,hk.p,hk.rn,hk.cl,fun h=>by simp at h⟩
theorem e0R(i:Int):CkOk N (c.drop i).1:=by
 unfold Ck.drop;split
 ·split
  ·exact hk
  ·exact⟨by rw[Qp];exact hk.out,by rw[Qp];exact hk.la,by rw[Qp];exact hk.lb,d3O hk.ok d2k,hk.p,hk.rn,hk.cl,hk.ov⟩
 ·exact hk
theorem e0O(r:Int):CkOk N (c.reset r).1:=by
 unfold Ck.reset;split
 ·exact hk
 split
 ·exact hk
 split
 ·exact hk
 rename_i h1 h2 h3;refine⟨hk.out,by simp[Ck.blank,hk.out],by simp[Ck.blank,hk.out],c5E _,?_,fun q hq=>hk.rn q (X1 hq),?_,fun _=>?_⟩
 ·show (((c.cl[r.toNat]?).map Rn.p).getD c.p).pok
  cases hr:c.cl[r.toNat]? with
  | none=>exact hk.p
  | some q=>exact(hk.rn q (Qv hr)).1
 ·show (c.cl.take r.toNat).length<=30
  rw[QS];have:=hk.cl;omega
 ·show (c.cl.take r.toNat).length<=29
  rw[QS];have:=hk.cl;by_cases h:r.toNat<c.cl.length
  ·omega
  ·have hov:c.over=false:=by
    cases hh:c.over with
    | false=>rfl
    | true=>exact absurd ⟨by omega,hh⟩ h3
   have:=hk.ov hov;omega
theorem c9P{s:St}(hN:s.bs.length=N)(cs ad:List Tri)(o:Po)(i:Int)(w:W6):CkOk N (c.doBid s.ps s.bs cs ad o s i w).1:=by
 unfold Ck.doBid;split
 ·rename_i h
  have hw:w.ok:=by
   unfold b5e at h;split at h
   ·cases h
   split at h
   ·split at h
    ·cases h
    split at h
    ·rename_i ha
     exact(d0k ha).2.2
    ·rename_i ha
     exact absurd h ha
   ·cases h
  exact⟨hk.out,by rw[Qp];exact hk.la,by rw[Qp];exact hk.lb,d3O hk.ok hw,hk.p,hk.rn,hk.cl,hk.ov⟩
 ·exact hk
theorem c1F{s:St}{o:Po}:CkOk N (c.close s.ps o).1:=by
 cases hov:c.over with
 | true=>unfold Ck.close;rw[hov,if_pos rfl];exact hk
 | false =>
  rw[c1J c s.ps o hov];obtain⟨gk,gl⟩:=c7E (s:=s) (o:=o) hk;have h29:=hk.ov hov
  have hrn:∀r∈c.cl++[⟨c.p,c.ask,c.gots s.ps o,c.bid⟩],r.p.pok/\r.ask.length=N/\r.got.length=N/\r.bid.length=N/\(∀w∈r.ask,w.ok)/\∀w∈r.got,w.ok:=fun r hr=>by
   rcases XK.1 hr with hr|hr
   ·exact hk.rn r hr
   ·rw[List.mem_singleton.1 hr]
    exact⟨hk.p,hk.la,gl,hk.lb,hk.ok,gk⟩
  unfold Ck.closeTo;split
  ·exact⟨hk.out,by simp[Ck.blank,hk.out],by simp[Ck.blank,hk.out],c5E _,hk.p,hrn,by simp;omega,fun h=>by simp at h⟩
  ·rename_i h
   simp only[Bool.or_eq_true,not_or,Xf,b0K,Bool.not_eq_eq_eq_not,Qk,decide_eq_false_iff_not,Decidable.not_not] at h;refine⟨hk.out,by simp[Ck.blank,hk.out],by simp[Ck.blank,hk.out],c5E _,?_,hrn,by simp;omega,fun _=>?_⟩
   ·have:=h.2.2
    simpa using this
   ·have:=h.2.1
    simp only[Qw,QK] at this ⊢;omega
end
section
variable {s:St}{cs ad:List Tri}(hs:SuOk s cs ad)(hv:a7m s.ps s.bs cs ad=0){o:Po}{σ:List MO}{h:Nat}{F:Nat->Prop}{c:Ck}(K:a4x s o σ h F c)(hσ:Low σ)(hN:c.out.length<=1000)
 (hl:∀r∈c.cl,r.ask.length<=1000/\r.got.length<=1000/\r.bid.length<=1000) (hcl:c.cl.length<=1000) (n:Nat)
include hs hv K hσ hN hl hcl
end
structure Stp where
 (k i r:Int) (w:W6)
def Stp.row(q:Stp):List PV:=[.int .i64 q.k,.int .i64 q.i,.int .i64 q.r,.int .i64 q.w.a,.int .i64 q.w.b,.int .i64 q.w.c,.int .i64 q.w.d,.int .i64 q.w.e,.int .i64 q.w.f]
section
variable (cs ad:List Tri)(o:Po)(s:St)
noncomputable def Ck.step(c:Ck)(q:Stp):Ck×Bool×Int :=
 if q.k=0 then((c.doBid s.ps s.bs cs ad o s q.i q.w).1,false,(c.doBid s.ps s.bs cs ad o s q.i q.w).2) else
 if q.k=1 then c.close s.ps o else
 if q.k=2 then(c.stop.1,false,c.stop.2) else
 if q.k=3 then((c.drop q.i).1,false,(c.drop q.i).2) else((c.reset q.r).1,false,(c.reset q.r).2)
variable {cs ad o s}
theorem e0w{c:Ck}(hk:CkOk s.bs.length c)(q:Stp):CkOk s.bs.length (c.step cs ad o s q).1:=by
 unfold Ck.step
 repeat' split
 ·exact c9P hk rfl cs ad o q.i q.w
 ·exact c1F hk
 ·exact e1a hk
 ·exact e0R hk q.i
 ·exact e0O hk q.r
section
variable (hs:SuOk s cs ad)(hv:a7m s.ps s.bs cs ad=0)(ho:o.ok){σ:List MO}{h:Nat}{F:Nat->Prop}{c:Ck}(K:a4x s o σ h F c)(hσ:Low σ)(hk:CkOk s.bs.length c)(n:Nat)
include hs hv ho K hσ hk
theorem e1d(q:Stp)(hn:33000<=n):c5L s o σ h F (c.step cs ad o s q).1 (.tup [.bool (c.step cs ad o s q).2.1,.int .i64 (c.step cs ad o s q).2.2]) (a0b Tab n d9p [.ref h 0,.agg q.row] σ):=by
 obtain⟨n,rfl⟩:∃k,n=k+1:=⟨n-1,by omega⟩;obtain⟨l1,l2,l3,l4,l5⟩:=SuOk.lens hv;have hN:c.out.length<=1000:=by rw[hk.out];omega
 have hcl:c.cl.length<=100:=by have:=hk.cl;omega
 have e5:∀a b:Int,eqB a b=decide (a=b):=fun _ _=>rfl
 have go:∀r,PT.ev (a0b Tab n) d8U {i:=[q.k,q.i,q.r,q.w.a,q.w.b,q.w.c,q.w.d,q.w.e,q.w.f],b:=[],v:=[.ref h 0],m:=σ,k:=σ.length}=some (.ret r.1 r.2)->a0b Tab (n+1) d9p [.ref h 0,.agg q.row] σ=some r:=fun r hr=>by
  rw[a0b];simp only[d9Q,Q0,Sys.run,Stp.row];show ((a0f [.sh (.one _),.sh (.agg [_,_,_,_,_,_,_,_,_])] _).bind _)=_;simp only[a0f,a0g,a0c,Q1,Q0,Q8,Q4,if_true,b1B];show ((PT.ev (a0b Tab n) d8U _).bind _)=_;exact(congrArg (Xg · _) hr).trans rfl
 unfold Ck.step;by_cases h0:q.k=0
 ·obtain⟨σ',F',e1,e2⟩:=c6q hs hv ho K hσ hk n q.i q.w (by omega)
  simp only[if_pos h0];refine⟨σ',F',go (_,_) ?_,e2⟩;simp only[a2U,pv6] at e1;simp only[d8U,↓reduceIte,a0j,a0d,a0n,BE.safe,BE.pe,IE.pe,Q3,Q5,Q7,a0c,a0l,a0g,Q1,Q0,PEnv.push,Q6,Q4,SV.pvs,SV.pv,e5,dT0 h0,e1,a0m,true_or]
 simp only[if_neg h0];by_cases h1:q.k=1
 ·obtain⟨σ',F',e1,e2⟩:=b7X hs hv ho K hσ hk n (by omega)
  simp only[if_pos h1];refine⟨σ',F',go (_,_) ?_,e2⟩;simp only[a4e] at e1;simp only[d8U,↓reduceIte,a0j,a0d,a0n,BE.safe,BE.pe,IE.pe,Q3,Q5,Q7,Q2,a0c,a0l,a0g,Q1,Q0,PEnv.push,Q6,Q4,Q8,SV.pvs,SV.pv,e5,dF0 h0,dT0 h1,e1,a1h,a0m,true_or]
 simp only[if_neg h1];by_cases h2:q.k=2
 ·obtain⟨σ',F',e1,e2⟩:=e0U K hσ hN n (by omega)
  simp only[if_pos h2];refine⟨σ',F',go (_,_) ?_,e2⟩;simp only[d9q] at e1;simp only[d8U,↓reduceIte,a0j,a0d,a0n,BE.safe,BE.pe,IE.pe,Q3,Q5,Q7,Q2,a0c,a0l,a0g,Q1,Q0,PEnv.push,Q6,Q4,SV.pvs,SV.pv,e5,dF0 h0,dF0 h1,dT0 h2,e1,a0m,true_or]
 simp only[if_neg h2];by_cases h3:q.k=3
 ·obtain⟨σ',F',e1,e2⟩:=e0W K hσ hN n q.i (by omega)
  simp only[if_pos h3];refine⟨σ',F',go (_,_) ?_,e2⟩;simp only[d9l] at e1;simp only[d8U,↓reduceIte,a0j,a0d,a0n,BE.safe,BE.pe,IE.pe,Q3,Q5,Q7,Q2,a0c,a0l,a0g,Q1,Q0,PEnv.push,Q6,Q4,SV.pvs,SV.pv,e5,dF0 h0,dF0 h1,dF0 h2,dT0 h3,e1,a0m,true_or]
 simp only[if_neg h3];obtain⟨σ',F',e1,e2⟩:=d0R K hσ hN hcl n q.r (by omega);refine⟨σ',F',go (_,_) ?_,e2⟩;simp only[a7Q] at e1;simp only[d8U,↓reduceIte,a0j,a0d,a0n,BE.safe,BE.pe,IE.pe,Q3,Q5,Q7,Q2,a0c,a0l,a0g,Q1,Q0,PEnv.push,Q6,Q4,SV.pvs,SV.pv,e5,dF0 h0,dF0 h1,dF0 h2,dF0 h3,e1,a0m,true_or]
end
end
theorem a5X{Φ:Fns}{S:Sx.Sys}{fuel q q':Nat}{ρ ρ':PEnv}{t:PT}(h:S.loops[q]?=some t)(E:t.ev Φ ρ=some (.jump q' ρ')):S.loop Φ (fuel+1) q ρ=S.loop Φ fuel q' ρ':=by
 rw[Sys.loop,h,Q0,E];rfl
theorem c5K{Φ:Fns}{S:Sx.Sys}{fuel q:Nat}{ρ:PEnv}{t:PT}{r:PV}{σ:List MO}(h:S.loops[q]?=some t)(E:t.ev Φ ρ=some (.ret r σ)):S.loop Φ (fuel+1) q ρ=some (r,σ):=by
 rw[Sys.loop,h,Q0,E];rfl
structure ORd (σ:List MO)(v:PV)(l:List Bool):Prop where
 kind:v.isKind 0=true
 one:v.one=true
 len:v.len=(l.length:Int)
 rd:∀(i:Nat) (b:Bool),l[i]?=some b->∃L,a3E (i:Int) 1 0 v=some L/\∀(is:List Int) (bs:List Bool) (vs:List PV) (k:Nat),a0a {i:=is,b:=bs,v:=vs,m:=σ,k:=k} false 1 L=some [.bool b]
structure RRd (σ:List MO)(v:PV)(cl:List Rn):Prop where
 kind:v.isKind 0=true
 one:v.one=true
 len:v.len=(cl.length:Int)
 rd:∀(i:Nat) r,cl[i]?=some r->∃a g b,BRd σ a r.ask/\BRd σ g r.got/\ORd σ b r.bid/\∀off n,off+n<=9->∃L,a3E (i:Int) 9 off v=some L/\∀(is:List Int) (bs:List Bool) (vs:List PV) (k:Nat),a0a {i:=is,b:=bs,v:=vs,m:=σ,k:=k} false n L=some (([.int .i64 r.p.a,.int .i64 r.p.b,.int .i64 r.p.c,.int .i64 r.p.d,.int .i64 r.p.e,.int .i64 r.p.f,a,g,b].drop off).take n)
section
variable {s:St}{o:Po}{σ:List MO}{h:Nat}{vcl:PV}{ha hb hd:Nat}{R:Nat->Prop}{c:Ck}(k:CkAt s o σ h vcl ha hb hd R c)(hσ:Low σ)(hl:∀r∈c.cl,r.ask.length<=1000/\r.got.length<=1000/\r.bid.length<=1000)(hcl:c.cl.length<=1000)(n:Nat)
end
section
variable {σ:List MO}{V W:PV}{cl:List Rn}(hV:RRd σ V cl)(hW:RRd σ W cl){N:Nat}(hl:∀r∈cl,r.ask.length=N/\r.got.length=N/\r.bid.length=N)(hN:N<=1000)(hcl:cl.length<=1000)(n:Nat)
include hV hW hl hN hcl
end
theorem c6j(σ:List MO)(is:List Int)(b:List Bool)(vs:List PV)(z:Bool):a0m {i:=is,b:=b,v:=vs,m:=σ,k:=0} false (.bool z)=some (.bool z,[]):=by
 unfold a0m;dsimp only;split
 ·rename_i h
  have h:σ=[]:=by
   rcases h with h|h
   ·cases h
   ·exact List.length_eq_zero_iff.1 h
  rw[h]
 ·rw[QD];rfl
theorem d0i(σ:List MO)(n:Nat)(hn:1<=n){P B C A E:PV}{p b c a e:Nat}(hp:P.isKind 0=true/\P.len=(p:Int)/\P.one=true)(hb:B.isKind 0=true/\B.len=(b:Int)/\B.one=true)(hc:C.isKind 0=true/\C.len=(c:Int)/\C.one=true)(ha:A.isKind 0=true/\A.len=(a:Int)/\A.one=true)(he:E.isKind 0=true/\E.len=(e:Int)/\E.one=true) :
  ∃z,a0b Tab n b0E [.agg [P,B,C,A],E] σ=some (.bool z,σ)/\(z=false->p<=10/\b<=10/\c<=20/\a<=10/\e<=200):=by
 obtain⟨n,rfl⟩:∃k,n=k+1:=⟨n-1,by omega⟩;refine⟨ltB 10 (p:Int)||(ltB 10 (b:Int)||(ltB 20 (c:Int)||(ltB 10 (a:Int)||ltB 200 (e:Int)))),?_,fun h=>?_⟩
 ·rw[a0b]
  simp only[b4D,Q0,Sys.run];show ((a0f [.sh (.agg [_,_,_,_]),.sh (.one _)] _).bind _)=_;simp only[a0f,a0g,a0c,Q1,Q0,Q8,Q4,Q6,if_true,hp.2.2,hb.2.2,hc.2.2,ha.2.2,he.2.2];show (PT.ev _ a2d _).bind _=_;have dich:∀x:Bool,x=true\/x=false:=fun x=>by cases x<;>simp
  rcases dich (ltB 10 (p:Int)) with e1|e1
  ·simp only[a2d,↓reduceIte,a0j,a0d,a0h,BE.safe,BE.pe,IE.pe,PEnv.at,Q3,Q2,Q1,Q0,SV.pv,hp.1,hp.2.1,e1,a0m,or_true,QX]
  rcases dich (ltB 10 (b:Int)) with e2|e2
  ·simp only[a2d,↓reduceIte,a0j,a0d,a0h,BE.safe,BE.pe,IE.pe,PEnv.at,Q3,Q5,Q2,Q1,Q0,SV.pv,hp.1,hp.2.1,hb.1,hb.2.1,e1,e2,a0m,or_true,QX,X8]
  rcases dich (ltB 20 (c:Int)) with e3|e3
  ·simp only[a2d,↓reduceIte,a0j,a0d,a0h,BE.safe,BE.pe,IE.pe,PEnv.at,Q3,Q5,Q2,Q1,Q0,SV.pv,hp.1,hp.2.1,hb.1,hb.2.1,hc.1,hc.2.1,e1,e2,e3,a0m,or_true,QX,X8]
  rcases dich (ltB 10 (a:Int)) with e4|e4
  ·simp only[a2d,↓reduceIte,a0j,a0d,a0h,BE.safe,BE.pe,IE.pe,PEnv.at,Q3,Q5,Q2,Q1,Q0,SV.pv,hp.1,hp.2.1,hb.1,hb.2.1,hc.1,hc.2.1,ha.1,ha.2.1,e1,e2,e3,e4,a0m,or_true,QX,X8]
  simp only[a2d,↓reduceIte,a0j,a0d,a0h,BE.safe,BE.pe,IE.pe,PEnv.at,Q3,Q5,Q2,Q1,Q0,SV.pv,hp.1,hp.2.1,hb.1,hb.2.1,hc.1,hc.2.1,ha.1,ha.2.1,he.1,he.2.1,e1,e2,e3,e4,a0m,or_true,X8]
 ·simp only[Bool.or_eq_false_iff,a0F] at h
  omega
theorem d2G(q:Stp):q.row=[.int .i64 q.k,.int .i64 q.i,.int .i64 q.r,.int .i64 q.w.a,.int .i64 q.w.b,.int .i64 q.w.c,.int .i64 q.w.d,.int .i64 q.w.e,.int .i64 q.w.f]:=rfl
section
variable {s:St}{cs ad:List Tri}(hs:SuOk s cs ad)(hv:a7m s.ps s.bs cs ad=0){o:Po}(ho:o.ok)(n:Nat){E:PV}{l:List Stp}(hE:E.rowsOf 9=some (l.map Stp.row)){h:Nat}
section
variable {M:List MO}{O:PV}{cl:List Rn}{R:Nat->Prop}(hO:CSl M R O cl)(hok:∀r∈cl,r.ask.length<=8/\∀(j:Nat) w,r.ask[j]?=some w->b3Q s.ps s.bs cs ad (j:Int) w=0)(hcl:cl.length<=30)
include hs hv hO hok hcl
end
end
open Go.ChangeShapes Go.WideShapes Go.ChangeAt Go.RowKit Go.Sx
theorem c9W{n:Nat}{r:List PV}(h:a1i Try.prog n 29 r):∃x:Po,r=x.row:=by
 obtain⟨m,hm,hr⟩:=a4H Try.underlying29 h;simp only[Qa,Qb,a4g] at hr;obtain⟨_,_,rfl,h1,_,_,rfl,h2,_,_,rfl,h3,_,_,rfl,h4,rfl⟩:=hr;obtain⟨a,rfl,_⟩:=a1f (k:=.i64) (by kernel_rfl) h1;obtain⟨b,rfl,_⟩:=a1f (k:=.i64) (by kernel_rfl) h2;obtain⟨c,rfl,_⟩:=a1f (k:=.i64) (by kernel_rfl) h3;obtain⟨d,rfl,_⟩:=a1f (k:=.i64) (by kernel_rfl) h4;exact⟨⟨a,b,c,d⟩,rfl⟩
theorem c8K{n:Nat}{r:List PV}(h:a1i Try.prog n 42 r):∃x:Stp,r=x.row:=by
 obtain⟨m,hm,hr⟩:=a4H Try.underlying42 h;simp only[Qa,Qb,a4g] at hr;obtain⟨_,_,rfl,h1,_,_,rfl,h2,_,_,rfl,h3,_,_,rfl,h4,rfl⟩:=hr;obtain⟨k,rfl,_⟩:=a1f (k:=.i64) (by kernel_rfl) h1;obtain⟨i,rfl,_⟩:=a1f (k:=.i64) (by kernel_rfl) h2;obtain⟨r,rfl,_⟩:=a1f (k:=.i64) (by kernel_rfl) h3;obtain⟨m',_,h⟩:=c5B Try.underlying38 h4;simp only[Qh,a4g] at h;obtain⟨_,_,rfl,w1,_,_,rfl,w2,_,_,rfl,w3,_,_,rfl,w4,_,_,rfl,w5,_,_,rfl,w6,rfl⟩:=h;obtain⟨a,rfl,_⟩:=a1f (k:=.i64) (by kernel_rfl) w1;obtain⟨b,rfl,_⟩:=a1f (k:=.i64) (by kernel_rfl) w2;obtain⟨c,rfl,_⟩:=a1f (k:=.i64) (by kernel_rfl) w3;obtain⟨d,rfl,_⟩:=a1f (k:=.i64) (by kernel_rfl) w4;obtain⟨e,rfl,_⟩:=a1f (k:=.i64) (by kernel_rfl) w5;obtain⟨f,rfl,_⟩:=a1f (k:=.i64) (by kernel_rfl) w6;exact⟨⟨k,i,r,⟨a,b,c,d,e,f⟩⟩,rfl⟩
theorem knl{K:Nat}{P:PV}{rows:List (List PV)}{N:Nat}(h:P.rowsOf K=some rows)(hN:rows.length=N):P.isKind 0=true/\P.len=(N:Int)/\P.one=true:=by
 obtain⟨p1,p2,p3⟩:=a0i h;exact⟨p2,by rw[p1,hN],p3⟩
end Go.Proofs.Ytmekflfjaflmkaa
