/- The clock's law: what its operations do, without the program. -/
import Derived.Test.YtmekflfjaflmkaaGreatHRvb
import Derived.Test.YtmekflfjaflmkaaGreatHCkA
import Derived.Test.YtmekflfjaflmkaaGreatRows
import Derived.WalkKit
import Derived.ProofKit
import Derived.OpenShut
import Derived.JoinedCond
import Derived.ShutString
set_option linter.unusedSimpArgs false
set_option linter.unusedVariables false
set_option linter.unusedSectionVars false
open Option renaming bind_some → Q0, map_some → Q1, bind_eq_bind → QU, pure_def → QV, toList_some → X8, bind → Xa
open Bool renaming false_eq_true → Q2, and_self → Qd, not_true → Qn, not_false → QB, and_eq_true → QJ, true_and → QY, and_true → X2, true_or → X3, false_or → X4
open List renaming nil_append → Q3, getD_cons_zero → Q4, replicate → Q5, getD_cons_succ → Q6, getElem?_cons_zero → Q7, cons_append → Q8, append_nil → Q9, getElem?_cons_succ → Qa, map_cons → Qb, length_cons → Qe, length_nil → Qf, map_nil → Qg, length_map → Qh, append_assoc → Qj, getElem?_eq_some_iff → Qk, flatten_cons → Qp, map → Qq, getElem?_append_left → Qs, drop_zero → Qt, take_zero → Qu, length_append → Qv, getElem?_map → Qw, getElem?_append_right → Qy, mem_of_getElem? → Qz, length_drop → QA, take_of_length_le → QC, take_succ_cons → QD, length_set → QE, all_eq_true → QH, replicate_succ → QL, length_take → QM, getElem?_set_ne → QN, length_singleton → QP, mapM_cons → QQ, mapM_nil → QS, take_length → QZ, take_add_one → X0, map_append → X1, all_append → X6, getElem?_take → X7, take_left' → Xb, drop_append → Xc, drop_eq_nil_of_le → Xd, set_cons_zero → Xe, drop_left' → Xf, mem_or_eq_of_mem_set → Xg, drop_drop → Xh, drop_take → Xj, take_take → Xk, getElem?_of_mem → Xp, getElem?_set_self → Xq, map_replicate → Xr, drop_succ_cons → Xs
open Nat renaming le_refl → Qm, zero_add → Qr, add_mul → QW, add_sub_cancel_left → QX, sub_self → X9, min_eq_left → Xn
open Int renaming toNat_natCast → QK
open Option.some renaming injEq → X5
set_option maxRecDepth 100000
namespace Go.Proofs.YtmekflfjaflmkaaGreat
open Go.Sx
structure Rn where
 (p:W6) (ask got:List W6) (bid:List Bool)
structure Ck where
 (cl:List Rn) (p:W6) (ask:List W6) (bid out:List Bool) (over:Bool)
structure Po where
 (st pc un ru:Int)
def Po.row(o:Po):List PV:=[.int .i64 o.st,.int .i64 o.pc,.int .i64 o.un,.int .i64 o.ru]
def Po.ok(o:Po):Prop:=1<=o.st/\o.st<=1000000/\0<=o.pc/\o.pc<=100/\1<=o.un/\o.un<=3/\1<=o.ru/\o.ru<=3
instance (o:Po):Decidable o.ok:=by unfold Po.ok;infer_instance
def d7d(f:Int->Int->Int)(a b:W6):W6:=⟨f a.a b.a,f a.b b.b,f a.c b.c,f a.d b.d,f a.e b.e,f a.f b.f⟩
def d7p(a b:W6):W6:=⟨a.a+b.a,a.b+b.b,a.c+b.c,a.d+b.d,a.e+b.e,a.f+b.f⟩
def d7h(l:List W6):W6:=l.foldl d7p w0
def exI(s t:Int):Int:=if s<t then t-s else 0
def exW(s:W6)(l:List W6):W6:=d7d exI s (d7h l)
def rsI(o:Po)(p:Int):Int:=p+o.st+Int.tdiv (p*o.pc+99) 100
def rsW(o:Po)(p ex:W6):W6:=d7d (fun x e=>if 0<e then rsI o x else x) p ex
def rfI(s t n a:Int):Bool:=ltB a n&&ltB (t-n+a) s
def rfW(s t n a:W6):Bool:=rfI s.a t.a n.a a.a||(rfI s.b t.b n.b a.b||(rfI s.c t.c n.c a.c||(rfI s.d t.d n.d a.d||(rfI s.e t.e n.e a.e||rfI s.f t.f n.f a.f))))
def paI(s t n a:Int):Int:=if a<n then n-mnI (n-a) (mxI (t-s) 0) else a
def paW(s t n a:W6):W6:=⟨paI s.a t.a n.a a.a,paI s.b t.b n.b a.b,paI s.c t.c n.c a.c,paI s.d t.d n.d a.d,paI s.e t.e n.e a.e,paI s.f t.f n.f a.f⟩
def pick(un:Int)(s t n a:W6):W6:=if un=2 then(if rfW s t n a=true then n else a) else if un=3 then paW s t n a else a
def apN(un:Int)(s:W6)(asked out:List W6):Nat->List W6
 | 0=>out
 | i+1=>(apN un s asked out i).set i (pick un s (d7h (apN un s asked out i)) (wa (apN un s asked out i) i) (wa asked i))
def apW(un:Int)(s:W6)(before asked:List W6):List W6:=apN un s asked before asked.length
variable (ps:List Pr)(bs:List Bd)(cs ad:List Tri)(o:Po)
noncomputable def agB(l:List Ch):Bool:=@decide ((∀y∈l,y.ok)/\Pot l) (Classical.propDecidable _)
namespace Ck
def has(c:Ck)(i:Int):Bool:=leB 0 i&&ltB i (c.out.length:Int)
def chs(c:Ck)(i:Nat):List Ch:=c.cl.map fun r=>⟨r.p,wa r.ask i⟩
def blank(c:Ck):Ck:={c with ask:=Q5 c.out.length w0,bid:=Q5 c.out.length false}
def stop(c:Ck):Ck×Int:=if c.over=true then(c,10) else({c.blank with over:=true},0)
def drop(c:Ck)(i:Int):Ck×Int :=
 if c.has i=true then(if c.out[i.toNat]?=some true then(c,10) else({c with out:=c.out.set i.toNat true,ask:=c.ask.set i.toNat w0,bid:=c.bid.set i.toNat false},0)) else(c,6)
def reset(c:Ck)(r:Int):Ck×Int :=
 if r<0 then(c,4) else if (c.cl.length:Int)<r then(c,4) else if r=(c.cl.length:Int)/\c.over=true then(c,4) else
  ({c.blank with p:=((c.cl[r.toNat]?).map Rn.p).getD c.p,cl:=c.cl.take r.toNat,over:=false},0)
def prev(c:Ck):List W6:=((c.cl.getLast?.map Rn.got).getD []).zipIdx.map fun x=>if c.out[x.2]?=some true then w0 else x.1
end Ck
noncomputable def d7g(s:St)(c:Ck)(i:Int)(w:W6):Int :=
 if c.over=true then 10 else if c.has i=true then(if c.out[i.toNat]?=some true then 10 else
  if d5E ps bs cs ad i w=0 then(if d7e s i ⟨c.p,w⟩=0 then d7o s o.ru i (c.chs i.toNat) ⟨c.p,w⟩ (agB (c.chs i.toNat++[⟨c.p,w⟩])) else d7e s i ⟨c.p,w⟩) else d5E ps bs cs ad i w) else 6
noncomputable def Ck.doBid(s:St)(c:Ck)(i:Int)(w:W6):Ck×Int :=
 if d7g ps bs cs ad o s c i w=0 then({c with ask:=c.ask.set i.toNat w,bid:=c.bid.set i.toNat true},0) else(c,d7g ps bs cs ad o s c i w)
def Ck.gots(c:Ck):List W6:=if c.cl=[] then c.ask else apW o.un (a4K ps) c.prev c.ask
def Ck.ex(c:Ck):W6:=exW (a4K ps) (c.gots ps o)
def Ck.nextP(c:Ck):W6:=rsW o c.p (c.ex ps o)
def Ck.ends(c:Ck):Bool:=(c.ex ps o).isZ||(leB 30 (c.cl.length+1:Int)||!decide (c.nextP ps o).pok)
def Ck.close(c:Ck):Ck×Bool×Int :=
 if c.over=true then(c,false,10) else
  if c.ends ps o=true then({c.blank with cl:=c.cl++[⟨c.p,c.ask,c.gots ps o,c.bid⟩],over:=true},true,0)
  else({c.blank with cl:=c.cl++[⟨c.p,c.ask,c.gots ps o,c.bid⟩],p:=c.nextP ps o},false,0)
end Go.Proofs.YtmekflfjaflmkaaGreat
set_option maxRecDepth 100000
namespace Go.Proofs.YtmekflfjaflmkaaGreat
open Go.Sx
theorem c3V{α:Type}{sz:Nat}:∀(rows:List (List α)) (_:∀r∈rows,r.length=sz) (i:Nat) (r:List α),rows[i]?=some r->(rows.flatten.drop (i*sz)).take sz=r/\i*sz+sz<=rows.flatten.length
 | [],_,i,r,h=>by simp at h
 | r0::rows,hl,0,r,h=>by
  simp only[Q7,X5] at h;subst h;have h0:=hl r0 (by simp);rw[Nat.zero_mul,Qt,Qp,Xb h0,Qv];exact⟨rfl,by omega⟩
 | r0::rows,hl,i+1,r,h=>by
  have h0:=hl r0 (by simp);obtain⟨h1,h2⟩:=c3V rows (fun q hq=>hl q (by simp[hq])) i r (by simpa using h);rw[Qp,show (i+1)*sz=r0.length+i*sz by rw[h0,QW];omega,Xc,Qv];refine⟨?_,by omega⟩;rw[Xd (by omega),Q3,QX];exact h1
theorem c1w{sz:Nat}:∀(rows:List (List PV)) (_:∀r∈rows,r.length=sz) (i:Nat) (_:i<rows.length) (x:List PV),x.length=sz->a3f rows.flatten (i*sz) x=(rows.set i x).flatten
 | [],_,i,h,_,_=>by simp at h
 | r0::rows,hl,0,_,x,hx=>by
  have h0:=hl r0 (by simp);unfold a3f;rw[Nat.zero_mul,Qu,Q3,Qr,Qp,Xe,Qp,Xf (by omega)]
 | r0::rows,hl,i+1,h,x,hx=>by
  have h0:=hl r0 (by simp);have ih:=c1w rows (fun q hq=>hl q (by simp[hq])) i (by simpa using h) x hx;rw[List.set_cons_succ,Qp,Qp,<- ih];unfold a3f;rw[show (i+1)*sz=r0.length+i*sz by rw[h0,QW];omega,List.take_append,QC (by omega),QX,Nat.add_assoc,Xc,Xd (by omega),Q3,QX];simp only[Qj]
theorem b5Q(w:W6):w.pv.length=6:=rfl
theorem d1A(l:List W6):∀r∈l.map W6.pv,r.length=6:=fun r hr=>by obtain⟨w,_,rfl⟩:=List.mem_map.1 hr;rfl
theorem a5x{n:Nat}{l:List PV}{r:List PV}(h:l.take n=r)(hl:n<=l.length):a1d n l=some r:=by unfold a1d;rw[if_pos hl,h]
theorem c3Q(l:List W6):(l.map W6.pv).flatten.length=l.length*6:=by
 induction l with
 | nil=>rfl
 | cons w l ih=>rw[Qb,Qp,Qv,ih,b5Q,Qe];omega
theorem d0z(l:List Bool){i:Nat}{b:Bool}(h:l[i]?=some b):a1d 1 ((l.map PV.bool).drop i)=some [.bool b]:=by
 have hi:=(Qk.1 h).1;have h1:(l.map PV.bool)[i]?=some (.bool b):=by rw[Qw,h];rfl
 refine a5x ?_ (by simp;omega);rw[List.drop_eq_getElem_cons (by simpa using hi)];simp only[QD,Qu];rw[List.getElem?_eq_getElem (by simpa using hi)] at h1;simpa using h1
def Low(σ:List MO):Prop:=σ.all (MO.low σ.length)=true
theorem Low.set{σ:List MO}(h:Low σ){x:Nat}{m:MO}(hm:m.low σ.length=true):Low (σ.set x m):=by
 unfold Low;rw[QE];refine QH.2 fun y hy=>?_
 rcases Xg hy with hy|rfl
 ·exact QH.1 h y hy
 ·exact hm
theorem Low.app{σ:List MO}(h:Low σ){m:MO}(hm:m.low (σ.length+1)=true):Low (σ++[m]):=by
 unfold Low;rw[Qv,QP,X6,QJ];refine⟨QH.2 fun y hy=>MO.low_mono (Nat.le_succ _) (QH.1 h y hy),?_⟩;simpa using hm
theorem Low.get{σ:List MO}(h:Low σ){x:Nat}{m:MO}(hx:σ[x]?=some m):m.low σ.length=true:=QH.1 h m (Qz hx)
theorem b8a(k:Nat)(l:List W6)(T:Nat):(MO.cells (l.map W6.pv).flatten T).low k=true:=by
 show PV.lows k (l.map W6.pv).flatten=true
 induction l with
 | nil=>rfl
 | cons w l ih=>rw[Qb,Qp];simpa[W6.pv,PV.lows,PV.low] using ih
theorem b7g(k:Nat)(l:List Bool)(T:Nat):(MO.cells (l.map PV.bool) T).low k=true:=by
 show PV.lows k (l.map PV.bool)=true
 induction l with
 | nil=>rfl
 | cons w l ih=>rw[Qb];simpa[PV.lows,PV.low] using ih
theorem d6W(k:Nat)(l:List W6)(T:Nat):(MO.row (l.map W6.pv) 6 T).low k=true:=by
 show PV.lowss k (l.map W6.pv)=true
 induction l with
 | nil=>rfl
 | cons w l ih=>rw[Qb];simpa[W6.pv,PV.lowss,PV.lows,PV.low] using ih
structure BRd (σ:List MO)(v:PV)(l:List W6):Prop where
 kind:v.isKind 0=true
 one:v.one=true
 len:v.len=(l.length:Int)
 rd:∀(i:Nat) (w:W6),l[i]?=some w->∃L:Nat->Sx.Loc,∀off n,off+n<=6->a2z (i:Int) 6 off v=some (L off)/\∀(is:List Int) (bs:List Bool) (vs:List PV) (k:Nat),a0b {i:=is,b:=bs,v:=vs,m:=σ,k:=k} false n (L off)=some ((w.pv.drop off).take n)
theorem BRd.plain{σ:List MO}{v:PV}{l:List W6}(h:v.rowsOf 6=some (l.map W6.pv)):BRd σ v l:=by
 obtain⟨p1,p2,p3⟩:=a0d h;rw[Qh] at p1;refine⟨p2,p3,p1,fun i w hw=>⟨fun off=>Sx.Loc.row w.pv off,fun off n hn=>⟨a0z h (by rw[Qw,hw];rfl),fun _ _ _ _=>a5x rfl (by rw[QA,b5Q];omega)⟩⟩⟩
def BSl(σ:List MO)(R:Nat->Prop)(v:PV)(l:List W6):Prop :=
 (∃h,R h/\v=.msl h 0 l.length l.length 6/\σ[h]?=some (.cells (l.map W6.pv).flatten 51))\/(∃h,R h/\v=.rsl h l.length 6/\σ[h]?=some (.row (l.map W6.pv) 6 51))
def OSl(σ:List MO)(R:Nat->Prop)(v:PV)(l:List Bool):Prop:=∃h,R h/\v=.msl h 0 l.length l.length 1/\σ[h]?=some (.cells (l.map PV.bool) 4)
section
variable {σ σ':List MO}{R R':Nat->Prop}{v:PV}{l:List W6}{lb:List Bool}
theorem d4E{h i n c sz:Nat}(hi:i<n):a2z (i:Int) sz 0 (.msl h 0 n c sz)=some (.obj h (i*sz)):=by
 simp only[a2z];rw[if_pos ⟨by omega,by omega,trivial⟩];simp
theorem d1s{h i n sz off:Nat}(hi:i<n):a2z (i:Int) sz off (.rsl h n sz)=some (.elt h n i sz off):=by
 simp only[a2z];rw[if_pos ⟨by omega,by omega,trivial⟩];simp
theorem BSl.rd(h:BSl σ R v l):BRd σ v l:=by
 rcases h with ⟨h,_,rfl,hh⟩|⟨h,_,rfl,hh⟩
 ·refine⟨rfl,rfl,rfl,fun i w hw=>⟨fun off=>Sx.Loc.obj h (0+(i*6+off)),fun off n hn=>⟨?_,fun _ _ _ _=>?_⟩⟩⟩
  ·have hi:=(Qk.1 hw).1
   simp only[a2z];rw[if_pos ⟨by omega,by omega,trivial⟩];simp
  ·obtain⟨f1,f2⟩:=c3V (l.map W6.pv) (d1A l) i w.pv (by rw[Qw,hw];rfl)
   simp only[a0b,hh,Q0,MO.list,Q2,if_false];refine a5x ?_ (by rw[QA];omega);rw[Qr,<- Xh,<- f1,Xj,Xk,Xn (by omega)]
 ·refine⟨rfl,rfl,rfl,fun i w hw=>⟨fun off=>Sx.Loc.elt h l.length i 6 off,fun off n hn=>⟨d1s (Qk.1 hw).1,fun _ _ _ _=>?_⟩⟩⟩
  simp only[a0b,hh,Q0,MO.elts,Qh,and_self,if_true,Q2,if_false,Qw,hw,Q1];exact a5x rfl (by rw[QA,b5Q];omega)
theorem BSl.frame(h:BSl σ R v l)(hf:∀x,R x->σ'[x]?=σ[x]?):BSl σ' R v l:=by
 rcases h with ⟨h,hR,rfl,hh⟩|⟨h,hR,rfl,hh⟩
 ·exact .inl ⟨h,hR,rfl,by rw[hf h hR];exact hh⟩
 ·exact .inr ⟨h,hR,rfl,by rw[hf h hR];exact hh⟩
theorem OSl.frame(h:OSl σ R v lb)(hf:∀x,R x->σ'[x]?=σ[x]?):OSl σ' R v lb:=by
 obtain⟨h,hR,rfl,hh⟩:=h;exact⟨h,hR,rfl,by rw[hf h hR];exact hh⟩
theorem BSl.mono(h:BSl σ R v l)(hR:∀x,R x->R' x):BSl σ R' v l:=by
 rcases h with ⟨h,h1,rfl,hh⟩|⟨h,h1,rfl,hh⟩
 ·exact .inl ⟨h,hR _ h1,rfl,hh⟩
 ·exact .inr ⟨h,hR _ h1,rfl,hh⟩
theorem OSl.mono(h:OSl σ R v lb)(hR:∀x,R x->R' x):OSl σ R' v lb:=by
 obtain⟨h,h1,rfl,hh⟩:=h;exact⟨h,hR _ h1,rfl,hh⟩
theorem BSl.low(h:BSl σ R v l){k:Nat}(hR:∀x,R x->x<k):v.low k=true:=by
 rcases h with ⟨h,h1,rfl,hh⟩|⟨h,h1,rfl,hh⟩
 ·simpa[PV.low] using hR h h1
 ·simpa[PV.low] using hR h h1
theorem OSl.low(h:OSl σ R v lb){k:Nat}(hR:∀x,R x->x<k):v.low k=true:=by
 obtain⟨h,h1,rfl,hh⟩:=h;simpa[PV.low] using hR h h1
theorem BSl.one(h:BSl σ R v l):v.one=true:=h.rd.one
theorem OSl.one(h:OSl σ R v lb):v.one=true:=by obtain⟨h,_,rfl,_⟩:=h;rfl
end
def b0c(σ:List MO)(R:Nat->Prop)(r:Rn)(row:List PV):Prop :=
 ∃a g b,row=[.int .i64 r.p.a,.int .i64 r.p.b,.int .i64 r.p.c,.int .i64 r.p.d,.int .i64 r.p.e,.int .i64 r.p.f,a,g,b]/\BSl σ R a r.ask/\BSl σ R g r.got/\OSl σ R b r.bid
def a2s(σ:List MO)(R:Nat->Prop)(cl:List Rn)(rows:List (List PV)):Prop:=rows.length=cl.length/\∀(i:Nat) r row,cl[i]?=some r->rows[i]?=some row->b0c σ R r row
def CSl(σ:List MO)(R:Nat->Prop)(v:PV)(cl:List Rn):Prop :=
 (v=.nilS/\cl=[])\/(∃h rows,R h/\v=.msl h 0 cl.length cl.length 9/\σ[h]?=some (.cells rows.flatten 65)/\a2s σ R cl rows) \/
  (∃h rows,R h/\v=.rsl h cl.length 9/\cl≠[]/\σ[h]?=some (.row rows 9 65)/\a2s σ R cl rows)
section
variable {σ σ':List MO}{R R':Nat->Prop}{v:PV}{cl:List Rn}{rows:List (List PV)}{r:Rn}{row:List PV}
theorem b0c.frame(h:b0c σ R r row)(hf:∀x,R x->σ'[x]?=σ[x]?):b0c σ' R r row:=by
 obtain⟨a,g,b,rfl,h1,h2,h3⟩:=h;exact⟨a,g,b,rfl,h1.frame hf,h2.frame hf,h3.frame hf⟩
theorem b0c.mono(h:b0c σ R r row)(hR:∀x,R x->R' x):b0c σ R' r row:=by
 obtain⟨a,g,b,rfl,h1,h2,h3⟩:=h;exact⟨a,g,b,rfl,h1.mono hR,h2.mono hR,h3.mono hR⟩
theorem b0c.len(h:b0c σ R r row):row.length=9:=by obtain⟨a,g,b,rfl,_⟩:=h;rfl
theorem b0c.low(h:b0c σ R r row){k:Nat}(hR:∀x,R x->x<k):PV.lows k row=true:=by
 obtain⟨a,g,b,rfl,h1,h2,h3⟩:=h;simp only[PV.lows,PV.low,h1.low hR,h2.low hR,h3.low hR,Qd]
theorem a2s.frame(h:a2s σ R cl rows)(hf:∀x,R x->σ'[x]?=σ[x]?):a2s σ' R cl rows:=⟨h.1,fun i r row h1 h2=>(h.2 i r row h1 h2).frame hf⟩
theorem a2s.mono(h:a2s σ R cl rows)(hR:∀x,R x->R' x):a2s σ R' cl rows:=⟨h.1,fun i r row h1 h2=>(h.2 i r row h1 h2).mono hR⟩
theorem a2s.mem(h:a2s σ R cl rows){row:List PV}(hr:row∈rows):∃r∈cl,b0c σ R r row:=by
 obtain⟨i,hi⟩:=Xp hr;have hl:=(Qk.1 hi).1;obtain⟨r,hr⟩:=a0S (show i<cl.length by rw[<- h.1];exact hl);exact⟨r,Qz hr,h.2 i r row hr hi⟩
theorem a2s.lens(h:a2s σ R cl rows):∀r∈rows,r.length=9:=fun row hr=>by obtain⟨r,_,k⟩:=h.mem hr;exact k.len
theorem a2s.snoc(h:a2s σ R cl rows)(hr:b0c σ R r row):a2s σ R (cl++[r]) (rows++[row]):=by
 refine⟨by simp[h.1],fun i x y hx hy=>?_⟩;by_cases hi:i<cl.length
 ·rw[Qs hi] at hx
  rw[Qs (by rw[h.1];exact hi)] at hy;exact h.2 i x y hx hy
 ·have hl:i=cl.length:=by have:=(Qk.1 hx).1;simp at this;omega
  subst hl;rw[Qy (by omega)] at hx;rw[<- h.1,Qy (by omega)] at hy;simp at hx hy;subst hx hy;exact hr
theorem a2s.take(h:a2s σ R cl rows)(n:Nat):a2s σ R (cl.take n) (rows.take n):=by
 refine⟨by rw[QM,QM,h.1],fun i x y hx hy=>?_⟩;rw[X7] at hx hy;split at hx
 ·rename_i hi
  rw[if_pos hi] at hy;exact h.2 i x y hx hy
 ·cases hx
theorem CSl.frame(h:CSl σ R v cl)(hf:∀x,R x->σ'[x]?=σ[x]?):CSl σ' R v cl:=by
 rcases h with h|⟨h,rows,h1,h2,h3,h4⟩|⟨h,rows,h1,h2,h0,h3,h4⟩
 ·exact .inl h
 ·exact .inr (.inl ⟨h,rows,h1,h2,by rw[hf h h1];exact h3,h4.frame hf⟩)
 ·exact .inr (.inr ⟨h,rows,h1,h2,h0,by rw[hf h h1];exact h3,h4.frame hf⟩)
theorem CSl.low(h:CSl σ R v cl){k:Nat}(hR:∀x,R x->x<k):v.low k=true:=by
 rcases h with ⟨rfl,_⟩|⟨h,rows,h1,rfl,h3,h4⟩|⟨h,rows,h1,rfl,h0,h3,h4⟩
 ·rfl
 ·simpa[PV.low] using hR h h1
 ·simpa[PV.low] using hR h h1
structure CRd (σ:List MO)(R:Nat->Prop)(v:PV)(cl:List Rn):Prop where
 kind:v.isKind 0=true
 one:v.one=true
 len:v.len=(cl.length:Int)
 rd:∀(i:Nat) r,cl[i]?=some r->∃row,b0c σ R r row/\∀off n,off+n<=9->∃L,a2z (i:Int) 9 off v=some L/\∀(is:List Int) (bs:List Bool) (vs:List PV) (k:Nat),a0b {i:=is,b:=bs,v:=vs,m:=σ,k:=k} false n L=some ((row.drop off).take n)
theorem CSl.rd(h:CSl σ R v cl):CRd σ R v cl:=by
 rcases h with ⟨rfl,rfl⟩|⟨h,rows,h1,rfl,h3,h4⟩|⟨h,rows,h1,rfl,h0,h3,h4⟩
 ·exact⟨rfl,rfl,rfl,fun i r hr=>by simp at hr⟩
 ·refine⟨rfl,rfl,rfl,fun i r hr=>?_⟩
  have hi:=(Qk.1 hr).1;obtain⟨row,hrow⟩:=a0S (show i<rows.length by rw[h4.1];exact hi);have hR:=h4.2 i r row hr hrow;refine⟨row,hR,fun off n hn=>⟨Sx.Loc.obj h (0+(i*9+off)),?_,fun _ _ _ _=>?_⟩⟩
  ·simp only[a2z]
   rw[if_pos ⟨by omega,by omega,trivial⟩];simp
  ·obtain⟨f1,f2⟩:=c3V rows h4.lens i row hrow
   simp only[a0b,h3,Q0,MO.list,Q2,if_false];refine a5x ?_ (by rw[QA];omega);rw[Qr,<- Xh,<- f1,Xj,Xk,Xn (by omega)]
 ·refine⟨rfl,rfl,rfl,fun i r hr=>?_⟩
  have hi:=(Qk.1 hr).1;obtain⟨row,hrow⟩:=a0S (show i<rows.length by rw[h4.1];exact hi);have hR:=h4.2 i r row hr hrow;refine⟨row,hR,fun off n hn=>⟨_,d1s hi,fun _ _ _ _=>?_⟩⟩;simp only[a0b,h3,Q0,MO.elts,h4.1,and_self,if_true,Q2,if_false,hrow];exact a5x rfl (by rw[QA,hR.len];omega)
end
def ckL(s:St)(o:Po)(vcl va vb vd:PV)(p:W6)(ov:Bool):List PV :=
 [s.P,s.B,s.C,s.A,.int .i64 o.st,.int .i64 o.pc,.int .i64 o.un,.int .i64 o.ru,vcl,.int .i64 p.a,.int .i64 p.b,.int .i64 p.c,.int .i64 p.d,.int .i64 p.e,.int .i64 p.f,va,vb,vd,.bool ov]
def ckO(s:St)(o:Po)(vcl va vb vd:PV)(p:W6)(ov:Bool):MO:=.cells (ckL s o vcl va vb vd p ov) 79
section
variable (s:St)(o:Po)(vcl va vb vd:PV)(p:W6)(ov:Bool)
theorem d1K:(ckL s o vcl va vb vd p ov).length=19:=rfl
variable {s o vcl va vb vd p ov}
theorem a0x{m:List MO}{h:Nat}(hob:m[h]?=some (ckO s o vcl va vb vd p ov))(off n:Nat)(hn:off+n<=19)(is:List Int)(bs:List Bool)(vs:List PV)(k:Nat) :
  a0b {i:=is,b:=bs,v:=vs,m:=m,k:=k} false n (.obj h off)=some (((ckL s o vcl va vb vd p ov).drop off).take n):=by
 simp only[a0b,hob,ckO,Q0,MO.list,Q2,if_false];exact a5x rfl (by rw[QA,d1K];omega)
end
structure CkAt (s:St)(o:Po)(σ:List MO)(h:Nat)(vcl:PV)(ha hb hd:Nat)(R:Nat->Prop)(c:Ck):Prop where
 obj:σ[h]?=some (ckO s o vcl (.msl ha 0 c.out.length c.out.length 6) (.msl hb 0 c.out.length c.out.length 1) (.msl hd 0 c.out.length c.out.length 1) c.p c.over)
 ask:σ[ha]?=some (.cells (c.ask.map W6.pv).flatten 51)
 bid:σ[hb]?=some (.cells (c.bid.map PV.bool) 4)
 out:σ[hd]?=some (.cells (c.out.map PV.bool) 4)
 la:c.ask.length=c.out.length
 lb:c.bid.length=c.out.length
 cl:CSl σ R vcl c.cl
 bd:∀x,R x->x<σ.length
 na:¬R ha
 nb:¬R hb
 nd:¬R hd
 nh:¬R h
 nbd:hb≠hd
def b0p(s:St)(o:Po)(σ:List MO)(h:Nat)(F:Nat->Prop)(c:Ck):Prop :=
 ∃vcl ha hb hd R,CkAt s o σ h vcl ha hb hd R c/\∀x,F x↔(x=h\/x=ha\/x=hb\/x=hd\/R x)
section
variable {s:St}{o:Po}{σ σ':List MO}{h:Nat}{F:Nat->Prop}{c:Ck}
theorem b0p.frame(k:b0p s o σ h F c)(hl:σ.length<=σ'.length)(hf:∀x,F x->σ'[x]?=σ[x]?):b0p s o σ' h F c:=by
 obtain⟨vcl,ha,hb,hd,R,k,hF⟩:=k;exact⟨vcl,ha,hb,hd,R,⟨by rw[hf h ((hF _).2 (.inl rfl))];exact k.obj,by rw[hf ha ((hF _).2 (.inr (.inl rfl)))];exact k.ask,by rw[hf hb ((hF _).2 (.inr (.inr (.inl rfl))))];exact k.bid,by rw[hf hd ((hF _).2 (.inr (.inr (.inr (.inl rfl)))))];exact k.out,k.la,k.lb,k.cl.frame fun x hx=>hf x ((hF _).2 (.inr (.inr (.inr (.inr hx))))),fun x hx=>Nat.lt_of_lt_of_le (k.bd x hx) hl,k.na,k.nb,k.nd,k.nh,k.nbd⟩,hF⟩
theorem b0p.bd(k:b0p s o σ h F c):∀x,F x->x<σ.length:=by
 obtain⟨vcl,ha,hb,hd,R,k,hF⟩:=k;have g:∀{x:Nat} {m:MO},σ[x]?=some m->x<σ.length:=fun h=>(Qk.1 h).1
 intro x hx;rcases (hF x).1 hx with rfl|rfl|rfl|rfl|hx
 ·exact g k.obj
 ·exact g k.ask
 ·exact g k.bid
 ·exact g k.out
 ·exact k.bd x hx
end
structure Adv (σ σ':List MO)(F F':Nat->Prop):Prop where
 len:σ.length<=σ'.length
 keep:∀x,x<σ.length->¬F x->σ'[x]?=σ[x]?
 own:∀x,F' x->F x\/σ.length<=x
 low:Low σ'
theorem pv6(w:W6):w.pv=[.int .i64 w.a,.int .i64 w.b,.int .i64 w.c,.int .i64 w.d,.int .i64 w.e,.int .i64 w.f]:=rfl
section
variable (σ:List MO)(v:PV)(l:List W6)(hv:BRd σ v l)(hok:∀w∈l,w.ok)(hl:l.length<=8)(n:Nat)
end
section
variable (σ:List MO)(n:Nat)
end
theorem a4R(o:Po):o.row=[.int .i64 o.st,.int .i64 o.pc,.int .i64 o.un,.int .i64 o.ru]:=rfl
section
variable (σ:List MO)(n:Nat)
def a3D(o:Po):Int:=if o.ok then 0 else 4
theorem b0z(o:Po)(hn:1<=n):a0a Tab n a6I [.agg o.row] σ=some (.int .i64 (a3D o),σ):=by
 obtain⟨n,rfl⟩:∃k,n=k+1:=⟨n-1,by omega⟩;rw[a0a];simp only[b7N,Q0,Sys.run,a4R];show ((a0i [.sh (.agg [_,_,_,_])] _).bind _)=_;simp only[a0i,a0l,a0c,Q1,Q0,Q9,if_true];show (PT.ev _ a6x _).bind _=_;have e6:∀a b:Int,ltB a b=decide (a<b):=fun _ _=>rfl
 simp only[a6x,↓reduceIte,a0j,a0e,BE.safe,BE.pe,IE.pe,Q4,Q6,Q2,Q1,Q0,SV.pv,e6,a0g,or_true];by_cases h1:o.st<1
 ·rw[show a3D o=4 from if_neg (by unfold Po.ok;omega)];simp only[dT0 h1,↓reduceIte,Q0,]
 rw[dF0 h1];by_cases h2:1000000<o.st
 ·rw[show a3D o=4 from if_neg (by unfold Po.ok;omega)];simp only[dT0 h2,↓reduceIte,Q2,Q0,]
 rw[dF0 h2];by_cases h3:o.pc<0
 ·rw[show a3D o=4 from if_neg (by unfold Po.ok;omega)];simp only[dT0 h3,↓reduceIte,Q2,Q0,]
 rw[dF0 h3];by_cases h4:100<o.pc
 ·rw[show a3D o=4 from if_neg (by unfold Po.ok;omega)];simp only[dT0 h4,↓reduceIte,Q2,Q0,]
 rw[dF0 h4];by_cases h5:o.un<1
 ·rw[show a3D o=4 from if_neg (by unfold Po.ok;omega)];simp only[dT0 h5,↓reduceIte,Q2,Q0,]
 rw[dF0 h5];by_cases h6:3<o.un
 ·rw[show a3D o=4 from if_neg (by unfold Po.ok;omega)];simp only[dT0 h6,↓reduceIte,Q2,Q0,]
 rw[dF0 h6];by_cases h7:o.ru<1
 ·rw[show a3D o=4 from if_neg (by unfold Po.ok;omega)];simp only[dT0 h7,↓reduceIte,Q2,Q0,]
 rw[dF0 h7];by_cases h8:3<o.ru
 ·rw[show a3D o=4 from if_neg (by unfold Po.ok;omega)];simp only[dT0 h8,↓reduceIte,Q2,Q0,]
 rw[dF0 h8,show a3D o=0 from if_pos (by unfold Po.ok;omega)];simp only[↓reduceIte,Q2,Q0,]
theorem a8F(o:Po)(hn:1<=n):a0a Tab n a4W [.agg o.row] σ=some (.int .i64 (a3D o),σ):=by
 obtain⟨n,rfl⟩:∃k,n=k+1:=⟨n-1,by omega⟩;rw[a0a];simp only[b3F,Q0,Sys.run,a4R];show ((a0i [.sh (.agg [_,_,_,_])] _).bind _)=_;simp only[a0i,a0l,a0c,Q1,Q0,Q9,if_true];show (PT.ev _ a4S _).bind _=_;have e6:∀a b:Int,ltB a b=decide (a<b):=fun _ _=>rfl
 simp only[a4S,↓reduceIte,a0j,a0e,BE.safe,BE.pe,IE.pe,Q4,Q6,Q2,Q1,Q0,SV.pv,e6,a0g,or_true];by_cases h1:o.st<1
 ·rw[show a3D o=4 from if_neg (by unfold Po.ok;omega)];simp only[dT0 h1,↓reduceIte,Q0,]
 rw[dF0 h1];by_cases h2:1000000<o.st
 ·rw[show a3D o=4 from if_neg (by unfold Po.ok;omega)];simp only[dT0 h2,↓reduceIte,Q2,Q0,]
 rw[dF0 h2];by_cases h3:o.pc<0
 ·rw[show a3D o=4 from if_neg (by unfold Po.ok;omega)];simp only[dT0 h3,↓reduceIte,Q2,Q0,]
 rw[dF0 h3];by_cases h4:100<o.pc
 ·rw[show a3D o=4 from if_neg (by unfold Po.ok;omega)];simp only[dT0 h4,↓reduceIte,Q2,Q0,]
 rw[dF0 h4];by_cases h5:o.un<1
 ·rw[show a3D o=4 from if_neg (by unfold Po.ok;omega)];simp only[dT0 h5,↓reduceIte,Q2,Q0,]
 rw[dF0 h5];by_cases h6:3<o.un
 ·rw[show a3D o=4 from if_neg (by unfold Po.ok;omega)];simp only[dT0 h6,↓reduceIte,Q2,Q0,]
 rw[dF0 h6];by_cases h7:o.ru<1
 ·rw[show a3D o=4 from if_neg (by unfold Po.ok;omega)];simp only[dT0 h7,↓reduceIte,Q2,Q0,]
 rw[dF0 h7];by_cases h8:3<o.ru
 ·rw[show a3D o=4 from if_neg (by unfold Po.ok;omega)];simp only[dT0 h8,↓reduceIte,Q2,Q0,]
 rw[dF0 h8,show a3D o=0 from if_pos (by unfold Po.ok;omega)];simp only[↓reduceIte,Q2,Q0,]
end
section
variable (σ:List MO)(n:Nat)(o:Po)(ho:o.ok)(p ex:W6)(hp:p.pok)
end
def a3e(l:List Pr):W6:=⟨((l.map Pr.r)[0]?).getD 0,((l.map Pr.r)[1]?).getD 0,((l.map Pr.r)[2]?).getD 0,((l.map Pr.r)[3]?).getD 0,((l.map Pr.r)[4]?).getD 0,((l.map Pr.r)[5]?).getD 0⟩
theorem d0N{l:List Pr}(h:∀x∈l,x.rng):(a3e l).pok:=by
 have g:∀i:Nat,0<=((l.map Pr.r)[i]?).getD 0/\((l.map Pr.r)[i]?).getD 0<=1000000:=fun i=>by
  rw[Qw];cases hx:l[i]? with
  | none=>simp
  | some x=>have:=h x (Qz hx);simp only[Pr.rng] at this;simp;omega
 have:=g 0;have:=g 1;have:=g 2;have:=g 3;have:=g 4;have:=g 5;simp only[W6.pok,a3e];omega
section
variable (σ:List MO)(l:List Pr)(P:PV)(hP:P.rowsOf 5=some (l.map Pr.row))(hl:l.length<=6)(n:Nat)
include hP hl in
theorem c7Q(hn:10<=n):a0a Tab n a9X [P] σ=some (.agg (a3e l).pv,σ):=by
 obtain⟨n,rfl⟩:∃k,n=k+1:=⟨n-1,by omega⟩;obtain⟨p1,p2,p3⟩:=a0d hP;rw[Qh] at p1;have hq:∀(i:Nat) (x:Pr),l[i]?=some x->a2z (i:Int) 5 2 P=some (.row x.row 2):=fun i x h=>a0z (off:=2) hP (a3W h)
 have e6:∀a b:Int,ltB a b=decide (a<b):=fun _ _=>rfl
 have d1:∀a b c d e:PV,List.drop 2 [a,b,c,d,e]=[c,d,e]:=fun _ _ _ _ _=>rfl
 rw[a0a];simp only[b3D,Q0,Sys.run];show ((a0i [.sh (.one _)] _).bind _)=_;simp only[a0i,a0l,a0c,Q1,Q0,Q9,if_true,p3];show (PT.ev _ a4Z _).bind _=_;rcases l with _|⟨a,_|⟨b,_|⟨c,_|⟨d,_|⟨e,_|⟨f,_|⟨z,r⟩⟩⟩⟩⟩⟩⟩
 case cons.cons.cons.cons.cons.cons.cons=>simp at hl
 all_goals
  first|have h0:=hq 0 _ rfl|have h0:=p3
  first|have h1:=hq 1 _ rfl|have h1:=p3
  first|have h2:=hq 2 _ rfl|have h2:=p3
  first|have h3:=hq 3 _ rfl|have h3:=p3
  first|have h4:=hq 4 _ rfl|have h4:=p3
  first|have h5:=hq 5 _ rfl|have h5:=p3
  simp only[Qe,Qf,Qr,Nat.reduceAdd,Int.cast_ofNat_Int] at *
  simp only[a4Z,↓reduceIte,a0j,a0e,a0f,a0V,BE.safe,BE.pe,IE.pe,PEnv.at,Q4,Q6,Q7,a0y,a0b,a1d,Qe,Qf,Nat.reduceAdd,Q2,QD,Qu,a0c,Q1,Q0,PEnv.push,Q8,Q3,SV.pvs,SV.pv,p1,p2,e6,Int.reduceLT,decide_true,decide_false,h0,h1,h2,h3,h4,h5,a5c,d1,Nat.reduceLeDiff,a0g,or_true];rfl
def c0e(P:PV)(σ:List MO)(N i:Nat)(w:W6):PEnv:={i:=[(N:Int),(i:Int),w.a,w.b,w.c,w.d,w.e,w.f],b:=[],v:=[P],m:=σ,k:=σ.length}
include hP hl in
theorem c4B(hn:10<=n):a0a Tab n b1u [P] σ=some (.agg (a3e l).pv,σ):=by
 obtain⟨n,rfl⟩:∃k,n=k+1:=⟨n-1,by omega⟩;obtain⟨q1,q2,q3⟩:=a0d hP;rw[Qh] at q1;have hP2:(PV.sl 5 (l.map Pr.row)).rowsOf 5=some (l.map Pr.row):=a1K _ _;obtain⟨p1,p2,p3⟩:=a0d hP2;rw[Qh] at p1
 have step:∀i x,l[i]?=some x->∀fuel (w:W6),a1n.loop (a0a Tab n) (fuel+1) 0 (c0e (.sl 5 (l.map Pr.row)) σ l.length i w)=a1n.loop (a0a Tab n) fuel 0 (c0e (.sl 5 (l.map Pr.row)) σ l.length (i+1) (match i with|0=>{w with a:=x.r}|1=>{w with b:=x.r}|2=>{w with c:=x.r}|3=>{w with d:=x.r}|4=>{w with e:=x.r}|_=>{w with f:=x.r})):=by
  intro i x hx fuel w;have hlt:i<l.length:=(Qk.1 hx).1;have hd:decide (i<l.length)=true:=dT0 hlt;have h0:=a0z (off:=0) hP2 (a3W hx);have e5:∀a b:Int,eqB a b=decide (a=b):=fun _ _=>rfl
  rw[Sys.loop,show a1n.loops[0]?=some a2Y from rfl];simp only[c0e];simp only[Q0,a2Y,↓reduceIte,a0e,a0f,a0V,a0m,BE.safe,BE.pe,IE.pe,PEnv.at,Q4,Q6,Q7,a0y,a0b,a1d,Qt,Qe,Qf,Nat.reduceAdd,Qm,Q2,QD,Qu,a0c,Q1,Q0,PEnv.push,Q8,Q3,SV.pvs,SV.pv,BE.all,Qd,Qb,Qg,p1,a0o,hd,le0,h0,a5c,a1J];obtain rfl|rfl|rfl|rfl|rfl|rfl:i=0\/i=1\/i=2\/i=3\/i=4\/i=5:=by omega
  all_goals rfl
 have fin:∀fuel (w:W6),a1n.loop (a0a Tab n) (fuel+1) 0 (c0e (.sl 5 (l.map Pr.row)) σ l.length l.length w)=some (.agg w.pv,σ):=by
  intro fuel w;have hd:decide (l.length<l.length)=false:=by simp
  rw[Sys.loop,show a1n.loops[0]?=some a2Y from rfl];simp only[c0e];simp only[Q0,a2Y,↓reduceIte,a0j,a0e,BE.safe,BE.pe,IE.pe,Q4,Q6,Q2,Q1,Q0,SV.pvs,SV.pv,a0o,hd,a0g,or_true,W6.pv]
 have key:a1n.loop (a0a Tab n) n 0 (c0e (.sl 5 (l.map Pr.row)) σ l.length 0 ⟨0,0,0,0,0,0⟩)=some (.agg (a3e l).pv,σ):=by
  obtain⟨m,rfl⟩:∃m,n=m+7:=⟨n-7,by omega⟩;rcases l with _|⟨a,_|⟨b,_|⟨c,_|⟨d,_|⟨e,_|⟨f,_|⟨z,r⟩⟩⟩⟩⟩⟩⟩
  ·exact fin _ _
  ·rw[step 0 a rfl];exact fin _ _
  ·rw[step 0 a rfl,step 1 b rfl];exact fin _ _
  ·rw[step 0 a rfl,step 1 b rfl,step 2 c rfl];exact fin _ _
  ·rw[step 0 a rfl,step 1 b rfl,step 2 c rfl,step 3 d rfl];exact fin _ _
  ·rw[step 0 a rfl,step 1 b rfl,step 2 c rfl,step 3 d rfl,step 4 e rfl];exact fin _ _
  ·rw[step 0 a rfl,step 1 b rfl,step 2 c rfl,step 3 d rfl,step 4 e rfl,step 5 f rfl];exact fin _ _
  ·simp at hl
 rw[a0a];simp only[b6Y,Q0,Sys.run];show ((a0i [.sh (.one _)] _).bind _)=_;simp only[a0i,a0l,a0c,Q1,Q0,Q9,if_true,q3];show (PT.ev _ a6K _).bind _=_;have hm:mnI (l.length:Int) 6=(l.length:Int):=by unfold mnI;rw[if_neg (by omega)]
 have c1:(0:Int)<=0/\(0:Int)<=(l.length:Int)/\(l.length:Int)<=((l.map Pr.row).length:Int):=by rw[Qh];omega
 have c2:((l.map Pr.row).take (l.length:Int).toNat).drop (0:Int).toNat=l.map Pr.row:=by rw[QK,QC (by simp)];rfl
 simp only[a6K,↓reduceIte,a0f,b6J,a0m,BE.safe,BE.pe,IE.pe,PEnv.at,Q4,Q6,Q7,Qa,Q1,Q0,Q8,Q3,SV.pvs,SV.pv,BE.all,Qb,Qg,q1,q2,hP,a2i,a2h,hm,if_pos c1,c2,p1,p2];exact key
end
theorem c4o:∀l:List W6,a4h 6 l.length (l.map W6.pv).flatten=some (l.map W6.pv)
 | []=>rfl
 | w::l=>by
  have ih:=c4o l;rw[Qb,Qp,Qe,a4h,Xb (b5Q w),Xf (b5Q w),if_pos ⟨by simp[b5Q],rfl⟩,ih];rfl
section
variable (σ:List MO)(n:Nat)(un:Int)(s:W6)(v0 v1:PV)(l0 l1:List W6)
end
section
variable (σ:List MO)(n:Nat)(un:Int)(s:W6)(hb:Nat)(R:Nat->Prop)(v1:PV)(bf ak:List W6)
end
theorem c6l(F:List PV->List MO->Option (PV×List MO))(Φ:Fns)(n:Nat)(a:List PV)(σ:List MO):Sys.run Φ (⟨[],.stuck,[],some F,none⟩:Sx.Sys) n a σ=F a σ:=rfl
section
variable (σ:List MO)(n:Nat)(un:Int)(s:W6)(hb:Nat)(R:Nat->Prop)(v1:PV)(bf ak:List W6)
end
section
variable (σ:List MO)(v:PV)(l:List W6)(hv:BRd σ v l)(hok:∀w∈l,w.ok)(hl:l.length<=8)(n:Nat)
end
section
variable (σ:List MO)(v:PV)(l:List W6)(hv:BRd σ v l)(hok:∀w∈l,w.ok)(hl:l.length<=8)(n:Nat)(s a:W6)(hs:s.ok)(ha:a.ok){i:Nat}{m:W6}(hm:l[i]?=some m)
end
section
variable (σ:List MO)(n:Nat)(un:Int)(s:W6)(v0 v1:PV)(bf ak:List W6)
end
theorem c1P(h:Nat):PV.isKind 4 (.ref h 0)=true:=rfl
theorem c3w(h:Nat):PV.isKind 1 (.ref h 0)=true:=rfl
theorem b8q(h:Nat):PV.one (.ref h 0)=true:=rfl
theorem c2j(h:Nat):PV.isNil (.ref h 0)=false:=rfl
theorem c2a(h:Nat):PV.nilOk (.ref h 0)=true:=rfl
theorem d6g(h n sz:Nat):PV.isKind 0 (.msl h 0 n n sz)=true:=rfl
theorem d6L(h n sz:Nat):PV.len (.msl h 0 n n sz)=(n:Int):=rfl
theorem c8I(h n sz:Nat):PV.one (.msl h 0 n n sz)=true:=rfl
section
variable {s:St}{o:Po}{σ:List MO}{h:Nat}{vcl:PV}{ha hb hd:Nat}{R:Nat->Prop}{c:Ck}(k:CkAt s o σ h vcl ha hb hd R c)(n:Nat)
include k in
theorem c5H(hn:1<=n):a0a Tab n b0n [.ref h 0] σ=some (.agg c.p.pv,σ):=by
 obtain⟨n,rfl⟩:∃k,n=k+1:=⟨n-1,by omega⟩;have hob:=k.obj;have r0:∀is bs vs k,a0b {i:=is,b:=bs,v:=vs,m:=σ,k:=k} false 4 (.obj h 0)=some [s.P,s.B,s.C,s.A]:=a0x hob 0 4 (by decide);have r01:∀is bs vs k,a0b {i:=is,b:=bs,v:=vs,m:=σ,k:=k} false 1 (.obj h 0)=some [s.P]:=a0x hob 0 1 (by decide);have r4:∀is bs vs k,a0b {i:=is,b:=bs,v:=vs,m:=σ,k:=k} false 4 (.obj h 4)=some [.int .i64 o.st,.int .i64 o.pc,.int .i64 o.un,.int .i64 o.ru]:=a0x hob 4 4 (by decide);have r6:∀is bs vs k,a0b {i:=is,b:=bs,v:=vs,m:=σ,k:=k} false 1 (.obj h 6)=some [.int .i64 o.un]:=a0x hob 6 1 (by decide);have r7:∀is bs vs k,a0b {i:=is,b:=bs,v:=vs,m:=σ,k:=k} false 1 (.obj h 7)=some [.int .i64 o.ru]:=a0x hob 7 1 (by decide);have r8:∀is bs vs k,a0b {i:=is,b:=bs,v:=vs,m:=σ,k:=k} false 1 (.obj h 8)=some [vcl]:=a0x hob 8 1 (by decide);have r9:∀is bs vs k,a0b {i:=is,b:=bs,v:=vs,m:=σ,k:=k} false 6 (.obj h 9)=some [.int .i64 c.p.a,.int .i64 c.p.b,.int .i64 c.p.c,.int .i64 c.p.d,.int .i64 c.p.e,.int .i64 c.p.f]:=a0x hob 9 6 (by decide);have r15:∀is bs vs k,a0b {i:=is,b:=bs,v:=vs,m:=σ,k:=k} false 1 (.obj h 15)=some [.msl ha 0 c.out.length c.out.length 6]:=a0x hob 15 1 (by decide);have r16:∀is bs vs k,a0b {i:=is,b:=bs,v:=vs,m:=σ,k:=k} false 1 (.obj h 16)=some [.msl hb 0 c.out.length c.out.length 1]:=a0x hob 16 1 (by decide);have r17:∀is bs vs k,a0b {i:=is,b:=bs,v:=vs,m:=σ,k:=k} false 1 (.obj h 17)=some [.msl hd 0 c.out.length c.out.length 1]:=a0x hob 17 1 (by decide);have r18:∀is bs vs k,a0b {i:=is,b:=bs,v:=vs,m:=σ,k:=k} false 1 (.obj h 18)=some [.bool c.over]:=a0x hob 18 1 (by decide);rw[a0a];simp only[b4W,Q0,Sys.run];show ((a0i [.sh (.one _)] _).bind _)=_;simp only[a0i,a0l,a0c,Q1,Q0,Q9,if_true,b8q];show (PT.ev _ a5t _).bind _=_;simp only[a5t,↓reduceIte,PT.ev,BE.safe,BE.pe,IE.pe,PEnv.at,Q4,Q6,Q7,a0y,a9w,Qe,Qf,Nat.reduceAdd,Q2,a0c,Q1,Q0,PEnv.push,Q8,Q3,SV.pvs,SV.pv,c1P,c3w,c2j,c2a,Qr,r9,a0g,or_true,pv6]
include k in
theorem c6F(hn:1<=n):a0a Tab n b0J [.ref h 0] σ=some (.int .i64 (c.cl.length:Int),σ):=by
 obtain⟨n,rfl⟩:∃k,n=k+1:=⟨n-1,by omega⟩;have hob:=k.obj;have r0:∀is bs vs k,a0b {i:=is,b:=bs,v:=vs,m:=σ,k:=k} false 4 (.obj h 0)=some [s.P,s.B,s.C,s.A]:=a0x hob 0 4 (by decide);have r01:∀is bs vs k,a0b {i:=is,b:=bs,v:=vs,m:=σ,k:=k} false 1 (.obj h 0)=some [s.P]:=a0x hob 0 1 (by decide);have r4:∀is bs vs k,a0b {i:=is,b:=bs,v:=vs,m:=σ,k:=k} false 4 (.obj h 4)=some [.int .i64 o.st,.int .i64 o.pc,.int .i64 o.un,.int .i64 o.ru]:=a0x hob 4 4 (by decide);have r6:∀is bs vs k,a0b {i:=is,b:=bs,v:=vs,m:=σ,k:=k} false 1 (.obj h 6)=some [.int .i64 o.un]:=a0x hob 6 1 (by decide);have r7:∀is bs vs k,a0b {i:=is,b:=bs,v:=vs,m:=σ,k:=k} false 1 (.obj h 7)=some [.int .i64 o.ru]:=a0x hob 7 1 (by decide);have r8:∀is bs vs k,a0b {i:=is,b:=bs,v:=vs,m:=σ,k:=k} false 1 (.obj h 8)=some [vcl]:=a0x hob 8 1 (by decide);have r9:∀is bs vs k,a0b {i:=is,b:=bs,v:=vs,m:=σ,k:=k} false 6 (.obj h 9)=some [.int .i64 c.p.a,.int .i64 c.p.b,.int .i64 c.p.c,.int .i64 c.p.d,.int .i64 c.p.e,.int .i64 c.p.f]:=a0x hob 9 6 (by decide);have r15:∀is bs vs k,a0b {i:=is,b:=bs,v:=vs,m:=σ,k:=k} false 1 (.obj h 15)=some [.msl ha 0 c.out.length c.out.length 6]:=a0x hob 15 1 (by decide);have r16:∀is bs vs k,a0b {i:=is,b:=bs,v:=vs,m:=σ,k:=k} false 1 (.obj h 16)=some [.msl hb 0 c.out.length c.out.length 1]:=a0x hob 16 1 (by decide);have r17:∀is bs vs k,a0b {i:=is,b:=bs,v:=vs,m:=σ,k:=k} false 1 (.obj h 17)=some [.msl hd 0 c.out.length c.out.length 1]:=a0x hob 17 1 (by decide);have r18:∀is bs vs k,a0b {i:=is,b:=bs,v:=vs,m:=σ,k:=k} false 1 (.obj h 18)=some [.bool c.over]:=a0x hob 18 1 (by decide);have hc:=k.cl.rd;rw[a0a];simp only[b5P,Q0,Sys.run];show ((a0i [.sh (.one _)] _).bind _)=_;simp only[a0i,a0l,a0c,Q1,Q0,Q9,if_true,b8q];show (PT.ev _ a5K _).bind _=_;simp only[a5K,↓reduceIte,PT.ev,BE.safe,BE.pe,IE.pe,PEnv.at,Q4,Q6,Q7,a0y,a9w,Qe,Qf,Q2,a0c,Q1,Q0,PEnv.push,Q8,Q3,SV.pv,c1P,c3w,c2j,c2a,Qr,r8,hc.one,hc.kind,hc.len,a0g,or_true]
include k in
theorem c8c(hn:1<=n):a0a Tab n b1z [.ref h 0] σ=some (.bool c.over,σ):=by
 obtain⟨n,rfl⟩:∃k,n=k+1:=⟨n-1,by omega⟩;have hob:=k.obj;have r0:∀is bs vs k,a0b {i:=is,b:=bs,v:=vs,m:=σ,k:=k} false 4 (.obj h 0)=some [s.P,s.B,s.C,s.A]:=a0x hob 0 4 (by decide);have r01:∀is bs vs k,a0b {i:=is,b:=bs,v:=vs,m:=σ,k:=k} false 1 (.obj h 0)=some [s.P]:=a0x hob 0 1 (by decide);have r4:∀is bs vs k,a0b {i:=is,b:=bs,v:=vs,m:=σ,k:=k} false 4 (.obj h 4)=some [.int .i64 o.st,.int .i64 o.pc,.int .i64 o.un,.int .i64 o.ru]:=a0x hob 4 4 (by decide);have r6:∀is bs vs k,a0b {i:=is,b:=bs,v:=vs,m:=σ,k:=k} false 1 (.obj h 6)=some [.int .i64 o.un]:=a0x hob 6 1 (by decide);have r7:∀is bs vs k,a0b {i:=is,b:=bs,v:=vs,m:=σ,k:=k} false 1 (.obj h 7)=some [.int .i64 o.ru]:=a0x hob 7 1 (by decide);have r8:∀is bs vs k,a0b {i:=is,b:=bs,v:=vs,m:=σ,k:=k} false 1 (.obj h 8)=some [vcl]:=a0x hob 8 1 (by decide);have r9:∀is bs vs k,a0b {i:=is,b:=bs,v:=vs,m:=σ,k:=k} false 6 (.obj h 9)=some [.int .i64 c.p.a,.int .i64 c.p.b,.int .i64 c.p.c,.int .i64 c.p.d,.int .i64 c.p.e,.int .i64 c.p.f]:=a0x hob 9 6 (by decide);have r15:∀is bs vs k,a0b {i:=is,b:=bs,v:=vs,m:=σ,k:=k} false 1 (.obj h 15)=some [.msl ha 0 c.out.length c.out.length 6]:=a0x hob 15 1 (by decide);have r16:∀is bs vs k,a0b {i:=is,b:=bs,v:=vs,m:=σ,k:=k} false 1 (.obj h 16)=some [.msl hb 0 c.out.length c.out.length 1]:=a0x hob 16 1 (by decide);have r17:∀is bs vs k,a0b {i:=is,b:=bs,v:=vs,m:=σ,k:=k} false 1 (.obj h 17)=some [.msl hd 0 c.out.length c.out.length 1]:=a0x hob 17 1 (by decide);have r18:∀is bs vs k,a0b {i:=is,b:=bs,v:=vs,m:=σ,k:=k} false 1 (.obj h 18)=some [.bool c.over]:=a0x hob 18 1 (by decide);rw[a0a];simp only[b7k,Q0,Sys.run];show ((a0i [.sh (.one _)] _).bind _)=_;simp only[a0i,a0l,a0c,Q1,Q0,Q9,if_true,b8q];show (PT.ev _ a6J _).bind _=_;simp only[a6J,↓reduceIte,PT.ev,BE.safe,BE.pe,PEnv.at,Q4,Q7,a0y,a9w,Qe,Qf,Q2,a0c,Q1,Q0,PEnv.push,Q8,Q3,SV.pv,QB,c1P,c3w,c2j,c2a,Qr,r18,a0g,or_true]
include k in
theorem c8Z(i:Int)(hn:1<=n):a0a Tab n b1Z [.ref h 0,.int .i64 i] σ=some (.bool (c.has i),σ):=by
 obtain⟨n,rfl⟩:∃k,n=k+1:=⟨n-1,by omega⟩;have hob:=k.obj;have r0:∀is bs vs k,a0b {i:=is,b:=bs,v:=vs,m:=σ,k:=k} false 4 (.obj h 0)=some [s.P,s.B,s.C,s.A]:=a0x hob 0 4 (by decide);have r01:∀is bs vs k,a0b {i:=is,b:=bs,v:=vs,m:=σ,k:=k} false 1 (.obj h 0)=some [s.P]:=a0x hob 0 1 (by decide);have r4:∀is bs vs k,a0b {i:=is,b:=bs,v:=vs,m:=σ,k:=k} false 4 (.obj h 4)=some [.int .i64 o.st,.int .i64 o.pc,.int .i64 o.un,.int .i64 o.ru]:=a0x hob 4 4 (by decide);have r6:∀is bs vs k,a0b {i:=is,b:=bs,v:=vs,m:=σ,k:=k} false 1 (.obj h 6)=some [.int .i64 o.un]:=a0x hob 6 1 (by decide);have r7:∀is bs vs k,a0b {i:=is,b:=bs,v:=vs,m:=σ,k:=k} false 1 (.obj h 7)=some [.int .i64 o.ru]:=a0x hob 7 1 (by decide);have r8:∀is bs vs k,a0b {i:=is,b:=bs,v:=vs,m:=σ,k:=k} false 1 (.obj h 8)=some [vcl]:=a0x hob 8 1 (by decide);have r9:∀is bs vs k,a0b {i:=is,b:=bs,v:=vs,m:=σ,k:=k} false 6 (.obj h 9)=some [.int .i64 c.p.a,.int .i64 c.p.b,.int .i64 c.p.c,.int .i64 c.p.d,.int .i64 c.p.e,.int .i64 c.p.f]:=a0x hob 9 6 (by decide);have r15:∀is bs vs k,a0b {i:=is,b:=bs,v:=vs,m:=σ,k:=k} false 1 (.obj h 15)=some [.msl ha 0 c.out.length c.out.length 6]:=a0x hob 15 1 (by decide);have r16:∀is bs vs k,a0b {i:=is,b:=bs,v:=vs,m:=σ,k:=k} false 1 (.obj h 16)=some [.msl hb 0 c.out.length c.out.length 1]:=a0x hob 16 1 (by decide);have r17:∀is bs vs k,a0b {i:=is,b:=bs,v:=vs,m:=σ,k:=k} false 1 (.obj h 17)=some [.msl hd 0 c.out.length c.out.length 1]:=a0x hob 17 1 (by decide);have r18:∀is bs vs k,a0b {i:=is,b:=bs,v:=vs,m:=σ,k:=k} false 1 (.obj h 18)=some [.bool c.over]:=a0x hob 18 1 (by decide);rw[a0a];simp only[b8M,Q0,Sys.run];show ((a0i [.sh (.one _),.sh (.one _)] _).bind _)=_;simp only[a0i,a0l,a0c,Q1,Q0,Q9,Q3,if_true,b8q];show (PT.ev _ a8O _).bind _=_;unfold Ck.has;simp only[a8O,↓reduceIte,PT.ev,BE.safe,BE.pe,IE.pe,PEnv.at,Q4,Q6,Q7,a0y,a9w,Qe,Qf,Nat.reduceAdd,Q0,PEnv.push,Q8,Q3,SV.pv,];cases leB 0 i<;>simp only[↓reduceIte,Q4,Q2,a0c,Q1,Q0,c3w,r17,c8I,d6g,d6L,a0g,or_true,QY,Bool.false_and]
def d0w(σ:List MO)(i N j:Int)(O V:PV):PEnv:={i:=[i,N,j],b:=[],v:=[O,V],m:=σ,k:=σ.length}
include k in
theorem d1v(hl:c.cl.length<=100){i:Nat}(hi:∀r∈c.cl,i<r.ask.length):∀d j,j+d=c.cl.length->∀(O:PV),O.rowsOf 12=some (((c.cl.take j).map fun r=>(⟨r.p,wa r.ask i⟩:Ch)).map Ch.row)->∀fuel,d+1<=fuel ->
  ∃L,a1q.loop (a0a Tab n) fuel 0 (d0w σ (i:Int) (c.cl.length:Int) (j:Int) O vcl)=some (L,σ)/\L.rowsOf 12=some ((c.chs i).map Ch.row):=by
 have hc:=k.cl.rd;intro d
 induction d with
 | zero =>
  intro j hj O hO fuel hf;obtain⟨fuel,rfl⟩:∃k,fuel=k+1:=⟨fuel-1,by omega⟩;obtain rfl:j=c.cl.length:=by omega
  have hd:ltB (c.cl.length:Int) (c.cl.length:Int)=false:=by rw[a0p];omega
  refine⟨O,?_,by rw[QZ] at hO;exact hO⟩;rw[Sys.loop,show a1q.loops[0]?=some a2p from rfl];simp only[Q0,d0w,a2p,↓reduceIte,a0j,a0e,BE.safe,BE.pe,IE.pe,Q4,Q6,Q7,Q2,Q1,Q0,SV.pv,hd,a0g,or_true]
 | succ d ih =>
  intro j hj O hO fuel hf;obtain⟨fuel,rfl⟩:∃k,fuel=k+1:=⟨fuel-1,by omega⟩;obtain⟨r,hr⟩:=a0S (show j<c.cl.length by omega);obtain⟨row,hrow,hrd⟩:=hc.rd j r hr;obtain⟨a,g,b,rfl,ba,bg,bb⟩:=hrow;obtain⟨L,q1,q2⟩:=hrd 0 9 (by decide);have q2:∀is bs vs k,a0b {i:=is,b:=bs,v:=vs,m:=σ,k:=k} false 9 L=some [.int .i64 r.p.a,.int .i64 r.p.b,.int .i64 r.p.c,.int .i64 r.p.d,.int .i64 r.p.e,.int .i64 r.p.f,a,g,b]:=q2;have hir:=hi r (Qz hr);obtain⟨w,hw⟩:=a0S hir;have hba:=ba.rd;obtain⟨L2,hL2⟩:=hba.rd i w hw;obtain⟨u1,u2⟩:=hL2 0 6 (by decide);have hd:ltB (j:Int) (c.cl.length:Int)=true:=by rw[a0W];omega
  have hd2:ltB (i:Int) (r.ask.length:Int)=true:=by rw[a0W];omega
  have hup:=a2e (show j<=1000000000 by omega);obtain⟨p1,p2,p3⟩:=a0d hO;have t1:(0:Nat)+1<=1000000:=by decide
  have t2:(((c.cl.take j).map fun r=>(⟨r.p,wa r.ask i⟩:Ch)).map Ch.row).length+1<=1000000:=by simp;omega
  obtain⟨L',e1,e2⟩:=ih (j+1) (by omega) (.sl 12 (((c.cl.take j).map fun r=>(⟨r.p,wa r.ask i⟩:Ch)).map Ch.row++[(⟨r.p,w⟩:Ch).row])) (by
   rw[a1K,X0,hr,X8,X1,X1,Qb,Qb,Qg,Qg,c9h hw]) fuel (by omega)
  refine⟨L',?_,e2⟩;rw[<- e1,a1f,Sys.loop,show a1q.loops[0]?=some a2p from rfl];have oa:=ba.one;have og:=bg.one;have ob:=bb.one;generalize ((c.cl.take j).map fun r=>(⟨r.p,wa r.ask i⟩:Ch)).map Ch.row=RW at *
  simp only[Q0,d0w,a2p,↓reduceIte,PT.ev,BE.safe,BE.pe,IE.pe,PEnv.at,Q4,Q6,Q7,Qa,a0y,Qt,Qe,Qf,Nat.reduceAdd,QD,Qu,a0c,Q1,Q0,PEnv.push,Q8,Q3,SV.pvs,SV.pv,BE.all,Qd,Qb,Qg,a1o,QQ,QS,QU,QV,hd,le0,hc.len,q1,q2,oa,og,ob,hba.len,hd2,u1,u2,pv6,Qt,hO,if_pos t1,a1K,if_pos t2,if_pos hup,b6H]
include k in
theorem c6H(hl:c.cl.length<=100)(hi:∀r∈c.cl,r.ask.length=c.out.length)(i:Int)(hn:110<=n):∃L,a0a Tab n a4X [.ref h 0,.int .i64 i] σ=some (L,σ)/\L.rowsOf 12=some ((if c.has i=true then c.chs i.toNat else []).map Ch.row):=by
 obtain⟨n,rfl⟩:∃k,n=k+1:=⟨n-1,by omega⟩;have hob:=k.obj;have r0:∀is bs vs k,a0b {i:=is,b:=bs,v:=vs,m:=σ,k:=k} false 4 (.obj h 0)=some [s.P,s.B,s.C,s.A]:=a0x hob 0 4 (by decide);have r01:∀is bs vs k,a0b {i:=is,b:=bs,v:=vs,m:=σ,k:=k} false 1 (.obj h 0)=some [s.P]:=a0x hob 0 1 (by decide);have r4:∀is bs vs k,a0b {i:=is,b:=bs,v:=vs,m:=σ,k:=k} false 4 (.obj h 4)=some [.int .i64 o.st,.int .i64 o.pc,.int .i64 o.un,.int .i64 o.ru]:=a0x hob 4 4 (by decide);have r6:∀is bs vs k,a0b {i:=is,b:=bs,v:=vs,m:=σ,k:=k} false 1 (.obj h 6)=some [.int .i64 o.un]:=a0x hob 6 1 (by decide);have r7:∀is bs vs k,a0b {i:=is,b:=bs,v:=vs,m:=σ,k:=k} false 1 (.obj h 7)=some [.int .i64 o.ru]:=a0x hob 7 1 (by decide);have r8:∀is bs vs k,a0b {i:=is,b:=bs,v:=vs,m:=σ,k:=k} false 1 (.obj h 8)=some [vcl]:=a0x hob 8 1 (by decide);have r9:∀is bs vs k,a0b {i:=is,b:=bs,v:=vs,m:=σ,k:=k} false 6 (.obj h 9)=some [.int .i64 c.p.a,.int .i64 c.p.b,.int .i64 c.p.c,.int .i64 c.p.d,.int .i64 c.p.e,.int .i64 c.p.f]:=a0x hob 9 6 (by decide);have r15:∀is bs vs k,a0b {i:=is,b:=bs,v:=vs,m:=σ,k:=k} false 1 (.obj h 15)=some [.msl ha 0 c.out.length c.out.length 6]:=a0x hob 15 1 (by decide);have r16:∀is bs vs k,a0b {i:=is,b:=bs,v:=vs,m:=σ,k:=k} false 1 (.obj h 16)=some [.msl hb 0 c.out.length c.out.length 1]:=a0x hob 16 1 (by decide);have r17:∀is bs vs k,a0b {i:=is,b:=bs,v:=vs,m:=σ,k:=k} false 1 (.obj h 17)=some [.msl hd 0 c.out.length c.out.length 1]:=a0x hob 17 1 (by decide);have r18:∀is bs vs k,a0b {i:=is,b:=bs,v:=vs,m:=σ,k:=k} false 1 (.obj h 18)=some [.bool c.over]:=a0x hob 18 1 (by decide);have hc:=k.cl.rd;have c1:=c8Z k n i (by omega);simp only[b1Z] at c1
 have go:∀L,(PT.ev (a0a Tab n) a3z {i:=[i],b:=[],v:=[.ref h 0],m:=σ,k:=σ.length}).bind (fun x=>match x with|.ret r σ=>some (r,σ)|.jump q' ρ'=>Sys.loop (a0a Tab n) a1q n q' ρ')=some (L,σ)->a0a Tab (n+1) a4X [.ref h 0,.int .i64 i] σ=some (L,σ):=fun L hL=>by
  rw[a0a];simp only[b3V,Q0,Sys.run];show ((a0i [.sh (.one _),.sh (.one _)] _).bind _)=_;simp only[a0i,a0l,a0c,Q1,Q0,Q9,Q3,if_true,b8q];exact hL
 cases hh:c.has i with
 | false =>
  refine⟨.nilS,go _ ?_,rfl⟩;rw[hh] at c1;simp only[a3z,↓reduceIte,PT.ev,BE.safe,BE.pe,IE.pe,PEnv.at,Q4,Q6,Q7,Qa,a0y,a9w,Qe,Qf,Nat.reduceAdd,Q2,a0c,a0r,a0l,Q1,Q0,PEnv.push,Q8,Q3,SV.pvs,SV.pv,BE.all,QB,Qb,Qg,c1P,c2j,c2a,c1,a0g,or_true]
 | true =>
  rw[hh] at c1;have hh':=hh;unfold Ck.has at hh';rw[QJ,a2L,a0W] at hh';obtain⟨j,rfl⟩:∃j:Nat,i=(j:Int):=⟨i.toNat,by omega⟩;obtain⟨L,e1,e2⟩:=d1v k n hl (i:=j) (fun r hr=>by rw[hi r hr];omega) c.cl.length 0 (by omega) .nilS rfl n (by omega);refine⟨L,go _ ?_,by rw[if_pos rfl,QK];exact e2⟩;simp only[a3z,↓reduceIte,PT.ev,BE.safe,BE.pe,IE.pe,PEnv.at,Q4,Q6,Q7,Qa,a0y,a9w,Qe,Qf,Q2,a0c,a0r,a0l,Q1,Q0,PEnv.push,Q8,Q3,SV.pvs,SV.pv,BE.all,Qn,Qb,Qg,c1P,c3w,c2j,c2a,c1,Qr,r8,hc.one,hc.kind,hc.len];exact e1
end
structure CpS (σ:List MO)(v:PV)(sz N:Nat)(cells:List PV):Prop where
 kind:v.isKind 0=true
 one:v.one=true
 len:v.len=(N:Int)
 src:∀(ρ:PEnv) (x:Nat) (τ:List MO),ρ.v[x]?=some v->ρ.m=σ++τ->a5y ρ sz x=some (N,cells)
 cl:cells.length=N*sz
 ones:cells.all PV.one=true
theorem d0r(l:List W6):(l.map W6.pv).flatten.all PV.one=true:=by
 induction l with
 | nil=>rfl
 | cons w l ih=>rw[Qb,Qp,X6,ih];rfl
theorem d0R(l:List Bool):(l.map PV.bool).all PV.one=true:=by
 induction l with
 | nil=>rfl
 | cons w l ih=>rw[Qb,List.all_cons,ih];rfl
theorem a6S{σ τ:List MO}{h:Nat}{x:MO}(hx:σ[h]?=some x):(σ++τ)[h]?=some x:=by rw[Qs (Qk.1 hx).1];exact hx
theorem BSl.cp{σ:List MO}{R:Nat->Prop}{v:PV}{l:List W6}(h:BSl σ R v l):CpS σ v 6 l.length (l.map W6.pv).flatten:=by
 refine⟨h.rd.kind,h.rd.one,h.rd.len,fun ρ x τ hx hm=>?_,c3Q l,d0r l⟩;rcases h with ⟨h,_,rfl,hh⟩|⟨h,_,rfl,hh⟩
 ·unfold a5y
  rw[hx,hm];simp only[a6S hh,if_true,Q0,MO.list,Qr,c3Q,Qm,Qt];rw[QC (by rw[c3Q];exact Qm _)]
 ·unfold a5y
  rw[hx,hm];simp only[a6S hh,if_true,Q0,MO.elts,Qh,and_self,Q1]
theorem OSl.cp{σ:List MO}{R:Nat->Prop}{v:PV}{l:List Bool}(h:OSl σ R v l):CpS σ v 1 l.length (l.map PV.bool):=by
 obtain⟨h,_,rfl,hh⟩:=h;refine⟨rfl,rfl,rfl,fun ρ x τ hx hm=>?_,by simp,d0R l⟩;unfold a5y;rw[hx,hm];simp only[a6S hh,if_true,Q0,MO.list,Qr,Nat.mul_one,Qh,Qm,Qt];rw[QC (by simp)]
theorem c5T{l new:List PV}(h:new.length=l.length):a3f l 0 new=new:=by
 unfold a3f;rw[Qu,Q3,Qr,List.drop_of_length_le (by omega),Q9]
theorem c5v(σ:List MO)(x y:MO):(σ++[x]).set σ.length y=σ++[y]:=by
 rw[List.set_append_right _ _ (Qm _),X9,Xe]
theorem c7p(N sz:Nat)(z:List PV)(hz:z.length=sz):(Q5 N z).flatten.length=N*sz:=by
 induction N with
 | zero=>simp
 | succ N ih=>rw[QL,Qp,Qv,ih,hz,QW];omega
theorem a5i{σ:List MO}{v:PV}{N:Nat}{cells:List PV}(h:CpS σ v 6 N cells)(hN:N<=1000)(n:Nat)(hn:1<=n):a0a Tab n a6a [v] σ=some (.msl σ.length 0 N N 6,σ++[.cells cells 51]):=by
 obtain⟨n,rfl⟩:∃k,n=k+1:=⟨n-1,by omega⟩;have c1:(0:Int)<=(N:Int)/\(N:Int)<=1000000/\100<=100000000:=⟨by omega,by omega,by decide⟩;have e1:=h.src;have hgt:∀x:MO,(σ++[x])[σ.length]?=some x:=fun x=>by simp
 have one2:PV.one (.msl σ.length 0 N N 6)=true:=rfl;rw[a0a];simp only[b1y,Q0,Sys.run];show ((a0i [.sh (.one _)] _).bind _)=_;simp only[a0i,a0l,a0c,Q1,Q0,Q9,if_true,h.one];show (PT.ev _ a3U _).bind _=_;unfold a3U;rw[a0f];simp only[↓reduceIte,c0c,BE.safe,BE.pe,IE.pe,PEnv.at,Q4,Q1,Q0,Q8,Q3,SV.pvs,SV.pv,h.kind];simp only[h.len,QK];rw[if_pos (by refine⟨by omega,by omega,by decide⟩)];rw[c4r];simp only[Qa,Q7,hgt];rw[h.src _ 0 [_] rfl rfl];simp only[Q0,Nat.min_self];have hle:(Q5 N ([.int .i64 0,.int .i64 0,.int .i64 0,.int .i64 0,.int .i64 0,.int .i64 0]:List PV)).flatten.length=N*6:=c7p N 6 _ rfl;rw[if_pos (by rw[hle];refine⟨trivial,by omega,by rw[h.cl];omega,h.ones⟩),QC (by rw[h.cl];exact Qm _),c5T (by rw[hle,h.cl]),c5v];simp only[↓reduceIte,a0j,Q7,Qa,Q1,Q0,PEnv.push,Q3,Q9,SV.pv,a0g,true_or]
theorem b6c{σ:List MO}{v:PV}{N:Nat}{cells:List PV}(h:CpS σ v 1 N cells)(hN:N<=1000)(n:Nat)(hn:1<=n):a0a Tab n b0I [v] σ=some (.msl σ.length 0 N N 1,σ++[.cells cells 4]):=by
 obtain⟨n,rfl⟩:∃k,n=k+1:=⟨n-1,by omega⟩;have c1:(0:Int)<=(N:Int)/\(N:Int)<=1000000/\100<=100000000:=⟨by omega,by omega,by decide⟩;have e1:=h.src;have hgt:∀x:MO,(σ++[x])[σ.length]?=some x:=fun x=>by simp
 have one2:PV.one (.msl σ.length 0 N N 1)=true:=rfl;rw[a0a];simp only[b6d,Q0,Sys.run];show ((a0i [.sh (.one _)] _).bind _)=_;simp only[a0i,a0l,a0c,Q1,Q0,Q9,if_true,h.one];show (PT.ev _ a5P _).bind _=_;unfold a5P;rw[a0f];simp only[↓reduceIte,c0c,BE.safe,BE.pe,IE.pe,PEnv.at,Q4,Q1,Q0,Q8,Q3,SV.pvs,SV.pv,h.kind];simp only[h.len,QK];rw[if_pos (by refine⟨by omega,by omega,by decide⟩)];rw[c4r];simp only[Qa,Q7,hgt];rw[h.src _ 0 [_] rfl rfl];simp only[Q0,Nat.min_self];have hle:(Q5 N ([.bool false]:List PV)).flatten.length=N*1:=c7p N 1 _ rfl;rw[if_pos (by rw[hle];refine⟨trivial,by omega,by rw[h.cl];omega,h.ones⟩),QC (by rw[h.cl];exact Qm _),c5T (by rw[hle,h.cl]),c5v];simp only[↓reduceIte,a0j,Q7,Qa,Q1,Q0,PEnv.push,Q3,Q9,SV.pv,a0g,true_or]
theorem c5o{s:St}{o:Po}{vcl va vb vd:PV}{p:W6}{ov:Bool}{N:Nat}:(ckO s o vcl va vb vd p ov).low N=true↔s.P.low N=true/\s.B.low N=true/\s.C.low N=true/\s.A.low N=true/\vcl.low N=true/\va.low N=true/\vb.low N=true/\vd.low N=true:=by
 simp only[ckO,MO.low,ckL,PV.lows,PV.low,QJ,and_true,true_and]
section
variable {s:St}{o:Po}{σ:List MO}{h:Nat}{vcl:PV}{ha hb hd:Nat}{R:Nat->Prop}{c:Ck}(k:CkAt s o σ h vcl ha hb hd R c)
include k
end
def clM(σ:List MO)(h:Nat)(x:MO)(N:Nat):List MO:=σ.set h x++[.cells ((Q5 N w0).map W6.pv).flatten 51,.cells ((Q5 N false).map PV.bool) 4]
theorem c7D(σ:List MO)(h:Nat)(x:MO)(N:Nat):(clM σ h x N).length=σ.length+2:=by simp[clM]
theorem d4t{σ:List MO}{h:Nat}(hl:h<σ.length)(x:MO)(N:Nat):(clM σ h x N)[h]?=some x:=by
 unfold clM;rw[Qs (by rw[QE];exact hl),Xq hl]
theorem d1h{σ:List MO}{h y:Nat}(hl:y<σ.length)(hne:y≠h)(x:MO)(N:Nat):(clM σ h x N)[y]?=σ[y]?:=by
 unfold clM;rw[Qs (by rw[QE];exact hl),QN (Ne.symm hne)]
theorem d4F(σ:List MO)(h:Nat)(x:MO)(N:Nat):(clM σ h x N)[σ.length]?=some (.cells ((Q5 N w0).map W6.pv).flatten 51):=by
 unfold clM;rw[Qy (by rw[QE];exact Qm _),QE,X9];rfl
theorem d3N(σ:List MO)(h:Nat)(x:MO)(N:Nat):(clM σ h x N)[σ.length+1]?=some (.cells ((Q5 N false).map PV.bool) 4):=by
 unfold clM;rw[Qy (by rw[QE];omega),QE,show σ.length+1-σ.length=1 by omega];rfl
section
variable {s:St}{o:Po}{σ:List MO}{h:Nat}{vcl:PV}{ha hb hd:Nat}{R:Nat->Prop}{c:Ck}(k:CkAt s o σ h vcl ha hb hd R c)(hσ:Low σ)(hN:c.out.length<=1000)
include k hσ hN
end
theorem d2V{h i n c:Nat}(hi:i<n):a2z (i:Int) 1 0 (.msl h 0 n c 1)=some (.obj h i):=by
 rw[d4E hi,Nat.mul_one]
section
variable {s:St}{o:Po}{σ:List MO}{h:Nat}{F:Nat->Prop}{c:Ck}(K:b0p s o σ h F c)(hσ:Low σ)(hN:c.out.length<=1000)(n:Nat)
include K hσ hN
end
section
variable {s:St}{o:Po}{σ:List MO}{h:Nat}{F:Nat->Prop}{c:Ck}(K:b0p s o σ h F c)(hσ:Low σ)(hN:c.out.length<=1000)(hcl:c.cl.length<=100)(n:Nat)
include K hσ hN hcl
end
theorem CpS.app{σ:List MO}{v:PV}{sz N:Nat}{cells:List PV}(h:CpS σ v sz N cells)(τ:List MO):CpS (σ++τ) v sz N cells :=
 ⟨h.kind,h.one,h.len,fun ρ x τ' hx hm=>h.src ρ x (τ++τ') hx (by rw[hm,Qj]),h.cl,h.ones⟩
def rnA(r:Rn):MO:=.cells (r.ask.map W6.pv).flatten 51
def rnG(r:Rn):MO:=.cells (r.got.map W6.pv).flatten 51
def rnB(r:Rn):MO:=.cells (r.bid.map PV.bool) 4
def a5v(r:Rn)(k:Nat):List PV:=[.int .i64 r.p.a,.int .i64 r.p.b,.int .i64 r.p.c,.int .i64 r.p.d,.int .i64 r.p.e,.int .i64 r.p.f,.msl k 0 r.ask.length r.ask.length 6,.msl (k+1) 0 r.got.length r.got.length 6,.msl (k+2) 0 r.bid.length r.bid.length 1]
theorem c6M{σ:List MO}{R:Nat->Prop}{r:Rn}{row:List PV}(h:b0c σ R r row)(h1:r.ask.length<=1000)(h2:r.got.length<=1000)(h3:r.bid.length<=1000)(n:Nat)(hn:2<=n) :
  a0a Tab n a2d [.agg row] σ=some (.agg (a5v r σ.length),σ++[rnA r]++[rnG r]++[rnB r]):=by
 obtain⟨n,rfl⟩:∃k,n=k+1:=⟨n-1,by omega⟩;obtain⟨a,g,b,rfl,ha,hg,hb⟩:=h;have c1:=a5i ha.cp h1 n (by omega);have c2:=a5i (hg.cp.app [rnA r]) h2 n (by omega);have c3:=b6c ((hb.cp.app [rnA r]).app [rnG r]) h3 n (by omega);rw[Qv,QP] at c2;rw[Qv,Qv,QP,QP] at c3;have o1:=ha.one;have o2:=hg.one;have o3:=hb.one;simp only[a6a,b0I] at c1 c2 c3;change _=some (_,σ++[rnA r]) at c1;change _=some (_,σ++[rnA r]++[rnG r]) at c2;change _=some (_,σ++[rnA r]++[rnG r]++[rnB r]) at c3;rw[a0a];simp only[b5z,Q0,Sys.run];show ((a0i [.sh (.agg [_,_,_,_,_,_,_,_,_])] _).bind _)=_;simp only[a0i,a0l,a0c,Q1,Q0,Q9,if_true,o1,o2,o3]
 have E:PT.ev (a0a Tab n) a3P {i:=[r.p.a,r.p.b,r.p.c,r.p.d,r.p.e,r.p.f],b:=[],v:=[a,g,b],m:=σ,k:=σ.length}=some (.ret (.agg (a5v r σ.length)) (σ++[rnA r]++[rnG r]++[rnB r])):=by
  unfold a3P
  repeat' (first|with_reducible rfl|apply b2C|simp only[↓reduceIte,a0j,a0K,IE.pe,Q4,Q6,Q7,Qa,a0c,a0r,a0l,Q1,Q0,PEnv.push,Q8,Q3,SV.pvs,SV.pv,c1,c2,c3,c8I,a0g,true_or,a5v]|unfold a4k|unfold a7L|unfold a4l|unfold a8L|unfold a2W|unfold a7a|unfold a8m|unfold a7Z)
 show ((PT.ev (a0a Tab n) a3P _).bind _)=_;exact(congrArg (Xa · _) E).trans rfl
theorem c5x{M:List MO}{k:Nat}{r:Rn}{R:Nat->Prop}(h1:M[k]?=some (rnA r))(h2:M[k+1]?=some (rnG r))(h3:M[k+2]?=some (rnB r))(r1:R k)(r2:R (k+1))(r3:R (k+2)):b0c M R r (a5v r k) :=
 ⟨_,_,_,rfl,.inl ⟨k,r1,rfl,h1⟩,.inl ⟨k+1,r2,rfl,h2⟩,⟨k+2,r3,rfl,h3⟩⟩
theorem c4D(r:Rn){k N:Nat}(h:k+2<N):PV.lows N (a5v r k)=true:=by
 simp only[a5v,PV.lows,PV.low,QY,X2,QJ,decide_eq_true_eq];omega
def c5A(σ M:List MO)(O:PV)(cl:List Rn)(j:Nat):Prop :=
 (j=0/\O=.nilS)\/(∃h rows,σ.length<=h/\h<M.length/\O=.rsl h j 9/\0<j/\M[h]?=some (.row rows 9 65)/\a2s M (fun x=>σ.length<=x/\x<M.length/\x≠h) (cl.take j) rows)
section
variable (σ:List MO)(R:Nat->Prop)(V:PV)(cl:List Rn)(hV:CSl σ R V cl)(hR:∀x,R x->x<σ.length)(hl:∀r∈cl,r.ask.length<=1000/\r.got.length<=1000/\r.bid.length<=1000)(hcl:cl.length<=1000)(n:Nat)
def c8f(M:List MO)(K:Nat)(N j:Int)(O V:PV):PEnv:={i:=[N,j],b:=[],v:=[.fn a2d [],O,V],m:=M,k:=K}
include hV hR hl hcl in
theorem d1V(hn:3<=n):∀d j,j+d=cl.length->∀(M:List MO) (O:PV),(∀x,x<σ.length->M[x]?=σ[x]?)->σ.length<=M.length->Low M->c5A σ M O cl j->∀fuel,d+1<=fuel ->
  ∃M' O',a1g.loop (a0a Tab n) fuel 0 (c8f M σ.length (cl.length:Int) (j:Int) O V)=some (O',M')/\(∀x,x<σ.length->M'[x]?=σ[x]?)/\σ.length<=M'.length/\Low M'/\c5A σ M' O' cl cl.length:=by
 intro d
 induction d with
 | zero =>
  intro j hj M O h1 h2 h3 h4 fuel hf;obtain⟨fuel,rfl⟩:∃k,fuel=k+1:=⟨fuel-1,by omega⟩;obtain rfl:j=cl.length:=by omega
  have hd:ltB (cl.length:Int) (cl.length:Int)=false:=by rw[a0p];omega
  refine⟨M,O,?_,h1,h2,h3,h4⟩;rw[Sys.loop,show a1g.loops[0]?=some a1m from rfl];simp only[Q0,c8f,a1m,↓reduceIte,a0j,a0e,BE.safe,BE.pe,IE.pe,Q4,Q6,Q7,Qa,Q2,Q1,Q0,SV.pv,hd,a0g,true_or]
 | succ d ih =>
  intro j hj M O h1 h2 h3 h4 fuel hf;obtain⟨fuel,rfl⟩:∃k,fuel=k+1:=⟨fuel-1,by omega⟩;obtain⟨r,hr⟩:=a0S (show j<cl.length by omega);have hVM:CSl M R V cl:=hV.frame fun x hx=>h1 x (hR x hx)
  have hc:=hVM.rd;obtain⟨row,hrow,hrd⟩:=hc.rd j r hr;obtain⟨L,q1,q2⟩:=hrd 0 9 (by decide);have hrl:=hl r (Qz hr);have c1:=c6M hrow hrl.1 hrl.2.1 hrl.2.2 n (by omega);have hml:(M++[rnA r]++[rnG r]++[rnB r]).length=M.length+3:=by simp
  have hold:∀(x:Nat) (y:MO),M[x]?=some y->(M++[rnA r]++[rnG r]++[rnB r])[x]?=some y:=fun x y hx=>a6S (a6S (a6S hx))
  have g1:(M++[rnA r]++[rnG r]++[rnB r])[M.length]?=some (rnA r):=by simp
  have g2:(M++[rnA r]++[rnG r]++[rnB r])[M.length+1]?=some (rnG r):=by simp
  have g3:(M++[rnA r]++[rnG r]++[rnB r])[M.length+2]?=some (rnB r):=by simp
  have hlow3:Low (M++[rnA r]++[rnG r]++[rnB r]):=Low.app (Low.app (Low.app h3 (b8a _ _ _)) (b8a _ _ _)) (b7g _ _ _);obtain⟨a,g,b,rfl,ba,bg,bb⟩:=hrow;have q2:∀is bs vs k,a0b {i:=is,b:=bs,v:=vs,m:=M,k:=k} false 9 L=some [.int .i64 r.p.a,.int .i64 r.p.b,.int .i64 r.p.c,.int .i64 r.p.d,.int .i64 r.p.e,.int .i64 r.p.f,a,g,b]:=q2;have oa:=ba.one;have og:=bg.one;have ob:=bb.one;have hd:ltB (j:Int) (cl.length:Int)=true:=by rw[a0W];omega
  have hup:=a2e (show j<=1000000000 by omega);have t1:(0:Nat)+1<=1000000:=by decide
  have t3:¬(1:Nat)=0:=by decide
  simp only[a2d,a5v] at c1;have htk:cl.take (j+1)=cl.take j++[r]:=by rw[X0,hr];rfl
  generalize hMq:M++[rnA r]++[rnG r]++[rnB r]=M3 at *
  rcases h4 with ⟨rfl,rfl⟩|⟨h,rows,k1,k2,rfl,k3,k4,k5⟩
  ·
   obtain⟨M',O',e1,e2⟩:=ih 1 (by omega) (M3++[.row [a5v r M.length] 9 65]) (.rsl M3.length 1 9) (fun x hx=>by
     rw[Qs (by omega),<- hMq]
     rw[Qj,Qj,Qs (by omega)];exact h1 x hx) (by simp;omega) (Low.app hlow3 (by
     show PV.lowss _ [a5v r M.length]=true;simp only[PV.lowss,X2]
     exact c4D r (by omega))) (.inr ⟨M3.length,[a5v r M.length],by omega,by simp,rfl,by decide,by simp,⟨by rw[htk];simp,fun i x y hx hy=>by
      rw[htk,Qu,Q3] at hx;have hi:i=0:=by have:=(Qk.1 hy).1;simp at this;omega
      subst hi;simp at hx hy;subst hx hy
      exact c5x (a6S g1) (a6S g2) (a6S g3) ⟨by omega,by simp;omega,by omega⟩ ⟨by omega,by simp;omega,by omega⟩ ⟨by omega,by simp;omega,by omega⟩⟩⟩) fuel (by omega)
   refine⟨M',O',?_,e2⟩;rw[<- e1,Sys.loop,show a1g.loops[0]?=some a1m from rfl];simp only[Q0,c8f,a1m,↓reduceIte,PT.ev,BE.safe,BE.pe,IE.pe,PEnv.at,Q4,Q6,Q7,Qa,a0y,Qe,Qf,Nat.reduceAdd,a0c,a0r,a0l,Q1,Q0,PEnv.push,Q8,Q3,Q9,SV.pvs,SV.pv,BE.all,Qd,Qb,Qg,a1o,QQ,QS,QU,QV,hd,le0,hc.len,q1,q2,oa,og,ob,c1,c8I,a1K,if_neg t3,Qr,if_pos hup,Nat.reduceLeDiff,a5v];rfl
  ·have hh3:M3[h]?=some (.row rows 9 65):=hold h _ k4
   have hrl2:rows.length=j:=by rw[k5.1,QM];omega
   obtain⟨M',O',e1,e2⟩:=ih (j+1) (by omega) (M3.set h (.row (rows++[a5v r M.length]) 9 65)) (.rsl h (j+1) 9) (fun x hx=>by
     rw[QN (by omega),<- hMq]
     rw[Qj,Qj,Qs (by omega)];exact h1 x hx) (by simp;omega) (Low.set hlow3 (by
     show PV.lowss _ _=true
     have hq:∀l:List (List PV),PV.lowss M3.length l=true->PV.lowss M3.length (l++[a5v r M.length])=true:=by
      intro l
      induction l with
      | nil=>intro _;simp only[Q3,PV.lowss,X2];exact c4D r (by omega)
      | cons z l ih=>intro hz;simp only[Q8,PV.lowss,QJ] at hz ⊢;exact⟨hz.1,ih hz.2⟩
     exact hq _ (hlow3.get hh3))) (.inr ⟨h,rows++[a5v r M.length],k1,by simp;omega,rfl,by omega,by rw[Xq (by omega)],by
      rw[htk];refine a2s.snoc ((k5.frame fun x hx=>?_).mono fun x hx=>⟨hx.1,by simp;omega,hx.2.2⟩) ?_
      ·rw[QN (Ne.symm hx.2.2),<- hMq]
       rw[Qj,Qj,Qs hx.2.1]
      ·refine c5x ?_ ?_ ?_ ⟨by omega,by simp;omega,by omega⟩ ⟨by omega,by simp;omega,by omega⟩ ⟨by omega,by simp;omega,by omega⟩
       ·rw[QN (by omega)];exact g1
       ·rw[QN (by omega)];exact g2
       ·rw[QN (by omega)];exact g3⟩) fuel (by omega)
   refine⟨M',O',?_,e2⟩;have t4:j+1<=1000000:=by omega
   have one5:PV.one (.rsl h j 9)=true:=rfl;rw[<- e1,a1f,Sys.loop,show a1g.loops[0]?=some a1m from rfl];simp only[Q0,c8f,a1m,↓reduceIte,PT.ev,BE.safe,BE.pe,IE.pe,PEnv.at,Q4,Q6,Q7,Qa,a0y,Qe,Qf,Nat.reduceAdd,a0c,a0r,a0l,Q1,Q0,PEnv.push,Q8,Q3,Q9,SV.pvs,SV.pv,BE.all,Qd,Qb,Qg,a1o,QQ,QS,QU,QV,hd,le0,hc.len,q1,q2,oa,og,ob,c1,c8I,if_pos t1,a1K,hh3,hrl2,true_and,if_pos t4,if_neg t3,if_pos hup,a5v]
theorem c5C{σ M:List MO}{O:PV}{cl:List Rn}(h:c5A σ M O cl cl.length):CSl M (fun x=>σ.length<=x/\x<M.length) O cl:=by
 rcases h with ⟨h0,rfl⟩|⟨h,rows,k1,k2,rfl,k3,k4,k5⟩
 ·exact .inl ⟨rfl,by simpa using h0⟩
 ·rw[QZ] at k5
  exact .inr (.inr ⟨h,rows,⟨k1,k2⟩,rfl,by rintro rfl;simp at k3,k4,k5.mono fun x hx=>⟨hx.1,hx.2.1⟩⟩)
include hV hR hl hcl in
theorem d0O(hσ:Low σ)(hn:1010<=n):∃M O,a0a Tab n a6E [V,.fn a2d []] σ=some (O,M)/\(∀x,x<σ.length->M[x]?=σ[x]?)/\σ.length<=M.length/\Low M/\c5A σ M O cl cl.length:=by
 obtain⟨n,rfl⟩:∃k,n=k+1:=⟨n-1,by omega⟩;obtain⟨M,O,e1,e2⟩:=d1V σ R V cl hV hR hl hcl n (by omega) cl.length 0 (by omega) σ .nilS (fun _ _=>rfl) (Qm _) hσ (.inl ⟨rfl,rfl⟩) n (by omega);refine⟨M,O,?_,e2⟩;have hc:=hV.rd;have one6:PV.one (.fn 46 [])=true:=rfl;rw[a0a];simp only[b1P,Q0,Sys.run];show ((a0i [.sh (.one _),.sh (.one _)] _).bind _)=_;simp only[a0i,a0l,a0c,Q1,Q0,Q9,Q3,Q8,if_true,hc.one,show PV.one (.fn a2d [])=true from rfl];show (PT.ev _ a4b _).bind _=_;simp only[a4b,↓reduceIte,PT.ev,BE.safe,BE.pe,IE.pe,PEnv.at,Q4,Q7,Qa,Q1,Q0,SV.pvs,SV.pv,BE.all,Qb,Qg,hc.kind,hc.len];exact e1
end
section
variable {s:St}{o:Po}{σ:List MO}{h:Nat}{vcl:PV}{ha hb hd:Nat}{R:Nat->Prop}{c:Ck}(k:CkAt s o σ h vcl ha hb hd R c)(hσ:Low σ)(hl:∀r∈c.cl,r.ask.length<=1000/\r.got.length<=1000/\r.bid.length<=1000)(hcl:c.cl.length<=1000)(n:Nat)
include k hσ hl hcl in
theorem c8d(hn:1020<=n):∃M O,a0a Tab n b0a [.ref h 0] σ=some (O,M)/\(∀x,x<σ.length->M[x]?=σ[x]?)/\σ.length<=M.length/\Low M/\c5A σ M O c.cl c.cl.length:=by
 obtain⟨n,rfl⟩:∃k,n=k+1:=⟨n-1,by omega⟩;obtain⟨M,O,e1,e2⟩:=d0O σ R vcl c.cl k.cl k.bd hl hcl n hσ (by omega);refine⟨M,O,?_,e2⟩;have hob:=k.obj;have r0:∀is bs vs k,a0b {i:=is,b:=bs,v:=vs,m:=σ,k:=k} false 4 (.obj h 0)=some [s.P,s.B,s.C,s.A]:=a0x hob 0 4 (by decide);have r01:∀is bs vs k,a0b {i:=is,b:=bs,v:=vs,m:=σ,k:=k} false 1 (.obj h 0)=some [s.P]:=a0x hob 0 1 (by decide);have r4:∀is bs vs k,a0b {i:=is,b:=bs,v:=vs,m:=σ,k:=k} false 4 (.obj h 4)=some [.int .i64 o.st,.int .i64 o.pc,.int .i64 o.un,.int .i64 o.ru]:=a0x hob 4 4 (by decide);have r6:∀is bs vs k,a0b {i:=is,b:=bs,v:=vs,m:=σ,k:=k} false 1 (.obj h 6)=some [.int .i64 o.un]:=a0x hob 6 1 (by decide);have r7:∀is bs vs k,a0b {i:=is,b:=bs,v:=vs,m:=σ,k:=k} false 1 (.obj h 7)=some [.int .i64 o.ru]:=a0x hob 7 1 (by decide);have r8:∀is bs vs k,a0b {i:=is,b:=bs,v:=vs,m:=σ,k:=k} false 1 (.obj h 8)=some [vcl]:=a0x hob 8 1 (by decide);have r9:∀is bs vs k,a0b {i:=is,b:=bs,v:=vs,m:=σ,k:=k} false 6 (.obj h 9)=some [.int .i64 c.p.a,.int .i64 c.p.b,.int .i64 c.p.c,.int .i64 c.p.d,.int .i64 c.p.e,.int .i64 c.p.f]:=a0x hob 9 6 (by decide);have r15:∀is bs vs k,a0b {i:=is,b:=bs,v:=vs,m:=σ,k:=k} false 1 (.obj h 15)=some [.msl ha 0 c.out.length c.out.length 6]:=a0x hob 15 1 (by decide);have r16:∀is bs vs k,a0b {i:=is,b:=bs,v:=vs,m:=σ,k:=k} false 1 (.obj h 16)=some [.msl hb 0 c.out.length c.out.length 1]:=a0x hob 16 1 (by decide);have r17:∀is bs vs k,a0b {i:=is,b:=bs,v:=vs,m:=σ,k:=k} false 1 (.obj h 17)=some [.msl hd 0 c.out.length c.out.length 1]:=a0x hob 17 1 (by decide);have r18:∀is bs vs k,a0b {i:=is,b:=bs,v:=vs,m:=σ,k:=k} false 1 (.obj h 18)=some [.bool c.over]:=a0x hob 18 1 (by decide);have hc:=k.cl.rd;have oO:O.one=true:=(c5C e2.2.2.2).rd.one;simp only[a6E,a2d] at e1;rw[a0a];simp only[b4Y,Q0,Sys.run];show ((a0i [.sh (.one _)] _).bind _)=_;simp only[a0i,a0l,a0c,Q1,Q0,Q9,if_true,b8q];show (PT.ev _ a5m _).bind _=_;simp only[a5m,↓reduceIte,PT.ev,BE.safe,BE.pe,PEnv.at,Q4,Q7,Qa,a0y,a9w,Qe,Qf,Q2,a0c,a0r,a0l,Q1,Q0,PEnv.push,Q8,Q3,SV.pvs,SV.pv,c1P,c3w,c2j,c2a,Qr,r8,hc.one,e1,oO,a0g,true_or]
end
theorem b4t{K:Nat}{p:PV}{rows:List (List PV)}(h:p.rowsOf K=some rows)(hl:rows.length<=1000000)(σ:List MO):a3L K [p] σ=some (p,σ):=by
 unfold PV.rowsOf at h;split at h
 ·rfl
 ·rename_i n r
  split at h
  ·rename_i hn
   simp only[X5] at h;subst h;simp only[a3L];rw[if_pos ⟨hn,hl⟩,hn]
  ·cases h
 ·cases h
structure SuOk (s:St)(cs ad:List Tri):Prop where
 P:s.P.rowsOf 5=some (s.ps.map Pr.row)
 B:s.B.rowsOf 4=some (s.bs.map Bd.row)
 C:s.C.rowsOf 3=some (cs.map Tri.row)
 A:s.A.rowsOf 3=some (ad.map Tri.row)
theorem SuOk.ok{s:St}{cs ad:List Tri}(h:SuOk s cs ad):s.Ok:=⟨h.P,h.B,(a0d h.C).2.2,(a0d h.A).2.2⟩
theorem SuOk.lens{s:St}{cs ad:List Tri}(hv:a4Q s.ps s.bs cs ad=0):s.ps.length<=6/\0<s.bs.length/\s.bs.length<=8/\cs.length<=16/\ad.length<=6:=by
 obtain⟨v1,v2,v3,v4⟩:=c4w hv;have a1:=(c4A v1).1
 have a2:0<s.bs.length/\s.bs.length<=8:=by
  unfold b3l at v2;split at v2
  ·cases v2
  ·split at v2
   ·cases v2
   ·rename_i h1 h2
    have e5:∀a b:Int,eqB a b=decide (a=b):=fun _ _=>rfl
    have e6:∀a b:Int,ltB a b=decide (a<b):=fun _ _=>rfl
    simp only[e5,e6,decide_eq_true_eq] at h1 h2;omega
 have a3:ad.length<=6:=by
  unfold asV at v4;split at v4
  ·cases v4
  ·rename_i h;rw[Bool.not_eq_true,a0p] at h;omega
 exact⟨a1,a2.1,a2.2,v3,a3⟩
section
variable {s:St}{cs ad:List Tri}(hs:SuOk s cs ad)(hv:a4Q s.ps s.bs cs ad=0)(σ:List MO)(n:Nat)
include hs hv in
theorem c2W(hn:2<=n):a0a Tab n b8w [.agg s.pv] σ=some (.agg s.pv,σ):=by
 obtain⟨n,rfl⟩:∃k,n=k+1+1:=⟨n-2,by omega⟩;obtain⟨l1,l2,l3,l4,l5⟩:=SuOk.lens hv
 have told:∀(F:Nat) (K:Nat) (p:PV),Tab F=some (⟨[],.stuck,[],some (a3L K),none⟩:Sx.Sys)->a0a Tab (n+1) F [p] σ=a3L K [p] σ:=fun F K p h=>by
  rw[a0a,h,Q0,c6l]
 have c1:=(told _ 5 s.P a5z).trans (b4t hs.P (by simp;omega) σ);have c2:=(told _ 4 s.B a5L).trans (b4t hs.B (by simp;omega) σ);have c3:=(told _ 3 s.C a9C).trans (b4t hs.C (by simp;omega) σ);have c4:=(told _ 3 s.A a6l).trans (b4t hs.A (by simp;omega) σ);obtain⟨_,_,p3⟩:=a0d hs.P;obtain⟨_,_,b3⟩:=a0d hs.B;obtain⟨_,_,c3'⟩:=a0d hs.C;obtain⟨_,_,a3⟩:=a0d hs.A;rw[a0a];simp only[c3q,Q0,Sys.run,St.pv];show ((a0i [.sh (.agg [_,_,_,_])] _).bind _)=_;simp only[a0i,a0l,a0c,Q1,Q0,Q9,if_true,p3,b3,c3',a3];show (PT.ev _ b1F _).bind _=_;simp only[b1F,↓reduceIte,a0j,a0K,Q7,Qa,Q2,a0c,a0r,a0l,Q1,Q0,PEnv.push,Q8,Q3,SV.pvs,SV.pv,c1,c2,c3,c4,p3,b3,c3',a3,a0g,or_true]
end
theorem b8k{K:Nat}{p:PV}{rows:List (List PV)}(h:p.rowsOf K=some rows){N:Nat}(hl:PV.lowss N rows=true):p.low N=true:=by
 unfold PV.rowsOf at h;split at h
 ·rfl
 ·split at h
  ·simp only[X5] at h;subst h;exact hl
  ·cases h
 ·cases h
theorem SuOk.low{s:St}{cs ad:List Tri}(h:SuOk s cs ad)(N:Nat):s.P.low N=true/\s.B.low N=true/\s.C.low N=true/\s.A.low N=true:=by
 have g:∀{α:Type} (row:α->List PV) (_:∀x,PV.lows N (row x)=true) (l:List α),PV.lowss N (l.map row)=true:=by
  intro α row hr l
  induction l with
  | nil=>rfl
  | cons x l ih=>simp only[Qb,PV.lowss,hr x,ih,Qd]
 exact⟨b8k h.P (g _ (fun _=>rfl) _),b8k h.B (g _ (fun _=>rfl) _),b8k h.C (g _ (fun _=>rfl) _),b8k h.A (g _ (fun _=>rfl) _)⟩
theorem c9z{s:St}{o:Po}{σ:List MO}{h:Nat}{vcl va vb:PV}{hd N:Nat}{p:W6}{ov:Bool}(hob:σ[h]?=some (ckO s o vcl va vb (.msl hd 0 N N 1) p ov))(hσ:Low σ)(hN:N<=1000)(n:Nat)(hn:1<=n) :
  a0a Tab n a5M [.ref h 0] σ=some (.tup [],clM σ h (ckO s o vcl (.msl σ.length 0 N N 6) (.msl (σ.length+1) 0 N N 1) (.msl hd 0 N N 1) p ov) N):=by
 obtain⟨n,rfl⟩:∃k,n=k+1:=⟨n-1,by omega⟩;rw[a0a,show Tab a5M=some a3a from b6M,Q0,a3a,c5S,c6l];unfold c2m;simp only[hob,ckO,ckL];rw[if_pos ⟨by omega,hσ⟩];have e1:Qq W6.pv (Q5 N w0)=Q5 N z6:=by rw[Xr];rfl
 have e2:∀N:Nat,Qq PV.bool (Q5 N false)=(Q5 N [PV.bool false]).flatten:=fun N=>by
  induction N with
  | zero=>rfl
  | succ N ih=>rw[QL,QL,Qb,Qp,ih];rfl
 unfold clM;rw[e1,e2]
def ck0(ps:List Pr)(N:Nat):Ck:={cl:=[],p:=a3e ps,ask:=Q5 N w0,bid:=Q5 N false,out:=Q5 N false,over:=false}
def a9M(ps:List Pr)(bs:List Bd)(cs ad:List Tri)(o:Po):Int:=if a4Q ps bs cs ad=0 then a3D o else a4Q ps bs cs ad
section
variable {s:St}{cs ad:List Tri}(hs:SuOk s cs ad)(o:Po)(σ:List MO)(hσ:Low σ)(n:Nat)
include hs in
theorem d2C(he:a9M s.ps s.bs cs ad o≠0)(hn:1200<=n):a0a Tab n a9i [.agg s.pv,.agg o.row] σ=some (.tup [.nilP,.int .i64 (a9M s.ps s.bs cs ad o)],σ):=by
 obtain⟨n,rfl⟩:∃k,n=k+1:=⟨n-1,by omega⟩;obtain⟨_,_,p3⟩:=a0d hs.P;obtain⟨_,_,b3⟩:=a0d hs.B;obtain⟨_,_,c3⟩:=a0d hs.C;obtain⟨_,_,a3⟩:=a0d hs.A;have k1:=b4v σ s.ps s.bs cs ad s.P s.B s.C s.A hs.P hs.B hs.C hs.A n (by omega);have k2:=b0z σ n o (by omega);have e5:∀a b:Int,eqB a b=decide (a=b):=fun _ _=>rfl
 simp only[b1I,a6I,a4R] at k1 k2;rw[a0a];simp only[b8s,Q0,Sys.run,St.pv,a4R];show ((a0i [.sh (.agg [_,_,_,_]),.sh (.agg [_,_,_,_])] _).bind _)=_;simp only[a0i,a0l,a0c,Q1,Q0,Q9,Q3,if_true,p3,b3,c3,a3];show (PT.ev _ a4u _).bind _=_;unfold a9M at he ⊢;by_cases h1:a4Q s.ps s.bs cs ad=0
 ·rw[if_pos h1] at he ⊢
  simp only[a4u,↓reduceIte,a0j,a0e,a0f,a0K,BE.safe,BE.pe,IE.pe,PEnv.at,Q4,Q6,Q7,Qa,Q2,a0c,a0r,a0l,Q1,Q0,PEnv.push,Q8,Q3,Q9,SV.pvs,SV.pv,Qn,QB,k1,k2,e5,dT0 h1,dF0 he,a0g,true_or]
 ·rw[if_neg h1]
  simp only[a4u,↓reduceIte,a0j,a0e,a0f,a0K,BE.safe,BE.pe,IE.pe,PEnv.at,Q4,Q6,Q7,Qa,a0c,a0r,a0l,Q1,Q0,PEnv.push,Q8,Q3,SV.pvs,SV.pv,QB,k1,e5,dF0 h1,a0g,true_or]
include hs hσ in
theorem d2s(he:a9M s.ps s.bs cs ad o=0)(hn:1200<=n):∃M F,a0a Tab n a9i [.agg s.pv,.agg o.row] σ=some (.tup [.ref (σ.length+1) 0,.int .i64 0],M)/\b0p s o M (σ.length+1) F (ck0 s.ps s.bs.length)/\(∀x,F x->σ.length<=x)/\(∀x,x<σ.length->M[x]?=σ[x]?)/\σ.length<=M.length/\Low M:=by
 obtain⟨n,rfl⟩:∃k,n=k+1:=⟨n-1,by omega⟩
 have hv:a4Q s.ps s.bs cs ad=0:=by
  unfold a9M at he;split at he
  ·assumption
  ·exact he
 have ho:o.ok:=by
  unfold a9M at he;rw[if_pos hv] at he;unfold a3D at he;split at he
  ·assumption
  ·cases he
 obtain⟨l1,l2,l3,l4,l5⟩:=SuOk.lens hv;obtain⟨_,_,p3⟩:=a0d hs.P;obtain⟨b1,b2,b3⟩:=a0d hs.B;rw[Qh] at b1;obtain⟨_,_,c3⟩:=a0d hs.C;obtain⟨_,_,a3⟩:=a0d hs.A;have k1:=b4v σ s.ps s.bs cs ad s.P s.B s.C s.A hs.P hs.B hs.C hs.A n (by omega);have k2:=b0z σ n o (by omega);rw[hv] at k1;rw[show a3D o=0 from if_pos ho] at k2;have k3:=c2W hs hv σ n (by omega);have k3':=c2W hs hv (σ++[.cells ((Q5 s.bs.length [PV.bool false]).flatten) 4]) n (by omega);have k4:=c4B σ s.ps s.P hs.P l1 n (by omega);have k4':=c4B (σ++[.cells ((Q5 s.bs.length [PV.bool false]).flatten) 4]) s.ps s.P hs.P l1 n (by omega)
 have e2:(Q5 s.bs.length [PV.bool false]).flatten=Qq PV.bool (Q5 s.bs.length false):=by
  generalize s.bs.length=N
  induction N with
  | zero=>rfl
  | succ N ih=>rw[QL,QL,Qb,Qp,ih];rfl
 have hlw:=hs.low (σ.length+2)
 have hM2:Low (σ++[MO.cells (Qq PV.bool (Q5 s.bs.length false)) 4]++[ckO s o .nilS .nilS .nilS (.msl σ.length 0 s.bs.length s.bs.length 1) (a3e s.ps) false]):=by
  refine Low.app (Low.app hσ (b7g _ _ _)) ?_;rw[Qv,QP];exact c5o.2 ⟨hlw.1,hlw.2.1,hlw.2.2.1,hlw.2.2.2,rfl,rfl,rfl,by simp[PV.low];try omega⟩
 have hob:(σ++[MO.cells (Qq PV.bool (Q5 s.bs.length false)) 4]++[ckO s o .nilS .nilS .nilS (.msl σ.length 0 s.bs.length s.bs.length 1) (a3e s.ps) false])[σ.length+1]?=some (ckO s o .nilS .nilS .nilS (.msl σ.length 0 s.bs.length s.bs.length 1) (a3e s.ps) false):=by simp
 have k5:=c9z hob hM2 (by omega) n (by omega);have hlen:(σ++[MO.cells (Qq PV.bool (Q5 s.bs.length false)) 4]++[ckO s o .nilS .nilS .nilS (.msl σ.length 0 s.bs.length s.bs.length 1) (a3e s.ps) false]).length=σ.length+2:=by simp
 have hlt:σ.length+1<(σ++[MO.cells (Qq PV.bool (Q5 s.bs.length false)) 4]++[ckO s o .nilS .nilS .nilS (.msl σ.length 0 s.bs.length s.bs.length 1) (a3e s.ps) false]).length:=by rw[hlen];omega
 have hold:∀x,x<σ.length->(σ++[MO.cells (Qq PV.bool (Q5 s.bs.length false)) 4]++[ckO s o .nilS .nilS .nilS (.msl σ.length 0 s.bs.length s.bs.length 1) (a3e s.ps) false])[x]?=σ[x]?:=fun x hx=>by
  rw[Qj,Qs hx]
 have hdr:(σ++[MO.cells (Qq PV.bool (Q5 s.bs.length false)) 4]++[ckO s o .nilS .nilS .nilS (.msl σ.length 0 s.bs.length s.bs.length 1) (a3e s.ps) false])[σ.length]?=some (.cells (Qq PV.bool (Q5 s.bs.length false)) 4):=by simp
 rw[hlen] at k5;simp only[b1I,a6I,b8w,b1u,a5M,a4R,pv6,St.pv,e2] at k1 k2 k3 k3' k4 k4' k5;generalize hM2e:(σ++[MO.cells (Qq PV.bool (Q5 s.bs.length false)) 4]++[ckO s o .nilS .nilS .nilS (.msl σ.length 0 s.bs.length s.bs.length 1) (a3e s.ps) false])=M2 at *
 have hnew:∀l,(σ++[MO.cells (Qq PV.bool (Q5 s.bs.length false)) 4]++[MO.cells [s.P,s.B,s.C,s.A,.int .i64 o.st,.int .i64 o.pc,.int .i64 o.un,.int .i64 o.ru,.nilS,.int .i64 (a3e s.ps).a,.int .i64 (a3e s.ps).b,.int .i64 (a3e s.ps).c,.int .i64 (a3e s.ps).d,.int .i64 (a3e s.ps).e,.int .i64 (a3e s.ps).f,.nilS,.nilS,.msl σ.length 0 s.bs.length s.bs.length 1,.bool false] 79])=l->l=M2:=fun l hl=>by rw[<- hl,<- hM2e];rfl
 have hnew:=hnew _ rfl;refine⟨clM M2 (σ.length+1) (ckO s o .nilS (.msl (σ.length+2) 0 s.bs.length s.bs.length 6) (.msl (σ.length+2+1) 0 s.bs.length s.bs.length 1) (.msl σ.length 0 s.bs.length s.bs.length 1) (a3e s.ps) false) s.bs.length,fun x=>x=σ.length+1\/x=σ.length+2\/x=σ.length+3\/x=σ.length\/False,?_,?_,?_,?_,?_,?_⟩
 ·have e0:eqB 0 0=true:=rfl
  have cN:(0:Int)<=(s.bs.length:Int)/\(s.bs.length:Int)<=1000000:=by omega
  rw[a0a];simp only[b8s,Q0,Sys.run,St.pv,a4R];show ((a0i [.sh (.agg [_,_,_,_]),.sh (.agg [_,_,_,_])] _).bind _)=_;simp only[a0i,a0l,a0c,Q1,Q0,Q9,Q3,if_true,p3,b3,c3,a3]
  have E:PT.ev (a0a Tab n) a4u {i:=[o.st,o.pc,o.un,o.ru],b:=[],v:=[s.P,s.B,s.C,s.A],m:=σ,k:=σ.length}=some (.ret (.tup [.ref (σ.length+1) 0,.int .i64 0]) (clM M2 (σ.length+1) (ckO s o .nilS (.msl (σ.length+2) 0 s.bs.length s.bs.length 6) (.msl (σ.length+2+1) 0 s.bs.length s.bs.length 1) (.msl σ.length 0 s.bs.length s.bs.length 1) (a3e s.ps) false) s.bs.length)):=by
   have hl1:∀x:MO,(σ++[x]).length=σ.length+1:=fun x=>by simp
   simp only[a4u,↓reduceIte,a0j,a0e,a0f,a0K,BE.safe,BE.pe,IE.pe,PEnv.at,Q4,Q6,Q7,Qa,Q2,a0c,a0r,a0l,Q1,Q0,PEnv.push,Q8,Q3,Q9,SV.pvs,SV.pv,Qn,k1,k2,e0,b2]
   repeat' (first|with_reducible rfl|apply b2C|simp only[↓reduceIte,a0j,a0K,d0t,c0c,BE.safe,BE.pe,IE.pe,PEnv.at,Q4,Q6,Q7,Qa,Nat.add_zero,a0c,a0r,a0l,Q1,Q0,PEnv.push,Q8,Q3,Q9,SV.pvs,SV.pv,k3,k3',k4,k4',p3,b3,c3,a3,b1,cN.1,cN.2,QK,and_self,Nat.reduceLeDiff,e2,hnew,k5,a2c,hl1,PV.on,a0g,true_or]|unfold b5V|unfold b5S|unfold b6m|unfold b6z)
  show ((PT.ev (a0a Tab n) a4u _).bind _)=_;exact(congrArg (Xa · _) E).trans rfl
 ·refine⟨.nilS,σ.length+2,σ.length+3,σ.length,fun _=>False,?_,fun x=>Iff.rfl⟩
  refine⟨?_,?_,?_,?_,by simp[ck0],by simp[ck0],.inl ⟨rfl,rfl⟩,fun x hx=>hx.elim,id,id,id,id,by omega⟩
  ·rw[d4t hlt];simp[ck0]
  ·have:=d4F M2 (σ.length+1) (ckO s o .nilS (.msl (σ.length+2) 0 s.bs.length s.bs.length 6) (.msl (σ.length+2+1) 0 s.bs.length s.bs.length 1) (.msl σ.length 0 s.bs.length s.bs.length 1) (a3e s.ps) false) s.bs.length
   rw[hlen] at this;exact this
  ·have:=d3N M2 (σ.length+1) (ckO s o .nilS (.msl (σ.length+2) 0 s.bs.length s.bs.length 6) (.msl (σ.length+2+1) 0 s.bs.length s.bs.length 1) (.msl σ.length 0 s.bs.length s.bs.length 1) (a3e s.ps) false) s.bs.length
   rw[hlen] at this;exact this
  ·rw[d1h (by omega) (by omega)];exact hdr
 ·intro x hx;rcases hx with rfl|rfl|rfl|rfl|hx
  ·omega
  ·omega
  ·omega
  ·exact Qm _
  ·exact hx.elim
 ·intro x hx
  rw[d1h (by omega) (by omega),hold x hx]
 ·rw[c7D];omega
 ·have hob2:=c5o.1 (hM2.get hob)
  unfold Low;rw[c7D,hlen];unfold clM;rw[X6,QJ];refine⟨QH.2 fun y hy=>?_,by simp only[List.all_cons,List.all_nil,b8a,b7g,Qd]⟩;rcases Xg hy with hy|rfl
  ·exact MO.low_mono (by omega) (QH.1 hM2 y hy)
  ·have hl4:=hs.low (σ.length+2+2)
   exact c5o.2 ⟨hl4.1,hl4.2.1,hl4.2.2.1,hl4.2.2.2,rfl,by simp[PV.low],by simp[PV.low],by simp[PV.low];omega⟩
end
section
variable {s:St}{o:Po}{σ:List MO}{h:Nat}{vcl:PV}{ha hb hd:Nat}{R:Nat->Prop}{c:Ck}(k:CkAt s o σ h vcl ha hb hd R c)(n:Nat)
end
structure CkOk (N:Nat)(c:Ck):Prop where
 out:c.out.length=N
 la:c.ask.length=N
 lb:c.bid.length=N
 ok:∀w∈c.ask,w.ok
 p:c.p.pok
 rn:∀r∈c.cl,r.p.pok/\r.ask.length=N/\r.got.length=N/\r.bid.length=N/\(∀w∈r.ask,w.ok)/\∀w∈r.got,w.ok
 cl:c.cl.length<=30
 ov:c.over=false->c.cl.length<=29
theorem d1N(c:Ck)(i:Nat):(c.chs i).length=c.cl.length:=by simp[Ck.chs]
section
variable {s:St}{cs ad:List Tri}(hs:SuOk s cs ad)(hv:a4Q s.ps s.bs cs ad=0){o:Po}(ho:o.ok){σ:List MO}{h:Nat}{F:Nat->Prop}{c:Ck}(K:b0p s o σ h F c)(hσ:Low σ)(hk:CkOk s.bs.length c)(n:Nat)
include hs hv ho K hσ hk
end
section
variable {s:St}{o:Po}(ho:o.ok){h hd:Nat}{c:Ck}(hp:c.p.pok)(n:Nat)(K:Nat)
end
section
variable {s:St}{cs ad:List Tri}(hs:SuOk s cs ad)(hv:a4Q s.ps s.bs cs ad=0){o:Po}(ho:o.ok){σ:List MO}{h:Nat}{F:Nat->Prop}{c:Ck}(K:b0p s o σ h F c)(hσ:Low σ)(hk:CkOk s.bs.length c)(n:Nat)
include hs hv ho K hσ hk
end
theorem d2L(N:Nat):∀w∈Q5 N w0,w.ok:=fun w hw=>by rw[(List.mem_replicate.1 hw).2];exact d3F
theorem d2N{ps:List Pr}(hr:∀x∈ps,x.rng)(N:Nat):CkOk N (ck0 ps N) :=
 ⟨by simp[ck0],by simp[ck0],by simp[ck0],d2L N,d0N hr,fun r hr=>by simp[ck0] at hr,by simp[ck0],fun _=>by simp[ck0]⟩
section
variable {N:Nat}{c:Ck}(hk:CkOk N c)
include hk
end
section
variable {s:St}{cs ad:List Tri}(hs:SuOk s cs ad)(hv:a4Q s.ps s.bs cs ad=0){o:Po}{σ:List MO}{h:Nat}{F:Nat->Prop}{c:Ck}(K:b0p s o σ h F c)(hσ:Low σ)(hN:c.out.length<=1000)
 (hl:∀r∈c.cl,r.ask.length<=1000/\r.got.length<=1000/\r.bid.length<=1000) (hcl:c.cl.length<=1000) (n:Nat)
include hs hv K hσ hN hl hcl
end
structure Stp where
 (k i r:Int) (w:W6)
def Stp.row(q:Stp):List PV:=[.int .i64 q.k,.int .i64 q.i,.int .i64 q.r,.int .i64 q.w.a,.int .i64 q.w.b,.int .i64 q.w.c,.int .i64 q.w.d,.int .i64 q.w.e,.int .i64 q.w.f]
section
variable (cs ad:List Tri)(o:Po)(s:St)
noncomputable def Ck.step(c:Ck)(q:Stp):Ck×Bool×Int :=
 if q.k=0 then((c.doBid s.ps s.bs cs ad o s q.i q.w).1,false,(c.doBid s.ps s.bs cs ad o s q.i q.w).2) else
 if q.k=1 then c.close s.ps o else
 if q.k=2 then(c.stop.1,false,c.stop.2) else
 if q.k=3 then((c.drop q.i).1,false,(c.drop q.i).2) else((c.reset q.r).1,false,(c.reset q.r).2)
noncomputable def Ck.run(c:Ck)(l:List Stp):Ck:=l.foldl (fun c q=>(c.step cs ad o s q).1) c
variable {cs ad o s}
section
variable (hs:SuOk s cs ad)(hv:a4Q s.ps s.bs cs ad=0)(ho:o.ok){σ:List MO}{h:Nat}{F:Nat->Prop}{c:Ck}(K:b0p s o σ h F c)(hσ:Low σ)(hk:CkOk s.bs.length c)(n:Nat)
include hs hv ho K hσ hk
end
end
theorem c4q{Φ:Fns}{S:Sx.Sys}{fuel q q':Nat}{ρ ρ':PEnv}{t:PT}(h:S.loops[q]?=some t)(E:t.ev Φ ρ=some (.jump q' ρ')):S.loop Φ (fuel+1) q ρ=S.loop Φ fuel q' ρ':=by
 rw[Sys.loop,h,Q0,E];rfl
structure ORd (σ:List MO)(v:PV)(l:List Bool):Prop where
 kind:v.isKind 0=true
 one:v.one=true
 len:v.len=(l.length:Int)
 rd:∀(i:Nat) (b:Bool),l[i]?=some b->∃L,a2z (i:Int) 1 0 v=some L/\∀(is:List Int) (bs:List Bool) (vs:List PV) (k:Nat),a0b {i:=is,b:=bs,v:=vs,m:=σ,k:=k} false 1 L=some [.bool b]
theorem OSl.rd{σ:List MO}{R:Nat->Prop}{v:PV}{l:List Bool}(h:OSl σ R v l):ORd σ v l:=by
 obtain⟨h,_,rfl,hh⟩:=h;refine⟨rfl,rfl,rfl,fun i b hb=>⟨.obj h i,d2V (Qk.1 hb).1,fun _ _ _ _=>?_⟩⟩;simp only[a0b,hh,Q0,MO.list,Q2,if_false];exact d0z l hb
theorem ORd.plain{σ:List MO}{v:PV}{l:List Bool}(h:v.rowsOf 1=some (l.map fun b=>[PV.bool b])):ORd σ v l:=by
 obtain⟨p1,p2,p3⟩:=a0d h;rw[Qh] at p1;exact⟨p2,p3,p1,fun i b hb=>⟨_,a0z (off:=0) h (by rw[Qw,hb];rfl),fun _ _ _ _=>rfl⟩⟩
structure RRd (σ:List MO)(v:PV)(cl:List Rn):Prop where
 kind:v.isKind 0=true
 one:v.one=true
 len:v.len=(cl.length:Int)
 rd:∀(i:Nat) r,cl[i]?=some r->∃a g b,BRd σ a r.ask/\BRd σ g r.got/\ORd σ b r.bid/\∀off n,off+n<=9->∃L,a2z (i:Int) 9 off v=some L/\∀(is:List Int) (bs:List Bool) (vs:List PV) (k:Nat),a0b {i:=is,b:=bs,v:=vs,m:=σ,k:=k} false n L=some (([.int .i64 r.p.a,.int .i64 r.p.b,.int .i64 r.p.c,.int .i64 r.p.d,.int .i64 r.p.e,.int .i64 r.p.f,a,g,b].drop off).take n)
theorem d1Q{σ:List MO}{R:Nat->Prop}{v:PV}{cl:List Rn}{rows:List (List PV)}(hv:v.rowsOf 9=some rows)(h:a2s σ R cl rows):RRd σ v cl:=by
 obtain⟨p1,p2,p3⟩:=a0d hv;rw[h.1] at p1;refine⟨p2,p3,p1,fun i r hr=>?_⟩;obtain⟨row,hrow⟩:=a0S (show i<rows.length by rw[h.1];exact(Qk.1 hr).1);obtain⟨a,g,b,rfl,ha,hg,hb⟩:=h.2 i r row hr hrow;exact⟨a,g,b,ha.rd,hg.rd,hb.rd,fun off n hn=>⟨_,a0z hv hrow,fun _ _ _ _=>a5x rfl (by rw[QA];simp only[Qe,Qf];omega)⟩⟩
section
variable {s:St}{o:Po}{σ:List MO}{h:Nat}{vcl:PV}{ha hb hd:Nat}{R:Nat->Prop}{c:Ck}(k:CkAt s o σ h vcl ha hb hd R c)(hσ:Low σ)(hl:∀r∈c.cl,r.ask.length<=1000/\r.got.length<=1000/\r.bid.length<=1000)(hcl:c.cl.length<=1000)(n:Nat)
def d0q(M:List MO)(K:Nat)(j:Int)(O V:PV):PEnv:={i:=[j],b:=[],v:=[O,V],m:=M,k:=K}
theorem d1U{M:List MO}{K:Nat}{V:PV}{cl:List Rn}{R:Nat->Prop}(hV:CRd M R V cl)(hcl:cl.length<=1000):∀d j,j+d=cl.length->∀(O:PV) (rows:List (List PV)),O.rowsOf 9=some rows->a2s M R (cl.take j) rows->∀fuel,d+1<=fuel ->
  ∃O' rows',a1z.loop (a0a Tab n) fuel 0 (d0q M K (j:Int) O V)=some (O',M)/\O'.rowsOf 9=some rows'/\a2s M R cl rows':=by
 intro d
 induction d with
 | zero =>
  intro j hj O rows hO hrows fuel hf;obtain⟨fuel,rfl⟩:∃k,fuel=k+1:=⟨fuel-1,by omega⟩;obtain rfl:j=cl.length:=by omega
  have hd:ltB (cl.length:Int) (cl.length:Int)=false:=by rw[a0p];omega
  rw[QZ] at hrows;refine⟨O,rows,?_,hO,hrows⟩;rw[Sys.loop,show a1z.loops[0]?=some a2g from rfl];simp only[Q0,d0q,a2g,↓reduceIte,a0j,a0e,a0f,BE.safe,BE.pe,IE.pe,PEnv.at,Q4,Q6,Q7,Q2,Q1,Q0,SV.pv,hd,hV.kind,hV.len,a0g,true_or]
 | succ d ih =>
  intro j hj O rows hO hrows fuel hf;obtain⟨fuel,rfl⟩:∃k,fuel=k+1:=⟨fuel-1,by omega⟩;obtain⟨r,hr⟩:=a0S (show j<cl.length by omega);obtain⟨row,hrow,hrd⟩:=hV.rd j r hr;have hR:=hrow;obtain⟨a,g,b,rfl,ba,bg,bb⟩:=hrow;have oa:=ba.one;have og:=bg.one;have ob:=bb.one;obtain⟨L0,q1,q2⟩:=hrd 0 6 (by decide);obtain⟨L6,q3,q4⟩:=hrd 6 1 (by decide);obtain⟨L7,q5,q6⟩:=hrd 7 1 (by decide);obtain⟨L8,q7,q8⟩:=hrd 8 1 (by decide);have q2:∀is bs vs k,a0b {i:=is,b:=bs,v:=vs,m:=M,k:=k} false 6 L0=some [.int .i64 r.p.a,.int .i64 r.p.b,.int .i64 r.p.c,.int .i64 r.p.d,.int .i64 r.p.e,.int .i64 r.p.f]:=q2;have q4:∀is bs vs k,a0b {i:=is,b:=bs,v:=vs,m:=M,k:=k} false 1 L6=some [a]:=q4;have q6:∀is bs vs k,a0b {i:=is,b:=bs,v:=vs,m:=M,k:=k} false 1 L7=some [g]:=q6;have q8:∀is bs vs k,a0b {i:=is,b:=bs,v:=vs,m:=M,k:=k} false 1 L8=some [b]:=q8;have hd:ltB (j:Int) (cl.length:Int)=true:=by rw[a0W];omega
  have hup:=a2e (show j<=1000000000 by omega);have t1:(0:Nat)+1<=1000000:=by decide
  have t2:rows.length+1<=1000000:=by rw[hrows.1,QM];omega
  obtain⟨O',rows',e1,e2⟩:=ih (j+1) (by omega) (.sl 9 (rows++[[.int .i64 r.p.a,.int .i64 r.p.b,.int .i64 r.p.c,.int .i64 r.p.d,.int .i64 r.p.e,.int .i64 r.p.f,a,g,b]])) _ (a1K _ _) (by
   rw[X0,hr,X8];exact hrows.snoc hR) fuel (by omega)
  refine⟨O',rows',?_,e2⟩;rw[<- e1,a1f,Sys.loop,show a1z.loops[0]?=some a2g from rfl];simp only[Q0,d0q,a2g,↓reduceIte,PT.ev,BE.safe,BE.pe,IE.pe,PEnv.at,Q4,Q6,Q7,Qa,a0y,Qe,Qf,Nat.reduceAdd,a0c,Q1,Q0,PEnv.push,Q8,Q3,Q9,SV.pvs,SV.pv,BE.all,Qd,Qb,Qg,a1o,QQ,QS,QU,QV,hd,le0,hV.kind,hV.len,q1,q2,q3,q4,q5,q6,q7,q8,oa,og,ob,hO,if_pos t1,a1K,if_pos t2,if_pos hup]
include k hσ hl hcl in
theorem c7N(hn:1100<=n):∃M O rows,a0a Tab n a9g [.ref h 0] σ=some (O,M)/\(∀x,x<σ.length->M[x]?=σ[x]?)/\σ.length<=M.length/\Low M/\O.rowsOf 9=some rows/\a2s M (fun x=>σ.length<=x/\x<M.length) c.cl rows:=by
 obtain⟨n,rfl⟩:∃k,n=k+1:=⟨n-1,by omega⟩;obtain⟨M,V,e1,e2,e3,e4,e5⟩:=c8d k hσ hl hcl n (by omega);have hV:=(c5C e5).rd;obtain⟨O,rows,f1,f2,f3⟩:=d1U n (K:=σ.length) hV hcl c.cl.length 0 (by omega) .nilS [] rfl ⟨rfl,fun i r row h1=>by simp at h1⟩ n (by omega);refine⟨M,O,rows,?_,e2,e3,e4,f2,f3⟩;have oV:=hV.one;simp only[b0a] at e1;rw[a0a];simp only[b2Q,Q0,Sys.run];show ((a0i [.sh (.one _)] _).bind _)=_;simp only[a0i,a0l,a0c,Q1,Q0,Q9,if_true,b8q];show (PT.ev _ a4A _).bind _=_;simp only[a4A,↓reduceIte,a0K,a0m,IE.pe,Q7,Qa,a0c,a0r,a0l,Q1,Q0,PEnv.push,Q8,Q3,SV.pvs,SV.pv,BE.all,Qb,Qg,e1,oV];exact f1
end
def sm0(σ:List MO)(V W:PV)(i:Int):PEnv:={i:=[i],b:=[],v:=[V,W],m:=σ,k:=σ.length}
def sm1(σ:List MO)(V W:PV)(i k N:Int)(a a' g g' b b':PV):PEnv:={i:=[i,k,i,N,N,N,N,N,N],b:=[false,false,false],v:=[V,W,a,a',g,g',b,b'],m:=σ,k:=σ.length}
section
variable {σ:List MO}{V W:PV}{cl:List Rn}(hV:RRd σ V cl)(hW:RRd σ W cl){N:Nat}(hl:∀r∈cl,r.ask.length=N/\r.got.length=N/\r.bid.length=N)(hN:N<=1000)(hcl:cl.length<=1000)(n:Nat)
include hV hW hl hN hcl
set_option maxHeartbeats 4000000 in
theorem d4g{i:Nat}{r:Rn}(hr:cl[i]?=some r)(a a' g g' b b':PV)(o1:a.one=true)(o2:a'.one=true)(o3:g.one=true)(o4:g'.one=true)(o5:b.one=true)(o6:b'.one=true):∀d k,k+d=N->∀fuel,
  a1l.loop (a0a Tab n) (fuel+d+1) 1 (sm1 σ V W (i:Int) (k:Int) (N:Int) a a' g g' b b')=a1l.loop (a0a Tab n) fuel 0 (sm0 σ V W ((i:Int)+1)):=by
 have hi:=(Qk.1 hr).1;obtain⟨h1,h2,h3⟩:=hl r (Qz hr);obtain⟨va,vg,vb,va1,vg1,vb1,hrd⟩:=hV.rd i r hr;obtain⟨wa,wg,wb,wa1,wg1,wb1,wrd⟩:=hW.rd i r hr;obtain⟨L6,q3,q4⟩:=hrd 6 1 (by decide);obtain⟨L7,q5,q6⟩:=hrd 7 1 (by decide);obtain⟨L8,q7,q8⟩:=hrd 8 1 (by decide);obtain⟨K6,p3,p4⟩:=wrd 6 1 (by decide);obtain⟨K7,p5,p6⟩:=wrd 7 1 (by decide);obtain⟨K8,p7,p8⟩:=wrd 8 1 (by decide);have q4:∀is bs vs k,a0b {i:=is,b:=bs,v:=vs,m:=σ,k:=k} false 1 L6=some [va]:=q4;have q6:∀is bs vs k,a0b {i:=is,b:=bs,v:=vs,m:=σ,k:=k} false 1 L7=some [vg]:=q6;have q8:∀is bs vs k,a0b {i:=is,b:=bs,v:=vs,m:=σ,k:=k} false 1 L8=some [vb]:=q8;have p4:∀is bs vs k,a0b {i:=is,b:=bs,v:=vs,m:=σ,k:=k} false 1 K6=some [wa]:=p4;have p6:∀is bs vs k,a0b {i:=is,b:=bs,v:=vs,m:=σ,k:=k} false 1 K7=some [wg]:=p6;have p8:∀is bs vs k,a0b {i:=is,b:=bs,v:=vs,m:=σ,k:=k} false 1 K8=some [wb]:=p8;have lt:ltB (i:Int) (cl.length:Int)=true:=a0W.2 (by omega);have hup:=a2e (show i<=1000000000 by omega);have l1:=va1.len;have l2:=vg1.len;have l3:=vb1.len;have m1:=wa1.len;have m2:=wg1.len;have m3:=wb1.len;rw[h1] at l1 m1;rw[h2] at l2 m2;rw[h3] at l3 m3;intro d
 induction d with
 | zero =>
  intro k hk fuel;obtain rfl:k=N:=by omega
  have nl:ltB (k:Int) (k:Int)=false:=(a0p ..).2 (by omega);rw[Sys.loop,show a1l.loops[1]?=some a2D from rfl];simp only[Q0,sm1,sm0,a2D,↓reduceIte,PT.ev,BE.safe,BE.pe,IE.pe,PEnv.at,Q4,Q6,Q7,Qa,a0y,Qe,Qf,Nat.reduceAdd,Q2,a0c,Q1,Q0,PEnv.push,Q8,Q3,Q9,SV.pvs,SV.pv,BE.all,Qd,Qb,Qg,hV.len,hW.len,lt,le0,q3,q4,va1.kind,va1.one,l1,nl,if_pos hup]
 | succ d ih =>
  intro k hk fuel;obtain⟨x,hx⟩:=a0S (show k<r.ask.length by omega);obtain⟨y,hy⟩:=a0S (show k<r.got.length by omega);obtain⟨z,hz⟩:=a0S (show k<r.bid.length by omega);obtain⟨A,hA⟩:=va1.rd k x hx;obtain⟨G,hG⟩:=vg1.rd k y hy;obtain⟨B,b1,b2⟩:=vb1.rd k z hz;obtain⟨A',hA'⟩:=wa1.rd k x hx;obtain⟨G',hG'⟩:=wg1.rd k y hy;obtain⟨B',b1',b2'⟩:=wb1.rd k z hz;obtain⟨a1,a2⟩:=hA 0 6 (by decide);obtain⟨a1',a2'⟩:=hA' 0 6 (by decide);obtain⟨g1,g2⟩:=hG 0 6 (by decide);obtain⟨g1',g2'⟩:=hG' 0 6 (by decide);have a2:∀is bs vs k,a0b {i:=is,b:=bs,v:=vs,m:=σ,k:=k} false 6 (A 0)=some [.int .i64 x.a,.int .i64 x.b,.int .i64 x.c,.int .i64 x.d,.int .i64 x.e,.int .i64 x.f]:=a2;have a2':∀is bs vs k,a0b {i:=is,b:=bs,v:=vs,m:=σ,k:=k} false 6 (A' 0)=some [.int .i64 x.a,.int .i64 x.b,.int .i64 x.c,.int .i64 x.d,.int .i64 x.e,.int .i64 x.f]:=a2';have g2:∀is bs vs k,a0b {i:=is,b:=bs,v:=vs,m:=σ,k:=k} false 6 (G 0)=some [.int .i64 y.a,.int .i64 y.b,.int .i64 y.c,.int .i64 y.d,.int .i64 y.e,.int .i64 y.f]:=g2;have g2':∀is bs vs k,a0b {i:=is,b:=bs,v:=vs,m:=σ,k:=k} false 6 (G' 0)=some [.int .i64 y.a,.int .i64 y.b,.int .i64 y.c,.int .i64 y.d,.int .i64 y.e,.int .i64 y.f]:=g2';have kt:ltB (k:Int) (N:Int)=true:=a0W.2 (by omega);have kup:=a2e (show k<=1000000000 by omega);have e0:∀a:Int,eqB a a=true:=fun a=>dT0 rfl
  have ez:(z||!z)=true:=by cases z<;>rfl
  have ih:=ih (k+1) (by omega) fuel
  have E:PT.ev (a0a Tab n) a2D (sm1 σ V W (i:Int) (k:Int) (N:Int) a a' g g' b b')=some (.jump 1 (sm1 σ V W (i:Int) ((k:Int)+1) (N:Int) a a' g g' b b')):=by
   unfold a2D sm1;simp only[↓reduceIte,PT.ev,BE.safe,BE.pe,IE.pe,PEnv.at,Q4,Q6,Q7,Qa,a0y,Qe,Qf,Nat.reduceAdd,a0c,Q1,Q0,PEnv.push,Q8,Q3,Q9,SV.pvs,SV.pv,BE.all,Qd,Qb,Qg,hV.len,lt,le0,q3,q4,va1.kind,va1.one,l1,kt];simp only[↓reduceIte,Q4,Q6,Qa,a0c,Q1,Q0,Q8,Q3,Q9,q5,q6,vg1.kind,vg1.one,l2,kt];simp only[↓reduceIte,Q4,Q6,Q7,Qa,a0c,Q1,Q0,Q8,Q3,Q9,q7,q8,vb1.kind,vb1.one,l3,kt];simp only[↓reduceIte,Q4,Q6,a0c,Q1,Q0,Q8,Q3,Qd,hW.len,lt,l1,kt,a1,a2];simp only[↓reduceIte,Q4,Q6,Q7,Qa,Q2,a0c,Q1,Q0,Q8,Q3,Qd,Qn,p3,p4,wa1.one,m1,kt,a1',a2',e0];simp only[↓reduceIte,Q4,Q6,a0c,Q1,Q0,Q8,Q3,Qd,l2,kt,g1,g2];simp only[↓reduceIte,Q4,Q6,Q7,Qa,Q2,a0c,Q1,Q0,Q8,Q3,Qd,Qn,p5,p6,wg1.one,m2,kt,g1',g2',e0];simp only[↓reduceIte,Q4,Q6,a0c,Q1,Q0,Q8,Q3,Qd,l3,kt,b1,b2];simp only[↓reduceIte,Q4,Q7,a0c,Q1,Q0,Q8,Q3,Qd,p7,p8,wb1.one,m3,kt,b1',b2'];rw[ez];simp only[Qn,Q2,if_false,if_pos kup]
  rw[a1f] at ih;rw[show fuel+(d+1)+1=(fuel+d+1)+1 by omega];exact(c4q (fuel:=fuel+d+1) rfl E).trans ih
theorem d3L:∀d i,i+d=cl.length->∀fuel,d*(N+2)+1<=fuel->a1l.loop (a0a Tab n) fuel 0 (sm0 σ V W (i:Int))=some (.bool true,σ):=by
 intro d
 induction d with
 | zero =>
  intro i hi fuel hf;obtain⟨fuel,rfl⟩:∃k,fuel=k+1:=⟨fuel-1,by omega⟩;have nl:ltB (i:Int) (cl.length:Int)=false:=(a0p ..).2 (by omega);rw[Sys.loop,show a1l.loops[0]?=some a2B from rfl];simp only[Q0,sm0,a2B,↓reduceIte,PT.ev,BE.safe,BE.pe,IE.pe,PEnv.at,Q4,Q2,Q1,Q0,SV.pv,hV.kind,hV.len,nl,a0g,or_true]
 | succ d ih =>
  intro i hi fuel hf;rw[QW] at hf;obtain⟨fuel,rfl⟩:∃k,fuel=k+N+1+1:=⟨fuel-N-2,by omega⟩;obtain⟨r,hr⟩:=a0S (show i<cl.length by omega);obtain⟨h1,h2,h3⟩:=hl r (Qz hr);obtain⟨va,vg,vb,va1,vg1,vb1,hrd⟩:=hV.rd i r hr;obtain⟨wa,wg,wb,wa1,wg1,wb1,wrd⟩:=hW.rd i r hr;obtain⟨L0,q1,q2⟩:=hrd 0 6 (by decide);obtain⟨L6,q3,q4⟩:=hrd 6 1 (by decide);obtain⟨L7,q5,q6⟩:=hrd 7 1 (by decide);obtain⟨L8,q7,q8⟩:=hrd 8 1 (by decide);obtain⟨K0,p1,p2⟩:=wrd 0 6 (by decide);obtain⟨K6,p3,p4⟩:=wrd 6 1 (by decide);obtain⟨K7,p5,p6⟩:=wrd 7 1 (by decide);obtain⟨K8,p7,p8⟩:=wrd 8 1 (by decide);have q2:∀is bs vs k,a0b {i:=is,b:=bs,v:=vs,m:=σ,k:=k} false 6 L0=some [.int .i64 r.p.a,.int .i64 r.p.b,.int .i64 r.p.c,.int .i64 r.p.d,.int .i64 r.p.e,.int .i64 r.p.f]:=q2;have q4:∀is bs vs k,a0b {i:=is,b:=bs,v:=vs,m:=σ,k:=k} false 1 L6=some [va]:=q4;have q6:∀is bs vs k,a0b {i:=is,b:=bs,v:=vs,m:=σ,k:=k} false 1 L7=some [vg]:=q6;have q8:∀is bs vs k,a0b {i:=is,b:=bs,v:=vs,m:=σ,k:=k} false 1 L8=some [vb]:=q8;have p2:∀is bs vs k,a0b {i:=is,b:=bs,v:=vs,m:=σ,k:=k} false 6 K0=some [.int .i64 r.p.a,.int .i64 r.p.b,.int .i64 r.p.c,.int .i64 r.p.d,.int .i64 r.p.e,.int .i64 r.p.f]:=p2;have p4:∀is bs vs k,a0b {i:=is,b:=bs,v:=vs,m:=σ,k:=k} false 1 K6=some [wa]:=p4;have p6:∀is bs vs k,a0b {i:=is,b:=bs,v:=vs,m:=σ,k:=k} false 1 K7=some [wg]:=p6;have p8:∀is bs vs k,a0b {i:=is,b:=bs,v:=vs,m:=σ,k:=k} false 1 K8=some [wb]:=p8;have lt:ltB (i:Int) (cl.length:Int)=true:=a0W.2 (by omega);have l1:=va1.len;have l2:=vg1.len;have l3:=vb1.len;have m1:=wa1.len;have m2:=wg1.len;have m3:=wb1.len;rw[h1] at l1 m1;rw[h2] at l2 m2;rw[h3] at l3 m3;have e0:∀a:Int,eqB a a=true:=fun a=>dT0 rfl
  have s1:=d4g hV hW hl hN hcl n hr va wa vg wg vb wb va1.one wa1.one vg1.one wg1.one vb1.one wb1.one N 0 (by omega) fuel;have s2:=ih (i+1) (by omega) fuel (by omega);rw[a1f] at s2;rw[s2] at s1
  have E:PT.ev (a0a Tab n) a2B (sm0 σ V W (i:Int))=some (.jump 1 (sm1 σ V W (i:Int) 0 (N:Int) va wa vg wg vb wb)):=by
   simp only[sm0,a2B,↓reduceIte,PT.ev,BE.safe,BE.pe,IE.pe,PEnv.at,Q4,Q6,Q7,Qa,a0y,Qe,Qf,Nat.reduceAdd,Q2,a0c,Q1,Q0,PEnv.push,Q8,Q3,Q9,SV.pv,Qd,Qn,hV.kind,hV.len,hW.len,lt,le0,q1,q2,p1,p2,e0]
   repeat' (first|with_reducible rfl|apply b2C|simp only[↓reduceIte,a0j,a0e,a0f,a0V,a0m,BE.safe,BE.pe,IE.pe,PEnv.at,Q4,Q6,Q7,Qa,a0y,Qe,Qf,Nat.reduceAdd,Q2,a0c,Q1,Q0,PEnv.push,Q8,Q3,Q9,SV.pvs,SV.pv,BE.all,Qd,Qn,Qb,Qg,sm1,hV.len,hW.len,lt,le0,q3,q4,q5,q6,q7,q8,p3,p4,p5,p6,p7,p8,va1.kind,va1.one,vg1.kind,vg1.one,vb1.kind,vb1.one,wa1.kind,wa1.one,wg1.kind,wg1.one,wb1.kind,wb1.one,l1,l2,l3,m1,m2,m3,e0]|unfold a6G|unfold a6p|unfold a6t|unfold a6k|unfold a6w|unfold a6n|unfold a6s|unfold a6C|unfold a6z|unfold a6e|unfold a6b|unfold a5Z|unfold a6g|unfold a6c)
  exact(c4q (fuel:=fuel+N+1) rfl E).trans s1
theorem c7J(hn:cl.length*(N+2)+2<=n):a0a Tab n b0x [V,W] σ=some (.bool true,σ):=by
 obtain⟨n,rfl⟩:∃k,n=k+1:=⟨n-1,by omega⟩;have key:=d3L hV hW hl hN hcl n cl.length 0 (by omega) n (by omega);have e0:∀a:Int,eqB a a=true:=fun a=>dT0 rfl
 rw[a0a];simp only[b5s,Q0,Sys.run];show ((a0i [.sh (.one _),.sh (.one _)] _).bind _)=_;simp only[a0i,a0l,a0c,Q1,Q0,Q9,Q3,Q8,if_true,hV.one,hW.one];show (PT.ev _ a5p _).bind _=_;simp only[a5p,↓reduceIte,PT.ev,BE.safe,BE.pe,IE.pe,PEnv.at,Q4,Q6,Q7,Qa,Q2,Q1,Q0,SV.pvs,SV.pv,BE.all,Qn,Qb,Qg,hV.kind,hW.kind,hV.len,hW.len,e0];exact key
end
def PRn(r:Rn)(row:List PV):Prop:=∃a g b,row=[.int .i64 r.p.a,.int .i64 r.p.b,.int .i64 r.p.c,.int .i64 r.p.d,.int .i64 r.p.e,.int .i64 r.p.f,a,g,b]/\a.rowsOf 6=some (r.ask.map W6.pv)/\g.rowsOf 6=some (r.got.map W6.pv)/\b.rowsOf 1=some (r.bid.map fun b=>[PV.bool b])
def c8r(cl:List Rn)(rows:List (List PV)):Prop:=rows.length=cl.length/\∀(i:Nat) r row,cl[i]?=some r->rows[i]?=some row->PRn r row
theorem c8r.rr{σ:List MO}{v:PV}{cl:List Rn}{rows:List (List PV)}(hv:v.rowsOf 9=some rows)(h:c8r cl rows):RRd σ v cl:=by
 obtain⟨p1,p2,p3⟩:=a0d hv;rw[h.1] at p1;refine⟨p2,p3,p1,fun i r hr=>?_⟩;obtain⟨row,hrow⟩:=a0S (show i<rows.length by rw[h.1];exact(Qk.1 hr).1);obtain⟨a,g,b,rfl,ha,hg,hb⟩:=h.2 i r row hr hrow;exact⟨a,g,b,BRd.plain ha,BRd.plain hg,ORd.plain hb,fun off n hn=>⟨_,a0z hv hrow,fun _ _ _ _=>a5x rfl (by rw[QA];simp only[Qe,Qf];omega)⟩⟩
theorem c8r.snoc{cl:List Rn}{rows:List (List PV)}{r:Rn}{row:List PV}(h:c8r cl rows)(hr:PRn r row):c8r (cl++[r]) (rows++[row]):=by
 refine⟨by simp[h.1],fun i x y hx hy=>?_⟩;by_cases hi:i<cl.length
 ·rw[Qs hi] at hx
  rw[Qs (by rw[h.1];exact hi)] at hy;exact h.2 i x y hx hy
 ·have hl:i=cl.length:=by have:=(Qk.1 hx).1;simp at this;omega
  subst hl;rw[Qy (by omega)] at hx;rw[<- h.1,Qy (by omega)] at hy;simp at hx hy;subst hx hy;exact hr
theorem c8r.take{cl:List Rn}{rows:List (List PV)}(h:c8r cl rows)(n:Nat):c8r (cl.take n) (rows.take n):=by
 refine⟨by rw[QM,QM,h.1],fun i x y hx hy=>?_⟩;rw[X7] at hx hy;split at hx
 ·rename_i hi
  rw[if_pos hi] at hy;exact h.2 i x y hx hy
 ·cases hx
theorem d6V{v:PV}{n k:Nat}{rows:List (List PV)}(h:v.rowsOf n=some rows)(hl:PV.lowss k rows=true):v.low k=true:=by
 cases v<;>simp only[PV.rowsOf,reduceCtorEq] at h
 ·rfl
 ·split at h
  ·cases h;exact hl
  ·cases h
theorem d6Z(k:Nat)(l:List Bool):PV.lowss k (l.map fun b=>[PV.bool b])=true:=by
 induction l with
 | nil=>rfl
 | cons b l ih=>rw[Qb];simpa[PV.lowss,PV.lows,PV.low] using ih
theorem PRn.low{r:Rn}{row:List PV}(h:PRn r row)(k:Nat):PV.lows k row=true/\∀p∈row,p.one=true:=by
 obtain⟨a,g,b,rfl,ha,hg,hb⟩:=h;refine⟨?_,fun p hp=>?_⟩
 ·simp only[PV.lows,PV.low,d6V ha (d6W k _ 0),d6V hg (d6W k _ 0),d6V hb (d6Z k _),Qd]
 ·have h1:=(a0d ha).2.2
  have h2:=(a0d hg).2.2;have h3:=(a0d hb).2.2;simp only[List.mem_cons,List.not_mem_nil,or_false] at hp;rcases hp with rfl|rfl|rfl|rfl|rfl|rfl|rfl|rfl|rfl
  all_goals first|rfl|assumption
theorem c8r.low{cl:List Rn}{rows:List (List PV)}(h:c8r cl rows)(k:Nat):PV.lowss k rows=true:=by
 have hm:∀row∈rows,PV.lows k row=true:=fun row hr=>by
  obtain⟨i,hi⟩:=Xp hr;obtain⟨r,hr⟩:=a0S (show i<cl.length by rw[<- h.1];exact(Qk.1 hi).1);exact((h.2 i r row hr hi).low k).1
 clear h
 induction rows with
 | nil=>rfl
 | cons r rows ih=>simp only[PV.lowss,hm r (by simp),QY];exact ih fun q hq=>hm q (by simp[hq])
structure RcAt (VC VB VH VO:PV)(rows:List (List PV))(c:Ck):Prop where
 cl:VC.rowsOf 9=some rows
 rs:c8r c.cl rows
 ask:VB.rowsOf 6=some (c.ask.map W6.pv)
 bid:VH.rowsOf 1=some (c.bid.map fun b=>[PV.bool b])
 out:VO.rowsOf 1=some (c.out.map fun b=>[PV.bool b])
 la:c.ask.length=c.out.length
 lb:c.bid.length=c.out.length
def d6h(s:St)(o:Po)(l:List PV)(c:Ck):Prop:=∃VC VB VH VO rows,l=ckL s o VC VB VH VO c.p c.over/\RcAt VC VB VH VO rows c
theorem c1b:∀l:List Bool,a4h 1 l.length (l.map PV.bool)=some (l.map fun b=>[PV.bool b])
 | []=>rfl
 | b::l=>by
  rw[Qe,Qb,a4h,if_pos ⟨by simp,rfl⟩];simp only[Xs,Qt,c1b l,Q1,QD,Qu,Qb]
theorem d1T{ρ:PEnv}{h N:Nat}{l:List W6}{T:Nat}(hh:ρ.m[h]?=some (.cells (l.map W6.pv).flatten T))(hk:ρ.k<=h)(hN:N=l.length):(PV.msl h 0 N N 6).frz ρ.k (a4I ρ 3)=some (.sl 6 (l.map W6.pv)):=by
 subst hN;have h1:¬h<ρ.k:=by omega
 have h2:∀look,PV.frzs ρ.k look (l.map W6.pv).flatten=some (l.map W6.pv).flatten:=fun _=>PV.frzs_low _ (b8a ρ.k l 0)
 simp only[PV.frz,if_neg h1,a4I,hh,Q0,h2,Q1,MO.list,Qm,if_true,Qt,c4o]
theorem c7z{ρ:PEnv}{h N:Nat}{l:List Bool}{T:Nat}(hh:ρ.m[h]?=some (.cells (l.map PV.bool) T))(hk:ρ.k<=h)(hN:N=l.length):(PV.msl h 0 N N 1).frz ρ.k (a4I ρ 3)=some (.sl 1 (l.map fun b=>[PV.bool b])):=by
 subst hN;have h1:¬h<ρ.k:=by omega
 have h2:∀look,PV.frzs ρ.k look (l.map PV.bool)=some (l.map PV.bool):=fun _=>PV.frzs_low _ (b7g ρ.k l 0)
 simp only[PV.frz,if_neg h1,a4I,hh,Q0,h2,Q1,MO.list,Qm,if_true,Qt,c1b]
section
variable {s:St}{o:Po}{σ M:List MO}(hσ:Low σ)(hM:M.length≠σ.length)(hT:M.take σ.length=σ)(hP:s.P.low σ.length=true/\s.B.low σ.length=true/\s.C.low σ.length=true/\s.A.low σ.length=true)
include hσ hM hT hP
theorem d2R{is:List Int}{bs:List Bool}{vs:List PV}{VC va vb vd va' vb' vd':PV}{p:W6}{ov:Bool}(hC:VC.low σ.length=true)(ha:va.frz σ.length (a4I {i:=is,b:=bs,v:=vs,m:=M,k:=σ.length} 3)=some va')(hb:vb.frz σ.length (a4I {i:=is,b:=bs,v:=vs,m:=M,k:=σ.length} 3)=some vb')(hd:vd.frz σ.length (a4I {i:=is,b:=bs,v:=vs,m:=M,k:=σ.length} 3)=some vd') :
  a0g {i:=is,b:=bs,v:=vs,m:=M,k:=σ.length} false (.agg (ckL s o VC va vb vd p ov))=some (.agg (ckL s o VC va' vb' vd' p ov),σ) /\
  ∀e,a0g {i:=is,b:=bs,v:=vs,m:=M,k:=σ.length} false (.tup [.agg (ckL s o VC va vb vd p ov),.int .i64 e])=some (.tup [.agg (ckL s o VC va' vb' vd' p ov),.int .i64 e],σ):=by
 have hl:List.all σ (MO.low σ.length)=true:=hσ;have f1:∀look,PV.frz σ.length look s.P=some s.P:=fun look=>PV.frz_low _ hP.1
 have f2:∀look,PV.frz σ.length look s.B=some s.B:=fun look=>PV.frz_low _ hP.2.1
 have f3:∀look,PV.frz σ.length look s.C=some s.C:=fun look=>PV.frz_low _ hP.2.2.1
 have f4:∀look,PV.frz σ.length look s.A=some s.A:=fun look=>PV.frz_low _ hP.2.2.2
 have f5:∀look,PV.frz σ.length look VC=some VC:=fun look=>PV.frz_low _ hC
 refine⟨?_,fun e=>?_⟩
 ·unfold a0g
  simp only[Q2,false_or,if_neg hM,hT,hl,if_true,PV.frz,PV.frzs,ckL,f1,f2,f3,f4,f5,ha,hb,hd,Q0,Q1]
 ·unfold a0g
  simp only[Q2,false_or,if_neg hM,hT,hl,if_true,PV.frz,PV.frzs,ckL,f1,f2,f3,f4,f5,ha,hb,hd,Q0,Q1]
end
section
variable (σ:List MO)(x y z x':MO)
theorem c0r:(σ++[x]++[y]++[z])[σ.length]?=some x:=by
 rw[Qj,Qj,Qy (Qm _),X9];rfl
theorem c0i:(σ++[x]++[y]++[z])[σ.length+1]?=some y:=by
 rw[Qj,Qj,Qy (by omega),QX];rfl
theorem c0o:(σ++[x]++[y]++[z])[σ.length+1+1]?=some z:=by
 rw[Qj,Qj,Qy (by omega),show σ.length+1+1-σ.length=2 by omega];rfl
end
theorem d6f(N:Nat):(Q5 N [PV.int .i64 0,.int .i64 0,.int .i64 0,.int .i64 0,.int .i64 0,.int .i64 0]).flatten=(Qq W6.pv (Q5 N w0)).flatten:=by
 rw[Xr];rfl
theorem d6J(N:Nat):(Q5 N [PV.bool false]).flatten=Qq PV.bool (Q5 N false):=by
 induction N with
 | zero=>rfl
 | succ N ih=>rw[QL,QL,Qb,Qp,ih];rfl
section
variable {s:St}{cs ad:List Tri}(hs:SuOk s cs ad){o:Po}{σ:List MO}(hσ:Low σ){VC VB VH VO:PV}{rows:List (List PV)}{c:Ck}(k:RcAt VC VB VH VO rows c)(hN:c.out.length<=1000)(n:Nat)
include hs hσ k hN
end
section
variable {s:St}{cs ad:List Tri}(hs:SuOk s cs ad)(o:Po)(σ:List MO)(hσ:Low σ)(n:Nat)
include hs
theorem c8U(he:a9M s.ps s.bs cs ad o≠0)(hn:1200<=n):∃l,a0a Tab n a4f [.agg s.pv,.agg o.row] σ=some (.tup [.agg l,.int .i64 (a9M s.ps s.bs cs ad o)],σ)/\l=[.nilS,.nilS,.nilS,.nilS,.int .i64 0,.int .i64 0,.int .i64 0,.int .i64 0,.nilS,.int .i64 0,.int .i64 0,.int .i64 0,.int .i64 0,.int .i64 0,.int .i64 0,.nilS,.nilS,.nilS,.bool false]:=by
 obtain⟨n,rfl⟩:∃k,n=k+1:=⟨n-1,by omega⟩;obtain⟨_,_,p3⟩:=a0d hs.P;obtain⟨_,_,b3⟩:=a0d hs.B;obtain⟨_,_,c3⟩:=a0d hs.C;obtain⟨_,_,a3⟩:=a0d hs.A;have k1:=b4w σ s.ps s.bs cs ad s.P s.B s.C s.A hs.P hs.B hs.C hs.A n (by omega);have k2:=a8F σ n o (by omega);have e5:∀a b:Int,eqB a b=decide (a=b):=fun _ _=>rfl
 simp only[a4U,a4W,a4R] at k1 k2;refine⟨_,?_,rfl⟩;rw[a0a];simp only[a9T,Q0,Sys.run,St.pv,a4R];show ((a0i [.sh (.agg [_,_,_,_]),.sh (.agg [_,_,_,_])] _).bind _)=_;simp only[a0i,a0l,a0c,Q1,Q0,Q9,Q3,if_true,p3,b3,c3,a3];show (PT.ev _ a1P _).bind _=_;unfold a9M at he ⊢;by_cases h1:a4Q s.ps s.bs cs ad=0
 ·rw[if_pos h1] at he ⊢
  simp only[a1P,↓reduceIte,a0j,a0e,a0f,a0K,BE.safe,BE.pe,IE.pe,PEnv.at,Q4,Q6,Q7,Qa,Q2,a0c,a0r,a0l,Q1,Q0,PEnv.push,Q8,Q3,Q9,SV.pvs,SV.pv,QB,k1,k2,e5,dT0 h1,dF0 he,a0g,or_true]
 ·rw[if_neg h1]
  simp only[a1P,↓reduceIte,a0j,a0e,a0f,a0K,BE.safe,BE.pe,IE.pe,PEnv.at,Q4,Q6,Q7,Qa,Q2,a0c,a0r,a0l,Q1,Q0,PEnv.push,Q8,Q3,SV.pvs,SV.pv,QB,k1,e5,dF0 h1,a0g,or_true]
include hσ in
set_option maxHeartbeats 4000000 in
theorem c9r(he:a9M s.ps s.bs cs ad o=0)(hn:1200<=n):∃l,a0a Tab n a4f [.agg s.pv,.agg o.row] σ=some (.tup [.agg l,.int .i64 0],σ)/\d6h s o l (ck0 s.ps s.bs.length):=by
 obtain⟨n,rfl⟩:∃k,n=k+1:=⟨n-1,by omega⟩
 have hv:a4Q s.ps s.bs cs ad=0:=by
  unfold a9M at he;split at he
  ·assumption
  ·exact he
 have ho:o.ok:=by
  unfold a9M at he;rw[if_pos hv] at he;unfold a3D at he;split at he
  ·assumption
  ·cases he
 obtain⟨l1,l2,l3,l4,l5⟩:=SuOk.lens hv;obtain⟨_,_,p3⟩:=a0d hs.P;obtain⟨b1,b2,b3⟩:=a0d hs.B;rw[Qh] at b1;obtain⟨_,_,c3⟩:=a0d hs.C;obtain⟨_,_,a3⟩:=a0d hs.A;have k1:=b4w σ s.ps s.bs cs ad s.P s.B s.C s.A hs.P hs.B hs.C hs.A n (by omega);have k2:=a8F σ n o (by omega);rw[hv] at k1;rw[show a3D o=0 from if_pos ho] at k2;have k4:=fun M=>c7Q M s.ps s.P hs.P l1 n (by omega)
 have cN:(0:Int)<=(s.bs.length:Int)/\(s.bs.length:Int)<=1000000:=by omega
 have hl1:∀x:MO,(σ++[x]).length=σ.length+1:=fun x=>by simp
 have hl2:∀x y:MO,(σ++[x]++[y]).length=σ.length+1+1:=fun x y=>by simp
 have hlow:=hs.low σ.length
 have R:=fun (X Y Z:MO) (ha hb hd:Nat) (k1:σ.length<=ha) (k2:σ.length<=hb) (k3:σ.length<=hd) (g1:(σ++[X]++[Y]++[Z])[ha]?=some (.cells ((Q5 s.bs.length w0).map W6.pv).flatten 51)) (g2:(σ++[X]++[Y]++[Z])[hb]?=some (.cells ((Q5 s.bs.length false).map PV.bool) 4)) (g3:(σ++[X]++[Y]++[Z])[hd]?=some (.cells ((Q5 s.bs.length false).map PV.bool) 4)) (is:List Int) (bs:List Bool) (vs:List PV) =>
  (d2R (s:=s) (o:=o) (σ:=σ) (M:=σ++[X]++[Y]++[Z]) hσ (by simp) (by rw[Qj,Qj,List.take_left]) hlow (is:=is) (bs:=bs) (vs:=vs) (VC:=.nilS) (va:=.msl ha 0 s.bs.length s.bs.length 6) (vb:=.msl hb 0 s.bs.length s.bs.length 1) (vd:=.msl hd 0 s.bs.length s.bs.length 1) (p:=a3e s.ps) (ov:=false) rfl
  (d1T (ρ:={i:=is,b:=bs,v:=vs,m:=_,k:=σ.length}) (l:=Q5 s.bs.length w0) (T:=51) g1 k1 (by simp)) (c7z (ρ:={i:=is,b:=bs,v:=vs,m:=_,k:=σ.length}) (l:=Q5 s.bs.length false) (T:=4) g2 k2 (by simp)) (c7z (ρ:={i:=is,b:=bs,v:=vs,m:=_,k:=σ.length}) (l:=Q5 s.bs.length false) (T:=4) g3 k3 (by simp))).2 0
 have R1:=R (.cells ((Q5 s.bs.length w0).map W6.pv).flatten 51) (.cells ((Q5 s.bs.length false).map PV.bool) 4) (.cells ((Q5 s.bs.length false).map PV.bool) 4) σ.length (σ.length+1) (σ.length+1+1) (by omega) (by omega) (by omega) (c0r _ _ _ _) (c0i _ _ _ _) (c0o _ _ _ _);have R2:=R (.cells ((Q5 s.bs.length w0).map W6.pv).flatten 51) (.cells ((Q5 s.bs.length false).map PV.bool) 4) (.cells ((Q5 s.bs.length false).map PV.bool) 4) σ.length (σ.length+1+1) (σ.length+1) (by omega) (by omega) (by omega) (c0r _ _ _ _) (c0o _ _ _ _) (c0i _ _ _ _);have R3:=R (.cells ((Q5 s.bs.length false).map PV.bool) 4) (.cells ((Q5 s.bs.length w0).map W6.pv).flatten 51) (.cells ((Q5 s.bs.length false).map PV.bool) 4) (σ.length+1) σ.length (σ.length+1+1) (by omega) (by omega) (by omega) (c0i _ _ _ _) (c0r _ _ _ _) (c0o _ _ _ _);have R4:=R (.cells ((Q5 s.bs.length false).map PV.bool) 4) (.cells ((Q5 s.bs.length w0).map W6.pv).flatten 51) (.cells ((Q5 s.bs.length false).map PV.bool) 4) (σ.length+1) (σ.length+1+1) σ.length (by omega) (by omega) (by omega) (c0i _ _ _ _) (c0o _ _ _ _) (c0r _ _ _ _);have R5:=R (.cells ((Q5 s.bs.length false).map PV.bool) 4) (.cells ((Q5 s.bs.length false).map PV.bool) 4) (.cells ((Q5 s.bs.length w0).map W6.pv).flatten 51) (σ.length+1+1) σ.length (σ.length+1) (by omega) (by omega) (by omega) (c0o _ _ _ _) (c0r _ _ _ _) (c0i _ _ _ _);have R6:=R (.cells ((Q5 s.bs.length false).map PV.bool) 4) (.cells ((Q5 s.bs.length false).map PV.bool) 4) (.cells ((Q5 s.bs.length w0).map W6.pv).flatten 51) (σ.length+1+1) (σ.length+1) σ.length (by omega) (by omega) (by omega) (c0o _ _ _ _) (c0i _ _ _ _) (c0r _ _ _ _);simp only[ckL] at R1 R2 R3 R4 R5 R6;clear R;simp only[a4U,a4W,a9X,a4R,pv6] at k1 k2 k4;have e0:eqB 0 0=true:=rfl;refine⟨ckL s o .nilS (.sl 6 ((Q5 s.bs.length w0).map W6.pv)) (.sl 1 ((Q5 s.bs.length false).map fun b=>[PV.bool b])) (.sl 1 ((Q5 s.bs.length false).map fun b=>[PV.bool b])) (a3e s.ps) false,?_,⟨_,_,_,_,[],rfl,⟨rfl,⟨rfl,fun i r row h=>by simp[ck0] at h⟩,a1K _ _,a1K _ _,a1K _ _,by simp[ck0],by simp[ck0]⟩⟩⟩;rw[a0a];simp only[a9T,Q0,Sys.run,St.pv,a4R];show ((a0i [.sh (.agg [_,_,_,_]),.sh (.agg [_,_,_,_])] _).bind _)=_;simp only[a0i,a0l,a0c,Q1,Q0,Q9,Q3,if_true,p3,b3,c3,a3]
 have E:PT.ev (a0a Tab n) a1P {i:=[o.st,o.pc,o.un,o.ru],b:=[],v:=[s.P,s.B,s.C,s.A],m:=σ,k:=σ.length}=some (.ret (.tup [.agg (ckL s o .nilS (.sl 6 ((Q5 s.bs.length w0).map W6.pv)) (.sl 1 ((Q5 s.bs.length false).map fun b=>[PV.bool b])) (.sl 1 ((Q5 s.bs.length false).map fun b=>[PV.bool b])) (a3e s.ps) false),.int .i64 0]) σ):=by
  simp only[a1P,↓reduceIte,a0j,a0e,a0f,a0K,BE.safe,BE.pe,IE.pe,PEnv.at,Q4,Q6,Q7,Qa,Q2,a0c,a0r,a0l,Q1,Q0,PEnv.push,Q8,Q3,Q9,SV.pvs,SV.pv,Qn,k1,k2,e0,b2]
  repeat' (first|with_reducible rfl|apply b2C|simp only[↓reduceIte,a0j,a0K,c0c,BE.safe,BE.pe,IE.pe,PEnv.at,Q4,Q6,Q7,Qa,a0c,a0r,a0l,Q1,Q0,PEnv.push,Q8,Q3,SV.pvs,SV.pv,ckL,k4,b1,cN.1,cN.2,QK,and_self,Nat.reduceLeDiff,d6f,d6J,hl1,hl2,R1,R2,R3,R4,R5,R6]|unfold a9m|unfold a9n|unfold a9r|unfold a9a|unfold a9c|unfold a9q|unfold a9f|unfold a9s|unfold a9j|unfold a7J|unfold a8J|unfold a7p|unfold a8D|unfold a7P|unfold a8o|unfold a7T|unfold a8l|unfold a8b|unfold a7V|unfold a7D|unfold a8G|unfold a7X|unfold a8I|unfold a8j|unfold a7O|unfold a8d|unfold a7y|unfold a8s|unfold a8t|unfold a7B|unfold a7i|unfold a8x|unfold a7K|unfold a8i|unfold a8r|unfold a7Y|unfold a8f|unfold a7q|unfold a8K|unfold a8C|unfold a8v|unfold a7c|unfold a8H|unfold a7d|unfold a7m|unfold a7W|unfold a8w|unfold a7C|unfold a7M|unfold a7F|unfold a7I|unfold a7v|unfold a7N|unfold a7R|unfold a7S|unfold a7z|unfold a8a|unfold a7e|unfold a7w|unfold a8E|unfold a7n|unfold a7k|unfold a7g|unfold a6Z|unfold a8A|unfold a8p|unfold a8c|unfold a7r|unfold a8e|unfold a7h|unfold a7j|unfold a8z|unfold a7u|unfold a8k|unfold a7U|unfold a7b|unfold a8g|unfold a7G|unfold a7H|unfold a7o|unfold a7l|unfold a7s|unfold a7t|unfold a8h|unfold a8n|unfold a7A|unfold a7Q|unfold a8y|unfold a8q|unfold a7E|unfold a7f|unfold a8B)
 show ((PT.ev (a0a Tab n) a1P _).bind _)=_;exact(congrArg (Xa · _) E).trans rfl
end
section
variable {s:St}{cs ad:List Tri}(hs:SuOk s cs ad){o:Po}{σ:List MO}{VC VB VH VO:PV}{rows:List (List PV)}{c:Ck}(k:RcAt VC VB VH VO rows c)(n:Nat)
def c1X(σ:List MO)(s:St)(o:Po)(i j:Int)(O VC VB VH VO:PV)(p:W6)(ov:Bool):PEnv:={i:=[i,j,o.st,o.pc,o.un,o.ru,p.a,p.b,p.c,p.d,p.e,p.f],b:=[ov],v:=[O,s.P,s.B,s.C,s.A,VC,VB,VH,VO],m:=σ,k:=σ.length}
include k in
theorem d0u(p:W6)(ov:Bool)(hl:c.cl.length<=100){i:Nat}(hio:i<c.out.length)(hi:∀r∈c.cl,i<r.ask.length):∀d j,j+d=c.cl.length->∀(O:PV),O.rowsOf 12=some (((c.cl.take j).map fun r=>(⟨r.p,wa r.ask i⟩:Ch)).map Ch.row)->∀fuel,d+1<=fuel ->
  ∃L,a0J.loop (a0a Tab n) fuel 0 (c1X σ s o (i:Int) (j:Int) O VC VB VH VO p ov)=some (L,σ)/\L.rowsOf 12=some ((c.chs i).map Ch.row):=by
 obtain⟨v1,v2,v3⟩:=a0d k.cl;rw[k.rs.1] at v1;obtain⟨o1,o2,o3⟩:=a0d k.out;rw[Qh] at o1;intro d
 induction d with
 | zero =>
  intro j hj O hO fuel hf;obtain⟨fuel,rfl⟩:∃k,fuel=k+1:=⟨fuel-1,by omega⟩;obtain rfl:j=c.cl.length:=by omega
  have hd:ltB (c.cl.length:Int) (c.cl.length:Int)=false:=by rw[a0p];omega
  refine⟨O,?_,by rw[QZ] at hO;exact hO⟩;rw[Sys.loop,show a0J.loops[0]?=some a0G from rfl];simp only[Q0,c1X,a0G,↓reduceIte,a0j,a0e,a0f,BE.safe,BE.pe,IE.pe,PEnv.at,Q4,Q6,Q7,Q2,Q1,Q0,SV.pv,v1,v2,hd,a0g,or_true]
 | succ d ih =>
  intro j hj O hO fuel hf;obtain⟨fuel,rfl⟩:∃k,fuel=k+1:=⟨fuel-1,by omega⟩;obtain⟨r,hr⟩:=a0S (show j<c.cl.length by omega);obtain⟨row,hrow⟩:=a0S (show j<rows.length by rw[k.rs.1];omega);obtain⟨a,g,b,rfl,ba,bg,bb⟩:=k.rs.2 j r row hr hrow;have q1:=a0z (off:=0) k.cl hrow;have q2:=a0z (off:=6) k.cl hrow;have hir:=hi r (Qz hr);obtain⟨w,hw⟩:=a0S hir;obtain⟨a1,a2,a3⟩:=a0d ba;rw[Qh] at a1;have u1:=a0z (off:=0) ba (show (r.ask.map W6.pv)[i]?=some w.pv by rw[Qw,hw];rfl);have hd:ltB (j:Int) (c.cl.length:Int)=true:=by rw[a0W];omega
  have hd2:ltB (i:Int) (r.ask.length:Int)=true:=by rw[a0W];omega
  have hd3:ltB (i:Int) (c.out.length:Int)=true:=by rw[a0W];omega
  have hup:=a2e (show j<=1000000000 by omega);have t1:(0:Nat)+1<=1000000:=by decide
  have t2:(((c.cl.take j).map fun r=>(⟨r.p,wa r.ask i⟩:Ch)).map Ch.row).length+1<=1000000:=by simp;omega
  have t3:(((c.cl.take j).map fun r=>(⟨r.p,wa r.ask i⟩:Ch)).map Ch.row).length<=999999:=by omega
  obtain⟨L',e1,e2⟩:=ih (j+1) (by omega) (.sl 12 (((c.cl.take j).map fun r=>(⟨r.p,wa r.ask i⟩:Ch)).map Ch.row++[(⟨r.p,w⟩:Ch).row])) (by
   rw[a1K,X0,hr,X8,X1,X1,Qb,Qb,Qg,Qg,c9h hw]) fuel (by omega)
  refine⟨L',?_,e2⟩;have oO:=(a0d hO).2.2;rw[<- e1,a1f,Sys.loop,show a0J.loops[0]?=some a0G from rfl];generalize ((c.cl.take j).map fun r=>(⟨r.p,wa r.ask i⟩:Ch)).map Ch.row=RW at *
  rw[pv6] at u1;simp only[Q0,c1X,a0G,↓reduceIte,a0e,a0f,a0V,d1L,a0m,BE.safe,BE.pe,IE.pe,PEnv.at,Q4,Q6,Q7,Qa,a0y,a0b,a1d,Qt,Qe,Qf,Nat.reduceAdd,Qm,QD,Qu,a0c,Q1,Q0,PEnv.push,Q8,Q3,Q9,SV.pvs,SV.pv,BE.all,Qd,Qb,Qg,a1o,QQ,QS,QU,QV,hd,hd2,hd3,le0,v1,v2,o1,o2,q1,q2,a1,a3,u1,Xs,Nat.reduceLeDiff,hO,a1K,if_pos t3,if_pos hup,b6H]
include hs k in
theorem c6c(p:W6)(ov:Bool)(hl:c.cl.length<=100)(hi:∀r∈c.cl,r.ask.length=c.out.length)(i:Int)(hn:110<=n):∃L,a0a Tab n a2V [.agg (ckL s o VC VB VH VO p ov),.int .i64 i] σ=some (L,σ)/\L.rowsOf 12=some ((if c.has i=true then c.chs i.toNat else []).map Ch.row):=by
 obtain⟨n,rfl⟩:∃k,n=k+1:=⟨n-1,by omega⟩;obtain⟨_,_,p3⟩:=a0d hs.P;obtain⟨_,_,b3⟩:=a0d hs.B;obtain⟨_,_,c3⟩:=a0d hs.C;obtain⟨_,_,a3⟩:=a0d hs.A;obtain⟨v1,v2,vc3⟩:=a0d k.cl;rw[k.rs.1] at v1;have vb3:=(a0d k.ask).2.2;have vh3:=(a0d k.bid).2.2;obtain⟨o1,o2,vo3⟩:=a0d k.out;rw[Qh] at o1
 have go:∀L,Sys.loop (a0a Tab n) a0J n 0 (c1X σ s o i 0 .nilS VC VB VH VO p ov)=some (L,σ)->a0a Tab (n+1) a2V [.agg (ckL s o VC VB VH VO p ov),.int .i64 i] σ=some (L,σ):=fun L hL=>by
  rw[a0a];simp only[a9Z,Q0,Sys.run,ckL];show ((a0i [.sh (.agg [_,_,_,_,_,_,_,_,_,_,_,_,_,_,_,_,_,_,_]),.sh (.one _)] _).bind _)=_;simp only[a0i,a0l,a0c,Q1,Q0,Q9,Q3,Q8,if_true,p3,b3,c3,a3,vc3,vb3,vh3,vo3];show (PT.ev _ a2U _).bind _=_;simp only[a2U,↓reduceIte,a0m,BE.safe,BE.pe,IE.pe,Q4,Q6,Q7,Qa,Q1,Q0,SV.pvs,SV.pv,BE.all,Qb,Qg];exact hL
 cases hh:c.has i with
 | false =>
  refine⟨.nilS,go _ ?_,rfl⟩;obtain⟨n,rfl⟩:∃k,n=k+1:=⟨n-1,by omega⟩;rw[Sys.loop,show a0J.loops[0]?=some a0G from rfl];unfold Ck.has at hh;cases h0:ltB 0 (c.cl.length:Int) with
  | false=>simp only[Q0,c1X,a0G,↓reduceIte,a0j,a0e,a0f,BE.safe,BE.pe,IE.pe,PEnv.at,Q4,Q6,Q7,Q2,Q1,Q0,SV.pv,v1,v2,h0,a0g,or_true]
  | true =>
   cases h1:leB 0 i with
   | false=>simp only[Q0,c1X,a0G,↓reduceIte,a0j,a0e,a0f,BE.safe,BE.pe,IE.pe,PEnv.at,Q4,Q6,Q7,Q2,Q1,Q0,SV.pv,v1,v2,h0,h1,a0g,or_true]
   | true =>
    rw[h1,QY] at hh;simp only[Q0,c1X,a0G,↓reduceIte,a0j,a0e,a0f,BE.safe,BE.pe,IE.pe,PEnv.at,Q4,Q6,Q7,Q2,Q1,Q0,SV.pv,v1,v2,o1,o2,h0,h1,hh,a0g,or_true]
 | true =>
  have hh':=hh;unfold Ck.has at hh';rw[QJ,a2L,a0W] at hh';obtain⟨j,rfl⟩:∃j:Nat,i=(j:Int):=⟨i.toNat,by omega⟩;obtain⟨L,e1,e2⟩:=d0u (σ:=σ) (s:=s) (o:=o) k n p ov hl (i:=j) (by omega) (fun r hr=>by rw[hi r hr];omega) c.cl.length 0 (by omega) .nilS rfl n (by omega);exact⟨L,go _ e1,by rw[if_pos rfl,QK];exact e2⟩
end
theorem d0D{σ M:List MO}(h:∀x,x<σ.length->M[x]?=σ[x]?):M.take σ.length=σ:=by
 refine List.ext_getElem? fun x=>?_
 rw[X7];split
 ·rename_i hx;exact h x hx
 ·rename_i hx;exact(List.getElem?_eq_none_iff.2 (by omega)).symm
theorem d4M{σ M:List MO}(hσ:Low σ)(hT:M.take σ.length=σ)(is:List Int)(bs:List Bool)(vs:List PV)(z:Bool):a0g {i:=is,b:=bs,v:=vs,m:=M,k:=σ.length} false (.bool z)=some (.bool z,σ):=by
 unfold a0g;dsimp only;split
 ·rename_i h
  rcases h with h|h
  ·cases h
  ·rw[QC (by omega)] at hT;rw[hT]
 ·have hl:List.all σ (MO.low σ.length)=true:=hσ
  rw[hT,if_pos hl];rfl
def ag0(M:List MO)(K h:Nat)(s:St)(o:Po)(i:Int)(VC VB VH VO:PV)(p:W6)(ov:Bool):PEnv:={i:=[i,o.st,o.pc,o.un,o.ru,p.a,p.b,p.c,p.d,p.e,p.f],b:=[ov],v:=[.ref h 0,s.P,s.B,s.C,s.A,VC,VB,VH,VO],m:=M,k:=K}
def ag1(M:List MO)(K h:Nat)(s:St)(o:Po)(i j:Int)(L L' VC VB VH VO:PV)(p:W6)(ov:Bool):PEnv:={i:=[i,j,o.st,o.pc,o.un,o.ru,p.a,p.b,p.c,p.d,p.e,p.f],b:=[ov],v:=[.ref h 0,L,L',s.P,s.B,s.C,s.A,VC,VB,VH,VO],m:=M,k:=K}
section
variable {s:St}{o:Po}{h:Nat}{VC VB VH VO:PV}{rows:List (List PV)}{c:Ck}(k:RcAt VC VB VH VO rows c)(M:List MO)(K n:Nat)
theorem d2m(L L':PV)(l:List Ch)(hL:L.rowsOf 12=some (l.map Ch.row))(hL':L'.rowsOf 12=some (l.map Ch.row))(hl:l.length<=1000)(i:Int)(hi:-1<=i/\i<=1000):∀d j,j+d=l.length->∀fuel,
  a0P.loop (a0a Tab n) (fuel+d+1) 1 (ag1 M K h s o i (j:Int) L L' VC VB VH VO c.p c.over)=a0P.loop (a0a Tab n) fuel 0 (ag0 M K h s o (i+1) VC VB VH VO c.p c.over):=by
 obtain⟨q1,q2,q3⟩:=a0d hL;obtain⟨u1,u2,u3⟩:=a0d hL';rw[Qh] at q1 u1;intro d
 induction d with
 | zero =>
  intro j hj fuel;obtain rfl:j=l.length:=by omega
  have nl:ltB (l.length:Int) (l.length:Int)=false:=(a0p ..).2 (by omega);have hup:=c2J (z:=i+1) (by omega);rw[Sys.loop,show a0P.loops[1]?=some a2w from rfl];simp only[Q0,ag1,ag0,a2w,↓reduceIte,a0e,a0f,a0m,BE.safe,BE.pe,IE.pe,PEnv.at,Q4,Q6,Q7,Qa,Q2,Q1,Q0,SV.pvs,SV.pv,BE.all,Qd,Qb,Qg,q1,q2,nl,if_pos hup]
 | succ d ih =>
  intro j hj fuel;obtain⟨x,hx⟩:=a0S (show j<l.length by omega);have r1:=a0z (off:=0) hL (show (l.map Ch.row)[j]?=some x.row by rw[Qw,hx];rfl);have r2:=a0z (off:=0) hL' (show (l.map Ch.row)[j]?=some x.row by rw[Qw,hx];rfl);have lt:ltB (j:Int) (l.length:Int)=true:=a0W.2 (by omega);have hup:=a2e (show j<=1000000000 by omega);have e0:∀a:Int,eqB a a=true:=fun a=>dT0 rfl
  have ih:=ih (j+1) (by omega) fuel;rw[b6H] at r1 r2;rw[<- ih,a1f,show fuel+(d+1)+1=(fuel+d+1)+1 by omega,Sys.loop,show a0P.loops[1]?=some a2w from rfl];simp only[Q0,ag1,a2w,↓reduceIte,a0j,a0e,a0f,a0V,a0m,BE.safe,BE.pe,IE.pe,PEnv.at,Q4,Q6,Q7,Qa,a0y,a0b,a1d,Qt,Qe,Qf,Nat.reduceAdd,Qm,Q2,QD,Qu,a0c,Q1,Q0,PEnv.push,Q8,Q3,Q9,SV.pvs,SV.pv,BE.all,Qd,Qn,Qb,Qg,q1,q2,u1,lt,le0,r1,r2,e0,if_pos hup]
end
section
variable {s:St}{cs ad:List Tri}(hs:SuOk s cs ad){o:Po}{σ:List MO}{h:Nat}{F:Nat->Prop}{c:Ck}(kk:b0p s o σ h F c)(hσ:Low σ){VC VB VH VO:PV}{rows:List (List PV)}(k:RcAt VC VB VH VO rows c){N:Nat}(hk:CkOk N c)(hN:N<=100)(n:Nat)
include hs kk hσ k hk hN
theorem d2K(M:List MO)(hM:b0p s o M h F c)(hold:M.take σ.length=σ)(hn:120<=n):∀(d:Nat) (i:Int),i+d=(N:Int)+1->-1<=i->∀fuel,d*34+1<=fuel ->
  a0P.loop (a0a Tab n) fuel 0 (ag0 M σ.length h s o i VC VB VH VO c.p c.over)=some (.bool true,σ):=by
 obtain⟨vcl,ha,hb,hd,R,q,hF⟩:=hM;obtain⟨_,_,p3⟩:=a0d hs.P;obtain⟨_,_,b3⟩:=a0d hs.B;obtain⟨_,_,c3⟩:=a0d hs.C;obtain⟨_,_,a3⟩:=a0d hs.A;have vc3:=(a0d k.cl).2.2;have vb3:=(a0d k.ask).2.2;have vh3:=(a0d k.bid).2.2;obtain⟨o1,o2,vo3⟩:=a0d k.out;rw[Qh,hk.out] at o1;have hcl:=hk.cl;intro d
 induction d with
 | zero =>
  intro i hi h1 fuel hf;obtain⟨fuel,rfl⟩:∃k,fuel=k+1:=⟨fuel-1,by omega⟩;have nl:leB i (N:Int)=false:=(a9U ..).2 (by omega);have R:=d4M hσ hold;rw[Sys.loop,show a0P.loops[0]?=some a2x from rfl];simp only[Q0,ag0,a2x,↓reduceIte,a0j,a0e,a0f,BE.safe,BE.pe,IE.pe,PEnv.at,Q4,Q6,Q2,Q1,Q0,SV.pv,o1,o2,nl,R]
 | succ d ih =>
  intro i hi h1 fuel hf;have hia:∀r∈c.cl,r.ask.length=c.out.length:=fun r hr=>by rw[(hk.rn r hr).2.1,hk.out]
  obtain⟨L,e1,e2⟩:=c6H q n (by omega) hia i (by omega);obtain⟨L',f1,f2⟩:=c6c hs (o:=o) (σ:=M) k n c.p c.over (by omega) hia i (by omega);generalize hl:(if c.has i=true then c.chs i.toNat else [])=l at e2 f2
  have hll:l.length<=30:=by
   rw[<- hl];split
   ·rw[d1N];omega
   ·simp
  obtain⟨fuel,rfl⟩:∃k,fuel=k+l.length+1+1:=⟨fuel-l.length-2,by omega⟩;have s1:=d2m (s:=s) (o:=o) (h:=h) (VC:=VC) (VB:=VB) (VH:=VH) (VO:=VO) (c:=c) M σ.length n L L' l e2 f2 (by omega) i (by omega) l.length 0 (by omega) fuel;have s2:=ih (i+1) (by omega) (by omega) fuel (by omega);rw[s2] at s1;have lt:leB i (N:Int)=true:=a2L.2 (by omega);obtain⟨q1,q2,q3⟩:=a0d e2;obtain⟨u1,u2,u3⟩:=a0d f2;rw[Qh] at q1 u1;have e0:∀a:Int,eqB a a=true:=fun a=>dT0 rfl
  have s1:a0P.loop (a0a Tab n) (fuel+l.length+1) 1 (ag1 M σ.length h s o i 0 L L' VC VB VH VO c.p c.over)=some (.bool true,σ):=s1;simp only[a4X,a2V,ckL] at e1 f1;rw[<- s1,Sys.loop,show a0P.loops[0]?=some a2x from rfl];simp only[Q0,ag0,ag1,a2x,↓reduceIte,a0j,a0e,a0f,a0K,a0m,BE.safe,BE.pe,IE.pe,PEnv.at,Q4,Q6,Q7,Qa,Q2,a0c,a0r,a0l,Q1,Q0,PEnv.push,Q8,Q3,Q9,SV.pvs,SV.pv,BE.all,Qn,Qb,Qg,o1,o2,lt,e1,f1,q1,q2,q3,u1,u2,u3,e0,]
theorem c9b(hn:4000<=n):a0a Tab n a4V [.ref h 0,.agg (ckL s o VC VB VH VO c.p c.over)] σ=some (.bool true,σ):=by
 obtain⟨n,rfl⟩:∃k,n=k+1:=⟨n-1,by omega⟩;have kk0:=kk;obtain⟨vcl,ha,hb,hd,R,q,hF⟩:=kk;obtain⟨_,_,p3⟩:=a0d hs.P;obtain⟨_,_,b3⟩:=a0d hs.B;obtain⟨_,_,c3⟩:=a0d hs.C;obtain⟨_,_,a3⟩:=a0d hs.A;obtain⟨v1,v2,vc3⟩:=a0d k.cl;rw[k.rs.1] at v1;have vb3:=(a0d k.ask).2.2;have vh3:=(a0d k.bid).2.2;have vo3:=(a0d k.out).2.2;have hcl:=hk.cl;have g1:=c5H q n (by omega);have g2:=c6F q n (by omega);have g3:=c8c q n (by omega);obtain⟨M,O,rw',g4,m1,m2,m3,m4,m5⟩:=c7N q hσ (fun r hr=>by obtain⟨_,h1,h2,h3,_⟩:=hk.rn r hr;omega) (by omega) n (by omega)
 have g5:=c7J (d1Q m4 m5) (k.rs.rr k.cl) (N:=N) (fun r hr=>by obtain⟨_,h1,h2,h3,_⟩:=hk.rn r hr;exact⟨h1,h2,h3⟩) (by omega) (by omega) n (by
  have:c.cl.length*(N+2)<=30*102:=Nat.mul_le_mul hcl (by omega)
  omega)
 have oO:=(a0d m4).2.2;have key:=d2K hs kk0 hσ k hk hN n M (kk0.frame m2 fun x hx=>m1 x (kk0.bd x hx)) (d0D m1) (by omega) (N+2) (-1) (by omega) (by omega) n (by omega);have e0:∀a:Int,eqB a a=true:=fun a=>dT0 rfl
 have ez:(c.over||!c.over)=true:=by cases c.over<;>rfl
 simp only[b0n,b0J,b1z,a9g,b0x,pv6] at g1 g2 g3 g4 g5;rw[a0a];simp only[b4d,Q0,Sys.run,ckL];show ((a0i [.sh (.one _),.sh (.agg [_,_,_,_,_,_,_,_,_,_,_,_,_,_,_,_,_,_,_])] _).bind _)=_;simp only[a0i,a0l,a0c,Q1,Q0,Q9,Q3,Q8,if_true,p3,b3,c3,a3,vc3,vb3,vh3,vo3,b8q];show (PT.ev _ a5e _).bind _=_;simp only[a5e,↓reduceIte,a0j,a0e,a0f,a0K,a0m,BE.safe,BE.pe,IE.pe,PEnv.at,Q4,Q6,Q7,Qa,Q2,a0c,a0r,a0l,Q1,Q0,PEnv.push,Q8,Q3,Q9,SV.pvs,SV.pv,BE.all,Qd,Qn,Qb,Qg,g1,g2,g3,g4,g5,e0,ez,v1,v2,oO];exact key
end
theorem d1d(σ:List MO)(is:List Int)(b:List Bool)(vs:List PV)(z:Bool):a0g {i:=is,b:=b,v:=vs,m:=σ,k:=0} false (.bool z)=some (.bool z,[]):=by
 unfold a0g;dsimp only;split
 ·rename_i h
  have h:σ=[]:=by
   rcases h with h|h
   ·cases h
   ·exact List.length_eq_zero_iff.1 h
  rw[h]
 ·rw[Qu];rfl
theorem c9y(σ:List MO)(n:Nat)(hn:1<=n){P B C A E:PV}{p b c a e:Nat}(hp:P.isKind 0=true/\P.len=(p:Int)/\P.one=true)(hb:B.isKind 0=true/\B.len=(b:Int)/\B.one=true)(hc:C.isKind 0=true/\C.len=(c:Int)/\C.one=true)(ha:A.isKind 0=true/\A.len=(a:Int)/\A.one=true)(he:E.isKind 0=true/\E.len=(e:Int)/\E.one=true) :
  ∃z,a0a Tab n a9V [.agg [P,B,C,A],E] σ=some (.bool z,σ)/\(z=false->p<=10/\b<=10/\c<=20/\a<=10/\e<=200):=by
 obtain⟨n,rfl⟩:∃k,n=k+1:=⟨n-1,by omega⟩;refine⟨ltB 10 (p:Int)||(ltB 10 (b:Int)||(ltB 20 (c:Int)||(ltB 10 (a:Int)||ltB 200 (e:Int)))),?_,fun h=>?_⟩
 ·rw[a0a]
  simp only[b3C,Q0,Sys.run];show ((a0i [.sh (.agg [_,_,_,_]),.sh (.one _)] _).bind _)=_;simp only[a0i,a0l,a0c,Q1,Q0,Q9,Q3,Q8,if_true,hp.2.2,hb.2.2,hc.2.2,ha.2.2,he.2.2];show (PT.ev _ a1H _).bind _=_;have dich:∀x:Bool,x=true\/x=false:=fun x=>by cases x<;>simp
  rcases dich (ltB 10 (p:Int)) with e1|e1
  ·simp only[a1H,↓reduceIte,a0j,a0e,a0f,BE.safe,BE.pe,IE.pe,PEnv.at,Q4,Q2,Q1,Q0,SV.pv,hp.1,hp.2.1,e1,a0g,or_true,X3]
  rcases dich (ltB 10 (b:Int)) with e2|e2
  ·simp only[a1H,↓reduceIte,a0j,a0e,a0f,BE.safe,BE.pe,IE.pe,PEnv.at,Q4,Q6,Q2,Q1,Q0,SV.pv,hp.1,hp.2.1,hb.1,hb.2.1,e1,e2,a0g,or_true,X3,X4]
  rcases dich (ltB 20 (c:Int)) with e3|e3
  ·simp only[a1H,↓reduceIte,a0j,a0e,a0f,BE.safe,BE.pe,IE.pe,PEnv.at,Q4,Q6,Q2,Q1,Q0,SV.pv,hp.1,hp.2.1,hb.1,hb.2.1,hc.1,hc.2.1,e1,e2,e3,a0g,or_true,X3,X4]
  rcases dich (ltB 10 (a:Int)) with e4|e4
  ·simp only[a1H,↓reduceIte,a0j,a0e,a0f,BE.safe,BE.pe,IE.pe,PEnv.at,Q4,Q6,Q2,Q1,Q0,SV.pv,hp.1,hp.2.1,hb.1,hb.2.1,hc.1,hc.2.1,ha.1,ha.2.1,e1,e2,e3,e4,a0g,or_true,X3,X4]
  simp only[a1H,↓reduceIte,a0j,a0e,a0f,BE.safe,BE.pe,IE.pe,PEnv.at,Q4,Q6,Q2,Q1,Q0,SV.pv,hp.1,hp.2.1,hb.1,hb.2.1,hc.1,hc.2.1,ha.1,ha.2.1,he.1,he.2.1,e1,e2,e3,e4,a0g,or_true,X4]
 ·simp only[Bool.or_eq_false_iff,a0p] at h
  omega
section
variable {s:St}{cs ad:List Tri}(hs:SuOk s cs ad)(hv:a4Q s.ps s.bs cs ad=0){o:Po}(ho:o.ok)(n:Nat){E:PV}{l:List Stp}(hE:E.rowsOf 9=some (l.map Stp.row)){h:Nat}
section
variable {M:List MO}{O:PV}{cl:List Rn}{R:Nat->Prop}(hO:CSl M R O cl)(hok:∀r∈cl,r.ask.length<=8/\∀(j:Nat) w,r.ask[j]?=some w->d5E s.ps s.bs cs ad (j:Int) w=0)(hcl:cl.length<=30)
include hs hv hO hok hcl
end
end
open Go.ChangeShapes Go.WideShapes Go.ChangeAt Go.RowKit Go.Sx
theorem c9i{n:Nat}{r:List PV}(h:a1h Tryz.prog n 29 r):∃x:Po,r=x.row:=by
 obtain⟨m,hm,hr⟩:=a4m Tryz.underlying29 h;simp only[Qb,Qg,a4o] at hr;obtain⟨_,_,rfl,h1,_,_,rfl,h2,_,_,rfl,h3,_,_,rfl,h4,rfl⟩:=hr;obtain⟨a,rfl,_⟩:=a1u (k:=.i64) (by kernel_rfl) h1;obtain⟨b,rfl,_⟩:=a1u (k:=.i64) (by kernel_rfl) h2;obtain⟨c,rfl,_⟩:=a1u (k:=.i64) (by kernel_rfl) h3;obtain⟨d,rfl,_⟩:=a1u (k:=.i64) (by kernel_rfl) h4;exact⟨⟨a,b,c,d⟩,rfl⟩
theorem knl{K:Nat}{P:PV}{rows:List (List PV)}{N:Nat}(h:P.rowsOf K=some rows)(hN:rows.length=N):P.isKind 0=true/\P.len=(N:Int)/\P.one=true:=by
 obtain⟨p1,p2,p3⟩:=a0d h;exact⟨p2,by rw[p1,hN],p3⟩
theorem d0Z(n:Nat)(hn:40000<=n)(ps:List Pr)(bs:List Bd)(cs ad:List Tri)(o:Po)(aw:∀σ,a0a b1f n a0T [] σ=some (.bool true,σ)) :
  a0a b1f (n+1) a3M [.agg [.sl 5 (ps.map Pr.row),.sl 4 (bs.map Bd.row),.sl 3 (cs.map Tri.row),.sl 3 (ad.map Tri.row)],.agg o.row] []=some (.bool true,[]):=by
 obtain⟨s,hse⟩:∃s:St,s=⟨ps,bs,.sl 5 (ps.map Pr.row),.sl 4 (bs.map Bd.row),.sl 3 (cs.map Tri.row),.sl 3 (ad.map Tri.row)⟩:=⟨_,rfl⟩;have hs:SuOk s cs ad:=by subst hse;exact⟨a1K _ _,a1K _ _,a1K _ _,a1K _ _⟩
 have hpv:[PV.sl 5 (ps.map Pr.row),.sl 4 (bs.map Bd.row),.sl 3 (cs.map Tri.row),.sl 3 (ad.map Tri.row)]=[s.P,s.B,s.C,s.A]:=by subst hse;rfl
 have hps:ps=s.ps:=by subst hse;rfl
 have hbs:bs=s.bs:=by subst hse;rfl
 rw[hpv];subst hps hbs;clear hse hpv;obtain⟨_,_,p3⟩:=a0d hs.P;obtain⟨_,_,b3⟩:=a0d hs.B;obtain⟨_,_,c3⟩:=a0d hs.C;obtain⟨_,_,a3⟩:=a0d hs.A;have aw0:=aw;obtain⟨z,g1,g2⟩:=c9y [] n (by omega) (knl hs.P (Qh _)) (knl hs.B (Qh _)) (knl hs.C (Qh _)) (knl hs.A (Qh _)) (show PV.isKind 0 .nilS=true/\PV.len .nilS=((0:Nat):Int)/\PV.one .nilS=true from ⟨rfl,rfl,rfl⟩);have g1:=evW g1;have e5:∀a b:Int,eqB a b=decide (a=b):=fun _ _=>rfl
 simp only[a0T,a9V] at aw0 g1;rw[a0a,show b1f a3M=some a1U from c7l _ _ b1s];simp only[Q0,Sys.run,a4R];show ((a0i [.sh (.agg [_,_,_,_]),.sh (.agg [_,_,_,_])] _).bind _)=_;simp only[a0i,a0l,a0c,Q1,Q0,Q9,Q3,if_true,p3,b3,c3,a3];show (PT.ev _ a1T _).bind _=_;cases z with
 | true=>simp only[a1T,↓reduceIte,a0j,a0e,a0f,a0K,BE.safe,BE.pe,IE.pe,PEnv.at,Q4,Q6,Q7,Qa,Qf,a0c,a0r,a0l,Q1,Q0,PEnv.push,Q8,Q3,SV.pvs,SV.pv,Qd,g1,aw0,d1d]
 | false =>
  obtain⟨_,_,_,_,_⟩:=g2 rfl;by_cases he:a9M s.ps s.bs cs ad o=0
  case neg =>
   have n1:=evW (d2C hs o [] n he (by omega));obtain⟨l,n2,hl⟩:=c8U hs o [] n he (by omega);have n2:=evW n2;rw[hl] at n2;simp only[a9i,a4f,St.pv,a4R] at n1 n2;have kp:PV.isKind 4 .nilP=true:=rfl;have np:PV.isNil .nilP=true:=rfl;have op:PV.one .nilP=true:=rfl;have ok:PV.nilOk .nilP=true:=rfl;have on:PV.one .nilS=true:=rfl;have e0:∀a:Int,eqB a a=true:=fun a=>dT0 rfl
   have ef:eqB (a9M s.ps s.bs cs ad o) 0=false:=dF0 he;simp only[a1T,↓reduceIte,a0j,a0e,a0f,a0K,BE.safe,BE.pe,IE.pe,PEnv.at,Q4,Q6,Q7,Qa,Qf,Q2,a0c,a0r,a0l,Q1,Q0,PEnv.push,Q8,Q3,Q9,SV.pvs,SV.pv,Qd,Qn,QB,g1,aw0,n1,n2,a2c,kp,np,op,ok,on,e0,ef,X2,Bool.or_true,d1d]
  case pos =>
   have hv:a4Q s.ps s.bs cs ad=0:=by
    unfold a9M at he;split at he
    ·assumption
    ·exact he
   obtain⟨v1,v2,v3,v4⟩:=c4w hv;obtain⟨hl6,hr6⟩:=c4A v1;obtain⟨M,F,n1,K,nF,nk,nl,nlow⟩:=d2s hs o [] rfl n he (by omega);have n1:=evW n1;obtain⟨l,n2,hl⟩:=c9r hs o M nlow n he (by omega);have n2:=evW n2;obtain⟨VC,VB,VH,VO,rows,rfl,k⟩:=hl;have hck:=d2N hr6 s.bs.length;have n3:=evW (c9b hs K nlow k hck (by have:=(SuOk.lens hv).2.2.1;omega) n (by omega));have vc3:=(a0d k.cl).2.2;have vb3:=(a0d k.ask).2.2;have vh3:=(a0d k.bid).2.2;have vo3:=(a0d k.out).2.2;have e0:∀a:Int,eqB a a=true:=fun a=>dT0 rfl
   have n1:a0a b1f n a9i [.agg [s.P,s.B,s.C,s.A],.agg [.int .i64 o.st,.int .i64 o.pc,.int .i64 o.un,.int .i64 o.ru]] []=some (.tup [.ref 1 0,.int .i64 0],M):=n1;have n3:a0a b1f n a4V [.ref 1 0,_] M=some (.bool true,M):=n3;simp only[a9i,a4f,a4V,St.pv,a4R,ckL] at n1 n2 n3;simp only[a1T,↓reduceIte,a0j,a0e,a0f,a0K,BE.safe,BE.pe,IE.pe,PEnv.at,Q4,Q6,Q7,Qa,Qf,Q2,a0c,a0r,a0l,Q1,Q0,PEnv.push,Q8,Q3,Q9,SV.pvs,SV.pv,Qd,Qn,QB,p3,b3,c3,a3,g1,aw0,n1,n2,n3,a2c,b8q,c1P,c2j,c2a,e0,vc3,vb3,vh3,vo3,Bool.or_false,d1d]
theorem c9N(n0:Nat)(ps:List PV)(hs:a1h Tryz.prog n0 27 ps)(n1:Nat)(po:List PV)(hp:a1h Tryz.prog n1 29 po) :
  a0a b1f 40001 a3M [.agg ps,.agg po] []=some (.bool true,[]):=by
 obtain⟨l1,l2,l3,l4,rfl⟩:=c9O hs;obtain⟨o,rfl⟩:=c9i hp;exact d0Z 40000 (by omega) l1 l2 l3 l4 o (awW 39999)
theorem c4U:ownKnob Tryz.prog.godebug=none:=by kernel_rfl
theorem b6F:laidOutB Tryz.prog=true:=by kernel_rfl
theorem b4z:Go.Sx.closed Tryz.prog [27,29,22,23,24,25,2,3,93,102,89,91,9]=true:=by kernel_rfl
set_option maxRecDepth 100000 in
theorem c1n(os:Os)(started:os.Started)(H:Type)(enc:TypeId×Value->H) :
  ReturnsInHanded {} Tryz.checked os 3 .any (Rows.clockNewsSpec.pre6 enc Tryz.prog Tryz.f3 Rows.clockNewsRow.domain false) (Rows.clockNewsSpec.post enc Tryz.prog Tryz.f3 false true false false):=by
 refine returnsInHanded_of_change (C:=Tryz.checked) c4U started (by kernel_rfl) Tryz.func3
  (ChangeSpec.witness6 (enc:=enc) (C:=Tryz.checked) false ⟨#[],#[.agg #[.slice none 0 0,.slice none 0 0,.slice none 0 0,.slice none 0 0],.agg #[.int .i64 0,.int .i64 0,.int .i64 0,.int .i64 0]],[]⟩ 8 (by kernel_rfl) (by kernel_rfl) (by kernel_rfl) (by kernel_rfl)) ?_
 intro W base args ds gs before hval0 hW hcnd _;have hval:∀(j:Nat) t v,Tryz.f3.params[j]?=some t->args[j]?=some v->Value.okWide Tryz.prog W .any base t v:=hval0;have hW':=hW;obtain⟨p,q,hA0,hV,rfl,hfz,hnd⟩:=hW;have hA:DataW.TrodAll enc Tryz.prog W 0 (fun _=>true) true Tryz.f3.params.toList args.toList ds p:=hA0;rw[Tryz.params3] at hA hval;obtain⟨v0,vs0,d0,ds0,p0,q0,hargs,rfl,rfl,h0,r0⟩:=trodAll_cons hA;obtain⟨v1,vs1,d1,ds1,p1,q1,rfl,rfl,rfl,h1,r1⟩:=trodAll_cons r0;obtain⟨rfl,rfl,rfl⟩:=trodAll_nil r1;obtain rfl:args=#[v0,v1]:=by cases args;simp_all
 obtain⟨rfl,rfl⟩:=trodVars_none hV;have k0:=h0;have lt0:∀x∈p0,x.block<W.heap.size:=by obtain⟨m,hm⟩:=k0;exact DataW.trod_lt m _ _ _ hm
 obtain⟨n0,a0,e0,s0,w0⟩:=c2U b4z (t:=27) (by decide) Tryz.underlying27 (hval 0 27 v0 rfl rfl) h0;have k1:=h1;have lt1:∀x∈p1,x.block<W.heap.size:=by obtain⟨m,hm⟩:=k1;exact DataW.trod_lt m _ _ _ hm
 obtain⟨n1,a1,e1,s1,w1⟩:=c2U b4z (t:=29) (by decide) Tryz.underlying29 (hval 1 29 v1 rfl rfl) h1;clear hA0 hval0;have hr:Go.Sx.Reps (Go.Sx.hpOf W) [] [.agg a0,.agg a1] [v0,v1]:=⟨v0,_,rfl,e0,⟨v1,_,rfl,e1,rfl⟩⟩;refine(Go.Sx.lift_true (Go.Sx.evalF_good d1H 40001 3) (c9N n0 a0 s0 n1 a1 s1) hr).mono fun e W' hh=>?_
 obtain⟨rfl,bel⟩:=hh;exact⟨_,rfl,_,_,_,[],_,[],hW',trodAll_mk1 (shut_bool Tryz.underlying4 _),(trodAll_cons_mk (Below.trod b6F (by kernel_rfl) (of_decide_eq_true (by kernel_rfl)) k0 bel lt0) (trodAll_cons_mk (Below.trod b6F (by kernel_rfl) (of_decide_eq_true (by kernel_rfl)) k1 bel lt1) trodAll_mk0)),rfl,bel.frame _,fun h=>by cases h⟩
theorem clockNews_proved:Rows.ClockNewsSaid :=
 OpenClaim.holds_of_wide 3 Tryz.f3 rfl rfl rfl rfl rfl rfl rfl ⟨rfl,rfl,rfl,rfl,rfl⟩ rfl rfl rfl rfl rfl (by kernel_rfl) Tryz.func3 (by kernel_rfl)
  (of_decide_eq_true (by kernel_rfl)) (by unfold Func.isWrapper;first|(rw[if_pos (by decide +kernel)];kernel_rfl)|(rw[if_neg (by decide +kernel)];exact⟨rfl,rfl⟩))
  (fun os started H enc _=>c1n os started H enc)
end Go.Proofs.YtmekflfjaflmkaaGreat
