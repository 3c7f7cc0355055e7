/- ClockConsistent: the law. -/
import Derived.Test.YtmekflfjaflmkaaHCvA
import Derived.Test.YtmekflfjaflmkaaHCvB
import Derived.Test.YtmekflfjaflmkaaHCo
set_option linter.unusedSimpArgs false
set_option linter.unusedVariables false
set_option linter.unusedSectionVars false
open Option renaming bind_some → Q0, map_some → Q2
open List renaming length_map → Q1, getD_cons_zero → Q3, cons_append → Q4, nil_append → Q5, getD_cons_succ → Q6, getElem?_cons_zero → Q7, getElem?_cons_succ → Q8, map_cons → Qa, map_nil → Qb, length_nil → Qd, append_nil → Qe
open Bool renaming false_eq_true → Q9
set_option maxRecDepth 100000
namespace Go.Proofs.Ytmekflfjaflmkaa
open Go.ChangeShapes Go.WideShapes Go.ChangeAt Go.RowKit Go.Sx
def e0h(s:St)(M:List MO)(i:Int)(E:PV)(h:Nat):PEnv:={i:=[i],b:=[],v:=[E,.ref h 0,s.P,s.B,s.C,s.A],m:=M,k:=0}
def e0x(s:St)(M:List MO)(i:Int)(h:Nat):PEnv:={i:=[i],b:=[],v:=[.ref h 0,s.P,s.B,s.C,s.A],m:=M,k:=0}
theorem e1c{σ:List MO}(hσ:b1a σ){l:List Ch}{P:PV}(hP:P.rowsOf 12=some (l.map Ch.row))(hl:l.length<=30)(hok:∀x∈l,x.ok)(hp:Pot l)(n:Nat)(hn:30000<=n) :
  ∃C V,C.one=true/\V.one=true/\a0b Tab n b0p [P] σ=some (.tup [.agg [C,V],.bool true],σ)/\a0b Tab n d9r [P,.agg [C,V]] σ=some (.int .i64 0,σ):=by
 obtain⟨p,hr,e⟩:=c9A σ hσ l P hP hl n hn;rcases hr with ⟨h1,_⟩|⟨_,vs,hvs,hst,hb,rfl⟩|⟨_,vs,fs,c,t,z,j,k,hf,hjk,hk,he,_⟩
 ·exact absurd hok h1
 ·refine⟨_,_,rfl,rfl,e,?_⟩
  have g:=e0p σ l P hP [] (vs.map (·+a7B l vs)) .nilS (.sl 1 (a2o (vs.map (·+a7B l vs)))) rfl (a1C _ _) hl n (by simp;omega) (by simp) (by simp;omega);rw[e0m hok hvs hst hb] at g;exact g
 ·have g:=e0j hok hl hf hjk hk he
  refine absurd hp (e0N ?_ g);rw[List.length_reverse,a8s];omega
section
variable {s:St}{cs ad:List Tri}(hs:SuOk s cs ad)(hv:a7m s.ps s.bs cs ad=0){o:Po}(ho:o.ok)(hru:o.ru=2)(n:Nat)(hn:33000<=n){E:PV}{l:List Stp}(hE:E.rowsOf 9=some (l.map Stp.row)){h:Nat}
include hs hv ho hru hn hE in
theorem e1g(hl:l.length<=1000):∀d j,j+d=l.length->∀(M:List MO) (F:Nat->Prop) (c:Ck),a4x s o M h F c->Low M->CkOk s.bs.length c->PfIn c->∀fuel,
  ∃M' F' c',d8P.loop (a0b a4i n) (fuel+d) 0 (e0h s M (j:Int) E h)=d8P.loop (a0b a4i n) fuel 0 (e0h s M' (l.length:Int) E h)/\a4x s o M' h F' c'/\Low M'/\CkOk s.bs.length c'/\PfIn c':=by
 obtain⟨q1,q2,q3⟩:=a0i hE;rw[Q1] at q1;have p3:=(a0i hs.P).2.2;have b3:=(a0i hs.B).2.2;have c3:=(a0i hs.C).2.2;have a3:=(a0i hs.A).2.2;intro d
 induction d with
 | zero =>
  intro j hj M F c K hM hk hi fuel;exact⟨M,F,c,by rw[show j=l.length by omega];rfl,K,hM,hk,hi⟩
 | succ d ih =>
  intro j hj M F c K hM hk hi fuel;obtain⟨q,hq⟩:=a0U (show j<l.length by omega);obtain⟨σ',F',e1,e2,e3⟩:=e1d hs hv ho K hM hk n q hn;have e1:=evW e1;obtain⟨M',F'',c',f1,f2⟩:=ih (j+1) (by omega) σ' F' _ e2 e3.low (e0w hk q) (e0Y ho hru hk hi q) fuel;refine⟨M',F'',c',?_,f2⟩;have r:=a1d (off:=0) hE (show (l.map Stp.row)[j]?=some q.row by rw[List.getElem?_map,hq];rfl);have lt:ltB (j:Int) (l.length:Int)=true:=a0Q.2 (by omega);have le:leB 0 (j:Int)=true:=a2H.2 (by omega);have up1:leB (-9223372036854775808) ((j:Int)+1)=true:=a2H.2 (by omega);have up2:leB ((j:Int)+1) 9223372036854775807=true:=a2H.2 (by omega);simp only[d9p,d2G] at e1 r;rw[<- f1,<- Nat.add_assoc];refine a5X (t:=d8R) rfl ?_;simp only[e0h,d8R,↓reduceIte,a0d,a0h,a0u,a0n,a0k,BE.safe,BE.pe,IE.pe,PEnv.at,Q3,Q6,Q7,Q8,a0p,a0a,a0P,List.drop_zero,List.length_cons,Qd,Nat.reduceAdd,Nat.le_refl,Q9,List.take_succ_cons,List.take_zero,a0c,a0l,a0g,Q2,Q0,PEnv.push,Q4,Q5,Qe,SV.pvs,SV.pv,BE.all,Bool.and_self,Qa,Qb,q1,q2,lt,le,r,e1,a1h,up1,up2,a1q,]
include hs hn in
theorem e1f(aw:∀σ,a0b a4i n a0G [] σ=some (.bool true,σ))(h8:s.bs.length<=1000){M:List MO}{F:Nat->Prop}{c:Ck}(K:a4x s o M h F c)(hM:Low M)(hk:CkOk s.bs.length c)(hp:PfIn c):∀d i,i+d=s.bs.length->∀fuel,
  d8P.loop (a0b a4i n) (fuel+d+1) 1 (e0x s M (i:Int) h)=some (.bool true,[]):=by
 obtain⟨b1,b2,b3⟩:=a0i hs.B;rw[Q1] at b1;have p3:=(a0i hs.P).2.2;have c3:=(a0i hs.C).2.2;have a3:=(a0i hs.A).2.2;obtain⟨_,_,_,_,_,q,_⟩:=id K;intro d
 induction d with
 | zero =>
  intro i hi fuel;have nl:ltB (i:Int) (s.bs.length:Int)=false:=(a0F ..).2 (by omega);have aw0:=aw M;simp only[a0G] at aw0;refine c5K (t:=d8Q) rfl ?_;simp only[e0x,d8Q,↓reduceIte,a0j,a0d,a0h,a0n,BE.safe,BE.pe,IE.pe,PEnv.at,Q3,Q6,Q9,a0c,a0l,a0g,Q2,Q0,PEnv.push,Q4,Q5,SV.pvs,SV.pv,b1,b2,nl,aw0,c6j]
 | succ d ih =>
  intro i hi fuel
  have hh:c.has (i:Int)=true:=by
   simp only[Ck.has,Bool.and_eq_true,a2H,a0Q,hk.out];omega
  obtain⟨L,e1,e2⟩:=c7e q n (by have:=hk.cl;omega) (fun r hr=>by obtain⟨_,h1,_⟩:=hk.rn r hr;rw[h1,hk.out]) (i:Int) (by omega);rw[if_pos hh,Int.toNat_natCast] at e2;obtain⟨C,V,oC,oV,g1,g2⟩:=e1c (n:=n) hM.flat e2 (e0T hk i) (e0A hk i) (e0i (hp.pot i)) (by omega);have oL:=(a0i e2).2.2;have e1:=evW e1;have g1:=evW g1;have g2:=evW g2;have lt:ltB (i:Int) (s.bs.length:Int)=true:=a0Q.2 (by omega);have hup:=a3I (show i<=1000000000 by omega);have e0:eqB 0 0=true:=rfl;have f1:=ih (i+1) (by omega) fuel;rw[a1q] at f1;simp only[a6K,b0p,d9r] at e1 g1 g2;rw[show fuel+(d+1)+1=(fuel+d+1)+1 by omega];refine(a5X (t:=d8Q) rfl ?_).trans f1;simp only[e0x,d8Q,↓reduceIte,a0j,a0d,a0h,a0n,a0k,BE.safe,BE.pe,IE.pe,PEnv.at,Q3,Q6,Q7,Q8,Q9,a0c,a0l,a0g,Q2,Q0,PEnv.push,Q4,Q5,Qe,SV.pvs,SV.pv,BE.all,Bool.and_self,Bool.not_true,Qa,Qb,b1,b2,lt,e1,g1,g2,a1h,oL,oC,oV,e0,if_pos hup,]
end
theorem e0V(n:Nat)(hn:40000<=n)(ps:List Pr)(bs:List Bd)(cs ad:List Tri)(o:Po)(l:List Stp)(aw:∀σ,a0b a4i n a0G [] σ=some (.bool true,σ)) :
  a0b a4i (n+1) d8X [.agg [.sl 5 (ps.map Pr.row),.sl 4 (bs.map Bd.row),.sl 3 (cs.map Tri.row),.sl 3 (ad.map Tri.row)],.agg o.row,.sl 9 (l.map Stp.row)] []=some (.bool true,[]):=by
 obtain⟨s,hse⟩:∃s:St,s=⟨ps,bs,.sl 5 (ps.map Pr.row),.sl 4 (bs.map Bd.row),.sl 3 (cs.map Tri.row),.sl 3 (ad.map Tri.row)⟩:=⟨_,rfl⟩;have hs:SuOk s cs ad:=by subst hse;exact⟨a1C _ _,a1C _ _,a1C _ _,a1C _ _⟩
 generalize hEe:PV.sl 9 (l.map Stp.row)=E;have hE:E.rowsOf 9=some (l.map Stp.row):=by rw[<- hEe];exact a1C _ _
 have hpv:[PV.sl 5 (ps.map Pr.row),.sl 4 (bs.map Bd.row),.sl 3 (cs.map Tri.row),.sl 3 (ad.map Tri.row)]=[s.P,s.B,s.C,s.A]:=by subst hse;rfl
 have hps:ps=s.ps:=by subst hse;rfl
 have hbs:bs=s.bs:=by subst hse;rfl
 rw[hpv];subst hps hbs;clear hse hpv hEe;obtain⟨_,_,p3⟩:=a0i hs.P;obtain⟨_,_,b3⟩:=a0i hs.B;obtain⟨_,_,c3⟩:=a0i hs.C;obtain⟨_,_,a3⟩:=a0i hs.A;obtain⟨q1,q2,q3⟩:=a0i hE;rw[Q1] at q1;have aw0:=aw;obtain⟨z,g1,g2⟩:=d0i [] n (by omega) (knl hs.P (Q1 _)) (knl hs.B (Q1 _)) (knl hs.C (Q1 _)) (knl hs.A (Q1 _)) (knl hE (Q1 _));have g1:=evW g1;simp only[a0G,b0E] at aw0 g1;rw[a0b,show a4i d8X=some d8P from c7n _ _ d9w];simp only[Q0,Sys.run,a6I];show ((a0f [.sh (.agg [_,_,_,_]),.sh (.agg [_,_,_,_]),.sh (.one _)] _).bind _)=_;simp only[a0f,a0g,a0c,Q2,Q0,Qe,Q5,Q4,if_true,p3,b3,c3,a3,q3];show (PT.ev _ d8S _).bind _=_;cases z with
 | true=>simp only[d8S,↓reduceIte,a0j,a0d,a0n,a0k,BE.safe,BE.pe,IE.pe,Q3,Q6,Q7,Q8,Qd,a0c,a0l,a0g,Q2,Q0,PEnv.push,Q4,Q5,SV.pvs,SV.pv,BE.all,Qa,Qb,g1,aw0,c6j]
 | false =>
  obtain⟨_,hb10,_,_,hl⟩:=g2 rfl;obtain⟨o2,ho2⟩:∃o2:Po,o2=⟨o.st,o.pc,o.un,2⟩:=⟨_,rfl⟩;have hor:o2.row=[.int .i64 o.st,.int .i64 o.pc,.int .i64 o.un,.int .i64 2]:=by rw[ho2];rfl
  have hru:o2.ru=2:=by rw[ho2]
  by_cases he:b5D s.ps s.bs cs ad o2=0
  case neg =>
   have n1:=evW (d3Y hs o2 [] n he (by omega));rw[hor] at n1;simp only[a9V,St.pv] at n1;have op:PV.one .nilP=true:=rfl;have ef:eqB (b5D s.ps s.bs cs ad o2) 0=false:=dF0 he;simp only[d8S,↓reduceIte,a0j,a0d,a0n,a0k,BE.safe,BE.pe,IE.pe,Q3,Q6,Q7,Q8,Qd,Q9,a0c,a0l,a0g,Q2,Q0,PEnv.push,Q4,Q5,Qe,SV.pvs,SV.pv,BE.all,Bool.not_false,Qa,Qb,g1,n1,a1h,op,ef,aw0,c6j]
  case pos =>
   have hv:a7m s.ps s.bs cs ad=0:=by
    unfold b5D at he;split at he
    ·assumption
    ·exact he
   have ho:o2.ok:=by
    unfold b5D at he;rw[if_pos hv] at he;unfold a9z at he;split at he
    ·assumption
    ·cases he
   obtain⟨v1,v2,v3,v4⟩:=b4L hv;obtain⟨hl6,hr6⟩:=b0L v1;obtain⟨M,F,n1,K,nF,nk,nl,nlow⟩:=d3u hs o2 [] rfl n he (by omega);have n1:=evW n1;rw[hor] at n1;have hk0:=d3V hr6 s.bs.length;obtain⟨M',F',c',f1,f2,f3,f4,f5⟩:=e1g hs hv ho hru n (by omega) hE (h:=([]:List MO).length+1) (by omega) l.length 0 (by omega) M F _ K nlow hk0 (e1b hk0) (n-l.length);have r6:=e1f hs n (by omega) aw (by omega) f2 f3 f4 f5 s.bs.length 0 (by omega) (n-l.length-1-s.bs.length-1);rw[show n-l.length-1-s.bs.length-1+s.bs.length+1=n-l.length-1 by omega] at r6;have nlt:ltB (l.length:Int) (l.length:Int)=false:=(a0F ..).2 (by omega)
   have f6:d8P.loop (a0b a4i n) (n-l.length-1+1) 0 (e0h s M' (l.length:Int) E (([]:List MO).length+1))=some (.bool true,[]):=by
    refine(a5X (t:=d8R) rfl ?_).trans r6;simp only[e0h,e0x,d8R,↓reduceIte,a0d,a0h,a0k,BE.safe,BE.pe,IE.pe,PEnv.at,Q3,Q7,Q8,Qd,Nat.reduceAdd,Q9,Q2,Q0,SV.pvs,SV.pv,BE.all,Qa,Qb,q1,q2,nlt,];rfl
   rw[show n-l.length-1+1=n-l.length by omega] at f6;rw[f6,Nat.sub_add_cancel (by omega)] at f1;have n1:a0b a4i n a9V [.agg [s.P,s.B,s.C,s.A],.agg [.int .i64 o.st,.int .i64 o.pc,.int .i64 o.un,.int .i64 2]] []=some (.tup [.ref 1 0,.int .i64 0],M):=n1;have f1:d8P.loop (a0b a4i n) n 0 (e0h s M 0 E 1)=some (.bool true,[]):=f1;have e0:eqB 0 0=true:=rfl;simp only[a9V] at n1;simp only[d8S,↓reduceIte,a0j,a0d,a0n,a0k,BE.safe,BE.pe,IE.pe,Q3,Q6,Q7,Q8,Qd,Q9,a0c,a0l,a0g,Q2,Q0,PEnv.push,Q4,Q5,Qe,SV.pvs,SV.pv,BE.all,Bool.not_true,Qa,Qb,g1,n1,a1h,b1B,e0];exact f1
theorem e0I(n0:Nat)(ps:List PV)(hs:a1i Try.prog n0 27 ps)(n1:Nat)(po:List PV)(hp:a1i Try.prog n1 29 po)(n2:Nat)(rows:List (List PV))(h2:∀r∈rows,a1i Try.prog n2 42 r) :
  a0b a4i 40001 d8X [.agg ps,.agg po,.sl 9 rows] []=some (.bool true,[]):=by
 obtain⟨l1,l2,l3,l4,rfl⟩:=d0w hs;obtain⟨o,rfl⟩:=c9W hp;obtain⟨l,rfl⟩:=a7C (row:=Stp.row) (fun ps h=>c8K h) rows h2;exact e0V 40000 (by omega) l1 l2 l3 l4 o l (awW 39999)
theorem d9Z:ownKnob Try.prog.godebug=none:=by kernel_rfl
theorem d9i:laidOutB Try.prog=true:=by kernel_rfl
theorem d9f:Go.Sx.closed Try.prog [27,29,30,22,23,24,25,2,3,42,83,112,119,122,38,9]=true:=by kernel_rfl
set_option maxRecDepth 100000 in
theorem d9D(os:Os)(started:os.Started)(H:Type)(enc:TypeId×Value->H) :
  ReturnsInHanded {} Try.checked os 5 .any (Rows.clockConsistentSpec.pre6 enc Try.prog Try.f5 Rows.clockConsistentRow.domain false) (Rows.clockConsistentSpec.post enc Try.prog Try.f5 false true false false):=by
 refine returnsInHanded_of_change (C:=Try.checked) d9Z started (by kernel_rfl) Try.func5
  (ChangeSpec.witness6 (enc:=enc) (C:=Try.checked) false ⟨#[],#[.agg #[.slice none 0 0,.slice none 0 0,.slice none 0 0,.slice none 0 0],.agg #[.int .i64 0,.int .i64 0,.int .i64 0,.int .i64 0],.slice none 0 0],[]⟩ 8 (by kernel_rfl) (by kernel_rfl) (by kernel_rfl) (by kernel_rfl)) ?_
 intro W base args ds gs before hval0 hW hcnd _;have hval:∀(j:Nat) t v,Try.f5.params[j]?=some t->args[j]?=some v->Value.okWide Try.prog W .any base t v:=hval0;have hW':=hW;obtain⟨p,q,hA0,hV,rfl,hfz,hnd⟩:=hW;have hA:DataW.TrodAll enc Try.prog W 0 (fun _=>true) true Try.f5.params.toList args.toList ds p:=hA0;rw[Try.params5] at hA hval;obtain⟨v0,vs0,d0,ds0,p0,q0,hargs,rfl,rfl,h0,r0⟩:=trodAll_cons hA;obtain⟨v1,vs1,d1,ds1,p1,q1,rfl,rfl,rfl,h1,r1⟩:=trodAll_cons r0;obtain⟨v2,vs2,d2,ds2,p2,q2,rfl,rfl,rfl,h2,r2⟩:=trodAll_cons r1;obtain⟨rfl,rfl,rfl⟩:=trodAll_nil r2;obtain rfl:args=#[v0,v1,v2]:=by cases args;simp_all
 obtain⟨rfl,rfl⟩:=trodVars_none hV;have k0:=h0;have lt0:∀x∈p0,x.block<W.heap.size:=by obtain⟨m,hm⟩:=k0;exact DataW.trod_lt m _ _ _ hm
 obtain⟨n0,a0,e0,s0,w0⟩:=c2M d9f (t:=27) (by decide) Try.underlying27 (hval 0 27 v0 rfl rfl) h0;have k1:=h1;have lt1:∀x∈p1,x.block<W.heap.size:=by obtain⟨m,hm⟩:=k1;exact DataW.trod_lt m _ _ _ hm
 obtain⟨n1,a1,e1,s1,w1⟩:=c2M d9f (t:=29) (by decide) Try.underlying29 (hval 1 29 v1 rfl rfl) h1;have k2:=h2;have lt2:∀x∈p2,x.block<W.heap.size:=by obtain⟨m,hm⟩:=k2;exact DataW.trod_lt m _ _ _ hm
 obtain⟨n2,a2,e2,s2,w2⟩:=c9X d9f (t:=30) (by decide) Try.underlying30 (hval 2 30 v2 rfl rfl) h2;clear hA0 hval0;rw[show Try.prog.cellsOf 42=9 by kernel_rfl] at e2;have hr:Go.Sx.Reps (Go.Sx.hpOf W) [] [.agg a0,.agg a1,.sl 9 a2] [v0,v1,v2]:=⟨v0,_,rfl,e0,⟨v1,_,rfl,e1,⟨v2,_,rfl,e2,rfl⟩⟩⟩;refine(Go.Sx.lift_true (Go.Sx.evalF_good d2R 40001 5) (e0I n0 a0 s0 n1 a1 s1 n2 a2 s2) hr).mono fun e W' hh=>?_
 obtain⟨rfl,bel⟩:=hh;exact⟨_,rfl,_,_,_,[],_,[],hW',trodAll_mk1 (shut_bool Try.underlying4 _),(trodAll_cons_mk (Below.trod d9i (by kernel_rfl) (of_decide_eq_true (by kernel_rfl)) k0 bel lt0) (trodAll_cons_mk (Below.trod d9i (by kernel_rfl) (of_decide_eq_true (by kernel_rfl)) k1 bel lt1) (trodAll_cons_mk (Below.trod d9i (by kernel_rfl) (of_decide_eq_true (by kernel_rfl)) k2 bel lt2) trodAll_mk0))),rfl,bel.frame _,fun h=>by cases h⟩
theorem clockConsistent_proved:Rows.ClockConsistentSaid :=
 OpenClaim.holds_of_wide 5 Try.f5 rfl rfl rfl rfl rfl rfl rfl ⟨rfl,rfl,rfl,rfl,rfl⟩ rfl rfl rfl rfl rfl (by kernel_rfl) Try.func5 (by kernel_rfl)
  (of_decide_eq_true (by kernel_rfl)) (by unfold Func.isWrapper;first|(rw[if_pos (by decide +kernel)];kernel_rfl)|(rw[if_neg (by decide +kernel)];exact⟨rfl,rfl⟩))
  (fun os started H enc _=>d9D os started H enc)
end Go.Proofs.Ytmekflfjaflmkaa
