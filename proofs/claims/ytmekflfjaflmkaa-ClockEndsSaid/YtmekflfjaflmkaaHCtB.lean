/- ClockEnds: the law. -/
import Derived.Test.YtmekflfjaflmkaaHCtA
set_option linter.unusedSimpArgs false
set_option linter.unusedVariables false
set_option linter.unusedSectionVars false
open Option renaming bind_some → Q0, map_some → Q1
open List renaming cons_append → Q2, nil_append → Q3, getD_cons_zero → Q4, getD_cons_succ → Q5, getElem?_cons_zero → Q6, getElem?_cons_succ → Q7, map_cons → Qa, map_nil → Qb, append_nil → Qe, length_nil → Qf, length_cons → Qg, length_map → Qh, getElem?_map → Qk, length_append → Qm, length_singleton → Qn, drop_zero → Qq, take_succ_cons → Qr, take_zero → Qs, drop_succ_cons → Qt
open Bool renaming and_self → Q8, not_true → Q9, false_eq_true → Qd, not_false → Qp
open Nat renaming le_refl → Qj
set_option maxRecDepth 100000
namespace Go.Proofs.Ytmekflfjaflmkaa
open Go.ChangeShapes Go.WideShapes Go.ChangeAt Go.RowKit Go.Sx
theorem d8E{l:List Bool}(h:l.length=11):∃a b c d e f g i j k m,l=[a,b,c,d,e,f,g,i,j,k,m]:=by
 match l,h with
 | [a,b,c,d,e,f,g,i,j,k,m],_=>exact⟨a,b,c,d,e,f,g,i,j,k,m,rfl⟩
section
variable {s:St}{cs ad:List Tri}(hs:SuOk s cs ad)(hv:a7m s.ps s.bs cs ad=0){o:Po}(ho:o.ok)(n:Nat)(hn:33000<=n){h:Nat}
include hs hv ho hn
theorem d8x{M:List MO}{F:Nat->Prop}{c:Ck}(K:a4x s o M h F c)(hM:Low M)(hk:CkOk s.bs.length c)(hov:c.over=false) :
  ∃M1 M2 F1 R G L,a0b d7x n b1c [.ref h 0] M=some (.agg c.p.pv,M)/\a0b d7x n a4e [.ref h 0] M=some (.tup [.bool (c.close s.ps o).1.over,.int .i64 0],M1)/\a0b d7x n a6W [.ref h 0] M1=some (R,M2)/\R.one=true/\R.isKind 0=true/\R.len=(c.cl.length:Int)+1/\a0b d7x n a5P [.ref h 0] M2=some (.bool (c.close s.ps o).1.over,M2)/\a3E (c.cl.length:Int) 9 7 R=some L/\(∀(is:List Int) (bs:List Bool) (vs:List PV) (k:Nat),a0a {i:=is,b:=bs,v:=vs,m:=M2,k:=k} false 1 L=some [G])/\G.one=true/\a0b d7x n b6L [.agg (a1J s.ps).pv,G] M2=some (.agg (c.ex s.ps o).pv,M2)/\a0b d7x n b1c [.ref h 0] M2=some (.agg (c.close s.ps o).1.p.pv,M2)/\a4x s o M2 h F1 (c.close s.ps o).1/\Low M2/\CkOk s.bs.length (c.close s.ps o).1:=by
 obtain⟨l1,l2,l8,l4,l5⟩:=SuOk.lens hv;have hr:=(b0L (b4L hv).1).2;obtain⟨_,_,_,_,_,q,_⟩:=id K;obtain⟨M1,F1,d1,K1,a1⟩:=b7X hs hv ho K hM hk n (by omega);have hk1:=c1F (s:=s) (o:=o) hk;obtain⟨f1,f2,_⟩:=d8s (ps:=s.ps) ho hk hov;obtain⟨_,g2,_⟩:=c0U s.ps o hov;rw[f1,f2] at d1;obtain⟨_,_,_,_,_,q1,_⟩:=id K1;obtain⟨M2,R,e1,e2,e3,e4,e5⟩:=c2z q1 a1.low (fun r hr=>by obtain⟨_,h1,h2,h3,_⟩:=hk1.rn r hr;omega) (by have:=hk1.cl;omega) n (by omega);have K2:=K1.frame e3 fun x hx=>e2 x (K1.bd x hx)
 obtain⟨_,_,_,_,_,q2,_⟩:=id K2;have hR:=(c1p e5).rd.rr;have hlen:=hR.len;rw[g2,Qm,Qn,a1q] at hlen;have hget:(c.close s.ps o).1.cl[c.cl.length]?=some ⟨c.p,c.ask,c.gots s.ps o,c.bid⟩:=by rw[g2,List.getElem?_append_right (Qj _),Nat.sub_self];rfl
 obtain⟨a,G,b,ha,hG,hb,hrd⟩:=hR.rd _ _ hget;obtain⟨L,r1,r2⟩:=hrd 7 1 (by decide);obtain⟨gk,gl⟩:=c7E (s:=s) (o:=o) hk
 have hsp:(a1J s.ps).ok:=by
  have hw:∀i:Nat,0<=((s.ps.map Pr.s)[i]?).getD 0/\((s.ps.map Pr.s)[i]?).getD 0<=4:=fun i=>by
   rw[Qk];cases hx:s.ps[i]? with
   | none=>simp
   | some x=>have:=hr x (List.mem_of_getElem? hx);simp only[Pr.rng] at this;simp;omega
  have a0:=hw 0;have a1:=hw 1;have a2:=hw 2;have a3:=hw 3;have a4:=hw 4;have a5:=hw 5;exact⟨a0.1,a0.2,a1.1,a1.2,a2.1,a2.2,a3.1,a3.2,a4.1,a4.2,a5.1,a5.2⟩
 have ex:=c9c M2 n G (c.gots s.ps o) hG gk (by rw[gl];exact l8) (a1J s.ps) (hsp.sm.mono (by decide)) (by omega);exact⟨M1,M2,F1,R,G,L,evE (b9j q n (by omega)),evE d1,evE e1,hR.one,hR.kind,hlen,evE (b6V q2 n (by omega)),r1,fun is bs vs k=>r2 is bs vs k,hG.one,evE ex,evE (b9j q2 n (by omega)),K2,e4,hk1⟩
variable {E:PV}{l:List Stp}(hE:E.rowsOf 9=some (l.map Stp.row))(hl:l.length<=200)
include hE hl
set_option maxHeartbeats 4000000 in
theorem d8D{d:Ck}(hov:d.over=false)(hd0:d.cl=[]):∀(e k:Nat),k+e=4->k<=l.length->∀(M:List MO) (F:Nat->Prop) (c:Ck),a4x s o M h F c->Low M->CkOk s.bs.length c->c.lk d->∀fuel,
  ∃fuel' M' F' b R at'' bs,fuel<=fuel'/\at''<=l.length/\d7u.loop (a0b d7x n) (fuel+e+1) 1 (en1 M E h s o (a1J s.ps) (k:Int))=d7u.loop (a0b d7x n) fuel' 2 (en2 M' E R h s o ((at'':Nat):Int) 0 1 1 (a1J s.ps) b.p (b.ex s.ps o) (b.close s.ps o).1.p ((b.close s.ps o).1.over::bs))/\a4x s o M' h F' (Ck.close s.ps o b).1/\Low M'/\CkOk s.bs.length (Ck.close s.ps o b).1/\b.lk d/\CkOk s.bs.length b/\R.one=true:=by
 obtain⟨q1,q2,q3⟩:=a0i hE;rw[Qh] at q1;have p3:=(a0i hs.P).2.2;have b3:=(a0i hs.B).2.2;have c3:=(a0i hs.C).2.2;have a3:=(a0i hs.A).2.2;have e0:∀a:Int,eqB a a=true:=fun a=>dT0 rfl
 have eb:∀b:Bool,(b||!b)=true:=fun b=>by cases b<;>rfl
 have l01:ltB 0 1=true:=rfl
 have fin:∀(k:Nat) (_:k<=l.length) (_:ltB (k:Int) 4=false\/k=l.length) (M:List MO) (F:Nat->Prop) (c:Ck),a4x s o M h F c->Low M->CkOk s.bs.length c->c.lk d->∃M' F' R bs,PT.ev (a0b d7x n) saleroomlaw39_ClockEnds_t1 (en1 M E h s o (a1J s.ps) (k:Int))=some (.jump 2 (en2 M' E R h s o (k:Int) 0 1 1 (a1J s.ps) c.p (c.ex s.ps o) (c.close s.ps o).1.p ((c.close s.ps o).1.over::bs)))/\a4x s o M' h F' (Ck.close s.ps o c).1/\Low M'/\CkOk s.bs.length (Ck.close s.ps o c).1/\R.one=true:=fun k hk hex M F c K hM hck has=>by
  obtain⟨M1,M2,F1,R,G,L,g1,g2,g3,g4,g5,g6,g7,g8,g9,ga,gb,gc,gd,ge,gf⟩:=d8x hs hv ho n hn K hM hck (has.over.trans hov);refine⟨M2,F1,R,[false,true,false,(c.close s.ps o).1.over,false],?_,gd,ge,gf,g4⟩;have hz:c.cl.length=0:=by rw[has.cl,hd0];rfl
  rw[hz] at g6 g8;have g6:R.len=1:=g6;have g8:a3E 0 9 7 R=some L:=g8;simp only[b1c,a4e,a6W,a5P,b6L,pv6] at g1 g2 g3 g7 gb gc;generalize (c.close s.ps o).1.over=ov at *
  generalize (c.close s.ps o).1.p=np at *
  generalize c.ex s.ps o=ex at *
  rcases hex with hex|hex
  ·simp only[saleroomlaw39_ClockEnds_t1,en1,↓reduceIte,PT.ev,BE.safe,BE.pe,IE.pe,PEnv.at,Q4,Q5,Q6,Q7,Qd,a0c,a0l,a0g,Q1,Q0,PEnv.push,Q2,Q3,Qe,SV.pvs,SV.pv,Q8,Q9,hex,g1,g2,g3,g4,g5,g6,g7,e0,eb,l01,a1h]
   repeat' (first|with_reducible rfl|apply a3d|simp only[↓reduceIte,a0u,a0n,a0k,BE.safe,BE.pe,IE.pe,PEnv.at,Q4,Q5,Q6,Q7,a0p,Qg,Qf,Nat.reduceAdd,a0c,a0l,a0g,Q1,Q0,PEnv.push,Q2,Q3,SV.pvs,SV.pv,BE.all,Q8,Q9,Qa,Qb,en2,g6,g8,g9,ga,gb,gc,e0,eb,]|unfold d7A|unfold d7U|unfold d7W|unfold d7B|unfold d7T|unfold d7V)
  ·subst hex
   have nl:ltB (l.length:Int) (l.length:Int)=false:=(a0F ..).2 (by omega);cases h4:ltB (l.length:Int) 4 with
   | false =>
    simp only[saleroomlaw39_ClockEnds_t1,en1,↓reduceIte,PT.ev,BE.safe,BE.pe,IE.pe,PEnv.at,Q4,Q5,Q6,Q7,Qd,a0c,a0l,a0g,Q1,Q0,PEnv.push,Q2,Q3,Qe,SV.pvs,SV.pv,Q8,Q9,h4,g1,g2,g3,g4,g5,g6,g7,e0,eb,l01,a1h]
    repeat' (first|with_reducible rfl|apply a3d|simp only[↓reduceIte,a0u,a0n,a0k,BE.safe,BE.pe,IE.pe,PEnv.at,Q4,Q5,Q6,Q7,a0p,Qg,Qf,Nat.reduceAdd,a0c,a0l,a0g,Q1,Q0,PEnv.push,Q2,Q3,SV.pvs,SV.pv,BE.all,Q8,Q9,Qa,Qb,en2,g6,g8,g9,ga,gb,gc,e0,eb,]|unfold d7A|unfold d7U|unfold d7W|unfold d7B|unfold d7T|unfold d7V)
   | true =>
    simp only[saleroomlaw39_ClockEnds_t1,en1,↓reduceIte,PT.ev,BE.safe,BE.pe,IE.pe,PEnv.at,Q4,Q5,Q6,Q7,Qd,a0c,a0l,a0g,Q1,Q0,PEnv.push,Q2,Q3,Qe,SV.pvs,SV.pv,Q8,Q9,h4,q1,q2,nl,g1,g2,g3,g4,g5,g6,g7,e0,eb,l01,a1h]
    repeat' (first|with_reducible rfl|apply a3d|simp only[↓reduceIte,a0u,a0n,a0k,BE.safe,BE.pe,IE.pe,PEnv.at,Q4,Q5,Q6,Q7,a0p,Qg,Qf,Nat.reduceAdd,a0c,a0l,a0g,Q1,Q0,PEnv.push,Q2,Q3,SV.pvs,SV.pv,BE.all,Q8,Q9,Qa,Qb,en2,g6,g8,g9,ga,gb,gc,e0,eb,]|unfold d7A|unfold d7U|unfold d7W|unfold d7B|unfold d7T|unfold d7V)
 intro e
 induction e with
 | zero =>
  intro k hk hkl M F c K hM hck has fuel;obtain rfl:k=4:=by omega
  obtain⟨M',F',R,bs,f1,f2,f3,f4,f5⟩:=fin 4 hkl (.inl rfl) M F c K hM hck has;exact⟨fuel,M',F',c,R,4,bs,Qj _,hkl,a5X rfl f1,f2,f3,f4,has,hck,f5⟩
 | succ e ih =>
  intro k hk hkl M F c K hM hck has fuel;by_cases ha:k<l.length
  ·obtain⟨q,hq⟩:=a0U ha
   obtain⟨M',F',d1,d2,d3⟩:=c6q hs hv ho K hM hck n q.i q.w (by omega);have d1:=evE d1;obtain⟨fuel',M2,F2,b,R,at'',bs,e0,e1,e2,e3⟩:=ih (k+1) (by omega) (by omega) M' F' _ d2 d3.low (c9P hck rfl cs ad o q.i q.w) (d1x has q.i q.w) fuel;rw[a1q] at e2;refine⟨fuel',M2,F2,b,R,at'',bs,e0,e1,?_,e3⟩;rw[<- e2];have r1:=a1d (off:=1) hE (show (l.map Stp.row)[k]?=some q.row by rw[Qk,hq];rfl);have r3:=a1d (off:=3) hE (show (l.map Stp.row)[k]?=some q.row by rw[Qk,hq];rfl);have lt:ltB (k:Int) (l.length:Int)=true:=a0Q.2 (by omega);have h4:ltB (k:Int) 4=true:=a0Q.2 (by omega);have hup:=a3I (show k<=1000000000 by omega);simp only[a2U,d2G,pv6] at d1 r1 r3;rw[show fuel+(e+1)+1=(fuel+e+1)+1 by omega];refine a5X (t:=saleroomlaw39_ClockEnds_t1) rfl ?_;simp only[saleroomlaw39_ClockEnds_t1,en1,↓reduceIte,a0d,a0h,a0u,a0n,a0k,BE.safe,BE.pe,IE.pe,PEnv.at,Q4,Q5,Q6,Q7,a0p,a0a,a0P,Qq,Qg,Qf,Nat.reduceAdd,Qj,Qd,Qr,Qs,a0c,a0l,a0g,Q1,Q0,PEnv.push,Q2,Q3,SV.pvs,SV.pv,BE.all,Q8,Qa,Qb,h4,q1,q2,lt,le0,r1,r3,Qt,Nat.reduceLeDiff,d1,if_pos hup,]
  ·obtain rfl:k=l.length:=by omega
   obtain⟨M',F',R,bs,f1,f2,f3,f4,f5⟩:=fin l.length hkl (.inr rfl) M F c K hM hck has;exact⟨fuel+(e+1),M',F',c,R,l.length,bs,by omega,hkl,a5X rfl f1,f2,f3,f4,has,hck,f5⟩
set_option maxHeartbeats 4000000 in
theorem d8F{d:Ck}(hov:d.over=false){r:Nat}(hr:d.cl.length=r)(hr30:r<=100)(R0:PV)(oR0:R0.one=true)(x y z:Int)(b1 b2 b3' b4 b5 b6 b7 b8 b9 b10 b11:Bool):∀(e k at':Nat),k+e=4->at'<=l.length->∀(M:List MO) (F:Nat->Prop) (c:Ck),a4x s o M h F c->Low M->CkOk s.bs.length c->c.lk d->∀fuel,
  ∃fuel' M' F' b R at'' bs,fuel<=fuel'/\at''<=l.length/\d7u.loop (a0b d7x n) (fuel+e+1) 10 (d8u M E R0 h s o (at':Int) (r:Int) (k:Int) x y z (a1J s.ps) [b1,b2,b3',b4,b5,b6,b7,b8,b9,b10,b11])=d7u.loop (a0b d7x n) fuel' 2 (en2 M' E R h s o ((at'':Nat):Int) (r:Int) ((r:Int)+1) ((r:Int)+1) (a1J s.ps) b.p (b.ex s.ps o) (b.close s.ps o).1.p ((b.close s.ps o).1.over::bs))/\a4x s o M' h F' (Ck.close s.ps o b).1/\Low M'/\CkOk s.bs.length (Ck.close s.ps o b).1/\b.lk d/\CkOk s.bs.length b/\R.one=true:=by
 obtain⟨q1,q2,q3⟩:=a0i hE;rw[Qh] at q1;have p3:=(a0i hs.P).2.2;have b3:=(a0i hs.B).2.2;have c3:=(a0i hs.C).2.2;have a3:=(a0i hs.A).2.2;have e0:∀a:Int,eqB a a=true:=fun a=>dT0 rfl
 have eb:∀b:Bool,(b||!b)=true:=fun b=>by cases b<;>rfl
 have hur:=a3I (show r<=1000000000 by omega);have lr:ltB (r:Int) ((r:Int)+1)=true:=a0Q.2 (by omega)
 have fin:∀(k at':Nat) (_:at'<=l.length) (_:ltB (k:Int) 4=false\/at'=l.length) (M:List MO) (F:Nat->Prop) (c:Ck),a4x s o M h F c->Low M->CkOk s.bs.length c->c.lk d->∃M' F' R bs,PT.ev (a0b d7x n) saleroomlaw39_ClockEnds_t10 (d8u M E R0 h s o (at':Int) (r:Int) (k:Int) x y z (a1J s.ps) [b1,b2,b3',b4,b5,b6,b7,b8,b9,b10,b11])=some (.jump 2 (en2 M' E R h s o (at':Int) (r:Int) ((r:Int)+1) ((r:Int)+1) (a1J s.ps) c.p (c.ex s.ps o) (c.close s.ps o).1.p ((c.close s.ps o).1.over::bs)))/\a4x s o M' h F' (Ck.close s.ps o c).1/\Low M'/\CkOk s.bs.length (Ck.close s.ps o c).1/\R.one=true:=fun k at' hat hex M F c K hM hck has=>by
  obtain⟨M1,M2,F1,R,G,L,g1,g2,g3,g4,g5,g6,g7,g8,g9,ga,gb,gc,gd,ge,gf⟩:=d8x hs hv ho n hn K hM hck (has.over.trans hov);refine⟨M2,F1,R,[b1,b2,false,(c.close s.ps o).1.over,false],?_,gd,ge,gf,g4⟩;rw[has.cl,hr] at g6 g8;simp only[b1c,a4e,a6W,a5P,b6L,pv6] at g1 g2 g3 g7 gb gc;generalize (c.close s.ps o).1.over=ov at *
  generalize (c.close s.ps o).1.p=np at *
  generalize c.ex s.ps o=ex at *
  rcases hex with hex|hex
  ·simp only[saleroomlaw39_ClockEnds_t10,d8u,↓reduceIte,PT.ev,BE.safe,BE.pe,IE.pe,PEnv.at,Q4,Q5,Q6,Q7,Qd,a0c,a0l,a0g,Q1,Q0,PEnv.push,Q2,Q3,Qe,SV.pvs,SV.pv,Q8,Q9,hex,g1,g2,g3,g4,g5,g6,g7,e0,eb,lr,le0,if_pos hur,a1h]
   repeat' (first|with_reducible rfl|apply a3d|simp only[↓reduceIte,a0u,a0n,a0k,BE.safe,BE.pe,IE.pe,PEnv.at,Q4,Q5,Q6,Q7,a0p,Qg,Qf,Nat.reduceAdd,a0c,a0l,a0g,Q1,Q0,PEnv.push,Q2,Q3,SV.pvs,SV.pv,BE.all,Q8,Q9,Qa,Qb,en2,g6,g8,g9,ga,gb,gc,e0,eb,]|unfold d7y|unfold d7R|unfold d7S|unfold d7z|unfold d7Q|unfold d7O)
  ·subst hex
   have nl:ltB (l.length:Int) (l.length:Int)=false:=(a0F ..).2 (by omega);cases h4:ltB (k:Int) 4 with
   | false =>
    simp only[saleroomlaw39_ClockEnds_t10,d8u,↓reduceIte,PT.ev,BE.safe,BE.pe,IE.pe,PEnv.at,Q4,Q5,Q6,Q7,Qd,a0c,a0l,a0g,Q1,Q0,PEnv.push,Q2,Q3,Qe,SV.pvs,SV.pv,Q8,Q9,h4,g1,g2,g3,g4,g5,g6,g7,e0,eb,lr,le0,if_pos hur,a1h]
    repeat' (first|with_reducible rfl|apply a3d|simp only[↓reduceIte,a0u,a0n,a0k,BE.safe,BE.pe,IE.pe,PEnv.at,Q4,Q5,Q6,Q7,a0p,Qg,Qf,Nat.reduceAdd,a0c,a0l,a0g,Q1,Q0,PEnv.push,Q2,Q3,SV.pvs,SV.pv,BE.all,Q8,Q9,Qa,Qb,en2,g6,g8,g9,ga,gb,gc,e0,eb,]|unfold d7y|unfold d7R|unfold d7S|unfold d7z|unfold d7Q|unfold d7O)
   | true =>
    simp only[saleroomlaw39_ClockEnds_t10,d8u,↓reduceIte,PT.ev,BE.safe,BE.pe,IE.pe,PEnv.at,Q4,Q5,Q6,Q7,Qd,a0c,a0l,a0g,Q1,Q0,PEnv.push,Q2,Q3,Qe,SV.pvs,SV.pv,Q8,Q9,h4,q1,q2,nl,g1,g2,g3,g4,g5,g6,g7,e0,eb,lr,le0,if_pos hur,a1h]
    repeat' (first|with_reducible rfl|apply a3d|simp only[↓reduceIte,a0u,a0n,a0k,BE.safe,BE.pe,IE.pe,PEnv.at,Q4,Q5,Q6,Q7,a0p,Qg,Qf,Nat.reduceAdd,a0c,a0l,a0g,Q1,Q0,PEnv.push,Q2,Q3,SV.pvs,SV.pv,BE.all,Q8,Q9,Qa,Qb,en2,g6,g8,g9,ga,gb,gc,e0,eb,]|unfold d7y|unfold d7R|unfold d7S|unfold d7z|unfold d7Q|unfold d7O)
 intro e
 induction e with
 | zero =>
  intro k at' hk hkl M F c K hM hck has fuel;obtain rfl:k=4:=by omega
  obtain⟨M',F',R,bs,f1,f2,f3,f4,f5⟩:=fin 4 at' hkl (.inl rfl) M F c K hM hck has;exact⟨fuel,M',F',c,R,at',bs,Qj _,hkl,a5X rfl f1,f2,f3,f4,has,hck,f5⟩
 | succ e ih =>
  intro k at' hk hkl M F c K hM hck has fuel;by_cases ha:at'<l.length
  ·obtain⟨q,hq⟩:=a0U ha
   obtain⟨M',F',d1,d2,d3⟩:=c6q hs hv ho K hM hck n q.i q.w (by omega);have d1:=evE d1;obtain⟨fuel',M2,F2,b,R,at'',bs,e0,e1,e2,e3⟩:=ih (k+1) (at'+1) (by omega) (by omega) M' F' _ d2 d3.low (c9P hck rfl cs ad o q.i q.w) (d1x has q.i q.w) fuel;rw[a1q,a1q] at e2;refine⟨fuel',M2,F2,b,R,at'',bs,e0,e1,?_,e3⟩;rw[<- e2];have r1:=a1d (off:=1) hE (show (l.map Stp.row)[at']?=some q.row by rw[Qk,hq];rfl);have r3:=a1d (off:=3) hE (show (l.map Stp.row)[at']?=some q.row by rw[Qk,hq];rfl);have lt:ltB (at':Int) (l.length:Int)=true:=a0Q.2 (by omega);have h4:ltB (k:Int) 4=true:=a0Q.2 (by omega);have hup:=a3I (show at'<=1000000000 by omega);have hk1:=a0C (z:=(k:Int)+1) (by omega);simp only[a2U,d2G,pv6] at d1 r1 r3;rw[show fuel+(e+1)+1=(fuel+e+1)+1 by omega];refine a5X (t:=saleroomlaw39_ClockEnds_t10) rfl ?_;simp only[saleroomlaw39_ClockEnds_t10,d8u,↓reduceIte,a0d,a0h,a0u,a0n,a0k,BE.safe,BE.pe,IE.pe,PEnv.at,Q4,Q5,Q6,Q7,a0p,a0a,a0P,Qq,Qg,Qf,Nat.reduceAdd,Qj,Qd,Qr,Qs,a0c,a0l,a0g,Q1,Q0,PEnv.push,Q2,Q3,SV.pvs,SV.pv,BE.all,Q8,Qa,Qb,h4,q1,q2,lt,le0,r1,r3,Qt,Nat.reduceLeDiff,d1,if_pos hup,if_pos hk1,]
  ·obtain rfl:at'=l.length:=by omega
   obtain⟨M',F',R,bs,f1,f2,f3,f4,f5⟩:=fin k l.length hkl (.inr rfl) M F c K hM hck has;exact⟨fuel+(e+1),M',F',c,R,l.length,bs,by omega,hkl,a5X rfl f1,f2,f3,f4,has,hck,f5⟩
theorem d8H(aw:∀σ,a0b d7x n a0G [] σ=some (.bool true,σ)):∀(d r at':Nat),r+d=30->at'<=l.length->∀(M:List MO) (F:Nat->Prop) (c:Ck) (R:PV) (x y z:Int) (bs:List Bool),a4x s o M h F c->Low M->CkOk s.bs.length c->c.cl.length=r->R.one=true->bs.length=11->∀fuel,d*13+1<=fuel ->
  d7u.loop (a0b d7x n) fuel 9 (en9 M E R h s o (at':Int) (r:Int) x y z (a1J s.ps) bs)=some (.bool true,[]):=by
 have oE:=(a0i hE).2.2;have p3:=(a0i hs.P).2.2;have b3:=(a0i hs.B).2.2;have c3:=(a0i hs.C).2.2;have a3:=(a0i hs.A).2.2;intro d
 induction d with
 | zero =>
  intro r at' hr hat M F c R x y z bs K hM hk hcr oR hbs fuel hf;obtain⟨fuel,rfl⟩:∃k,fuel=k+1:=⟨fuel-1,by omega⟩;obtain⟨_,_,_,_,_,q,_⟩:=id K;have g0:=evE (b6V q n (by omega))
  have hov:c.over=true:=by
   cases h:c.over with
   | true=>rfl
   | false=>have:=hk.ov h;omega
  rw[hov] at g0;have aw0:=aw M;obtain⟨b1,b2,b3',b4,b5,b6,b7,b8,b9,b10,b11,rfl⟩:=d8E hbs;simp only[a5P,a0G] at g0 aw0;have nl:ltB (r:Int) 30=false:=(a0F ..).2 (by omega);refine c5K (t:=saleroomlaw39_ClockEnds_t9) rfl ?_;simp only[saleroomlaw39_ClockEnds_t9,en9,↓reduceIte,a0j,a0d,a0n,BE.safe,BE.pe,IE.pe,Q4,Q5,Q6,Q7,Qd,a0c,a0l,a0g,Q1,Q0,PEnv.push,Q2,Q3,SV.pvs,SV.pv,nl,g0,aw0,c6j]
 | succ d ih =>
  intro r at' hr hat M F c R x y z bs K hM hk hcr oR hbs fuel hf;obtain⟨_,_,_,_,_,q,_⟩:=id K;have g0:=evE (b6V q n (by omega));obtain⟨b1,b2,b3',b4,b5,b6,b7,b8,b9,b10,b11,rfl⟩:=d8E hbs;have lt:ltB (r:Int) 30=true:=a0Q.2 (by omega);obtain hov|hov:c.over=true\/c.over=false:=by cases c.over<;>simp
  ·obtain⟨fuel,rfl⟩:∃k,fuel=k+1:=⟨fuel-1,by omega⟩
   rw[hov] at g0;have aw0:=aw M;simp only[a5P,a0G] at g0 aw0;refine c5K (t:=saleroomlaw39_ClockEnds_t9) rfl ?_;simp only[saleroomlaw39_ClockEnds_t9,en9,↓reduceIte,a0j,a0d,a0n,a0k,BE.safe,BE.pe,IE.pe,Q4,Q5,Q6,Q7,Qd,a0c,a0l,a0g,Q1,Q0,PEnv.push,Q2,Q3,SV.pvs,SV.pv,BE.all,Q9,Qa,Qb,lt,g0,aw0,c6j]
  ·obtain⟨fuel,rfl⟩:∃k,fuel=k+7+4+1+1:=⟨fuel-13,by omega⟩
   rw[hov] at g0;obtain⟨fuel',M',F',b,R',at'',bs',f1,f2,f3,f4,f5,f6,f7,f8,f9⟩:=d8F hs hv ho n hn hE hl hov hcr (by omega) R oR x y z false true b3' b4 b5 b6 b7 b8 b9 b10 b11 4 0 at' rfl hat M F c K hM hk ⟨rfl,rfl,rfl,rfl⟩ (fuel+7);obtain⟨_,_,w1,w2,w3,w4,w5,w6⟩:=d8s (ps:=s.ps) ho f8 (f7.over.trans hov);obtain⟨fuel',rfl⟩:∃k,fuel'=k+1+1+1+1+1+1+1:=⟨fuel'-7,by omega⟩;obtain⟨x',y',z',bs2,g1,g2⟩:=d8A (M:=M') (h:=h) (o:=o) oE f9 p3 b3 c3 a3 n ((at'':Nat):Int) ((r:Int)+1) ((r:Int)+1) (show r<=100 by omega) (a1J s.ps) b.p (b.ex s.ps o) (b.close s.ps o).1.p (b.close s.ps o).1.over w1 w2 w3 w4 w5 w6 bs' fuel';obtain⟨_,k2,_⟩:=c0U s.ps o (f7.over.trans hov);have ih:=ih (r+1) at'' (by omega) f2 M' F' _ R' x' y' z' bs2 f4 f5 f6 (by rw[k2,Qm,Qn,f7.cl,hcr]) f9 g1 fuel' (by omega);rw[a1q,<- g2,<- f3] at ih;have ih:d7u.loop (a0b d7x n) (fuel+7+4+1) 10 (d8u M E R h s o (at':Int) (r:Int) 0 x y z (a1J s.ps) [false,true,b3',b4,b5,b6,b7,b8,b9,b10,b11])=some (.bool true,[]):=ih;simp only[a5P] at g0;refine(a5X (t:=saleroomlaw39_ClockEnds_t9) rfl ?_).trans ih;simp only[saleroomlaw39_ClockEnds_t9,en9,d8u,↓reduceIte,a0j,a0d,a0n,a0k,BE.safe,BE.pe,IE.pe,Q4,Q5,Q6,Q7,a0c,a0l,a0g,Q1,Q0,PEnv.push,Q2,Q3,Qe,SV.pvs,SV.pv,BE.all,Qp,Qa,Qb,lt,g0,]
end
theorem d8C(n:Nat)(hn:40000<=n)(ps:List Pr)(bs:List Bd)(cs ad:List Tri)(o:Po)(l:List Stp)(aw:∀σ,a0b d7x n a0G [] σ=some (.bool true,σ)) :
  a0b d7x (n+1) d7N [.agg [.sl 5 (ps.map Pr.row),.sl 4 (bs.map Bd.row),.sl 3 (cs.map Tri.row),.sl 3 (ad.map Tri.row)],.agg o.row,.sl 9 (l.map Stp.row)] []=some (.bool true,[]):=by
 obtain⟨s,hse⟩:∃s:St,s=⟨ps,bs,.sl 5 (ps.map Pr.row),.sl 4 (bs.map Bd.row),.sl 3 (cs.map Tri.row),.sl 3 (ad.map Tri.row)⟩:=⟨_,rfl⟩;have hs:SuOk s cs ad:=by subst hse;exact⟨a1C _ _,a1C _ _,a1C _ _,a1C _ _⟩
 generalize hEe:PV.sl 9 (l.map Stp.row)=E;have hE:E.rowsOf 9=some (l.map Stp.row):=by rw[<- hEe];exact a1C _ _
 have hpv:[PV.sl 5 (ps.map Pr.row),.sl 4 (bs.map Bd.row),.sl 3 (cs.map Tri.row),.sl 3 (ad.map Tri.row)]=[s.P,s.B,s.C,s.A]:=by subst hse;rfl
 have hps:ps=s.ps:=by subst hse;rfl
 have hbs:bs=s.bs:=by subst hse;rfl
 rw[hpv];subst hps hbs;clear hse hpv hEe;obtain⟨_,_,p3⟩:=a0i hs.P;obtain⟨_,_,b3⟩:=a0i hs.B;obtain⟨_,_,c3⟩:=a0i hs.C;obtain⟨_,_,a3⟩:=a0i hs.A;obtain⟨_,_,q3⟩:=a0i hE;have aw0:=aw;obtain⟨z,g1,g2⟩:=d0i [] n (by omega) (knl hs.P (Qh _)) (knl hs.B (Qh _)) (knl hs.C (Qh _)) (knl hs.A (Qh _)) (knl hE (Qh _));have g1:=evE g1;simp only[a0G,b0E] at aw0 g1;rw[a0b,show d7x d7N=some d7u from if_pos rfl];simp only[Q0,Sys.run,a6I];show ((a0f [.sh (.agg [_,_,_,_]),.sh (.agg [_,_,_,_]),.sh (.one _)] _).bind _)=_;simp only[a0f,a0g,a0c,Q1,Q0,Qe,Q3,Q2,if_true,p3,b3,c3,a3,q3];show (PT.ev _ d7P _).bind _=_;cases z with
 | true=>simp only[d7P,↓reduceIte,a0j,a0d,a0n,a0k,BE.safe,BE.pe,IE.pe,Q4,Q5,Q6,Q7,Qf,a0c,a0l,a0g,Q1,Q0,PEnv.push,Q2,Q3,SV.pvs,SV.pv,BE.all,Qa,Qb,g1,aw0,c6j]
 | false =>
  obtain⟨_,_,_,_,hl⟩:=g2 rfl;by_cases he:b5D s.ps s.bs cs ad o=0
  case neg =>
   have n1:=evE (d3Y hs o [] n he (by omega));simp only[a9V,St.pv,a6I] at n1;have op:PV.one .nilP=true:=rfl;have ef:eqB (b5D s.ps s.bs cs ad o) 0=false:=dF0 he;simp only[d7P,↓reduceIte,a0j,a0d,a0n,a0k,BE.safe,BE.pe,IE.pe,Q4,Q5,Q6,Q7,Qf,Qd,a0c,a0l,a0g,Q1,Q0,PEnv.push,Q2,Q3,Qe,SV.pvs,SV.pv,BE.all,Qp,Qa,Qb,g1,n1,a1h,op,ef,aw0,c6j]
  case pos =>
   have hv:a7m s.ps s.bs cs ad=0:=by
    unfold b5D at he;split at he
    ·assumption
    ·exact he
   have ho:o.ok:=by
    unfold b5D at he;rw[if_pos hv] at he;unfold a9z at he;split at he
    ·assumption
    ·cases he
   obtain⟨v1,v2,v3,v4⟩:=b4L hv;obtain⟨hl6,hr6⟩:=b0L v1;obtain⟨M,F,n1,K,nF,nk,nl,nlow⟩:=d3u hs o [] rfl n he (by omega);have n1:=evE n1;have n2:=evE (d8y M s.ps s.P hs.P hl6 n (by omega));have hk0:=d3V hr6 s.bs.length;obtain⟨_,_,_,_,_,q,_⟩:=id K;have g0:=evE (b6V q n (by omega));have hov:(ck0 s.ps s.bs.length).over=false:=rfl;obtain⟨fuel',M',F',b,R',at'',bs',f1,f2,f3,f4,f5,f6,f7,f8,f9⟩:=d8D hs hv ho n (by omega) hE hl hov rfl 4 0 rfl (Nat.zero_le _) M F _ K nlow hk0 ⟨rfl,rfl,rfl,rfl⟩ (n-6);obtain⟨_,_,w1,w2,w3,w4,w5,w6⟩:=d8s (ps:=s.ps) ho f8 (f7.over.trans hov);obtain⟨fuel',rfl⟩:∃k,fuel'=k+1+1+1+1+1+1+1:=⟨fuel'-7,by omega⟩;obtain⟨x',y',z',bs2,e1,e2⟩:=d8A (M:=M') (h:=([]:List MO).length+1) (o:=o) q3 f9 p3 b3 c3 a3 n ((at'':Nat):Int) 1 1 (show 0<=100 by omega) (a1J s.ps) b.p (b.ex s.ps o) (b.close s.ps o).1.p (b.close s.ps o).1.over w1 w2 w3 w4 w5 w6 bs' fuel';obtain⟨_,k2,_⟩:=c0U s.ps o (f7.over.trans hov);have key:=d8H hs hv ho n (by omega) hE hl aw 29 1 at'' rfl f2 M' F' _ R' x' y' z' bs2 f4 f5 f6 (by rw[k2,Qm,Qn,f7.cl];rfl) f9 e1 fuel' (by omega);have e2:d7u.loop (a0b d7x n) (fuel'+1+1+1+1+1+1+1) 2 (en2 M' E R' (([]:List MO).length+1) s o ((at'':Nat):Int) 0 1 1 (a1J s.ps) b.p (b.ex s.ps o) (b.close s.ps o).1.p ((b.close s.ps o).1.over::bs'))=d7u.loop (a0b d7x n) fuel' 9 (en9 M' E R' (([]:List MO).length+1) s o ((at'':Nat):Int) ((1:Nat):Int) x' y' z' (a1J s.ps) bs2):=e2;rw[<- e2,<- f3] at key;have key:d7u.loop (a0b d7x n) (n-6+4+1) 1 (en1 M E 1 s o (a1J s.ps) 0)=some (.bool true,[]):=key;have n1:a0b d7x n a9V [.agg [s.P,s.B,s.C,s.A],.agg [.int .i64 o.st,.int .i64 o.pc,.int .i64 o.un,.int .i64 o.ru]] []=some (.tup [.ref 1 0,.int .i64 0],M):=n1;have g0:a0b d7x n a5P [.ref 1 0] M=some (.bool false,M):=g0;have e0:∀a:Int,eqB a a=true:=fun a=>dT0 rfl
   simp only[a9V,a5P,d8b,pv6] at n1 n2 g0
   have k0:d7u.loop (a0b d7x n) n 0 (en0 M E 1 s o (a1J s.ps))=some (.bool true,[]):=by
    rw[show n=(n-6+4+1)+1 by omega];rw[show n-6+4+1+1=n by omega]
    have X:PT.ev (a0b d7x n) saleroomlaw39_ClockEnds_t0 (en0 M E 1 s o (a1J s.ps))=some (.jump 1 (en1 M E 1 s o (a1J s.ps) 0)):=by
     simp only[saleroomlaw39_ClockEnds_t0,en0,en1,↓reduceIte,a0j,a0d,a0n,a0k,BE.safe,BE.pe,IE.pe,Q4,Q5,Q6,Q7,a0c,a0l,a0g,Q1,Q0,PEnv.push,Q2,Q3,Qe,SV.pvs,SV.pv,BE.all,Qp,Qa,Qb,g0,]
    have Y:=(a5X (Φ:=a0b d7x n) (S:=d7u) (fuel:=n-6+4+1) (q:=0) rfl X).trans key;rw[show n-6+4+1+1=n by omega] at Y;exact Y
   simp only[d7P,↓reduceIte,a0j,a0d,a0n,a0k,BE.safe,BE.pe,IE.pe,Q4,Q5,Q6,Q7,Qf,Qd,a0c,a0l,a0g,Q1,Q0,PEnv.push,Q2,Q3,Qe,SV.pvs,SV.pv,BE.all,Q9,Qa,Qb,g1,n1,n2,a1h,b1B,e0];exact k0
theorem d8B(n0:Nat)(ps:List PV)(hs:a1i Try.prog n0 27 ps)(n1:Nat)(po:List PV)(hp:a1i Try.prog n1 29 po)(n2:Nat)(rows:List (List PV))(h2:∀r∈rows,a1i Try.prog n2 42 r) :
  a0b d7x 40001 d7N [.agg ps,.agg po,.sl 9 rows] []=some (.bool true,[]):=by
 obtain⟨l1,l2,l3,l4,rfl⟩:=d0w hs;obtain⟨o,rfl⟩:=c9W hp;obtain⟨l,rfl⟩:=a7C (row:=Stp.row) (fun ps h=>c8K h) rows h2;exact d8C 40000 (by omega) l1 l2 l3 l4 o l (awE 39999)
theorem d8w:ownKnob Try.prog.godebug=none:=by kernel_rfl
theorem d8d:laidOutB Try.prog=true:=by kernel_rfl
theorem d8c:Go.Sx.closed Try.prog [27,29,30,22,23,24,25,2,3,42,83,112,119,122,38,9]=true:=by kernel_rfl
set_option maxRecDepth 100000 in
theorem d8v(os:Os)(started:os.Started)(H:Type)(enc:TypeId×Value->H) :
  ReturnsInHanded {} Try.checked os 3 .any (Rows.clockEndsSpec.pre6 enc Try.prog Try.f3 Rows.clockEndsRow.domain false) (Rows.clockEndsSpec.post enc Try.prog Try.f3 false true false false):=by
 refine returnsInHanded_of_change (C:=Try.checked) d8w started (by kernel_rfl) Try.func3
  (ChangeSpec.witness6 (enc:=enc) (C:=Try.checked) false ⟨#[],#[.agg #[.slice none 0 0,.slice none 0 0,.slice none 0 0,.slice none 0 0],.agg #[.int .i64 0,.int .i64 0,.int .i64 0,.int .i64 0],.slice none 0 0],[]⟩ 8 (by kernel_rfl) (by kernel_rfl) (by kernel_rfl) (by kernel_rfl)) ?_
 intro W base args ds gs before hval0 hW hcnd _;have hval:∀(j:Nat) t v,Try.f3.params[j]?=some t->args[j]?=some v->Value.okWide Try.prog W .any base t v:=hval0;have hW':=hW;obtain⟨p,q,hA0,hV,rfl,hfz,hnd⟩:=hW;have hA:DataW.TrodAll enc Try.prog W 0 (fun _=>true) true Try.f3.params.toList args.toList ds p:=hA0;rw[Try.params3] at hA hval;obtain⟨v0,vs0,d0,ds0,p0,q0,hargs,rfl,rfl,h0,r0⟩:=trodAll_cons hA;obtain⟨v1,vs1,d1,ds1,p1,q1,rfl,rfl,rfl,h1,r1⟩:=trodAll_cons r0;obtain⟨v2,vs2,d2,ds2,p2,q2,rfl,rfl,rfl,h2,r2⟩:=trodAll_cons r1;obtain⟨rfl,rfl,rfl⟩:=trodAll_nil r2;obtain rfl:args=#[v0,v1,v2]:=by cases args;simp_all
 obtain⟨rfl,rfl⟩:=trodVars_none hV;have k0:=h0;have lt0:∀x∈p0,x.block<W.heap.size:=by obtain⟨m,hm⟩:=k0;exact DataW.trod_lt m _ _ _ hm
 obtain⟨n0,a0,e0,s0,w0⟩:=c2M d8c (t:=27) (by decide) Try.underlying27 (hval 0 27 v0 rfl rfl) h0;have k1:=h1;have lt1:∀x∈p1,x.block<W.heap.size:=by obtain⟨m,hm⟩:=k1;exact DataW.trod_lt m _ _ _ hm
 obtain⟨n1,a1,e1,s1,w1⟩:=c2M d8c (t:=29) (by decide) Try.underlying29 (hval 1 29 v1 rfl rfl) h1;have k2:=h2;have lt2:∀x∈p2,x.block<W.heap.size:=by obtain⟨m,hm⟩:=k2;exact DataW.trod_lt m _ _ _ hm
 obtain⟨n2,a2,e2,s2,w2⟩:=c9X d8c (t:=30) (by decide) Try.underlying30 (hval 2 30 v2 rfl rfl) h2;clear hA0 hval0;rw[show Try.prog.cellsOf 42=9 by kernel_rfl] at e2;have hr:Go.Sx.Reps (Go.Sx.hpOf W) [] [.agg a0,.agg a1,.sl 9 a2] [v0,v1,v2]:=⟨v0,_,rfl,e0,⟨v1,_,rfl,e1,⟨v2,_,rfl,e2,rfl⟩⟩⟩;refine(Go.Sx.lift_true (Go.Sx.evalF_good d8G 40001 3) (d8B n0 a0 s0 n1 a1 s1 n2 a2 s2) hr).mono fun e W' hh=>?_
 obtain⟨rfl,bel⟩:=hh;exact⟨_,rfl,_,_,_,[],_,[],hW',trodAll_mk1 (shut_bool Try.underlying4 _),(trodAll_cons_mk (Below.trod d8d (by kernel_rfl) (of_decide_eq_true (by kernel_rfl)) k0 bel lt0) (trodAll_cons_mk (Below.trod d8d (by kernel_rfl) (of_decide_eq_true (by kernel_rfl)) k1 bel lt1) (trodAll_cons_mk (Below.trod d8d (by kernel_rfl) (of_decide_eq_true (by kernel_rfl)) k2 bel lt2) trodAll_mk0))),rfl,bel.frame _,fun h=>by cases h⟩
theorem clockEnds_proved:Rows.ClockEndsSaid :=
 OpenClaim.holds_of_wide 3 Try.f3 rfl rfl rfl rfl rfl rfl rfl ⟨rfl,rfl,rfl,rfl,rfl⟩ rfl rfl rfl rfl rfl (by kernel_rfl) Try.func3 (by kernel_rfl)
  (of_decide_eq_true (by kernel_rfl)) (by unfold Func.isWrapper;first|(rw[if_pos (by decide +kernel)];kernel_rfl)|(rw[if_neg (by decide +kernel)];exact⟨rfl,rfl⟩))
  (fun os started H enc _=>d8v os started H enc)
end Go.Proofs.Ytmekflfjaflmkaa
