/- ClockResets: b1j of bids; what a reset brings a9D. -/
import Derived.Test.YtmekflfjaflmkaaHCo
set_option linter.unusedSimpArgs false
set_option linter.unusedVariables false
set_option linter.unusedSectionVars false
open Nat renaming le_refl → Q0
open List renaming getElem?_cons_zero → Q1, getD_cons_zero → Q3, getD_cons_succ → Q4, getElem?_cons_succ → Q5, cons_append → Q8, nil_append → Q9, map_cons → Qb, map_nil → Qd, replicate → Qe, length_append → Qf, length_singleton → Qg, append_nil → Qj, getElem?_map → Qk
open Option renaming map_some → Q2, bind_some → Q7
open Bool renaming false_eq_true → Q6, and_self → Qa
open Int renaming toNat_natCast → Qh
set_option maxRecDepth 100000
namespace Go.Proofs.Ytmekflfjaflmkaa
open Go.Sx
def Ck.fresh(c:Ck):Prop:=c.ask=Qe c.out.length w0/\c.bid=Qe c.out.length false
structure Ck.lk (c d:Ck):Prop where
 cl:c.cl=d.cl
 p:c.p=d.p
 out:c.out=d.out
 over:c.over=d.over
theorem d1x{ps:List Pr}{bs:List Bd}{cs ad:List Tri}{o:Po}{s:St}{c d:Ck}(h:c.lk d)(i:Int)(w:W6):(c.doBid ps bs cs ad o s i w).1.lk d:=by
 unfold Ck.doBid;split
 ·exact⟨h.cl,h.p,h.out,h.over⟩
 ·exact h
theorem c0U{c:Ck}(ps:List Pr)(o:Po)(h:c.over=false):(c.close ps o).1.fresh/\(c.close ps o).1.cl=c.cl++[⟨c.p,c.ask,c.gots ps o,c.bid⟩]/\(c.close ps o).1.out=c.out:=by
 rw[c1J c ps o h];unfold Ck.closeTo;split<;>exact⟨⟨rfl,rfl⟩,rfl,rfl⟩
theorem c6M{c d:Ck}{ps:List Pr}{o:Po}(h:c.lk d)(hov:d.over=false)(hf:d.fresh){t:Nat}(ht:t<=d.cl.length):((c.close ps o).1.reset (t:Int)).1=if t=d.cl.length then d else(d.reset (t:Int)).1:=by
 obtain⟨h1,h2,h3⟩:=c0U ps o (h.over.trans hov);have a1:¬(t:Int)<0:=by omega
 have a2:¬(((c.close ps o).1.cl.length:Nat):Int)<(t:Int):=by rw[h2,Qf,Qg,h.cl];omega
 have a3:¬((t:Int)=(((c.close ps o).1.cl.length:Nat):Int)/\(c.close ps o).1.over=true):=by rw[h2,Qf,Qg,h.cl];omega
 rw[show (c.close ps o).1.reset (t:Int)=({(c.close ps o).1.blank with p:=(((c.close ps o).1.cl[(t:Int).toNat]?).map Rn.p).getD (c.close ps o).1.p,cl:=(c.close ps o).1.cl.take (t:Int).toNat,over:=false},0) by unfold Ck.reset;rw[if_neg a1,if_neg a2,if_neg a3]];simp only[Qh,Ck.blank,h2,h3,h.out,h.cl];split
 ·rename_i he
  subst he;rw[List.getElem?_append_right (Q0 _),Nat.sub_self,List.take_left];simp only[Q1,Q2,Option.getD_some,h.p];obtain⟨f1,f2⟩:=hf;obtain⟨cl,p,ask,bid,out,over⟩:=d;simp only at f1 f2 hov ⊢;subst f1 f2 hov;rfl
 ·rename_i he
  have hlt:t<d.cl.length:=by omega
  have b2:¬((d.cl.length:Nat):Int)<(t:Int):=by omega
  have b3:¬((t:Int)=((d.cl.length:Nat):Int)/\d.over=true):=by omega
  rw[show d.reset (t:Int)=({d.blank with p:=((d.cl[(t:Int).toNat]?).map Rn.p).getD d.p,cl:=d.cl.take (t:Int).toNat,over:=false},0) by unfold Ck.reset;rw[if_neg a1,if_neg b2,if_neg b3]];obtain⟨r,hr⟩:=a0U hlt;simp only[Qh,Ck.blank];rw[List.getElem?_append_left hlt,List.take_append_of_le_length (by omega),hr];rfl
theorem c8M{d:Ck}{t:Nat}(ht:t<d.cl.length):(d.reset (t:Int)).2=0:=by
 unfold Ck.reset;rw[if_neg (by omega),if_neg (by omega),if_neg (by omega)]
def rz0(M:List MO)(E:PV)(h:Nat)(s:St)(to at' r:Int)(VS:PV):PEnv:={i:=[to,at',r],b:=[],v:=[E,.ref h 0,VS,s.P,s.B,s.C,s.A],m:=M,k:=0}
def rz1(M:List MO)(E:PV)(h:Nat)(s:St)(to at' r k:Int)(VS:PV):PEnv:={i:=[to,at',r,k],b:=[false,true],v:=[E,.ref h 0,VS,s.P,s.B,s.C,s.A],m:=M,k:=0}
def rz2(M:List MO)(h g:Nat)(s:St)(i:Int):PEnv:={i:=[i],b:=[],v:=[.ref h 0,.ref g 0,s.P,s.B,s.C,s.A],m:=M,k:=0}
def c1s(s:St)(o:Po)(M:List MO)(F:Nat->Prop)(VS:PV)(sv:Ck):Prop:=∃g G,VS=.ref g 0/\a4x s o M g G sv/\(∀x,F x->¬G x)/\CkOk s.bs.length sv
theorem c1s.adv{s:St}{o:Po}{M M':List MO}{F F':Nat->Prop}{VS:PV}{sv:Ck}(h:c1s s o M F VS sv)(a:Adv M M' F F'):c1s s o M' F' VS sv:=by
 obtain⟨g,G,rfl,k,hd,hk⟩:=h;refine⟨g,G,rfl,k.frame a.len fun x hx=>a.keep x (k.bd x hx) fun hF=>hd x hF hx,fun x hF hG=>?_,hk⟩;rcases a.own x hF with h1|h1
 ·exact hd x h1 hG
 ·have:=k.bd x hG;omega
section
variable {s:St}{cs ad:List Tri}(hs:SuOk s cs ad)(hv:a7m s.ps s.bs cs ad=0){o:Po}(ho:o.ok)(n:Nat)(hn:33000<=n){E:PV}{l:List Stp}(hE:E.rowsOf 9=some (l.map Stp.row))(hl:l.length<=200){h:Nat}
include hs hv ho hn hE hl
theorem d0J(to:Int)(VS:PV)(hVS:VS.one=true)(r:Nat)(hr:r<8){d:Ck}(hov:d.over=false)(J:List MO->(Nat->Prop)->Prop)(hJ:∀M M' F F',J M F->Adv M M' F F'->J M' F'):∀(e k at':Nat),k+e=4->at'<=l.length->∀(M:List MO) (F:Nat->Prop) (c:Ck),a4x s o M h F c->Low M->CkOk s.bs.length c->c.lk d->J M F->∀fuel,
  ∃fuel' M' F' b at'',fuel<=fuel'/\at''<=l.length/\a0A.loop (a0b a4i n) (fuel+e+1) 1 (rz1 M E h s to (at':Int) (r:Int) (k:Int) VS)=a0A.loop (a0b a4i n) fuel' 0 (rz0 M' E h s to ((at'':Nat):Int) ((r:Int)+1) VS)/\a4x s o M' h F' (Ck.close s.ps o b).1/\Low M'/\CkOk s.bs.length (Ck.close s.ps o b).1/\b.lk d/\J M' F':=by
 obtain⟨q1,q2,q3⟩:=a0i hE;rw[List.length_map] at q1;have p3:=(a0i hs.P).2.2;have b3:=(a0i hs.B).2.2;have c3:=(a0i hs.C).2.2;have a3:=(a0i hs.A).2.2;have hr1:=a0C (z:=(r:Int)+1) (by omega);intro e
 induction e with
 | zero =>
  intro k at' hk hat M F c K hM hck has hj fuel;obtain rfl:k=4:=by omega
  obtain⟨M',F',d1,d2,d3⟩:=b7X hs hv ho K hM hck n (by omega);have d1:=evW d1;refine⟨fuel,M',F',c,at',Q0 _,hat,?_,d2,d3.low,c1F hck,has,hJ _ _ _ _ hj d3⟩;simp only[a4e] at d1;have h4:ltB ((4:Nat):Int) 4=false:=rfl;refine a5X (t:=a1t) rfl ?_;simp only[a1t,rz1,rz0,↓reduceIte,a0d,a0h,a0n,a0k,BE.safe,BE.pe,IE.pe,Q3,Q4,Q1,Q5,Q6,a0c,a0l,a0g,Q2,Q7,PEnv.push,Q8,Q9,Qj,SV.pvs,SV.pv,BE.all,Qa,Qb,Qd,h4,d1,a1h,if_pos hr1,]
 | succ e ih =>
  intro k at' hk hat M F c K hM hck has hj fuel;have h4:ltB (k:Int) 4=true:=a0Q.2 (by omega);by_cases ha:at'<l.length
  ·obtain⟨q,hq⟩:=a0U ha
   obtain⟨M',F',d1,d2,d3⟩:=c6q hs hv ho K hM hck n q.i q.w (by omega);have d1:=evW d1;obtain⟨fuel',M2,F2,b,at'',e0,e1,e2,e3⟩:=ih (k+1) (at'+1) (by omega) (by omega) M' F' _ d2 d3.low (c9P hck rfl cs ad o q.i q.w) (d1x has q.i q.w) (hJ _ _ _ _ hj d3) fuel;rw[a1q,a1q] at e2;refine⟨fuel',M2,F2,b,at'',e0,e1,?_,e3⟩;rw[<- e2];have r1:=a1d (off:=1) hE (show (l.map Stp.row)[at']?=some q.row by rw[Qk,hq];rfl);have r3:=a1d (off:=3) hE (show (l.map Stp.row)[at']?=some q.row by rw[Qk,hq];rfl);have lt:ltB (at':Int) (l.length:Int)=true:=a0Q.2 (by omega);have hup:=a3I (show at'<=1000000000 by omega);have hk1:=a0C (z:=(k:Int)+1) (by omega);simp only[a2U,d2G,pv6] at d1 r1 r3;rw[show fuel+(e+1)+1=(fuel+e+1)+1 by omega];refine a5X (t:=a1t) rfl ?_;simp only[a1t,rz1,↓reduceIte,a0d,a0h,a0u,a0n,a0k,BE.safe,BE.pe,IE.pe,PEnv.at,Q3,Q4,Q1,Q5,a0p,a0a,a0P,List.drop_zero,List.length_cons,List.length_nil,Nat.reduceAdd,Q0,Q6,List.take_succ_cons,List.take_zero,a0c,a0l,a0g,Q2,Q7,PEnv.push,Q8,Q9,SV.pvs,SV.pv,BE.all,Qa,Qb,Qd,h4,q1,q2,lt,le0,r1,r3,List.drop_succ_cons,Nat.reduceLeDiff,d1,if_pos hup,if_pos hk1,]
  ·obtain rfl:at'=l.length:=by omega
   obtain⟨M',F',d1,d2,d3⟩:=b7X hs hv ho K hM hck n (by omega);have d1:=evW d1;refine⟨fuel+(e+1),M',F',c,l.length,by omega,Q0 _,?_,d2,d3.low,c1F hck,has,hJ _ _ _ _ hj d3⟩;simp only[a4e] at d1;have nl:ltB (l.length:Int) (l.length:Int)=false:=(a0F ..).2 (by omega);refine a5X (t:=a1t) rfl ?_;simp only[a1t,rz1,rz0,↓reduceIte,a0d,a0h,a0n,a0k,BE.safe,BE.pe,IE.pe,PEnv.at,Q3,Q4,Q1,Q5,Q6,a0c,a0l,a0g,Q2,Q7,PEnv.push,Q8,Q9,Qj,SV.pvs,SV.pv,BE.all,Qa,Qb,Qd,h4,q1,q2,nl,d1,a1h,if_pos hr1,]
end
end Go.Proofs.Ytmekflfjaflmkaa
