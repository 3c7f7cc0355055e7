/- ClockEnds: b1j of bids, the close of a round, and what prices do. -/
import Derived.Test.YtmekflfjaflmkaaHCsA
import Derived.Test.YtmekflfjaflmkaaHEn
set_option linter.unusedSimpArgs false
set_option linter.unusedVariables false
set_option linter.unusedSectionVars false
open List renaming getD_cons_zero → Q0, getD_cons_succ → Q1, getElem?_cons_zero → Q2, getElem?_cons_succ → Q3, map_cons → Q6, map_nil → Q7
open Option renaming map_some → Q4, bind_some → Q5
open Bool renaming false_eq_true → Q8, not_true → Q9, and_self → Qa, eq_iff_iff → Qb, not_false → Qd
set_option maxRecDepth 100000
namespace Go.Proofs.Ytmekflfjaflmkaa
open Go.Sx
def d7x(f:Nat):Option Sx.Sys:=if f=d7N then some d7u else a4i f
theorem d8G:∀f S,d7x f=some S->SysOk Try.prog f S:=by
 intro f S h;unfold d7x at h;split at h
 ·rename_i hf;subst hf;cases h;exact d8h
 ·exact d2R f S h
theorem d8z:∀f S,a4i f=some S->d7x f=some S:=by
 intro f S h;unfold d7x;rw[if_neg (by rintro rfl;exact absurd (h.symm.trans (show a4i d7N=none by kernel_rfl)) (by simp))];exact h
theorem evE{n:Nat}{f:Nat}{a:List PV}{m:List MO}{r:PV×List MO}(h:a0b Tab n f a m=some r):a0b d7x n f a m=some r:=c2I d8z n f a m r (evW h)
theorem awE(n:Nat)(σ:List MO):a0b d7x (n+1) a0G [] σ=some (.bool true,σ):=c2I d8z _ _ _ _ _ (awW n σ)
def en0(M:List MO)(E:PV)(h:Nat)(s:St)(o:Po)(sp:W6):PEnv:={i:=[o.st,o.pc,o.un,o.ru,sp.a,sp.b,sp.c,sp.d,sp.e,sp.f],b:=[],v:=[E,.ref h 0,s.P,s.B,s.C,s.A],m:=M,k:=0}
def en1(M:List MO)(E:PV)(h:Nat)(s:St)(o:Po)(sp:W6)(k:Int):PEnv:={i:=[k,o.st,o.pc,o.un,o.ru,sp.a,sp.b,sp.c,sp.d,sp.e,sp.f],b:=[false,true],v:=[E,.ref h 0,s.P,s.B,s.C,s.A],m:=M,k:=0}
def en2(M:List MO)(E R:PV)(h:Nat)(s:St)(o:Po)(at' r x y:Int)(sp bf ex af:W6)(b:List Bool):PEnv:={i:=[at',r,x,y,o.st,o.pc,o.un,o.ru,sp.a,sp.b,sp.c,sp.d,sp.e,sp.f,bf.a,bf.b,bf.c,bf.d,bf.e,bf.f,ex.a,ex.b,ex.c,ex.d,ex.e,ex.f,af.a,af.b,af.c,af.d,af.e,af.f],b:=b,v:=[E,.ref h 0,R,s.P,s.B,s.C,s.A],m:=M,k:=0}
def en9(M:List MO)(E R:PV)(h:Nat)(s:St)(o:Po)(at' r x y z:Int)(sp:W6)(b:List Bool):PEnv:={i:=[at',r,x,y,z,o.st,o.pc,o.un,o.ru,sp.a,sp.b,sp.c,sp.d,sp.e,sp.f],b:=b,v:=[E,.ref h 0,R,s.P,s.B,s.C,s.A],m:=M,k:=0}
def d8u(M:List MO)(E R:PV)(h:Nat)(s:St)(o:Po)(at' r k x y z:Int)(sp:W6)(b:List Bool):PEnv:={i:=[at',r,k,x,y,z,o.st,o.pc,o.un,o.ru,sp.a,sp.b,sp.c,sp.d,sp.e,sp.f],b:=b,v:=[E,.ref h 0,R,s.P,s.B,s.C,s.A],m:=M,k:=0}
def d8a(ov:Bool)(b e a:Int):Prop:=b<=a/\(ov=false->(b<a↔0<e))/\(ov=true->a=b)
section
variable {M:List MO}{E R:PV}{h:Nat}{s:St}{o:Po}(oE:E.one=true)(oR:R.one=true)(p3:s.P.one=true)(b3:s.B.one=true)(c3:s.C.one=true)(a3:s.A.one=true)(n:Nat)
include oE oR p3 b3 c3 a3
theorem d8L(at' r x y:Int)(sp bf ex af:W6)(ov:Bool)(hp:d8a ov bf.a ex.a af.a)(bs:List Bool)(fuel:Nat) :
  ∃bs',bs'.length=10/\d7u.loop (a0b d7x n) (fuel+1) 2 (en2 M E R h s o at' r x y sp bf ex af (ov::bs))=d7u.loop (a0b d7x n) fuel 3 (en2 M E R h s o at' r x y sp bf ex af (ov::bs')):=by
 obtain⟨h1,h2,h3⟩:=hp;have l1:ltB af.a bf.a=false:=(a0F ..).2 (by omega);have eb:∀b:Bool,(b||!b)=true:=fun b=>by cases b<;>rfl
 cases ov with
 | false =>
  have h4:ltB bf.a af.a=ltB 0 ex.a:=Qb.2 (by rw[a0Q,a0Q];exact h2 rfl);refine⟨[bs.getD 0 false,bs.getD 1 false,bs.getD 2 false,bs.getD 3 false,bs.getD 4 false,true,true,!(ltB 0 ex.a||!ltB 0 ex.a),false,false],rfl,a5X (t:=saleroomlaw39_ClockEnds_t2) rfl ?_⟩;simp only[saleroomlaw39_ClockEnds_t2,en2,↓reduceIte,a0d,a0k,BE.safe,BE.pe,IE.pe,Q0,Q1,Q2,Q3,Q8,Q4,Q5,SV.pvs,SV.pv,BE.all,Qa,Q9,Qd,Q6,Q7,l1,h4,eb]
 | true =>
  have h5:eqB af.a bf.a=true:=dT0 (h3 rfl);refine⟨[bs.getD 0 false,bs.getD 1 false,bs.getD 2 false,bs.getD 3 false,bs.getD 4 false,false,false,false,true,!eqB af.a bf.a],rfl,a5X (t:=saleroomlaw39_ClockEnds_t2) rfl ?_⟩;simp only[saleroomlaw39_ClockEnds_t2,en2,↓reduceIte,a0d,a0k,BE.safe,BE.pe,IE.pe,Q0,Q1,Q2,Q3,Q8,Q4,Q5,SV.pvs,SV.pv,BE.all,Q9,Q6,Q7,l1,h5]
theorem d8O(at' r x y:Int)(sp bf ex af:W6)(ov:Bool)(hp:d8a ov bf.b ex.b af.b)(bs:List Bool)(fuel:Nat) :
  ∃bs',bs'.length=10/\d7u.loop (a0b d7x n) (fuel+1) 3 (en2 M E R h s o at' r x y sp bf ex af (ov::bs))=d7u.loop (a0b d7x n) fuel 4 (en2 M E R h s o at' r x y sp bf ex af (ov::bs')):=by
 obtain⟨h1,h2,h3⟩:=hp;have l1:ltB af.b bf.b=false:=(a0F ..).2 (by omega);have eb:∀b:Bool,(b||!b)=true:=fun b=>by cases b<;>rfl
 cases ov with
 | false =>
  have h4:ltB bf.b af.b=ltB 0 ex.b:=Qb.2 (by rw[a0Q,a0Q];exact h2 rfl);refine⟨[bs.getD 0 false,bs.getD 1 false,bs.getD 2 false,bs.getD 3 false,bs.getD 4 false,true,true,!(ltB 0 ex.b||!ltB 0 ex.b),false,false],rfl,a5X (t:=saleroomlaw39_ClockEnds_t3) rfl ?_⟩;simp only[saleroomlaw39_ClockEnds_t3,en2,↓reduceIte,a0d,a0k,BE.safe,BE.pe,IE.pe,Q0,Q1,Q2,Q3,Q8,Q4,Q5,SV.pvs,SV.pv,BE.all,Qa,Q9,Qd,Q6,Q7,l1,h4,eb]
 | true =>
  have h5:eqB af.b bf.b=true:=dT0 (h3 rfl);refine⟨[bs.getD 0 false,bs.getD 1 false,bs.getD 2 false,bs.getD 3 false,bs.getD 4 false,false,false,false,true,!eqB af.b bf.b],rfl,a5X (t:=saleroomlaw39_ClockEnds_t3) rfl ?_⟩;simp only[saleroomlaw39_ClockEnds_t3,en2,↓reduceIte,a0d,a0k,BE.safe,BE.pe,IE.pe,Q0,Q1,Q2,Q3,Q8,Q4,Q5,SV.pvs,SV.pv,BE.all,Q9,Q6,Q7,l1,h5]
theorem d8N(at' r x y:Int)(sp bf ex af:W6)(ov:Bool)(hp:d8a ov bf.c ex.c af.c)(bs:List Bool)(fuel:Nat) :
  ∃bs',bs'.length=10/\d7u.loop (a0b d7x n) (fuel+1) 4 (en2 M E R h s o at' r x y sp bf ex af (ov::bs))=d7u.loop (a0b d7x n) fuel 5 (en2 M E R h s o at' r x y sp bf ex af (ov::bs')):=by
 obtain⟨h1,h2,h3⟩:=hp;have l1:ltB af.c bf.c=false:=(a0F ..).2 (by omega);have eb:∀b:Bool,(b||!b)=true:=fun b=>by cases b<;>rfl
 cases ov with
 | false =>
  have h4:ltB bf.c af.c=ltB 0 ex.c:=Qb.2 (by rw[a0Q,a0Q];exact h2 rfl);refine⟨[bs.getD 0 false,bs.getD 1 false,bs.getD 2 false,bs.getD 3 false,bs.getD 4 false,true,true,!(ltB 0 ex.c||!ltB 0 ex.c),false,false],rfl,a5X (t:=saleroomlaw39_ClockEnds_t4) rfl ?_⟩;simp only[saleroomlaw39_ClockEnds_t4,en2,↓reduceIte,a0d,a0k,BE.safe,BE.pe,IE.pe,Q0,Q1,Q2,Q3,Q8,Q4,Q5,SV.pvs,SV.pv,BE.all,Qa,Q9,Qd,Q6,Q7,l1,h4,eb]
 | true =>
  have h5:eqB af.c bf.c=true:=dT0 (h3 rfl);refine⟨[bs.getD 0 false,bs.getD 1 false,bs.getD 2 false,bs.getD 3 false,bs.getD 4 false,false,false,false,true,!eqB af.c bf.c],rfl,a5X (t:=saleroomlaw39_ClockEnds_t4) rfl ?_⟩;simp only[saleroomlaw39_ClockEnds_t4,en2,↓reduceIte,a0d,a0k,BE.safe,BE.pe,IE.pe,Q0,Q1,Q2,Q3,Q8,Q4,Q5,SV.pvs,SV.pv,BE.all,Q9,Q6,Q7,l1,h5]
theorem d8I(at' r x y:Int)(sp bf ex af:W6)(ov:Bool)(hp:d8a ov bf.d ex.d af.d)(bs:List Bool)(fuel:Nat) :
  ∃bs',bs'.length=10/\d7u.loop (a0b d7x n) (fuel+1) 5 (en2 M E R h s o at' r x y sp bf ex af (ov::bs))=d7u.loop (a0b d7x n) fuel 6 (en2 M E R h s o at' r x y sp bf ex af (ov::bs')):=by
 obtain⟨h1,h2,h3⟩:=hp;have l1:ltB af.d bf.d=false:=(a0F ..).2 (by omega);have eb:∀b:Bool,(b||!b)=true:=fun b=>by cases b<;>rfl
 cases ov with
 | false =>
  have h4:ltB bf.d af.d=ltB 0 ex.d:=Qb.2 (by rw[a0Q,a0Q];exact h2 rfl);refine⟨[bs.getD 0 false,bs.getD 1 false,bs.getD 2 false,bs.getD 3 false,bs.getD 4 false,true,true,!(ltB 0 ex.d||!ltB 0 ex.d),false,false],rfl,a5X (t:=saleroomlaw39_ClockEnds_t5) rfl ?_⟩;simp only[saleroomlaw39_ClockEnds_t5,en2,↓reduceIte,a0d,a0k,BE.safe,BE.pe,IE.pe,Q0,Q1,Q2,Q3,Q8,Q4,Q5,SV.pvs,SV.pv,BE.all,Qa,Q9,Qd,Q6,Q7,l1,h4,eb]
 | true =>
  have h5:eqB af.d bf.d=true:=dT0 (h3 rfl);refine⟨[bs.getD 0 false,bs.getD 1 false,bs.getD 2 false,bs.getD 3 false,bs.getD 4 false,false,false,false,true,!eqB af.d bf.d],rfl,a5X (t:=saleroomlaw39_ClockEnds_t5) rfl ?_⟩;simp only[saleroomlaw39_ClockEnds_t5,en2,↓reduceIte,a0d,a0k,BE.safe,BE.pe,IE.pe,Q0,Q1,Q2,Q3,Q8,Q4,Q5,SV.pvs,SV.pv,BE.all,Q9,Q6,Q7,l1,h5]
theorem d8K(at' r x y:Int)(sp bf ex af:W6)(ov:Bool)(hp:d8a ov bf.e ex.e af.e)(bs:List Bool)(fuel:Nat) :
  ∃bs',bs'.length=10/\d7u.loop (a0b d7x n) (fuel+1) 6 (en2 M E R h s o at' r x y sp bf ex af (ov::bs))=d7u.loop (a0b d7x n) fuel 7 (en2 M E R h s o at' r x y sp bf ex af (ov::bs')):=by
 obtain⟨h1,h2,h3⟩:=hp;have l1:ltB af.e bf.e=false:=(a0F ..).2 (by omega);have eb:∀b:Bool,(b||!b)=true:=fun b=>by cases b<;>rfl
 cases ov with
 | false =>
  have h4:ltB bf.e af.e=ltB 0 ex.e:=Qb.2 (by rw[a0Q,a0Q];exact h2 rfl);refine⟨[bs.getD 0 false,bs.getD 1 false,bs.getD 2 false,bs.getD 3 false,bs.getD 4 false,true,true,!(ltB 0 ex.e||!ltB 0 ex.e),false,false],rfl,a5X (t:=saleroomlaw39_ClockEnds_t6) rfl ?_⟩;simp only[saleroomlaw39_ClockEnds_t6,en2,↓reduceIte,a0d,a0k,BE.safe,BE.pe,IE.pe,Q0,Q1,Q2,Q3,Q8,Q4,Q5,SV.pvs,SV.pv,BE.all,Qa,Q9,Qd,Q6,Q7,l1,h4,eb]
 | true =>
  have h5:eqB af.e bf.e=true:=dT0 (h3 rfl);refine⟨[bs.getD 0 false,bs.getD 1 false,bs.getD 2 false,bs.getD 3 false,bs.getD 4 false,false,false,false,true,!eqB af.e bf.e],rfl,a5X (t:=saleroomlaw39_ClockEnds_t6) rfl ?_⟩;simp only[saleroomlaw39_ClockEnds_t6,en2,↓reduceIte,a0d,a0k,BE.safe,BE.pe,IE.pe,Q0,Q1,Q2,Q3,Q8,Q4,Q5,SV.pvs,SV.pv,BE.all,Q9,Q6,Q7,l1,h5]
theorem d8J(at' r x y:Int)(sp bf ex af:W6)(ov:Bool)(hp:d8a ov bf.f ex.f af.f)(bs:List Bool)(fuel:Nat) :
  ∃bs',bs'.length=10/\d7u.loop (a0b d7x n) (fuel+1) 7 (en2 M E R h s o at' r x y sp bf ex af (ov::bs))=d7u.loop (a0b d7x n) fuel 8 (en2 M E R h s o at' r x y sp bf ex af (ov::bs')):=by
 obtain⟨h1,h2,h3⟩:=hp;have l1:ltB af.f bf.f=false:=(a0F ..).2 (by omega);have eb:∀b:Bool,(b||!b)=true:=fun b=>by cases b<;>rfl
 cases ov with
 | false =>
  have h4:ltB bf.f af.f=ltB 0 ex.f:=Qb.2 (by rw[a0Q,a0Q];exact h2 rfl);refine⟨[bs.getD 0 false,bs.getD 1 false,bs.getD 2 false,bs.getD 3 false,bs.getD 4 false,true,true,!(ltB 0 ex.f||!ltB 0 ex.f),false,false],rfl,a5X (t:=saleroomlaw39_ClockEnds_t7) rfl ?_⟩;simp only[saleroomlaw39_ClockEnds_t7,en2,↓reduceIte,a0d,a0k,BE.safe,BE.pe,IE.pe,Q0,Q1,Q2,Q3,Q8,Q4,Q5,SV.pvs,SV.pv,BE.all,Qa,Q9,Qd,Q6,Q7,l1,h4,eb]
 | true =>
  have h5:eqB af.f bf.f=true:=dT0 (h3 rfl);refine⟨[bs.getD 0 false,bs.getD 1 false,bs.getD 2 false,bs.getD 3 false,bs.getD 4 false,false,false,false,true,!eqB af.f bf.f],rfl,a5X (t:=saleroomlaw39_ClockEnds_t7) rfl ?_⟩;simp only[saleroomlaw39_ClockEnds_t7,en2,↓reduceIte,a0d,a0k,BE.safe,BE.pe,IE.pe,Q0,Q1,Q2,Q3,Q8,Q4,Q5,SV.pvs,SV.pv,BE.all,Q9,Q6,Q7,l1,h5]
theorem d8A(at' x y:Int){r:Nat}(hr:r<=100)(sp bf ex af:W6)(ov:Bool)(h1:d8a ov bf.a ex.a af.a)(h2:d8a ov bf.b ex.b af.b)(h3:d8a ov bf.c ex.c af.c)(h4:d8a ov bf.d ex.d af.d)(h5:d8a ov bf.e ex.e af.e)(h6:d8a ov bf.f ex.f af.f)(bs:List Bool)(fuel:Nat) :
  ∃x' y' z' bs',bs'.length=11/\d7u.loop (a0b d7x n) (fuel+1+1+1+1+1+1+1) 2 (en2 M E R h s o at' (r:Int) x y sp bf ex af (ov::bs))=d7u.loop (a0b d7x n) fuel 9 (en9 M E R h s o at' ((r:Int)+1) x' y' z' sp bs'):=by
 obtain⟨b1,l1,e1⟩:=d8L (M:=M) (h:=h) (o:=o) oE oR p3 b3 c3 a3 n at' (r:Int) x y sp bf ex af ov h1 bs (fuel+1+1+1+1+1+1);obtain⟨b2,l2,e2⟩:=d8O (M:=M) (h:=h) (o:=o) oE oR p3 b3 c3 a3 n at' (r:Int) x y sp bf ex af ov h2 b1 (fuel+1+1+1+1+1);obtain⟨b3',l3,e3⟩:=d8N (M:=M) (h:=h) (o:=o) oE oR p3 b3 c3 a3 n at' (r:Int) x y sp bf ex af ov h3 b2 (fuel+1+1+1+1);obtain⟨b4,l4,e4⟩:=d8I (M:=M) (h:=h) (o:=o) oE oR p3 b3 c3 a3 n at' (r:Int) x y sp bf ex af ov h4 b3' (fuel+1+1+1);obtain⟨b5,l5,e5⟩:=d8K (M:=M) (h:=h) (o:=o) oE oR p3 b3 c3 a3 n at' (r:Int) x y sp bf ex af ov h5 b4 (fuel+1+1);obtain⟨b6,l6,e6⟩:=d8J (M:=M) (h:=h) (o:=o) oE oR p3 b3 c3 a3 n at' (r:Int) x y sp bf ex af ov h6 b5 (fuel+1);have hup:=a3I (show r<=1000000000 by omega);refine⟨x,(r:Int),y,[b6.getD 0 false,b6.getD 1 false,b6.getD 2 false,ov,b6.getD 3 false,b6.getD 4 false,b6.getD 5 false,b6.getD 6 false,b6.getD 7 false,b6.getD 8 false,b6.getD 9 false],rfl,?_⟩;rw[e1,e2,e3,e4,e5,e6];refine a5X (t:=saleroomlaw39_ClockEnds_t8) rfl ?_;simp only[saleroomlaw39_ClockEnds_t8,en2,en9,↓reduceIte,a0h,a0k,BE.safe,BE.pe,IE.pe,Q0,Q1,Q2,Q3,Q4,Q5,SV.pvs,SV.pv,BE.all,Qa,Q6,Q7,if_pos hup]
end
theorem d8s{N:Nat}{c:Ck}{ps:List Pr}{o:Po}(ho:o.ok)(hk:CkOk N c)(hov:c.over=false):(c.close ps o).2.1=(c.close ps o).1.over/\(c.close ps o).2.2=0/\d8a (c.close ps o).1.over c.p.a (c.ex ps o).a (c.close ps o).1.p.a/\d8a (c.close ps o).1.over c.p.b (c.ex ps o).b (c.close ps o).1.p.b/\d8a (c.close ps o).1.over c.p.c (c.ex ps o).c (c.close ps o).1.p.c/\d8a (c.close ps o).1.over c.p.d (c.ex ps o).d (c.close ps o).1.p.d/\d8a (c.close ps o).1.over c.p.e (c.ex ps o).e (c.close ps o).1.p.e/\d8a (c.close ps o).1.over c.p.f (c.ex ps o).f (c.close ps o).1.p.f:=by
 rw[c1J c ps o hov];unfold Ck.closeTo;have same:∀b e:Int,d8a true b e b:=fun b e=>⟨Int.le_refl _,fun h=>by simp at h,fun _=>rfl⟩
 have up:∀b e:Int,0<=b->b<=1000000->d8a false b e (if 0<e then rsI o b else b):=fun b e h0 h1=>by
  have h2:=(d5u ho h0 h1).2.2.2.2;split
  ·rename_i he
   exact⟨by omega,fun _=>⟨fun _=>he,fun _=>h2⟩,fun h=>by simp at h⟩
  ·rename_i he
   exact⟨Int.le_refl _,fun _=>⟨fun h=>by omega,fun h=>absurd h he⟩,fun h=>by simp at h⟩
 have hp:=hk.p;unfold W6.pok at hp;split
 ·exact⟨rfl,rfl,same _ _,same _ _,same _ _,same _ _,same _ _,same _ _⟩
 ·exact⟨rfl,rfl,up _ _ (by omega) (by omega),up _ _ (by omega) (by omega),up _ _ (by omega) (by omega),up _ _ (by omega) (by omega),up _ _ (by omega) (by omega),up _ _ (by omega) (by omega)⟩
end Go.Proofs.Ytmekflfjaflmkaa
