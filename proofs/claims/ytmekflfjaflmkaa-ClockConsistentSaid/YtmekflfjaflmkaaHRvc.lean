/- What Check returns is accepted. -/
import Derived.Test.YtmekflfjaflmkaaHRvb
set_option linter.unusedSimpArgs false
set_option linter.unusedVariables false
set_option linter.unusedSectionVars false
open List renaming all_eq_true → Q0, mem_iff_getElem? → Q3, getElem?_eq_some_iff → Q4
open Bool renaming and_eq_true → Q1
open Option renaming getD_some → Q2
set_option maxRecDepth 100000
namespace Go.Proofs.Ytmekflfjaflmkaa
open Go.Sx Go.Bf
theorem e0d{f:Nat->Int}{z j m i:Nat}(hi:i<m):(a1I f z j m).reverse[i]?=some (a0q f z (j+(m-1-i)):Int):=by
 rw[List.getElem?_reverse (by rw[a8s];exact hi),a8s,e0F (by omega)]
theorem e0q(l:List Ch)(x y:Nat):b3p (b1R l (x:Int)) (b1R l (y:Int))=gN l x y:=rfl
theorem e0X{l:List Ch}{v f:Nat->Int}{c t:Nat->Nat}{z j k:Nat}(h:Go.Bf.Fin l.length (gN l) v f c t z)(hjk:j<k)(hk:k<=l.length)(he:a0q f z k=a0q f z j) :
  d8W l (a1I f z j (k-j)).reverse (a1I f z j (k-j)).reverse.length<0:=by
 obtain⟨i0,a1,a2,a3⟩:=h.strict hjk hk he;have len:(a1I f z j (k-j)).reverse.length=k-j:=by simp[a8s]
 rw[len]
 have step:∀i,i+1<k-j->d9T l (a1I f z j (k-j)).reverse i=gN l (a0q f z (k-2-i+1)) (a0q f z (k-2-i)):=by
  intro i hi;unfold d9T;rw[len,Nat.mod_eq_of_lt hi,e0d (by omega),e0d hi];simp only[Q2];rw[e0q,show j+(k-j-1-i)=k-2-i+1 by omega,show j+(k-j-1-(i+1))=k-2-i by omega]
 have last:d9T l (a1I f z j (k-j)).reverse (k-j-1)=gN l (a0q f z (k-1+1)) (a0q f z (k-1)):=by
  unfold d9T;rw[len,show k-j-1+1=k-j by omega,Nat.mod_self,e0d (by omega),e0d (by omega)];simp only[Q2];rw[e0q,show j+(k-j-1-(k-j-1))=j by omega,show j+(k-j-1-0)=k-1 by omega,show k-1+1=k by omega,he]
 have key:∀i,i+1<=k-j->d8W l (a1I f z j (k-j)).reverse i+(if k-1-i<=i0/\i0<k-1 then 1 else 0)<=v (a0q f z (k-1-i))-v (a0q f z (k-1)):=by
  intro i
  induction i with
  | zero =>
   intro _;rw[if_neg (by omega)];simp[d8W]
  | succ i ih =>
   intro hi;have ih:=ih (by omega);have l0:=h.link (i:=k-2-i) (by omega);rw[d8W,step i (by omega)];rw[show k-1-(i+1)=k-2-i by omega];have e1:k-1-i=k-2-i+1:=by omega
   rw[e1] at ih;by_cases hs:i0=k-2-i
   ·rw[if_neg (by omega)] at ih
    rw[if_pos (by omega)];rw[hs] at a3;omega
   ·by_cases hc:k-2-i+1<=i0/\i0<k-1
    ·rw[if_pos hc] at ih
     rw[if_pos (by omega)];have:=l0.2.2.1;omega
    ·rw[if_neg hc] at ih
     rw[if_neg (by omega)];have:=l0.2.2.1;omega
 have k1:=key (k-j-1) (by omega);obtain⟨q,hq⟩:∃q,k-j=q+1:=⟨k-j-1,by omega⟩
 have k2:d8W l (a1I f z j (k-j)).reverse (k-j)=d8W l (a1I f z j (k-j)).reverse (k-j-1)+d9T l (a1I f z j (k-j)).reverse (k-j-1):=by
  conv=>lhs;arg 3;rw[hq]
  rw[d8W,show k-j-1=q by omega]
 rw[k2,last];have l1:=h.link (i:=k-1) (by omega);have e2:k-1+1=k:=by omega
 rw[show k-1-(k-j-1)=j by omega] at k1;have hve:v (a0q f z k)=v (a0q f z j):=by rw[he]
 rw[e2] at l1 ⊢;by_cases hs:i0=k-1
 ·rw[if_neg (by omega)] at k1
  rw[hs,e2] at a3;omega
 ·rw[if_pos (by omega)] at k1
  have:=l1.2.2.1;omega
theorem e0j{l:List Ch}(hok:∀x∈l,x.ok)(hl:l.length<=30){v f:Nat->Int}{c t:Nat->Nat}{z j k:Nat}(h:Go.Bf.Fin l.length (gN l) v f c t z)(hjk:j<k)(hk:k<=l.length)(he:a0q f z k=a0q f z j) :
  d9v l (a1I f z j (k-j)).reverse []=0:=by
 have hall:(l.all fun x=>decide x.ok)=true:=Q0.2 fun x hx=>dT0 (hok x hx)
 have len:(a1I f z j (k-j)).reverse.length=k-j:=by simp[a8s]
 have hform:d9x l.length (a1I f z j (k-j)).reverse []=true:=by
  unfold d9x;rw[len]
  have h1:(a1I f z j (k-j)).reverse.all (d9e l.length)=true:=by
   rw[Q0];intro x hx;rw[List.mem_reverse,b9F] at hx;obtain⟨i,hi,rfl⟩:=hx;have:=(h.at_lt (j+i) (by omega)).1;simp only[d9e,decide_eq_true_eq];omega
  rw[h1];simp;omega
 unfold d9v;rw[if_pos hall,if_pos hform,if_neg (by rw[len];omega),if_neg (by have:=e0X h hjk hk he;omega)]
theorem e0D(l:List Ch)(vs:List Int):∀(N x:Nat),x<N->a8i (b1R l (x:Int)).p (b1R l (x:Int)).w-at' vs x<=rs0 l vs N
 | 0,x,h=>by omega
 | N+1,x,h=>by
  rw[rs0];by_cases e:x=N
  ·subst e;unfold mxI;split<;>omega
  ·have:=e0D l vs N x (by omega)
   unfold mxI;split<;>omega
theorem e0l(l:List Ch)(vs:List Int)(r0:Int):∀N:Nat,(∃x:Nat,x<N/\(b1R l (x:Int)).w.isZ=true/\rs1 l vs r0 N=0-at' vs x)\/((∀x:Nat,x<N->(b1R l (x:Int)).w.isZ=false)/\rs1 l vs r0 N=r0)
 | 0=>.inr ⟨fun x h=>by omega,rfl⟩
 | N+1=>by
  by_cases hz:(b1R l (N:Int)).w.isZ=true
  ·exact .inl ⟨N,by omega,hz,by rw[rs1,if_pos hz]⟩
  ·rcases e0l l vs r0 N with ⟨x,h1,h2,h3⟩|⟨h1,h2⟩
   ·exact .inl ⟨x,by omega,h2,by rw[rs1,if_neg hz];exact h3⟩
   ·refine .inr ⟨fun x hx=>?_,by rw[rs1,if_neg hz];exact h2⟩
    by_cases e:x=N
    ·subst e;exact Bool.not_eq_true _▸hz
    ·exact h1 x (by omega)
theorem e0H(p:CV):e0e p=true↔a8i p.1.p p.1.w<=p.2/\(p.1.w.isZ=true->p.2=0):=by
 unfold e0e;rw[Q1,decide_eq_true_iff,Bool.or_eq_true,b3B];cases p.1.w.isZ<;>simp
theorem d9O{w:W6}(h:w.isZ=true)(p:W6):a8i p w=0:=by
 obtain⟨a,b,c,d,e,f⟩:=w;simp only[W6.isZ,Q1,b3B] at h;obtain⟨rfl,rfl,rfl,rfl,rfl,rfl⟩:=h;simp[a8i]
theorem e0m{l:List Ch}(hok:∀x∈l,x.ok){vs:List Int}(hvs:vs.length=l.length)(hst:∀x y,x<l.length->y<l.length->at' vs y<=at' vs x+gN l x y)(hb:∀x,x<l.length->-648000000000<=at' vs x/\at' vs x<=0) :
  d9v l [] (vs.map (·+a7B l vs))=0:=by
 have hall:(l.all fun x=>decide x.ok)=true:=Q0.2 fun x hx=>dT0 (hok x hx)
 have b0:=c9m hok hb l.length (Nat.le_refl _);have b1:=c9T hb b0 l.length (Nat.le_refl _);have hr:0<=a7B l vs/\a7B l vs<=648024000000:=b1;have hz:=e0l l vs (rs0 l vs l.length) l.length;have hge:=e0D l vs l.length;rw[show rs1 l vs (rs0 l vs l.length) l.length=a7B l vs from rfl] at hz;generalize a7B l vs=r at *
 have gch:∀x y:Nat,gN l x y=a8i (b1R l (x:Int)).p (b1R l (y:Int)).w-a8i (b1R l (x:Int)).p (b1R l (x:Int)).w:=fun _ _=>rfl
 have own:∀x:Nat,x<l.length->a8i (b1R l (x:Int)).p (b1R l (x:Int)).w<=at' vs x+r/\((b1R l (x:Int)).w.isZ=true->at' vs x+r=0):=by
  intro x hx;rcases hz with ⟨y,h1,h2,h3⟩|⟨h1,h2⟩
  ·have g1:=hst x y hx h1
   rw[gch,d9O h2] at g1;refine⟨by omega,fun hxz=>?_⟩;have g2:=hst y x h1 hx;rw[gch,d9O h2,d9O hxz] at g2;rw[d9O hxz] at g1;omega
  ·have:=hge x hx
   refine⟨by omega,fun hxz=>?_⟩;rw[h1 x hx] at hxz;cases hxz
 have at_map:∀x:Nat,x<l.length->at' (vs.map (·+r)) x=at' vs x+r:=fun x hx=>by
  have:=a9c (l:=vs) (i:=x) (by omega);show ((vs.map (·+r))[x]?).getD 0=_;rw[List.getElem?_map,this];rfl
 have hform:d9x l.length [] (vs.map (·+r))=true:=by
  unfold d9x
  have h1:(vs.map (·+r)).all d9k=true:=by
   rw[Q0];intro z hz;obtain⟨y,hy,rfl⟩:=List.mem_map.1 hz;obtain⟨x,hx⟩:=Q3.1 hy;have hxl:=(Q4.1 hx).1;have:=hb x (by omega);have e:at' vs x=y:=by simp[at',hx]
   rw[e] at this;simp only[d9k,decide_eq_true_eq];omega
  rw[h1];rfl
 have hex:d9K (l.zip (vs.map (·+r)))=true:=by
  have at_zip:∀p∈l.zip (vs.map (·+r)),∃x:Nat,x<l.length/\p=(b1R l (x:Int),at' vs x+r):=by
   intro p hp;obtain⟨x,hx⟩:=Q3.1 hp;have hxl:=(Q4.1 hx).1;rw[List.length_zip] at hxl;have:=e0r (chN (x:=x) (l:=l) (by omega)) (a9c (l:=vs.map (·+r)) (i:=x) (by omega));rw[hx] at this;refine⟨x,by omega,?_⟩;rw[Option.some.inj this,at_map x (by omega)]
  unfold d9K;rw[Q0];intro p hp;obtain⟨x,hx,rfl⟩:=at_zip p hp;rw[Q1];constructor
  ·obtain⟨o1,o2⟩:=own x hx
   rw[e0H];exact⟨o1,o2⟩
  ·rw[Q0]
   intro q hq;obtain⟨y,hy,rfl⟩:=at_zip q hq;rw[e0L];have:=hst x y hx hy;rw[gch] at this;simp only;omega
 unfold d9v;rw[if_pos hall,if_pos hform,if_pos List.length_nil,hex,Bool.and_true,if_pos (by simp[hvs])]
end Go.Proofs.Ytmekflfjaflmkaa
