/- Bundles, as six integers: plain. -/
import Derived.Test.YthmkfeiapdbojaaHTxc
set_option linter.unusedSimpArgs false
set_option linter.unusedVariables false
open Nat renaming div_div_eq_div_mul → Q0, mod_lt → Q1, mul_le_mul_right → Q2, add_mul → Q4, mod_eq_of_lt → Q5, succ_mul → Q7, div_eq_of_lt → Q8
open Int renaming natCast_add → Q3, natCast_mul → Q6, zero_mul → Q9, zero_add → Qa
open List renaming flatMap_cons → Qb, length_cons → Qd
namespace Go.Bun
open Go.Sx
structure Bd where
 a:Int
 b:Int
 c:Int
 d:Int
 e:Int
 f:Int
 deriving DecidableEq,Inhabited,Repr
namespace Bd
def l (x:Bd):List Int:=[x.a,x.b,x.c,x.d,x.e,x.f]
def cs (x:Bd):List Value:=[.int .i64 x.a,.int .i64 x.b,.int .i64 x.c,.int .i64 x.d,.int .i64 x.e,.int .i64 x.f]
def v (x:Bd):Value:=.agg #[.int .i64 x.a,.int .i64 x.b,.int .i64 x.c,.int .i64 x.d,.int .i64 x.e,.int .i64 x.f]
def zero:Bd:=⟨0,0,0,0,0,0⟩
def all (p:Int->Prop) (x:Bd):Prop:=p x.a/\p x.b/\p x.c/\p x.d/\p x.e/\p x.f
def map (g:Int->Int) (x:Bd):Bd:=⟨g x.a,g x.b,g x.c,g x.d,g x.e,g x.f⟩
def d3P (g:Int->Int->Int) (x y:Bd):Bd:=⟨g x.a y.a,g x.b y.b,g x.c y.c,g x.d y.d,g x.e y.e,g x.f y.f⟩
def Ok (x:Bd):Prop:=(0<=x.a/\x.a<=4)/\(0<=x.b/\x.b<=4)/\(0<=x.c/\x.c<=4)/\(0<=x.d/\x.d<=4)/\(0<=x.e/\x.e<=4)/\(0<=x.f/\x.f<=4)
instance (x:Bd):Decidable x.Ok:=by unfold Ok; exact inferInstance
def check (x:Bd):Int:=if x.Ok then 0 else 4
def Le (x y:Bd):Prop:=x.a<=y.a/\x.b<=y.b/\x.c<=y.c/\x.d<=y.d/\x.e<=y.e/\x.f<=y.f
instance (x y:Bd):Decidable (Le x y):=by unfold Le; exact inferInstance
def add (x y:Bd):Bd:=d3P (·+·) x y
def sub (x y:Bd):Bd:=d3P (·-·) x y
def fits (x:Bd):Prop:=x.all fun n=>-9223372036854775808<=n/\n<=9223372036854775807
def d2I (x:Bd):Int:=if x.Ok then
 (let n:=(x.a+1)*(x.b+1)*(x.c+1)*(x.d+1)*(x.e+1)*(x.f+1); if 1024 < n then 0 else n) else 0
end Bd
end Go.Bun
namespace Go.Bun
open Go.Sx
theorem mulB {x y A B:Int} (hx:0<=x/\x<=A) (hy:0<=y/\y<=B):0<=x*y/\x*y<=A*B :=
 ⟨Int.mul_nonneg hx.1 hy.1,Int.mul_le_mul hx.2 hy.2 hy.1 (Int.le_trans hx.1 hx.2)⟩
theorem b5H {x y:Int} (hx:0<=x) (hy:0 < y):0<=x.tdiv y/\x.tdiv y<=x:=by
 rw [Int.tdiv_eq_ediv_of_nonneg hx]
 exact ⟨Int.ediv_nonneg hx (by omega),Int.ediv_le_self _ hx⟩
namespace Bd
def prod (x:Bd):Int:=1*(x.a+1)*(x.b+1)*(x.c+1)*(x.d+1)*(x.e+1)*(x.f+1)
def cnt (x:Bd):Int:=if x.Ok then (if 1024 < x.prod then 0 else x.prod) else 0
def horner (s b:Bd):Int:=(((((0*(s.a+1)+b.a)*(s.b+1)+b.b)*(s.c+1)+b.c)*(s.d+1)+b.d)*(s.e+1)+b.e)*(s.f+1)+b.f
def unr (s:Bd) (n:Int):Bd :=
 ⟨((((((n.tdiv (s.f+1)).tdiv (s.e+1)).tdiv (s.d+1)).tdiv (s.c+1)).tdiv (s.b+1)).tmod (s.a+1)),(((((n.tdiv (s.f+1)).tdiv (s.e+1)).tdiv (s.d+1)).tdiv (s.c+1)).tmod (s.b+1)),
  ((((n.tdiv (s.f+1)).tdiv (s.e+1)).tdiv (s.d+1)).tmod (s.c+1)),(((n.tdiv (s.f+1)).tdiv (s.e+1)).tmod (s.d+1)),((n.tdiv (s.f+1)).tmod (s.e+1)),n.tmod (s.f+1)⟩
theorem ok_of_cnt {s:Bd} (h:s.cnt≠0):s.Ok:=by
 unfold cnt at h
 split at h
 ·assumption
 ·exact absurd rfl h
theorem check_zero {s:Bd}:s.check=0↔s.Ok:=by
 unfold check
 split<;>simp [*]
end Bd
end Go.Bun
namespace Go.Bun
open Go.Sx
end Go.Bun
namespace Go.Bun
open Go.Sx
def cI (x:List Int):List Value:=x.map (Value.int .i64)
def a7h (i:Nat) (x:List Int) (n:Nat):List (List Int):=(List.range n).map fun (q:Nat)=>x.set i (q:Int)
def a1H (i m:Nat) (L:List (List Int)):List (List Int):=L.flatMap fun x=>a7h i x m
theorem b3o (i:Nat) (x:List Int) (q:Nat):(a7h i x q).length=q:=by simp [a7h]
theorem b5u (i m:Nat):∀ (L:List (List Int)),(a1H i m L).length=L.length*m
 | []=>by simp [a1H]
 | x::L=>by
  have:=b5u i m L
  simp only [a1H,Qb,List.length_append,b3o,Qd] at *
  rw [this,Q4]; omega
def Lk (s:Bd):Nat->List (List Int)
 | 0=>[[0,0,0,0,0,0]]
 | i+1=>a1H i ((s.l.getD i 0).toNat+1) (Lk s i)
theorem a8l (s:Bd) (i:Nat):(Lk s (i+1)).length=(Lk s i).length*((s.l.getD i 0).toNat+1):=b5u _ _ _
theorem Bd.Ok.at {s:Bd} (h:s.Ok):∀ i,0<=s.l.getD i 0/\s.l.getD i 0<=4:=by
 unfold Bd.Ok at h
 intro i
 match i with
 | 0=>exact h.1
 | 1=>exact h.2.1
 | 2=>exact h.2.2.1
 | 3=>exact h.2.2.2.1
 | 4=>exact h.2.2.2.2.1
 | 5=>exact h.2.2.2.2.2
 | n+6=>simp [Bd.l]
theorem c1T (s:Bd):∀ i,0 < (Lk s i).length
 | 0=>by simp [Lk]
 | i+1=>by rw [a8l]; exact Nat.mul_pos (c1T s i) (by omega)
def Bd.list (s:Bd):List (List Int):=if s.cnt=0 then [] else Lk s 6
end Go.Bun
namespace Go.Bun
open Go.Sx
theorem b9K (i m:Nat) (hm:0 < m):∀ (L:List (List Int)) (n:Nat) (x:List Int),L[n / m]?=some x->(a1H i m L)[n]?=some (x.set i ((n % m:Nat):Int))
 | [],n,x,h=>by simp at h
 | y::L,n,x,h=>by
  simp only [a1H,Qb]
  rw [List.getElem?_append]
  split
  ·rename_i hlt
   rw [b3o] at hlt
   rw [Q8 hlt] at h
   simp only [List.getElem?_cons_zero,Option.some.injEq] at h
   subst h
   rw [Q5 hlt]
   simp [a7h,hlt]
  ·rename_i hge
   rw [b3o] at hge ⊢
   have h1:n / m=(n-m) / m+1:=by
    rw [Nat.div_eq n m,if_pos ⟨hm,by omega⟩]
   rw [h1,List.getElem?_cons_succ] at h
   have:=b9K i m hm L (n-m) x h
   rw [a1H] at this
   rw [this]
   congr 2
   rw [Nat.mod_eq_sub_mod (a:=n) (by omega)]
theorem b1I (s:Bd) (i n:Nat) (x:List Int) (h:(Lk s i)[n / ((s.l.getD i 0).toNat+1)]?=some x):(Lk s (i+1))[n]?=some (x.set i ((n % ((s.l.getD i 0).toNat+1):Nat):Int)) :=
 b9K i _ (by omega) _ n x h
end Go.Bun
namespace Go.Bun
open Go.Sx
def nB (a b c d e f:Nat):Bd:=⟨a,b,c,d,e,f⟩
theorem Bd.nat {s:Bd} (h:s.all fun x=>0<=x):∃ a b c d e f:Nat,s=nB a b c d e f:=by
 obtain ⟨a,b,c,d,e,f⟩:=s
 obtain ⟨h1,h2,h3,h4,h5,h6⟩:=h
 exact ⟨a.toNat,b.toNat,c.toNat,d.toNat,e.toNat,f.toNat,by simp only [nB,Bd.mk.injEq]; simp only at h1 h2 h3 h4 h5 h6; omega⟩
theorem Bd.Ok.pos {s:Bd} (h:s.Ok):s.all fun x=>0<=x:=⟨h.1.1,h.2.1.1,h.2.2.1.1,h.2.2.2.1.1,h.2.2.2.2.1.1,h.2.2.2.2.2.1⟩
def a3O (a b c d e f:Nat):Nat:=(a+1)*(b+1)*(c+1)*(d+1)*(e+1)*(f+1)
theorem b3l (a b c d e f:Nat):(nB a b c d e f).prod=(a3O a b c d e f:Int):=by
 simp only [Bd.prod,nB,a3O,Q6,Q3]; simp
theorem c3S (a b c d e f:Nat):(Lk (nB a b c d e f) 6).length=a3O a b c d e f:=by
 rw [a8l,a8l,a8l,a8l,a8l,a8l]
 simp only [Lk,nB,Bd.l,List.getD_cons_zero,List.getD_cons_succ,Int.toNat_natCast,Qd,List.length_nil,a3O]
 simp
theorem dm (h m x:Nat) (hx:x < m):(h*m+x) / m=h/\(h*m+x) % m=x:=by
 constructor
 ·rw [Nat.mul_comm,Nat.mul_add_div (by omega),Q8 hx,Nat.add_zero]
 ·rw [Nat.mul_comm,Nat.mul_add_mod,Q5 hx]
theorem a9j (a b c d e f n:Nat):(nB a b c d e f).unr n =
  nB (n / (f+1) / (e+1) / (d+1) / (c+1) / (b+1) % (a+1)) (n / (f+1) / (e+1) / (d+1) / (c+1) % (b+1)) (n / (f+1) / (e+1) / (d+1) % (c+1)) (n / (f+1) / (e+1) % (d+1)) (n / (f+1) % (e+1)) (n % (f+1)):=by
 have hc:∀ x:Nat,((x:Int)+1)=((x+1:Nat):Int):=fun _=>rfl
 simp only [Bd.unr,nB,hc,<- Int.ofNat_tdiv,<- Int.ofNat_tmod]
theorem c3b (a b c d e f n:Nat) (hn:n < a3O a b c d e f):(Lk (nB a b c d e f) 6)[n]?=some ((nB a b c d e f).unr n).l:=by
 have h0:n / (f+1) / (e+1) / (d+1) / (c+1) / (b+1) / (a+1)=0:=by
  rw [Q0,Q0,Q0,Q0,Q0]
  apply Q8
  have:(f+1)*((e+1)*((d+1)*((c+1)*((b+1)*(a+1)))))=a3O a b c d e f:=by
   unfold a3O; ac_rfl
  rw [<- this] at hn
  simpa only [Nat.mul_assoc] using hn
 have g0:(Lk (nB a b c d e f) 0)[n / (f+1) / (e+1) / (d+1) / (c+1) / (b+1) / (a+1)]?=some [0,0,0,0,0,0]:=by rw [h0]; rfl
 have g1:=b1I (nB a b c d e f) 0 (n / (f+1) / (e+1) / (d+1) / (c+1) / (b+1)) _ g0
 have g2:=b1I (nB a b c d e f) 1 (n / (f+1) / (e+1) / (d+1) / (c+1)) _ g1
 have g3:=b1I (nB a b c d e f) 2 (n / (f+1) / (e+1) / (d+1)) _ g2
 have g4:=b1I (nB a b c d e f) 3 (n / (f+1) / (e+1)) _ g3
 have g5:=b1I (nB a b c d e f) 4 (n / (f+1)) _ g4
 have g6:=b1I (nB a b c d e f) 5 n _ g5
 rw [g6,a9j]
 rfl
theorem b8e (a b c d e f n:Nat) (hn:n < a3O a b c d e f):(nB a b c d e f).horner ((nB a b c d e f).unr n)=n:=by
 have h0:n / (f+1) / (e+1) / (d+1) / (c+1) / (b+1) < a+1:=by
  rw [Q0,Q0,Q0,Q0]
  apply Nat.div_lt_of_lt_mul
  have:(f+1)*((e+1)*((d+1)*((c+1)*(b+1))))*(a+1)=a3O a b c d e f:=by
   unfold a3O; ac_rfl
  rw [<- this] at hn
  simpa only [Nat.mul_assoc] using hn
 rw [a9j]
 have hc:∀ x:Nat,((x:Int)+1)=((x+1:Nat):Int):=fun _=>rfl
 simp only [Bd.horner,nB,hc,<- Q6,<- Q3,Q9,Qa,Q5 h0,Nat.div_add_mod']
theorem b7S (a b c d e f u v w x y z:Nat) (hu:u<=a) (hv:v<=b) (hw:w<=c) (hx:x<=d) (hy:y<=e) (hz:z<=f) :
  ∃ n:Nat,(nB a b c d e f).horner (nB u v w x y z)=n/\n < a3O a b c d e f/\(nB a b c d e f).unr n=nB u v w x y z:=by
 have hc:∀ x:Nat,((x:Int)+1)=((x+1:Nat):Int):=fun _=>rfl
 refine ⟨((((u*(b+1)+v)*(c+1)+w)*(d+1)+x)*(e+1)+y)*(f+1)+z,?_,?_,?_⟩
 ·simp only [Bd.horner,nB,hc,<- Q6,<- Q3,Q9,Qa]
 ·have st:∀ {p q r m:Nat},p < q->r<=m->p*(m+1)+r < q*(m+1):=by
   intro p q r m hp hr
   have:(p+1)*(m+1)<=q*(m+1):=Q2 _ hp
   rw [Q4,Nat.one_mul] at this
   omega
  unfold a3O
  exact st (st (st (st (st (by omega) hv) hw) hx) hy) hz
 ·rw [a9j]
  obtain ⟨p1,q1⟩:=dm ((((u*(b+1)+v)*(c+1)+w)*(d+1)+x)*(e+1)+y) (f+1) z (by omega)
  obtain ⟨p2,q2⟩:=dm (((u*(b+1)+v)*(c+1)+w)*(d+1)+x) (e+1) y (by omega)
  obtain ⟨p3,q3⟩:=dm ((u*(b+1)+v)*(c+1)+w) (d+1) x (by omega)
  obtain ⟨p4,q4⟩:=dm (u*(b+1)+v) (c+1) w (by omega)
  obtain ⟨p5,q5⟩:=dm u (b+1) v (by omega)
  rw [p1,p2,p3,p4,p5,q1,q2,q3,q4,q5,Q5 (by omega)]
end Go.Bun
namespace Go.Bun
open Go.Sx
theorem a7C {s:Bd} (h:s.cnt≠0):s.cnt=s.prod:=by
 unfold Bd.cnt at h ⊢
 split at h
 ·rename_i h1
  rw [if_pos h1]
  split at h
  ·exact absurd rfl h
  ·rename_i h2; rw [if_neg h2]
 ·exact absurd rfl h
theorem c7V (s:Bd):(s.list.length:Int)=s.cnt:=by
 by_cases h:s.cnt=0
 ·rw [Bd.list,if_pos h,h]; rfl
 ·rw [Bd.list,if_neg h,a7C h]
  obtain ⟨a,b,c,d,e,f,rfl⟩:=Bd.nat (Bd.ok_of_cnt h).pos
  rw [c3S,b3l]
theorem c7u {s:Bd} {n:Nat} (hn:(n:Int) < s.cnt):s.list[n]?=some (s.unr n).l:=by
 have h:s.cnt≠0:=by omega
 rw [Bd.list,if_neg h]
 rw [a7C h] at hn
 obtain ⟨a,b,c,d,e,f,rfl⟩:=Bd.nat (Bd.ok_of_cnt h).pos
 rw [b3l] at hn
 exact c3b a b c d e f n (by omega)
theorem a3m {s:Bd} (hs:s.Ok) (n:Nat):(s.unr n).Ok/\(s.unr n).Le s:=by
 have hs':=hs
 obtain ⟨a,b,c,d,e,f,rfl⟩:=Bd.nat hs.pos
 rw [a9j]
 unfold Bd.Ok nB at hs'
 simp only at hs'
 have m1:=Q1 (n / (f+1) / (e+1) / (d+1) / (c+1) / (b+1)) (show 0 < a+1 by omega)
 have m2:=Q1 (n / (f+1) / (e+1) / (d+1) / (c+1)) (show 0 < b+1 by omega)
 have m3:=Q1 (n / (f+1) / (e+1) / (d+1)) (show 0 < c+1 by omega)
 have m4:=Q1 (n / (f+1) / (e+1)) (show 0 < d+1 by omega)
 have m5:=Q1 (n / (f+1)) (show 0 < e+1 by omega)
 have m6:=Q1 n (show 0 < f+1 by omega)
 unfold Bd.Ok Bd.Le nB
 simp only
 generalize n / (f+1) / (e+1) / (d+1) / (c+1) / (b+1) % (a+1)=x1 at *
 generalize n / (f+1) / (e+1) / (d+1) / (c+1) % (b+1)=x2 at *
 generalize n / (f+1) / (e+1) / (d+1) % (c+1)=x3 at *
 generalize n / (f+1) / (e+1) % (d+1)=x4 at *
 generalize n / (f+1) % (e+1)=x5 at *
 generalize n % (f+1)=x6 at *
 omega
theorem a8q {s:Bd} {n:Nat} (hn:(n:Int) < s.cnt):s.horner (s.unr n)=n:=by
 have h:s.cnt≠0:=by omega
 rw [a7C h] at hn
 obtain ⟨a,b,c,d,e,f,rfl⟩:=Bd.nat (Bd.ok_of_cnt h).pos
 rw [b3l] at hn
 exact b8e a b c d e f n (by omega)
theorem b7U {s b:Bd} (h:s.cnt≠0) (hb:b.Ok) (hle:b.Le s):∃ n:Nat,s.horner b=n/\(n:Int) < s.cnt/\s.unr n=b:=by
 rw [a7C h]
 obtain ⟨a,b',c,d,e,f,rfl⟩:=Bd.nat (Bd.ok_of_cnt h).pos
 obtain ⟨u,v,w,x,y,z,rfl⟩:=Bd.nat hb.pos
 unfold Bd.Le nB at hle
 simp only at hle
 obtain ⟨n,h1,h2,h3⟩:=b7S a b' c d e f u v w x y z (by omega) (by omega) (by omega) (by omega) (by omega) (by omega)
 exact ⟨n,h1,by rw [b3l]; omega,h3⟩
end Go.Bun
namespace Go.Bun
open Go.Sx
def hN (b c d e f u v w x y z:Nat):Nat:=((((u*(b+1)+v)*(c+1)+w)*(d+1)+x)*(e+1)+y)*(f+1)+z
theorem b9x (a b c d e f u v w x y z:Nat):(nB a b c d e f).horner (nB u v w x y z)=hN b c d e f u v w x y z:=by
 have hc:∀ x:Nat,((x:Int)+1)=((x+1:Nat):Int):=fun _=>rfl
 simp only [Bd.horner,nB,hN,hc,<- Q6,<- Q3,Q9,Qa]
end Go.Bun
namespace Go.Bun
open Go.Sx
def Bd.next (s b:Bd):Bd :=
 if b.f < s.f then ⟨b.a,b.b,b.c,b.d,b.e,b.f+1⟩
 else if b.e < s.e then ⟨b.a,b.b,b.c,b.d,b.e+1,0⟩
 else if b.d < s.d then ⟨b.a,b.b,b.c,b.d+1,0,0⟩
 else if b.c < s.c then ⟨b.a,b.b,b.c+1,0,0,0⟩
 else if b.b < s.b then ⟨b.a,b.b+1,0,0,0,0⟩
 else if b.a < s.a then ⟨b.a+1,0,0,0,0,0⟩
 else Bd.zero
theorem a2Z (A m:Nat):(A+1)*(m+1)+0=A*(m+1)+m+1:=by rw [Q4]; omega
theorem a8j (b c d e f u v w x y z:Nat):hN b c d e f u v w x y z=((((u*(b+1)+v)*(c+1)+w)*(d+1)+x)*(e+1)+y)*(f+1)+z:=rfl
theorem c7L {a b c d e f u v w x y z:Nat} (hu:u<=a) (hv:v<=b) (hw:w<=c) (hx:x<=d) (hy:y<=e) (hz:z<=f) :
  (hN b c d e f u v w x y z+1 < a3O a b c d e f/\∃ u' v' w' x' y' z':Nat,(nB a b c d e f).next (nB u v w x y z)=nB u' v' w' x' y' z'/\u'<=a/\v'<=b/\w'<=c/\x'<=d/\y'<=e/\z'<=f/\hN b c d e f u' v' w' x' y' z'=hN b c d e f u v w x y z+1) \/
  (hN b c d e f u v w x y z+1=a3O a b c d e f/\(nB a b c d e f).next (nB u v w x y z)=Bd.zero):=by
 have hlt:∀ u' v' w' x' y' z',u'<=a->v'<=b->w'<=c->x'<=d->y'<=e->z'<=f->hN b c d e f u' v' w' x' y' z' < a3O a b c d e f:=by
  intro u' v' w' x' y' z' h1 h2 h3 h4 h5 h6
  have k1:u'*(b+1)+v' < (a+1)*(b+1):=by have:=Q2 (b+1) h1; rw [Q4]; omega
  have k2:(u'*(b+1)+v')*(c+1)+w' < (a+1)*(b+1)*(c+1):=by have:=Q2 (c+1) k1; rw [Q7] at this; omega
  have k3:=Q2 (d+1) k2
  rw [Q7] at k3
  have k3':((u'*(b+1)+v')*(c+1)+w')*(d+1)+x' < (a+1)*(b+1)*(c+1)*(d+1):=by omega
  have k4:=Q2 (e+1) k3'
  rw [Q7] at k4
  have k4':(((u'*(b+1)+v')*(c+1)+w')*(d+1)+x')*(e+1)+y' < (a+1)*(b+1)*(c+1)*(d+1)*(e+1):=by omega
  have k5:=Q2 (f+1) k4'
  rw [Q7] at k5
  rw [a8j]; unfold a3O; omega
 have mk:∀ u' v' w' x' y' z':Nat,u'<=a->v'<=b->w'<=c->x'<=d->y'<=e->z'<=f->(nB a b c d e f).next (nB u v w x y z)=nB u' v' w' x' y' z'->hN b c d e f u' v' w' x' y' z'=hN b c d e f u v w x y z+1 ->
   (hN b c d e f u v w x y z+1 < a3O a b c d e f/\∃ u' v' w' x' y' z':Nat,(nB a b c d e f).next (nB u v w x y z)=nB u' v' w' x' y' z'/\u'<=a/\v'<=b/\w'<=c/\x'<=d/\y'<=e/\z'<=f/\hN b c d e f u' v' w' x' y' z'=hN b c d e f u v w x y z+1):=by
  intro u' v' w' x' y' z' h1 h2 h3 h4 h5 h6 h7 h8
  have:=hlt u' v' w' x' y' z' h1 h2 h3 h4 h5 h6
  exact ⟨by omega,u',v',w',x',y',z',h7,h1,h2,h3,h4,h5,h6,h8⟩
 have nx:(nB a b c d e f).next (nB u v w x y z)=if z < f then nB u v w x y (z+1) else if y < e then nB u v w x (y+1) 0 else if x < d then nB u v w (x+1) 0 0 else if w < c then nB u v (w+1) 0 0 0 else if v < b then nB u (v+1) 0 0 0 0 else if u < a then nB (u+1) 0 0 0 0 0 else Bd.zero:=by
  simp only [Bd.next,nB,Int.ofNat_lt,Q3,Int.cast_ofNat_Int]
 by_cases c6:z < f
 ·exact .inl (mk u v w x y (z+1) hu hv hw hx hy (by omega) (by rw [nx,if_pos c6]) rfl)
 obtain rfl:z=f:=by omega
 by_cases c5:y < e
 ·exact .inl (mk u v w x (y+1) 0 hu hv hw hx (by omega) (by omega) (by rw [nx,if_neg c6,if_pos c5]) (by
   simp only [a8j]; exact a2Z _ _))
 obtain rfl:y=e:=by omega
 by_cases c4:x < d
 ·exact .inl (mk u v w (x+1) 0 0 hu hv hw (by omega) (by omega) (by omega) (by rw [nx,if_neg c6,if_neg c5,if_pos c4]) (by
   simp only [a8j]
   rw [show ((u*(b+1)+v)*(c+1)+w)*(d+1)+(x+1)=(((u*(b+1)+v)*(c+1)+w)*(d+1)+x)+1 from rfl,a2Z,a2Z]))
 obtain rfl:x=d:=by omega
 by_cases c3:w < c
 ·exact .inl (mk u v (w+1) 0 0 0 hu hv (by omega) (by omega) (by omega) (by omega) (by rw [nx,if_neg c6,if_neg c5,if_neg c4,if_pos c3]) (by
   simp only [a8j]
   rw [show (u*(b+1)+v)*(c+1)+(w+1)=((u*(b+1)+v)*(c+1)+w)+1 from rfl,a2Z,a2Z,a2Z]))
 obtain rfl:w=c:=by omega
 by_cases c2:v < b
 ·exact .inl (mk u (v+1) 0 0 0 0 hu (by omega) (by omega) (by omega) (by omega) (by omega) (by rw [nx,if_neg c6,if_neg c5,if_neg c4,if_neg c3,if_pos c2]) (by
   simp only [a8j]
   rw [show u*(b+1)+(v+1)=(u*(b+1)+v)+1 from rfl,a2Z,a2Z,a2Z,a2Z]))
 obtain rfl:v=b:=by omega
 by_cases c1:u < a
 ·exact .inl (mk (u+1) 0 0 0 0 0 (by omega) (by omega) (by omega) (by omega) (by omega) (by omega) (by rw [nx,if_neg c6,if_neg c5,if_neg c4,if_neg c3,if_neg c2,if_pos c1]) (by
   simp only [a8j]
   rw [a2Z,a2Z,a2Z,a2Z,a2Z]))
 obtain rfl:u=a:=by omega
 refine .inr ⟨?_,by rw [nx,if_neg c6,if_neg c5,if_neg c4,if_neg c3,if_neg c2,if_neg c1]⟩
 have h:=a2Z u v
 simp only [a8j,a3O]
 rw [<- a2Z,<- a2Z,<- a2Z,<- a2Z,<- a2Z]
 simp only [Nat.add_zero]
theorem c9N {s:Bd} (hs:s.Ok) {n:Nat} (hn:n < (Lk s 6).length):(Lk s 6)[n]?=some (s.unr n).l /\
  ((n+1 < (Lk s 6).length/\s.next (s.unr n)=s.unr ((n+1:Nat):Int)/\s.next (s.unr n)≠Bd.zero)\/(n+1=(Lk s 6).length/\s.next (s.unr n)=Bd.zero)):=by
 obtain ⟨a,b,c,d,e,f,rfl⟩:=Bd.nat hs.pos
 rw [c3S] at hn ⊢
 refine ⟨c3b a b c d e f n hn,?_⟩
 have hh:=b8e a b c d e f n hn
 obtain ⟨u,v,w,x,y,z,he,hu,hv,hw,hx,hy,hz⟩:∃ u v w x y z:Nat,(nB a b c d e f).unr n=nB u v w x y z/\u<=a/\v<=b/\w<=c/\x<=d/\y<=e/\z<=f:=by
  refine ⟨_,_,_,_,_,_,a9j a b c d e f n,?_,?_,?_,?_,?_,?_⟩<;>exact Nat.le_of_lt_succ (Q1 _ (by omega))
 rw [he] at hh ⊢
 rw [b9x] at hh
 have hh:hN b c d e f u v w x y z=n:=by exact_mod_cast hh
 rcases c7L hu hv hw hx hy hz with ⟨h1,u',v',w',x',y',z',h2,k1,k2,k3,k4,k5,k6,h3⟩ | ⟨h1,h2⟩
 ·rw [hh] at h1 h3
  have h4:=b7S a b c d e f u' v' w' x' y' z' k1 k2 k3 k4 k5 k6
  rw [b9x,h3] at h4
  obtain ⟨m,e1,_,e3⟩:=h4
  have e1:n+1=m:=by exact_mod_cast e1
  subst e1
  refine .inl ⟨h1,by rw [h2,e3],fun h0=>?_⟩
  rw [h2] at h0
  have e1:nB u' v' w' x' y' z'=nB 0 0 0 0 0 0:=h0
  simp only [nB,Bd.mk.injEq,Int.natCast_inj] at e1
  obtain ⟨rfl,rfl,rfl,rfl,rfl,rfl⟩:=e1
  simp [a8j] at h3
 ·rw [hh] at h1
  exact .inr ⟨h1,h2⟩
theorem c9m (s:Bd) (hs:s.Ok):s.unr ((0:Nat):Int)=Bd.zero:=by
 obtain ⟨a,b,c,d,e,f,rfl⟩:=Bd.nat hs.pos
 rw [a9j]; simp [nB,Bd.zero]
end Go.Bun
