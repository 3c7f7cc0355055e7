/- Shortest ways: lowering values in b5h, as plain law. -/
import Derived.Test.YtggjcdnailppoaaHTxa
import Derived.Test.YtggjcdnailppoaaHTxe
set_option linter.unusedSimpArgs false
set_option linter.unusedVariables false
open Nat renaming le_refl → Q0, le_succ_of_le → Q7
open List renaming replicate → Q1, range → Q2, replicate_succ → Q3, mem_map → Q4, mem_range → Q5, length_cons → Q6, range_succ → Q9, map_append → Qa, nodup_append → Qb, mem_singleton → Qd
open Int renaming toNat_natCast → Q8
namespace Go.Bf
def upd {α:Type} (f:Nat->α) (b:Nat) (x:α):Nat->α:=fun i=>if i=b then x else f i
theorem a2b {α:Type} (f:Nat->α) (b:Nat) (x:α):upd f b x b=x:=if_pos rfl
theorem a1k {α:Type} (f:Nat->α) {b i:Nat} (x:α) (h:i≠b):upd f b x i=f i:=if_neg h
structure Inv (n:Nat) (g:Nat->Nat->Int) (v f:Nat->Int) (c t:Nat->Nat) (T r a b:Nat):Prop where
 par:∀ x,x < n->c x≠0->∃ p:Nat,p < n/\f x=(p:Int)/\p≠x/\v p+g p x<=v x/\(t x < t p->v p+g p x < v x)/\c x<=c p+1
 uniq:∀ x y,x < n->y < n->c x≠0->c y≠0->t x=t y->x=y
 tle:∀ x,x < n->t x<=T
 cle:∀ x,x < n->c x<=r
 done:∀ x y,x < n->y < n->(x < a\/(x=a/\y < b))->v y<=v x+g x y\/c x=r
 todo:∀ x y,x < n->y < n->v y<=v x+g x y\/r<=c x+1
 low:∀ x,x < n->-(24000000*(T:Int))<=v x/\v x<=0
variable {n:Nat} {g:Nat->Nat->Int} {v f:Nat->Int} {c t:Nat->Nat} {T r a b:Nat}
theorem Inv.start (n:Nat) (g:Nat->Nat->Int) (v f:Nat->Int) (hv:∀ x,x < n->v x=0):Inv n g v f (fun _=>0) (fun _=>0) 0 1 0 0 where
 par:=fun x _ h=>absurd rfl h
 uniq:=fun x y _ _ h=>absurd rfl h
 tle:=fun x _=>Q0 _
 cle:=fun x _=>Nat.zero_le _
 done:=fun x y _ _ h=>by omega
 todo:=fun x y _ _=>.inr (by omega)
 low:=fun x hx=>by rw [hv x hx]; omega
theorem Inv.keep (h:Inv n g v f c t T r a b) (hb:v b<=v a+g a b):Inv n g v f c t (T+1) r a (b+1) where
 par:=h.par
 uniq:=h.uniq
 tle:=fun x hx=>Q7 (h.tle x hx)
 cle:=h.cle
 done:=fun x y hx hy hd=>by
  by_cases hy2:x=a/\y=b
  ·obtain ⟨rfl,rfl⟩:=hy2; exact .inl hb
  ·exact h.done x y hx hy (by omega)
 todo:=h.todo
 low:=fun x hx=>by have:=h.low x hx; omega
theorem Inv.lower (h:Inv n g v f c t T r a b) (ha:a < n) (hbn:b < n) (hr:1<=r) (hg:-24000000<=g a b) (hd:g a a=0) (hb:v a+g a b < v b) :
  Inv n g (upd v b (v a+g a b)) (upd f b (a:Int)) (upd c b r) (upd t b (T+1)) (T+1) r a (b+1):=by
 have hab:a≠b:=by rintro rfl; omega
 have hcr:r<=c a+1:=by
  rcases h.todo a b ha hbn with h1 | h1
  ·omega
  ·exact h1
 refine ⟨?_,?_,?_,?_,?_,?_,?_⟩
 ·intro x hx hcx
  by_cases hxb:x=b
  ·subst hxb
   refine ⟨a,ha,a2b _ _ _,hab,?_,?_,?_⟩
   ·rw [a2b,a1k v _ hab]; omega
   ·intro ht
    rw [a2b,a1k t _ hab] at ht
    have:=h.tle a ha; omega
   ·rw [a2b,a1k c _ hab]; exact hcr
  ·rw [a1k c _ hxb] at hcx
   obtain ⟨p,p1,p2,p3,p4,p5,p6⟩:=h.par x hx hcx
   refine ⟨p,p1,by rw [a1k f _ hxb]; exact p2,p3,?_,?_,?_⟩
   ·rw [a1k v _ hxb]
    by_cases hpb:p=b
    ·subst hpb; rw [a2b]; omega
    ·rw [a1k v _ hpb]; exact p4
   ·rw [a1k v _ hxb,a1k t _ hxb]
    by_cases hpb:p=b
    ·subst hpb; rw [a2b,a2b]; intro _; omega
    ·rw [a1k v _ hpb,a1k t _ hpb]; exact p5
   ·rw [a1k c _ hxb]
    by_cases hpb:p=b
    ·subst hpb; rw [a2b]; have:=h.cle x hx; omega
    ·rw [a1k c _ hpb]; exact p6
 ·intro x y hx hy hcx hcy ht
  by_cases hxb:x=b
  ·by_cases hyb:y=b
   ·omega
   ·rw [hxb,a2b,a1k t _ hyb] at ht
    have:=h.tle y hy; omega
  ·by_cases hyb:y=b
   ·rw [hyb,a2b,a1k t _ hxb] at ht
    have:=h.tle x hx; omega
   ·rw [a1k t _ hxb,a1k t _ hyb] at ht
    rw [a1k c _ hxb] at hcx
    rw [a1k c _ hyb] at hcy
    exact h.uniq x y hx hy hcx hcy ht
 ·intro x hx
  by_cases hxb:x=b
  ·rw [hxb,a2b]; omega
  ·rw [a1k t _ hxb]; have:=h.tle x hx; omega
 ·intro x hx
  by_cases hxb:x=b
  ·rw [hxb,a2b]; omega
  ·rw [a1k c _ hxb]; exact h.cle x hx
 ·intro x y hx hy hdn
  by_cases hxb:x=b
  ·right; rw [hxb,a2b]
  ·rw [a1k c _ hxb,a1k v _ hxb]
   by_cases hyb:y=b
   ·subst hyb
    rw [a2b]
    by_cases hxa:x=a
    ·subst hxa; left; omega
    ·rcases h.done x y hx hy (by omega) with h1 | h1
     ·left; omega
     ·exact .inr h1
   ·rw [a1k v _ hyb]
    exact h.done x y hx hy (by omega)
 ·intro x y hx hy
  by_cases hxb:x=b
  ·right; rw [hxb,a2b]; omega
  ·rw [a1k c _ hxb,a1k v _ hxb]
   by_cases hyb:y=b
   ·subst hyb
    rw [a2b]
    rcases h.todo x y hx hy with h1 | h1
    ·left; omega
    ·exact .inr h1
   ·rw [a1k v _ hyb]; exact h.todo x y hx hy
 ·intro x hx
  have h1:=h.low a ha
  have h2:=h.low b hbn
  by_cases hxb:x=b
  ·rw [hxb,a2b]; omega
  ·rw [a1k v _ hxb]; have:=h.low x hx; omega
theorem Inv.row (h:Inv n g v f c t T r a n):Inv n g v f c t T r (a+1) 0 where
 par:=h.par
 uniq:=h.uniq
 tle:=h.tle
 cle:=h.cle
 done:=fun x y hx hy hd=>h.done x y hx hy (by omega)
 todo:=h.todo
 low:=h.low
theorem Inv.round (h:Inv n g v f c t T r n 0):Inv n g v f c t T (r+1) 0 0 where
 par:=h.par
 uniq:=h.uniq
 tle:=h.tle
 cle:=fun x hx=>Q7 (h.cle x hx)
 done:=fun x y hx hy hd=>by omega
 todo:=fun x y hx hy=>by
  rcases h.done x y hx hy (.inl hx) with h1 | h1
  ·exact .inl h1
  ·right; omega
 low:=h.low
theorem Inv.stable (h:Inv n g v f c t T r n 0) (hc:∀ x,x < n->c x≠r):∀ x y,x < n->y < n->v y<=v x+g x y:=by
 intro x y hx hy
 rcases h.done x y hx hy (.inl hx) with h1 | h1
 ·exact h1
 ·exact absurd h1 (hc x hx)
theorem few:∀ (n:Nat) (l:List Nat),l.Nodup->(∀ x∈l,x < n)->l.length<=n
 | 0,l,_,h=>by
  cases l with
  | nil=>exact Q0 _
  | cons x l=>exact absurd (h x (List.mem_cons_self)) (by omega)
 | n+1,l,hn,h=>by
  have h1:=few n (l.erase n) (hn.erase n) (fun x hx=>by
   have h2:=(hn.mem_erase_iff).1 hx
   have:=h x h2.2
   have:=h2.1
   omega)
  by_cases hm:n∈l
  ·have:=List.length_erase_of_mem hm; omega
  ·rw [List.erase_of_not_mem hm] at h1; omega
def a0C (f:Nat->Int) (z:Nat):Nat->Nat
 | 0=>z
 | i+1=>(f (a0C f z i)).toNat
structure Fin (n:Nat) (g:Nat->Nat->Int) (v f:Nat->Int) (c t:Nat->Nat) (z:Nat):Prop where
 par:∀ x,x < n->c x≠0->∃ p:Nat,p < n/\f x=(p:Int)/\p≠x/\v p+g p x<=v x/\(t x < t p->v p+g p x < v x)/\c x<=c p+1
 uniq:∀ x y,x < n->y < n->c x≠0->c y≠0->t x=t y->x=y
 hz:z < n
 cz:n<=c z
variable {z:Nat}
theorem Fin.at_lt (h:Fin n g v f c t z):∀ i,i<=n->a0C f z i < n/\n<=c (a0C f z i)+i
 | 0,_=>⟨h.hz,h.cz⟩
 | i+1,hi=>by
  obtain ⟨h1,h2⟩:=h.at_lt i (by omega)
  obtain ⟨p,p1,p2,_,_,_,p6⟩:=h.par _ h1 (by omega)
  simp only [a0C,p2,Q8]
  exact ⟨p1,by omega⟩
theorem Fin.link (h:Fin n g v f c t z) {i:Nat} (hi:i < n):f (a0C f z i)=(a0C f z (i+1):Int)/\a0C f z (i+1)≠a0C f z i /\
  v (a0C f z (i+1))+g (a0C f z (i+1)) (a0C f z i)<=v (a0C f z i) /\
  (t (a0C f z i) < t (a0C f z (i+1))->v (a0C f z (i+1))+g (a0C f z (i+1)) (a0C f z i) < v (a0C f z i))/\c (a0C f z i)≠0:=by
 obtain ⟨h1,h2⟩:=h.at_lt i (by omega)
 obtain ⟨p,p1,p2,p3,p4,p5,p6⟩:=h.par _ h1 (by omega)
 simp only [a0C,p2,Q8,true_and]
 exact ⟨p3,p4,p5,by omega⟩
theorem Fin.short (h:Fin n g v f c t z) {k:Nat} (hk:k<=n) (hn:((Q2 k).map (a0C f z)).Nodup) (hx:a0C f z k ∉ (Q2 k).map (a0C f z)):k < n:=by
 have hk1:((Q2 (k+1)).map (a0C f z)).Nodup:=by
  rw [Q9,Qa,Qb]
  refine ⟨hn,by simp,?_⟩
  intro a ha b hb
  simp only [List.map_cons,List.map_nil,Qd] at hb
  rintro rfl
  subst hb
  exact hx ha
 have:=few n _ hk1 (fun x hx=>by
  obtain ⟨i,hi,rfl⟩:=Q4.1 hx
  exact (h.at_lt i (by have:=Q5.1 hi; omega)).1)
 have h2:k+1<=n:=by simpa using this
 exact h2
theorem Fin.strict (h:Fin n g v f c t z) {j k:Nat} (hjk:j < k) (hk:k<=n) (e:a0C f z k=a0C f z j):∃ i,j<=i/\i < k/\v (a0C f z (i+1))+g (a0C f z (i+1)) (a0C f z i) < v (a0C f z i):=by
 refine Classical.byContradiction fun hne=>?_
 have hle:∀ i,j<=i->i < k->t (a0C f z (i+1))<=t (a0C f z i):=fun i h1 h2=>by
  refine Nat.le_of_not_lt fun hlt=>hne ⟨i,h1,h2,(h.link (by omega)).2.2.2.1 hlt⟩
 have hdown:∀ d i,j<=i->i+d<=k->t (a0C f z (i+d))<=t (a0C f z i):=by
  intro d
  induction d with
  | zero=>intro i _ _; exact Q0 _
  | succ d ih =>
   intro i h1 h2
   have:=ih i h1 (by omega)
   have:=hle (i+d) (by omega) (by omega)
   rw [show i+(d+1)=i+d+1 from rfl]; omega
 have e1:=hle j (Q0 _) hjk
 have e2:=hdown (k-(j+1)) (j+1) (by omega) (by omega)
 rw [show j+1+(k-(j+1))=k by omega,e] at e2
 have hte:t (a0C f z (j+1))=t (a0C f z j):=by omega
 have l0:=h.link (i:=j) (by omega)
 have a0:=h.at_lt j (by omega)
 have a1:=h.at_lt (j+1) (by omega)
 have hc1:c (a0C f z (j+1))≠0:=by
  by_cases hj:j+1 < n
  ·exact (h.link hj).2.2.2.2
  ·have:k=j+1:=by omega
   subst this; rw [e]; exact l0.2.2.2.2
 exact l0.2.1 (h.uniq _ _ a1.1 a0.1 hc1 l0.2.2.2.2 hte)
theorem Fin.closes (h:Fin n g v f c t z):∃ j k,j < k/\k<=n/\a0C f z k=a0C f z j:=by
 refine Classical.byContradiction fun hne=>?_
 have nd:∀ k,k<=n+1->((Q2 k).map (a0C f z)).Nodup:=by
  intro k
  induction k with
  | zero=>intro _; simp
  | succ k ih =>
   intro hk
   rw [Q9,Qa,Qb]
   refine ⟨ih (by omega),by simp,?_⟩
   intro a ha b hb
   simp only [List.map_cons,List.map_nil,Qd] at hb
   rintro rfl
   subst hb
   obtain ⟨i,hi,e⟩:=Q4.1 ha
   have:=Q5.1 hi
   exact hne ⟨i,k,this,by omega,e.symm⟩
 have:=few n _ (nd (n+1) (Q0 _)) (fun x hx=>by
  obtain ⟨i,hi,rfl⟩:=Q4.1 hx
  exact (h.at_lt i (by have:=Q5.1 hi; omega)).1)
 rw [List.length_map,List.length_range] at this
 omega
theorem Fin.none (h:Fin n g v f c t z) (π:Nat->Int) (hp:∀ x y,x < n->y < n->π y<=π x+g x y):False:=by
 obtain ⟨j,k,hjk,hk,e⟩:=h.closes
 obtain ⟨i,h1,h2,h3⟩:=h.strict hjk hk e
 have hle:∀ m,m < k->v (a0C f z (m+1))-π (a0C f z (m+1))<=v (a0C f z m)-π (a0C f z m):=fun m hm=>by
  have l0:=h.link (i:=m) (by omega)
  have:=hp _ _ (h.at_lt (m+1) (by omega)).1 (h.at_lt m (by omega)).1
  omega
 have hdown:∀ d m,m+d<=k->v (a0C f z (m+d))-π (a0C f z (m+d))<=v (a0C f z m)-π (a0C f z m):=by
  intro d
  induction d with
  | zero=>intro m _; exact Int.le_refl _
  | succ d ih =>
   intro m h2
   have:=ih m (by omega)
   have:=hle (m+d) (by omega)
   rw [show m+(d+1)=m+d+1 from rfl]; omega
 have d1:=hdown (i-j) j (by omega)
 have d2:=hdown (k-(i+1)) (i+1) (by omega)
 have:=hp _ _ (h.at_lt (i+1) (by omega)).1 (h.at_lt i (by omega)).1
 rw [show j+(i-j)=i by omega] at d1
 rw [show i+1+(k-(i+1))=k by omega,e] at d2
 omega
end Go.Bf
namespace Go.Sx
def a0X (l:List Int):List PV:=l.map (PV.int .i64)
def a2i (l:List Int):List (List PV):=l.map fun z=>[.int .i64 z]
theorem a7q (l:List Int):(a0X l).length=l.length:=by simp [a0X]
theorem a6o {l:List Int} {i:Nat} {z:Int} (h:l[i]?=some z):List.drop i (a0X l)=.int .i64 z::a0X (l.drop (i+1)):=by
 unfold a0X; rw [<- List.map_drop,a2M h]; rfl
theorem a7p {l:List Int} {i:Nat} (z:Int) (h:i < l.length):a3Y (a0X l) i [.int .i64 z]=a0X (l.set i z):=by
 unfold a3Y a0X
 rw [List.set_eq_take_append_cons_drop,if_pos h]
 simp [List.map_drop,List.map_take]
theorem b7g (n:Nat) (z:Int):(Q1 n [PV.int .i64 z]).flatten=a0X (Q1 n z):=by
 induction n with
 | zero=>rfl
 | succ n ih=>rw [Q3,List.flatten_cons,ih]; rfl
theorem a4a {i len h o cap sz off:Nat} (hi:i < len):a5v (i:Int) sz off (.msl h o len cap sz)=some (.obj h (o+(i*sz+off))):=by
 simp [a5v,hi]
theorem b7F {i len h sz off:Nat} (hi:i < len):a5v (i:Int) sz off (.rsl h len sz)=some (.elt h len i sz off):=by
 simp [a5v,hi]
theorem b2y (k:Nat) (l:List Int):PV.lows k (a0X l)=true:=by
 induction l with
 | nil=>rfl
 | cons z l ih=>simpa [a0X,PV.lows,PV.low] using ih
theorem b6w (k:Nat) (look:Nat->Option MO) (l:List Int):PV.frzs k look (a0X l)=some (a0X l):=PV.frzs_low _ (b2y k l)
theorem b5q (l:List Int):a9u 1 l.length (a0X l)=some (a2i l):=by
 induction l with
 | nil=>rfl
 | cons z l ih =>
  have e1:a0X (z::l)=PV.int .i64 z::a0X l:=rfl
  rw [Q6,a9u,e1]
  have e2:List.drop 1 (PV.int .i64 z::a0X l)=a0X l:=rfl
  have e3:List.take 1 (PV.int .i64 z::a0X l)=[PV.int .i64 z]:=rfl
  rw [e2,e3,ih,if_pos ⟨by simp,by simp [PV.one]⟩]
  rfl
def a7F (σ:List MO):Prop:=∀ k,σ.all (MO.low k)=true
theorem a7F.snoc {σ:List MO} (h:a7F σ) (l:List Int) (T:Nat):a7F (σ++[.cells (a0X l) T]):=fun k=>by
 rw [List.all_append,h k]; simp [MO.low,b2y]
theorem b8S {α:Type} (σ:List α) (A B C:α) (r:List α):(σ++A::B::C::r)[σ.length+2]?=some C:=by
 rw [List.getElem?_append_right (by omega)]; simp
theorem c0j {α:Type} (σ:List α) (A B C X:α) (r:List α):(σ++A::B::C::r).set (σ.length+2) X=σ++A::B::X::r:=by
 rw [List.set_append_right _ _ (by omega)]; simp
theorem b5W {α:Type} {σ r:List α} {h:Nat} {A:α} (e:σ[h]?=some A):(σ++r)[h]?=some A:=by
 rw [List.getElem?_append_left (List.getElem?_eq_some_iff.1 e).1]; exact e
theorem b0g (ks:List Int) (x:PV) (z:Int):a1v ks (Q1 ks.length x) z=if z∈ks then some x else none:=by
 induction ks with
 | nil=>rfl
 | cons k ks ih =>
  rw [Q6,Q3,a1v,ih]
  by_cases h:k=z
  ·subst h; simp
  ·have:¬ z=k:=fun e=>h e.symm
   simp [h,this]
theorem b4S (ks:List Int) (x:PV) (z:Int) (h:z ∉ ks):a1W ks (Q1 ks.length x) z x=(ks++[z],Q1 (ks.length+1) x):=by
 induction ks with
 | nil=>rfl
 | cons k ks ih =>
  rw [List.mem_cons,not_or] at h
  have:¬ k=z:=fun e=>h.1 e.symm
  rw [Q6,Q3,a1W,ih h.2,if_neg this]
  simp [Q3]
def at' (l:List Int) (i:Nat):Int:=(l[i]?).getD 0
theorem b0C {l:List Int} {i:Nat} (h:i < l.length):l[i]?=some (at' l i):=by simp [at',h]
theorem b9B {l:List Int} {b:Nat} (x:Int) (h:b < l.length) (i:Nat):at' (l.set b x) i=if i=b then x else at' l i:=by
 simp only [at',List.getElem?_set]
 by_cases e:b=i
 ·subst e; simp [h]
 ·have:¬ i=b:=fun q=>e q.symm
  simp [e,this]
end Go.Sx
namespace Go.Sx
theorem b9j {Φ:Fns} {S:Sys} {q N:Nat} (st:Nat->PEnv) (step:∀ i,i < N->∀ fuel,S.loop Φ (fuel+1) q (st i)=S.loop Φ fuel q (st (i+1))) :
  ∀ d i,i+d=N->∀ fuel,S.loop Φ (fuel+d) q (st i)=S.loop Φ fuel q (st N):=by
 intro d
 induction d with
 | zero=>intro i hi fuel; rw [Nat.add_zero] at hi; subst hi; rfl
 | succ d ih=>intro i hi fuel; rw [show fuel+(d+1)=(fuel+d)+1 from rfl,step i (by omega)]; exact ih (i+1) (by omega) fuel
theorem a5D {Φ:Fns} {S:Sys} {q N:Nat} (st:Nat->PEnv) (step:∀ i,i < N->∀ fuel,S.loop Φ (fuel+1) q (st i)=S.loop Φ fuel q (st (i+1))) (fuel:Nat) (h:N<=fuel) :
  S.loop Φ fuel q (st 0)=S.loop Φ (fuel-N) q (st N):=by
 have:=b9j st step N 0 (by omega) (fuel-N)
 rwa [show fuel-N+N=fuel by omega] at this
theorem a8W {α β:Type} (f:β->α->β) (a:β) {l:List α} {i:Nat} {x:α} (h:l[i]?=some x):(l.take (i+1)).foldl f a=f ((l.take i).foldl f a) x:=by
 rw [List.take_add_one,h]; simp
theorem a5G {α:Type} (l:List α):l.take l.length=l:=by simp
theorem a2C (i:Nat):((i+1:Nat):Int)=(i:Int)+1:=by omega
theorem a2I (n:Nat) (r:List (List PV)):(PV.sl n r).rowsOf n=some r:=by simp [PV.rowsOf]
theorem le0 (i:Nat):leB 0 (i:Int)=true:=by simp [leB]
theorem a2r {i:Nat} (h:i<=1000000000):(leB (-9223372036854775808) ((i:Int)+1)&&leB ((i:Int)+1) 9223372036854775807)=true:=by simp [leB]; omega
theorem b2G {z:Int} (h:-9000000000000000000<=z/\z<=9000000000000000000):(leB (-9223372036854775808) z&&leB z 9223372036854775807)=true:=by simp [leB]; omega
theorem a4g {α:Type} {l:List α} {i:Nat} (h:i < l.length):∃ x,l[i]?=some x:=⟨_,List.getElem?_eq_getElem h⟩
end Go.Sx
