/- What the map of an expression is worth within a bundle: by the kinds of expressions (plain). -/
import Derived.Test.YthmkfeiapdbojaaHVn
import Derived.Test.YthmkfeiapdbojaaHGx
set_option linter.unusedSimpArgs false
set_option linter.unusedVariables false
open Go.Sx.PT renaming ev → ξ1
open Go.Sx.BE renaming safe → ξ2, pe → ξ3, all → ξz
open Go.Sx.IE renaming pe → ξ4
open Go.Sx renaming PEnv.at → ξ5
open Go.Sx.PEnv renaming push → ξt
open List renaming getD_cons_zero → ξ6, getD_cons_succ → ξ7, getElem?_cons_zero → ξ8, getElem?_cons_succ → ξ9, drop_zero → ξf, length_cons → ξg, length_nil → ξh, take_succ_cons → ξm, take_zero → ξn, cons_append → ξu, nil_append → ξv, append_nil → ξw, map_cons → ξD, map_nil → ξE
open Go.Sx renaming a0g → ξa, a0h → ξb, a0b → ξc, a0f → ξd, a0c → ξo, a0a → ξp, a0d → ξq, a0N → ξF, a0D → ξG, a0p → ξH, a0q → ξI, a0C → ξJ, a1d → ξK, a0Z → ξL, a1e → ξM, a0Y → ξN, a0A → ξO, a0n → ξP, a0B → ξQ, a0M → ξR, a0m → ξS, a0y → ξT, a0R → ξU, a0H → ξV, a0I → ξW, a0J → ξX, a0r → ξY
open Nat renaming add_zero → ξe, le_refl → ξi
open Bool renaming false_eq_true → ξl, and_self → ξA, not_true → ξB, not_false → ξC
open Option renaming map_some → ξr, bind_some → ξs
open Go.Sx.SV renaming pvs → ξx, pv → ξy
open Bool renaming and_eq_true → Q0
open List renaming mem_map → Q1, all_cons → Q2, zipWith_cons_cons → Q3, map_cons → Q5, mem_flatMap → Q6, foldl_cons → Q7, append_nil → Q9, nil_append → Qa, cons_append → Qb
open Option renaming bind_some → Q4, map_some → Q8
set_option maxRecDepth 100000
namespace Go.Proofs.Ythmkfeiapdbojaa
open Go.Sx Go.Kv Go.Bun
section
variable {lim B:List Int} {c:Int}
theorem a3K {v:Int} (h:v<=1000000):mnM v=v:=by unfold mnM; rw [if_pos h]
theorem a5c:a1f [] B<=c↔0<=c:=by rw [a6g]; simp
theorem a3w {kv x:KV} (h:KvOk lim kv) (g:KvOk lim x) (hB:leL B lim=true):a1f (raises lim kv x) B<=c↔a1f kv B<=c/\a1f x B<=c:=by
 rw [a5J h (fun p hp=>(g.all p hp).2.2.2) hB]
 refine and_congr_right fun h1=>?_
 rw [a6g (kv:=x)]
 constructor
 ·intro h2
  refine ⟨Int.le_trans (a1y _ _) h1,fun p hp hl=>?_⟩
  have:=h2 p hp hl
  rwa [a3K (g.all p hp).2.1] at this
 ·rintro ⟨_,h2⟩ p hp hl
  rw [a3K (g.all p hp).2.1]
  exact h2 p hp hl
theorem b3X (lim:List Int) (kv:KV) (b:List Int) (v:Int):a2I lim kv b v=raises lim kv [(b,v)]:=rfl
theorem b7c {w:List Int} {v:Int} (hw:nnL w=true) (hB:leL B lim=true):a1f (a2I lim [] w v) B<=c↔0<=c/\(leL w B=true->mnM v<=c):=by
 rw [b3X,a5J (.nil lim) (by simpa using hw) hB,a5c]
 simp
theorem b9n (hB:leL B lim=true):∀ {l:List KV} {a:KV},KvOk lim a->(∀ x∈l,KvOk lim x)->(a1f (l.foldl (raises lim) a) B<=c↔a1f a B<=c/\∀ x∈l,a1f x B<=c)
 | [],a,_,_=>by simp
 | x::l,a,h,hl=>by
  have hx:=hl x (by simp)
  rw [Q7,b9n hB (a3s h hx) (fun y hy=>hl y (by simp [hy])),a3w h hx hB]
  simp only [List.mem_cons,forall_eq_or_imp]
  exact and_assoc
theorem b7N {kv:KV} (h:KvOk lim kv) {p:List Int × Int} (hp:p∈kv):p.1.length=lim.length:=b0h (h.all p hp).2.2.1
theorem c3j:∀ {a b:List Int},nnL a=true->nnL b=true->nnL (a2X a b)=true
 | [],_,_,_=>rfl
 | _::_,[],_,_=>rfl
 | x::a,y::b,ha,hb=>by
  simp only [nnL,Q2,Q0,decide_eq_true_eq] at ha hb
  have:=c3j (a:=a) (b:=b) ha.2 hb.2
  simp only [nnL,a2X,Q3,Q2,Q0,decide_eq_true_eq] at *
  exact ⟨by omega,this⟩
theorem b8J:∀ {B:List Int},nnL B=true->leL (B.map fun _=>0) B=true
 | [],_=>rfl
 | x::B,h=>by
  simp only [nnL,Q2,Q0,decide_eq_true_eq] at h
  simp only [Q5,leL,Q0,decide_eq_true_eq]
  exact ⟨h.1,b8J h.2⟩
theorem c4y:∀ B:List Int,nnL (B.map fun _=>(0:Int))=true
 | []=>rfl
 | x::B=>by simp only [Q5,nnL,Q2,Q0,decide_eq_true_eq]; exact ⟨Int.le_refl _,c4y B⟩
theorem c0D:∀ B:List Int,a3Q B (B.map fun _=>0)=B
 | []=>rfl
 | x::B=>by have:=c0D B; simp only [a3Q,Q5,Q3] at *; rw [this]; simp
theorem a9w:∀ {D B:List Int},nnL D=true->leL D B=true->leL (a3Q B D) B=true
 | [],[],_,_=>rfl
 | x::D,y::B,h,k=>by
  simp only [nnL,Q2,Q0,decide_eq_true_eq] at h
  simp only [leL,Q0,decide_eq_true_eq] at k
  simp only [a3Q,Q3,leL,Q0,decide_eq_true_eq]
  exact ⟨by omega,a9w h.2 k.2⟩
 | [],_::_,_,k=>by simp [leL] at k
 | _::_,[],_,k=>by simp [leL] at k
theorem b5J {x y:KV} (gx:KvOk lim x) (gy:KvOk lim y) (hB:leL B lim=true) (hn:nnL B=true) :
  a1f (a3r lim x y) B<=c↔0<=c/\∀ D,leL D B=true->nnL D=true->mnM (a1f x D+a1f y (a3Q B D))<=c:=by
 unfold a3r
 have h1:=a3s (.nil lim) gx
 have h2:=a3s h1 gy
 have hpn:∀ p∈a6r x y,nnL p.1=true:=by
  intro p hp
  simp only [a6r,Q6,Q1] at hp
  obtain ⟨a,ha,b,hb,rfl⟩:=hp
  exact c3j (gx.all a ha).2.2.2 (gy.all b hb).2.2.2
 rw [a5J h2 hpn hB,a3w h1 gy hB,a3w (.nil lim) gx hB,a5c]
 have hBl:=b0h hB
 constructor
 ·rintro ⟨⟨⟨h0,hx⟩,hy⟩,hp⟩
  refine ⟨h0,fun D hD hDn=>?_⟩
  rw [a2N]
  rcases b4s x D with e1 | ⟨p,p1,p2,p3⟩
  ·rcases b4s y (a3Q B D) with e2 | ⟨q,q1,q2,q3⟩
   ·left; omega
   ·left
    have:=a9L q1 (a2C q2 (a9w hDn hD))
    omega
  ·rcases b4s y (a3Q B D) with e2 | ⟨q,q1,q2,q3⟩
   ·left
    have:=a9L p1 (a2C p2 hD)
    omega
   ·have:=hp (a7o p q) (by simp only [a6r,Q6,Q1]; exact ⟨p,p1,q,q1,rfl⟩) (by
     simp only [a7o]
     have:=c3T p2 q2
     rwa [c3z hD] at this)
    simp only [a7o] at this
    rw [a2N] at this
    omega
 ·rintro ⟨h0,h⟩
  refine ⟨⟨⟨h0,?_⟩,?_⟩,?_⟩
  ·have:=h B (a9A B) hn
   rw [a2N] at this
   have h3:=a1y y (a3Q B B)
   have h4:=b5M gx B
   omega
  ·have:=h (B.map fun _=>0) (b8J hn) (c4y B)
   rw [c0D,a2N] at this
   have h3:=a1y x (B.map fun _=>0)
   have h4:=b5M gy B
   omega
  ·intro p hp hl
   simp only [a6r,Q6,Q1] at hp
   obtain ⟨a,ha,b,hb,rfl⟩:=hp
   simp only [a7o] at hl ⊢
   have l1:=b7N gx ha
   have l2:=b7N gy hb
   have k1:=c3O hl (gy.all b hb).2.2.2 (by omega) (by omega)
   have k2:=c6u hl (by omega) (by omega)
   have:=h a.1 k1 (gx.all a ha).2.2.2
   rw [a2N] at this ⊢
   have h3:=a9L ha (a9A a.1)
   have h4:=a9L hb k2
   omega
theorem b7p:∀ {a b B:List Int},a.length=b.length->(leL (a2o a b) B=true↔leL a B=true/\leL b B=true)
 | [],[],[],_=>by simp [a2o,leL]
 | [],[],_::_,_=>by simp [a2o,leL]
 | x::a,y::b,[],_=>by simp [a2o,leL]
 | x::a,y::b,z::B,h=>by
  have:=b7p (a:=a) (b:=b) (B:=B) (by simpa using h)
  simp only [a2o,Q3,leL,Q0,decide_eq_true_eq] at *
  rw [this]
  constructor
  ·rintro ⟨h1,h2,h3⟩
   split at h1
   ·exact ⟨⟨by omega,h2⟩,by omega,h3⟩
   ·exact ⟨⟨by omega,h2⟩,by omega,h3⟩
  ·rintro ⟨⟨h1,h2⟩,h3,h4⟩
   exact ⟨by split<;>omega,h2,h4⟩
 | [],_::_,_,h=>by simp at h
 | _::_,[],_,h=>by simp at h
theorem b4M {w:List Int} {v:Int} {x:KV} (gx:KvOk lim x) (hw:nnL w=true) (hwl:w.length=lim.length) (hv:0<=v) (hB:leL B lim=true) :
  a1f (a9U lim w v x) B<=c↔0<=c/\mnM (a1f x B+if leL w B=true then v else 0)<=c:=by
 unfold a9U
 have h1:=a3s (.nil lim) gx
 have h2:KvOk lim (a2I lim (raises lim [] x) w v):=h1.raise hw
 have hpn:∀ p∈x.map fun p=>(a2o p.1 w,p.2+v),nnL p.1=true:=by
  intro p hp
  obtain ⟨a,ha,rfl⟩:=Q1.1 hp
  exact b5V (gx.all a ha).2.2.2 hw
 rw [a5J h2 hpn hB,b3X,a5J h1 (by simpa using hw) hB,a3w (.nil lim) gx hB,a5c]
 have hM:=b5M gx B
 have h0:=a1y x B
 constructor
 ·rintro ⟨⟨⟨g0,g1⟩,g2⟩,g3⟩
  refine ⟨g0,?_⟩
  rw [a2N]
  split
  ·rename_i hwB
   rcases b4s x B with e1 | ⟨p,p1,p2,p3⟩
   ·have:=g2 (w,v) (by simp) hwB
    rw [a2N] at this
    simp only at this
    omega
   ·have:=g3 (a2o p.1 w,p.2+v) (Q1.2 ⟨p,p1,rfl⟩) ((b7p (by rw [b7N gx p1,hwl])).2 ⟨p2,hwB⟩)
    rw [a2N] at this
    simp only at this
    omega
  ·omega
 ·rintro ⟨g0,g⟩
  rw [a2N] at g
  refine ⟨⟨⟨g0,by split at g<;>omega⟩,?_⟩,?_⟩
  ·intro p hp hl
   rw [List.mem_singleton] at hp
   subst hp
   simp only at hl ⊢
   rw [if_pos hl] at g
   rw [a2N]; omega
  ·intro p hp hl
   obtain ⟨a,ha,rfl⟩:=Q1.1 hp
   simp only at hl ⊢
   obtain ⟨k1,k2⟩:=(b7p (by rw [b7N gx ha,hwl])).1 hl
   rw [if_pos k2] at g
   have:=a9L ha k1
   rw [a2N]; omega
theorem b5v {v:Int} {x:KV} (gx:KvOk lim x) (hv:0<=v) (hB:leL B lim=true):a1f (a8r lim v x) B<=c↔0<=c/\mnI (a1f x B) v<=c:=by
 unfold a8r
 have hpn:∀ p∈x.map fun p=>(p.1,mnI p.2 v),nnL p.1=true:=by
  intro p hp
  obtain ⟨a,ha,rfl⟩:=Q1.1 hp
  exact (gx.all a ha).2.2.2
 rw [a5J (.nil lim) hpn hB,a5c]
 refine and_congr_right fun h0=>?_
 constructor
 ·intro h
  rcases b4s x B with e1 | ⟨p,p1,p2,p3⟩
  ·rw [e1]; unfold mnI; split<;>omega
  ·have:=h _ (Q1.2 ⟨p,p1,rfl⟩) p2
   simp only at this
   have hm:=(gx.all p p1).2.1
   rw [a3K (by unfold mnI; split<;>omega)] at this
   rwa [<- p3]
 ·intro h p hp hl
  obtain ⟨a,ha,rfl⟩:=Q1.1 hp
  simp only at hl ⊢
  have:=a9L ha hl
  have hm:=(gx.all a ha).2.1
  rw [a3K (by unfold mnI; split<;>omega)]
  unfold mnI at *
  split at h<;>split<;>omega
end
end Go.Proofs.Ythmkfeiapdbojaa
set_option maxRecDepth 100000
namespace Go.Proofs.Ythmkfeiapdbojaa
open Go.Sx Go.Kv Go.Bun
theorem a8u (lim:List Int):∀ l:List Ex,a1p lim l=l.map (a0z lim)
 | []=>rfl
 | e::l=>by rw [a1p,a8u lim l]; rfl
theorem a8i {lim:List Int} {l:List Ex} (h:a3k l=true):∀ x∈a1p lim l,KvOk lim x:=b7u lim l h
def b3B (lim lim':List Int) (x y:KV):Prop:=∀ B,leL B lim=true->leL B lim'=true->nnL B=true->a1f x B=a1f y B
theorem c8n {lim lim':List Int} {x y x' y':KV} (gx:KvOk lim x) (gy:KvOk lim y) (gx':KvOk lim' x') (gy':KvOk lim' y') (h1:b3B lim lim' x x') (h2:b3B lim lim' y y'):b3B lim lim' (a3r lim x y) (a3r lim' x' y'):=by
 intro B b1 b2 b3
 refine a1O fun c=>?_
 rw [b5J gx gy b1 b3,b5J gx' gy' b2 b3]
 refine and_congr_right fun _=>forall_congr' fun D=>?_
 constructor
 ·intro h d1 d2
  have:=h d1 d2
  rwa [h1 D (a2C d1 b1) (a2C d1 b2) d2,h2 (a3Q B D) (a2C (a9w d2 d1) b1) (a2C (a9w d2 d1) b2) (c0V d1)] at this
 ·intro h d1 d2
  have:=h d1 d2
  rwa [<- h1 D (a2C d1 b1) (a2C d1 b2) d2,<- h2 (a3Q B D) (a2C (a9w d2 d1) b1) (a2C (a9w d2 d1) b2) (c0V d1)] at this
theorem b9W {lim lim':List Int}:∀ {l:List Ex} {x x':KV},a3k l=true->KvOk lim x->KvOk lim' x'->b3B lim lim' x x'->(∀ e∈l,b3B lim lim' (a0z lim e) (a0z lim' e)) ->
  b3B lim lim' ((a1p lim l).foldl (a3r lim) x) ((a1p lim' l).foldl (a3r lim') x')
 | [],_,_,_,_,_,h,_=>h
 | e::l,x,x',ho,gx,gx',h,he=>by
  simp only [a3k,Q0] at ho
  simp only [a1p,Q7]
  have k1:=a2P lim e ho.1
  have k2:=a2P lim' e ho.1
  exact b9W ho.2 (b2b gx k1) (b2b gx' k2) (c8n gx k1 gx' k2 h (he e (by simp))) (fun y hy=>he y (by simp [hy]))
mutual
theorem b8W {lim lim':List Int} (hl:lim.length=6) (hl':lim'.length=6):∀ e:Ex,okX e=true->b3B lim lim' (a0z lim e) (a0z lim' e)
 | .node op a b c d e f v l,h=>by
  have hx:=h
  simp only [okX,Q0,decide_eq_true_eq,Bool.or_eq_true,Bool.not_eq_true',decide_eq_false_iff_not] at h
  obtain ⟨⟨⟨⟨h1,h2⟩,h3⟩,h4⟩,h5⟩:=h
  have ih:=c1b hl hl' l h5
  intro B b1 b2 b3
  have hhd:∀ lm:List Int,KvOk lm ((a1p lm l).headD []):=fun lm=>by
   cases hk:a1p lm l with
   | nil=>exact .nil lm
   | cons x r=>exact a8i h5 x (by rw [hk]; simp)
  have hsh:b3B lim lim' ((a1p lim l).headD []) ((a1p lim' l).headD []):=by
   cases l with
   | nil=>intro B _ _ _; rfl
   | cons x r=>exact ih x (by simp)
  simp only [a0z]
  split
  ·refine a1O fun c=>?_
   rw [b7c h1 b1,b7c h1 b2]
  split
  ·refine a1O fun c=>?_
   rw [b9n b1 (.nil lim) (a8i h5),b9n b2 (.nil lim') (a8i h5),a8u,a8u]
   refine and_congr Iff.rfl ?_
   simp only [Q1,forall_exists_index,and_imp,forall_apply_eq_imp_iff₂]
   constructor
   ·intro hh e he; rw [<- ih e he B b1 b2 b3]; exact hh e he
   ·intro hh e he; rw [ih e he B b1 b2 b3]; exact hh e he
  split
  ·exact b9W h5 (.nil lim) (.nil lim') (fun _ _ _ _=>rfl) ih B b1 b2 b3
  split
  ·refine a1O fun c=>?_
   rw [b4M (hhd lim) h1 (by rw [hl]; rfl) h2 b1,b4M (hhd lim') h1 (by rw [hl']; rfl) h2 b2,hsh B b1 b2 b3]
  split
  ·refine a1O fun c=>?_
   rw [b5v (hhd lim) h2 b1,b5v (hhd lim') h2 b2,hsh B b1 b2 b3]
  ·rfl
theorem c1b {lim lim':List Int} (hl:lim.length=6) (hl':lim'.length=6):∀ l:List Ex,a3k l=true->∀ e∈l,b3B lim lim' (a0z lim e) (a0z lim' e)
 | [],_=>by simp
 | x::l,h=>by
  simp only [a3k,Q0] at h
  have i1:=b8W hl hl' x h.1
  have i2:=c1b hl hl' l h.2
  intro e he
  rcases List.mem_cons.1 he with rfl | he
  ·exact i1
  ·exact i2 e he
end
end Go.Proofs.Ythmkfeiapdbojaa
set_option maxRecDepth 100000
namespace Go.Proofs.Ythmkfeiapdbojaa
open Go.Sx Go.Kv Go.Bun
section
variable {f:Nat->Int->Int} {A:List Int} {k:Nat}
end
structure TabOk (s:Bd) (N:Nat) (X:KV) (b:Int) (A:List Int):Prop where
 len:A.length=N
 all:∀ j:Nat,j < N->0<=A.getD j 0/\A.getD j 0<=b/\mnM (A.getD j 0)=a1f X (s.unr j).l
section
variable {s:Bd} {N:Nat}
end
end Go.Proofs.Ythmkfeiapdbojaa
set_option maxRecDepth 100000
namespace Go.Proofs.Ythmkfeiapdbojaa
open Go.Sx Go.Kv Go.Bun
end Go.Proofs.Ythmkfeiapdbojaa
set_option maxRecDepth 100000
namespace Go.Proofs.Ythmkfeiapdbojaa
open Go.Sx Go.Kv Go.Bun
theorem c8w (s:Bd) (hs:s.Ok) {i:Int} (hi:0<=i/\i<=1000000) (σ:List MO) (n:Nat):a0e Tab (n+1) 58 [.agg (bpv s),.int .i64 i] σ=some (.agg (bpv (s.unr i)),σ):=by
 obtain ⟨a,b,c,d,e,f⟩:=s
 simp only [Bd.Ok] at hs
 simp only [bpv,Bd.unr]
 have ne:∀ x:Int,0<=x->(!eqB (x+1) 0)=true:=fun x hx=>by simp [eqB]; omega
 have ok1:∀ x:Int,0<=x/\x<=4->(leB (-9223372036854775808) (x+1)&&leB (x+1) 9223372036854775807)=true:=fun x hx=>a0u (by omega)
 have q1:=b5H (x:=i) (y:=f+1) hi.1 (by omega)
 have q2:=b5H (x:=i.tdiv (f+1)) (y:=e+1) q1.1 (by omega)
 have q3:=b5H (x:=(i.tdiv (f+1)).tdiv (e+1)) (y:=d+1) q2.1 (by omega)
 have q4:=b5H (x:=((i.tdiv (f+1)).tdiv (e+1)).tdiv (d+1)) (y:=c+1) q3.1 (by omega)
 have q5:=b5H (x:=(((i.tdiv (f+1)).tdiv (e+1)).tdiv (d+1)).tdiv (c+1)) (y:=b+1) q4.1 (by omega)
 have q6:=b5H (x:=((((i.tdiv (f+1)).tdiv (e+1)).tdiv (d+1)).tdiv (c+1)).tdiv (b+1)) (y:=a+1) q5.1 (by omega)
 have ok2:∀ x:Int,0<=x/\x<=1000000->(leB (-9223372036854775808) x&&leB x 9223372036854775807)=true:=fun x hx=>a0u (by omega)
 have k1:=ok2 _ ⟨q1.1,by omega⟩
 have k2:=ok2 _ ⟨q2.1,by omega⟩
 have k3:=ok2 _ ⟨q3.1,by omega⟩
 have k4:=ok2 _ ⟨q4.1,by omega⟩
 have k5:=ok2 _ ⟨q5.1,by omega⟩
 have k6:=ok2 _ ⟨q6.1,by omega⟩
 rw [a0e,b3x]
 simp only [Q4,Sys.run]
 show ((a0i [.sh (.agg [_,_,_,_,_,_]),.sh (.one _)] _).bind _)=_
 simp only [a0i,a0d,a0c,Q8,Q4,Q9,Qa,Qb,if_true]
 show (PT.ev _ a5y _).bind _=_
 simp -implicitDefEqProofs only [a5y,↓reduceIte,eq_self,ξ1,ξ2,ξ3,ξ4,ξ5,ξ6,ξ7,ξ8,ξ9,ξa,ξb,ξc,ξd,ξe,ξf,ξg,ξh,Nat.reduceAdd,ξi,if_true,if_false,ξl,ξm,ξn,ξo,ξp,ξq,ξr,ξs,ξt,ξu,ξv,ξw,ξx,ξy,ξz,ξA,ξB,ξC,ξD,ξE,a0k,or_true,ne a hs.1.1,ne b hs.2.1.1,ne c hs.2.2.1.1,ne d hs.2.2.2.1.1,ne e hs.2.2.2.2.1.1,ne f hs.2.2.2.2.2.1,ok1 a hs.1,ok1 b hs.2.1,ok1 c hs.2.2.1,ok1 d hs.2.2.2.1,ok1 e hs.2.2.2.2.1,ok1 f hs.2.2.2.2.2,k1,k2,k3,k4,k5,k6]
theorem a6b (x y:Bd) (σ:List MO) (n:Nat):a0e Tab (n+1) b0U [.agg (bpv x),.agg (bpv y)] σ=some (.bool (decide (x.Le y)),σ):=by
 obtain ⟨a,b,c,d,e,f⟩:=y
 obtain ⟨x0,x1,x2,x3,x4,x5⟩:=x
 simp only [bpv]
 rw [a0e,a9n]
 simp only [Q4,Sys.run]
 show ((a0i [.sh (.agg [_,_,_,_,_,_]),.sh (.agg [_,_,_,_,_,_])] _).bind _)=_
 simp only [a0i,a0d,a0c,Q8,Q4,Q9,Qa,Qb,if_true]
 show (PT.ev _ a4v _).bind _=_
 simp -implicitDefEqProofs only [a4v,↓reduceIte,eq_self,ξ1,ξ2,ξ3,ξ4,ξ5,ξ6,ξ7,ξ8,ξ9,ξa,ξb,ξc,ξd,ξe,ξf,ξg,ξh,Nat.reduceAdd,ξi,if_true,if_false,ξl,ξm,ξn,ξo,ξp,ξq,ξr,ξs,ξt,ξu,ξv,ξw,ξx,ξy,ξz,ξA,ξB,ξC,ξD,ξE,a0k,or_true,a1n]
 have hd:∀ (p q:Prop) [Decidable p] [Decidable q],(p↔q)->decide p=decide q:=fun p q _ _ h=>by simp [h]
 repeat' split
 all_goals first
  | (rw [decide_eq_true (p:=Bd.Le _ _) (by simp only [Bd.Le]; omega)]; rfl)
  | (rw [decide_eq_false (p:=Bd.Le _ _) (by simp only [Bd.Le]; omega)]; rfl)
end Go.Proofs.Ythmkfeiapdbojaa
set_option maxRecDepth 100000
namespace Go.Proofs.Ythmkfeiapdbojaa
open Go.Sx Go.Kv Go.Bun
section
variable {σ:List MO} {s:Bd} {N hx hy:Nat} {x y:List Int}
abbrev orV (σ:List MO) (N hx hy:Nat):List PV:=[.msl hx 0 N N 1,.msl hy 0 N N 1,.msl σ.length 0 N N 1,.msl (σ.length+1) 0 N N 6]
end
end Go.Proofs.Ythmkfeiapdbojaa
set_option maxRecDepth 100000
namespace Go.Proofs.Ythmkfeiapdbojaa
open Go.Sx Go.Kv Go.Bun
section
variable {σ:List MO} {h h' k:Nat}
variable {N:Nat} {A T:List Int} {x:PV} {op a b c d e f v:Int} {s:Bd} {K:Nat}
abbrev c4E (N i k:Int) (op a b c d e f v:Int) (s:Bd):List Int:=[N,i,k,op,a,b,c,d,e,f,v,s.a,s.b,s.c,s.d,s.e,s.f]
end
end Go.Proofs.Ythmkfeiapdbojaa
set_option maxRecDepth 100000
namespace Go.Proofs.Ythmkfeiapdbojaa
open Go.Sx Go.Kv Go.Bun
end Go.Proofs.Ythmkfeiapdbojaa
