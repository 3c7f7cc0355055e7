/- Which products an expression uses, and how many nodes it has: the reference's. -/
import Derived.Test.YthmkfeiapdbojaaHVq
import Derived.Test.YthmkfeiapdbojaaHVn
import Derived.Test.YthmkfeiapdbojaaHGx
import Derived.Test.YthmkfeiapdbojaaHTxe
set_option linter.unusedSimpArgs false
set_option linter.unusedVariables false
open Bool renaming and_eq_true → Q0, or_eq_false_iff → Q4
open List renaming mem_map → Q1, foldl_cons → Q3, headD_cons → Q6, getElem?_eq_none → Q7
open Int renaming le_refl → Q2, le_antisymm → Q5
set_option maxRecDepth 100000
namespace Go.Proofs.Ythmkfeiapdbojaa
open Go.Sx Go.Kv Go.Bun
mutual
def a6u:Ex->Prop | .node _ _ _ _ _ _ _ _ l=>l.length<=9223372036854775807/\b1X l
def b1X:List Ex->Prop | []=>True | e::l=>a6u e/\b1X l
end
mutual
def a5I (k:Nat):Ex->Bool | .node _ a b c d e f _ l=>decide (0 < [a,b,c,d,e,f].getD k 0)||b1y k l
def b1y (k:Nat):List Ex->Bool | []=>false | e::l=>a5I k e||b1y k l
end
mutual
def a3B (d:Nat):Ex->Int | .node _ _ _ _ _ _ _ _ l=>if 10 < d\/20 < l.length then 1000 else 1+a3i (d+1) l
def a3i (d:Nat):List Ex->Int | []=>0 | e::l=>a3B d e+a3i d l
end
def bN:Nat->Int
 | 0=>1000
 | k+1=>1+20*bN k
theorem b7T:∀ k,1000<=bN k
 | 0=>Q2 _
 | k+1=>by have:=b7T k; simp only [bN]; omega
mutual
theorem b7x (d:Nat):∀ e:Ex,1<=a3B d e/\a3B d e<=bN (11-d)
 | .node op a b c d' e f v l=>by
  unfold a3B
  have hb:=b7T (11-d)
  split
  ·omega
  ·rename_i h
   have:=a6G (d+1) l
   obtain ⟨k,hk⟩:∃ k,11-d=k+1:=⟨10-d,by omega⟩
   rw [hk]
   rw [show 11-(d+1)=k by omega] at this
   simp only [bN]
   have hl:(l.length:Int)*bN k<=20*bN k:=Int.mul_le_mul_of_nonneg_right (by omega) (by have:=b7T k; omega)
   omega
theorem a6G (d:Nat):∀ l:List Ex,0<=a3i d l/\a3i d l<=l.length*bN (11-d)
 | []=>by simp [a3i]
 | e::l=>by
  have h1:=b7x d e
  have h2:=a6G d l
  simp only [a3i,List.length_cons]
  rw [Int.natCast_add,Int.add_mul]
  omega
end
mutual
theorem b6u (d:Nat):∀ e:Ex,a3B d e < 1000->a3B d e=e.size
 | .node op a b c d' e f v l,h=>by
  unfold a3B at h ⊢
  split
  ·rename_i hc; rw [if_pos hc] at h; omega
  ·rename_i hc
   rw [if_neg hc] at h
   have:=b5l (d+1) l (by have:=a6G (d+1) l; omega)
   simp only [Ex.size]; omega
theorem b5l (d:Nat):∀ l:List Ex,a3i d l < 1000->a3i d l=a2a l
 | [],_=>by simp [a3i,a2a]
 | e::l,h=>by
  have h1:=b7x d e
  have h2:=a6G d l
  simp only [a3i] at h ⊢
  have h3:=b6u d e (by omega)
  have h4:=b5l d l (by omega)
  simp only [a2a]; omega
end
def want (a b c d e f:Int) (k:Nat):Int:=[a,b,c,d,e,f].getD k 0
end Go.Proofs.Ythmkfeiapdbojaa
set_option maxRecDepth 100000
namespace Go.Proofs.Ythmkfeiapdbojaa
open Go.Sx Go.Kv Go.Bun
def Zk (k:Nat) (kv:KV):Prop:=∀ p∈kv,p.1.getD k 0=0
section
variable {k:Nat} {lim:List Int}
theorem b4D {kv:KV} (h:Zk k kv) {b:List Int} {v:Int} (hb:b.getD k 0=0):Zk k (a2I lim kv b v):=by
 unfold a2I
 split
 ·intro p hp
  rcases b7a.1 hp with rfl | ⟨hp,_⟩
  ·exact hb
  ·exact h p hp
 ·exact h
theorem a4P:∀ {L kv:KV},Zk k kv->(∀ p∈L,p.1.getD k 0=0)->Zk k (raises lim kv L)
 | [],_,h,_=>h
 | p::L,kv,h,hL=>by rw [a7Z]; exact a4P (b4D h (hL p (by simp))) (fun q hq=>hL q (by simp [hq]))
theorem a8t:Zk k []:=fun p hp=>by simp at hp
theorem c1H:∀ {a b:List Int} {k:Nat},a.getD k 0=0->b.getD k 0=0->(a2X a b).getD k 0=0
 | [],_,_,_,_=>by simp [a2X]
 | _::_,[],_,_,_=>by simp [a2X]
 | x::a,y::b,0,h,g=>by simp [a2X] at *; omega
 | x::a,y::b,k+1,h,g=>by
  have:=c1H (a:=a) (b:=b) (k:=k) (by simpa using h) (by simpa using g)
  simpa [a2X] using this
theorem b9V:∀ {a b:List Int} {k:Nat},a.getD k 0=0->b.getD k 0=0->(a2o a b).getD k 0=0
 | [],_,_,_,_=>by simp [a2o]
 | _::_,[],_,_,_=>by simp [a2o]
 | x::a,y::b,0,h,g=>by simp [a2o] at *; omega
 | x::a,y::b,k+1,h,g=>by
  have:=b9V (a:=a) (b:=b) (k:=k) (by simpa using h) (by simpa using g)
  simpa [a2o] using this
theorem d0H {x y:KV} (hx:Zk k x) (hy:Zk k y):Zk k (a3r lim x y):=by
 unfold a3r
 refine a4P (a4P (a4P a8t hx) hy) fun p hp=>?_
 simp only [a6r,List.mem_flatMap,Q1] at hp
 obtain ⟨a,ha,b,hb,rfl⟩:=hp
 exact c1H (hx a ha) (hy b hb)
theorem b9b {F:KV->KV->KV} (hF:∀ a b,Zk k a->Zk k b->Zk k (F a b)):∀ {l:List KV} {a:KV},Zk k a->(∀ x∈l,Zk k x)->Zk k (l.foldl F a)
 | [],_,h,_=>h
 | x::l,a,h,hl=>by rw [Q3]; exact b9b hF (hF a x h (hl x (by simp))) (fun y hy=>hl y (by simp [hy]))
theorem c9i {l:List Int} (h:nnL l=true) (k:Nat) (hu:decide (0 < l.getD k 0)=false):l.getD k 0=0:=by
 have hu:=of_decide_eq_false hu
 rw [List.getD_eq_getElem?_getD] at hu ⊢
 cases hk:l[k]? with
 | none=>rfl
 | some z =>
  rw [hk] at hu
  have:=List.all_eq_true.1 h z (List.mem_of_getElem? hk)
  simp only [Option.getD_some,decide_eq_true_eq] at *
  omega
mutual
theorem d0V:∀ e:Ex,okX e=true->a5I k e=false->Zk k (a0z lim e)
 | .node op a b c d e f v l,h,hu=>by
  simp only [okX,Q0] at h
  obtain ⟨⟨⟨⟨h1,h2⟩,h3⟩,h4⟩,h5⟩:=h
  simp only [a5I,Q4] at hu
  have hw:=c9i h1 k hu.1
  have hl:=c5P l h5 hu.2
  have hhead:Zk k ((a1p lim l).headD []):=by
   cases hk:a1p lim l with
   | nil=>exact a8t
   | cons x r=>exact hl x (by rw [hk]; simp)
  simp only [a0z]
  split
  ·exact b4D a8t hw
  split
  ·exact b9b (fun a b ha hb=>a4P ha hb) a8t hl
  split
  ·exact b9b (fun a b=>d0H) a8t hl
  split
  ·unfold a9U
   refine a4P (b4D (a4P a8t hhead) hw) fun p hp=>?_
   obtain ⟨q,hq,rfl⟩:=Q1.1 hp
   exact b9V (hhead q hq) hw
  split
  ·unfold a8r
   refine a4P a8t fun p hp=>?_
   obtain ⟨q,hq,rfl⟩:=Q1.1 hp
   exact hhead q hq
  ·exact a8t
theorem c5P:∀ l:List Ex,a3k l=true->b1y k l=false->∀ x∈a1p lim l,Zk k x
 | [],_,_=>by simp [a1p]
 | e::l,h,hu=>by
  simp only [a3k,Q0] at h
  simp only [b1y,Q4] at hu
  have i1:=d0V e h.1 hu.1
  have i2:=c5P l h.2 hu.2
  intro x hx
  simp only [a1p,List.mem_cons] at hx
  rcases hx with rfl | hx
  ·exact i1
  ·exact i2 x hx
end
end
end Go.Proofs.Ythmkfeiapdbojaa
set_option maxRecDepth 100000
namespace Go.Proofs.Ythmkfeiapdbojaa
open Go.Sx Go.Kv Go.Bun
section
variable {σ:List MO} {e:Ex} {row:List PV}
end
end Go.Proofs.Ythmkfeiapdbojaa
set_option maxRecDepth 100000
namespace Go.Proofs.Ythmkfeiapdbojaa
open Go.Sx Go.Kv Go.Bun
section
variable {e:Ex} {row:List PV}
theorem d9O {D:List Int} (h:leL D Bd.zero.l=true) (hn:nnL D=true):D=Bd.zero.l:=by
 obtain ⟨x,rfl⟩:=c6x (l:=D) (by rw [b0h h]; rfl)
 have h:=a7e.1 h
 simp only [nnL,Bd.l,List.all_cons,List.all_nil,Bool.and_true,Q0,decide_eq_true_eq] at hn
 obtain ⟨a,b,c,d,e,f⟩:=x
 simp only [Bd.Le,Bd.zero] at h
 simp only at hn
 simp only [Bd.l,Bd.zero,List.cons.injEq,and_true]
 omega
theorem d9x:leL Bd.zero.l a1t=true/\nnL Bd.zero.l=true:=⟨rfl,rfl⟩
theorem d9I:∀ {l:List Ex} {x:KV},a3k l=true->KvOk a1t x->a1f x Bd.zero.l=0->(∀ e∈l,vX e Bd.zero.l=0)->a1f ((a1p a1t l).foldl (a3r a1t) x) Bd.zero.l=0
 | [],_,_,_,h,_=>h
 | e::l,x,ho,gx,h,he=>by
  simp only [a3k,Q0] at ho
  have gk:=a2P a1t e ho.1
  simp only [a1p,Q3]
  refine d9I ho.2 (b2b gx gk) (Q5 ((b5J gx gk d9x.1 d9x.2).2 ⟨Q2 _,fun D d1 d2=>?_⟩) (a1y _ _)) (fun y hy=>he y (by simp [hy]))
  rw [d9O d1 d2,show a3Q Bd.zero.l Bd.zero.l=Bd.zero.l from rfl,h]
  have:=he e (by simp)
  unfold vX at this
  rw [this]
  decide
theorem d9Q:∀ {e:Ex},(∀ y∈e.pre,a2K y=0)->vX e Bd.zero.l=0:=by
 intro e
 induction hM:e.size using Nat.strongRecOn generalizing e with
 | _ M ih =>
  subst hM
  intro h
  have hok:=b7P e h
  obtain ⟨op,a,b,c,d,e',f,v,l⟩:=e
  have hn:=h (.node op a b c d e' f v l) (by simp [Ex.pre])
  have hok':=hok
  simp only [okX,Q0,decide_eq_true_eq] at hok'
  obtain ⟨⟨⟨⟨k1,k2⟩,k3⟩,_⟩,k5⟩:=hok'
  have hl:∀ y∈l,vX y Bd.zero.l=0:=fun y hy=>ih y.size (by have:=a2Q hy; simp only [Ex.size]; omega) rfl (fun z hz=>h z (by simp only [Ex.pre,List.mem_cons]; exact .inr (c2b hy hz)))
  have hw:op=1\/op=4->leL [a,b,c,d,e',f] Bd.zero.l=false:=by
   intro ho
   unfold a2K at hn
   split at hn
   case isFalse=>cases hn
   split at hn
   case isFalse=>cases hn
   rename_i hr
   have hr:=of_decide_eq_true (show decide (b3m op v ⟨a,b,c,d,e',f⟩)=true from hr)
   unfold b3m at hr
   have ht:1<=(⟨a,b,c,d,e',f⟩:W6).tot:=by
    rcases ho with rfl | rfl<;>omega
   cases hle:leL [a,b,c,d,e',f] Bd.zero.l with
   | false=>rfl
   | true =>
    exfalso
    have:=a7e (x:=⟨a,b,c,d,e',f⟩) (b:=Bd.zero) |>.1 hle
    simp only [Bd.Le,Bd.zero] at this
    simp only [W6.tot] at ht
    omega
  refine Q5 ?_ (b5c _ _)
  unfold vX
  rcases c2W hn with ⟨rfl,rfl,v1,v2⟩ | ⟨ho,l1,l2⟩ | ⟨rfl,⟨x,rfl⟩,v1,v2⟩ | ⟨rfl,⟨x,rfl⟩,v1,v2⟩
  ·simp only [a0z,if_true]
   rw [b7c k1 d9x.1,hw (.inl rfl)]
   simp
  ·rcases ho with rfl | rfl
   ·simp only [a0z,Int.reduceEq,if_false,if_true]
    rw [b9n d9x.1 (.nil _) (a8i k5),a8u]
    refine ⟨by decide,fun x hx=>?_⟩
    obtain ⟨y,hy,rfl⟩:=Q1.1 hx
    exact Int.le_of_eq (hl y hy)
   ·simp only [a0z,Int.reduceEq,if_false,if_true]
    exact Int.le_of_eq (d9I k5 (.nil _) rfl hl)
  ·have gx:=a2P a1t x (b7t k5 x (by simp))
   simp only [a0z,a1p,Int.reduceEq,if_false,if_true,Q6]
   rw [b4M gx k1 rfl k2 d9x.1,hw (.inr rfl)]
   have:=hl x (by simp)
   unfold vX at this
   rw [this]
   exact ⟨by decide,by simp [mnM]⟩
  ·have gx:=a2P a1t x (b7t k5 x (by simp))
   simp only [a0z,a1p,Int.reduceEq,if_false,if_true,Q6]
   rw [b5v gx k2 d9x.1]
   have:=hl x (by simp)
   unfold vX at this
   rw [this]
   unfold mnI
   refine ⟨Q2 _,by split<;>omega⟩
end
end Go.Proofs.Ythmkfeiapdbojaa
set_option maxRecDepth 100000
namespace Go.Proofs.Ythmkfeiapdbojaa
open Go.Sx Go.Bun
theorem c8p {rows:List (List PV)} (h:∀ r∈rows,∃ e,IsE e r/\a6u e/\9*e.size<=PV.wts r):∃ l,a1k l rows/\b1X l/\l.length=rows.length/\9*a2a l<=PV.wtss rows:=by
 induction rows with
 | nil=>exact ⟨[],by simp [a1k],by simp [b1X],rfl,by simp [a2a,PV.wtss]⟩
 | cons r rows ih =>
  obtain ⟨e,he,hw,hs⟩:=h r (by simp)
  obtain ⟨l,hl,hlw,hln,hls⟩:=ih (fun r hr=>h r (by simp [hr]))
  exact ⟨e::l,⟨r,rows,rfl,he,hl⟩,⟨hw,hlw⟩,by simp [hln],by simp only [a2a,PV.wtss]; omega⟩
theorem c1G {n:Nat} {ps:List PV} (h:a1r Try.prog n 23 ps):∃ b:Bd,ps=bpv b:=by
 obtain ⟨m,_,h⟩:=c1h Try.underlying23 h
 simp only [List.replicate,a5Q] at h
 obtain ⟨_,_,rfl,h1,_,_,rfl,h2,_,_,rfl,h3,_,_,rfl,h4,_,_,rfl,h5,_,_,rfl,h6,rfl⟩:=h
 obtain ⟨a,rfl,_⟩:=a3W (k:=.i64) (by kernel_rfl) h1
 obtain ⟨b,rfl,_⟩:=a3W (k:=.i64) (by kernel_rfl) h2
 obtain ⟨c,rfl,_⟩:=a3W (k:=.i64) (by kernel_rfl) h3
 obtain ⟨d,rfl,_⟩:=a3W (k:=.i64) (by kernel_rfl) h4
 obtain ⟨e,rfl,_⟩:=a3W (k:=.i64) (by kernel_rfl) h5
 obtain ⟨f,rfl,_⟩:=a3W (k:=.i64) (by kernel_rfl) h6
 exact ⟨⟨a,b,c,d,e,f⟩,rfl⟩
theorem c6B:∀ (n:Nat) (ps:List PV),a1r Try.prog n 26 ps->∃ e,IsE e ps/\a6u e/\9*e.size<=PV.wts ps:=by
 intro n
 induction n using Nat.strongRecOn with
 | _ n ih =>
 intro ps h
 obtain ⟨m,hm,h⟩:=c0s Try.underlying26 h
 simp only [List.map_cons,List.map_nil,a5Q] at h
 obtain ⟨_,_,rfl,h1,_,_,rfl,h2,_,_,rfl,h3,_,_,rfl,h4,rfl⟩:=h
 obtain ⟨op,rfl,_⟩:=a3W (k:=.i64) (by kernel_rfl) h1
 obtain ⟨w,rfl⟩:=c1G h2
 obtain ⟨v,rfl,_⟩:=a3W (k:=.i64) (by kernel_rfl) h3
 obtain ⟨k,rows,hk,rfl,hr,hrl⟩:=b9Y (e:=26) (by kernel_rfl) h4
 obtain ⟨l,hl,hw,hln,hs⟩:=c8p (fun r hr'=>ih k (by omega) r (hr r hr'))
 have hc:Try.prog.cellsOf 26=9:=by kernel_rfl
 rw [hc]
 refine ⟨.node op w.a w.b w.c w.d w.e w.f v l,?_,?_,?_⟩
 ·simp only [IsE]
  exact ⟨_,rows,rfl,by simp [PV.rowsOf],hl⟩
 ·simp only [a6u]; exact ⟨by omega,hw⟩
 ·simp only [Ex.size,bpv,List.cons_append,List.nil_append,List.append_nil,PV.wts,PV.wt]; omega
end Go.Proofs.Ythmkfeiapdbojaa
set_option maxRecDepth 100000
namespace Go.Proofs.Ythmkfeiapdbojaa
open Go.Sx Go.Kv Go.Bun
theorem b4w {e:Ex} (he:okX e=true) {s:Bd} (hc:s.cnt≠0):a5n e s=a2e e s s.cnt.toNat:=by
 have hs:=Bd.ok_of_cnt hc
 have hcl:=a6p hc
 apply List.ext_getElem?
 intro j
 unfold a5n
 rcases Nat.lt_or_ge j s.cnt.toNat with hj | hj
 ·rw [a5P hj,if_pos hj,d0m he hs (a3m hs j).1 (a3m hs j).2]
  simp [a2e,hj]
 ·rw [Q7 (by simp [a2L]; omega),Q7 (by simp [b3b]; omega)]
end Go.Proofs.Ythmkfeiapdbojaa
set_option maxRecDepth 100000
namespace Go.Proofs.Ythmkfeiapdbojaa
open Go.Sx Go.Kv Go.Bun
def a2b (L:List (List Int)):List (List PV):=L.map lpv
inductive HoldsL (m:List MO) (L:List (List Int)):PV->Prop
 | sl:HoldsL m L (.sl 6 (a2b L))
 | rsl {h:Nat}:m[h]?=some (.row (a2b L) 6 23)->HoldsL m L (.rsl h L.length 6)
section
variable {Φ:Fns} {m0:List MO} {L:List (List Int)} {p:PV} {s:Bd} {K:Nat}
end
end Go.Proofs.Ythmkfeiapdbojaa
set_option maxRecDepth 100000
namespace Go.Proofs.Ythmkfeiapdbojaa
open Go.Sx Go.Kv Go.Bun
section
variable {Φ:Fns} {m0:List MO} {L:List (List Int)} {p:PV} {s:Bd} {K:Nat}
end
end Go.Proofs.Ythmkfeiapdbojaa
set_option maxRecDepth 100000
namespace Go.Proofs.Ythmkfeiapdbojaa
open Go.Sx Go.Kv Go.Bun
section
variable {σ:List MO} {t:List Int} {s:Bd}
end
end Go.Proofs.Ythmkfeiapdbojaa
set_option maxRecDepth 100000
namespace Go.Proofs.Ythmkfeiapdbojaa
open Go.Sx Go.Kv Go.Bun
section
variable {σ:List MO} {t:List Int} {s:Bd}
end
end Go.Proofs.Ythmkfeiapdbojaa
set_option maxRecDepth 100000
namespace Go.Proofs.Ythmkfeiapdbojaa
open Go.Sx Go.Kv Go.Bun
section
variable {e:Ex} {row:List PV}
theorem d0k (hrow:IsE e row) (he:e.size<=400) (s:Bd) {σ:List MO} (hlow:σ.all (MO.low σ.length)=true) (n:Nat):a0e a4u (n+1) 24 [.agg row,.agg (bpv s)] σ=some (a3V e s,σ):=by
 have hT:a4u 24=some tableP:=rfl
 rw [a0e,hT]
 simp only [Option.bind_some,Sys.run,tableP,b7K,b5F 400 e row hrow he,c3X]
 rw [if_pos ⟨he,hlow⟩]
end
end Go.Proofs.Ythmkfeiapdbojaa
