/- Which products an expression uses, and how many nodes it has: the reference's. -/
import Derived.Test.YthmkfeiapdbojaaHVq
import Derived.Test.YthmkfeiapdbojaaHVn
import Derived.Test.YthmkfeiapdbojaaHGx
import Derived.Test.YthmkfeiapdbojaaHTxe
set_option linter.unusedSimpArgs false
set_option linter.unusedVariables false
open Go.Sx.PT renaming ev → ξ1
open Go.Sx.BE renaming safe → ξ2, pe → ξ3, all → ξz
open Go.Sx.IE renaming pe → ξ4
open Go.Sx renaming PEnv.at → ξ5
open Go.Sx.PEnv renaming push → ξt
open List renaming getD_cons_zero → ξ6, getD_cons_succ → ξ7, getElem?_cons_zero → ξ8, getElem?_cons_succ → ξ9, drop_zero → ξf, length_cons → ξg, length_nil → ξh, take_succ_cons → ξm, take_zero → ξn, cons_append → ξu, nil_append → ξv, append_nil → ξw, map_cons → ξD, map_nil → ξE
open Go.Sx renaming a0g → ξa, a0h → ξb, a0b → ξc, a0f → ξd, a0c → ξo, a0a → ξp, a0d → ξq, a0N → ξF, a0D → ξG, a0p → ξH, a0q → ξI, a0C → ξJ, a1d → ξK, a0Z → ξL, a1e → ξM, a0Y → ξN, a0A → ξO, a0n → ξP, a0B → ξQ, a0M → ξR, a0m → ξS, a0y → ξT, a0R → ξU, a0H → ξV, a0I → ξW, a0J → ξX, a0r → ξY
open Nat renaming add_zero → ξe, le_refl → ξi
open Bool renaming false_eq_true → ξl, and_self → ξA, not_true → ξB, not_false → ξC
open Option renaming map_some → ξr, bind_some → ξs
open Go.Sx.SV renaming pvs → ξx, pv → ξy
open Option renaming bind_some → Q0, map_some → Q6, bind_eq_bind → Qh, pure_def → Qj
open List renaming map_cons → Q1, map_nil → Q2, cons_append → Q3, nil_append → Q4, append_nil → Q5, length_cons → Q7, getD_eq_getElem?_getD → Q9, mem_of_getElem? → Qa, length_nil → Qb, mapM_cons → Qd, mapM_nil → Qe, reverse_cons → Qf, reverse_nil → Qg, mem_map → Qk, set_cons_zero → Qp, set_cons_succ → Qq, getD_cons_zero → Qr, getD_cons_succ → Qs, getElem?_cons_zero → Qu, getElem?_cons_succ → Qv, getElem?_eq_some_iff → QC, foldl_cons → QD, all_eq_true → QE, headD_cons → QK, getElem?_eq_none → QL, drop_zero → QN, length_singleton → QQ, length_append → QS, take_left → QU
open Nat renaming zero_add → Q8, mul_le_mul → Qn, le_refl → Qw, zero_mul → Qy, add_zero → Qz, add_mul → QA
open Bool renaming and_eq_true → Qm, and_self → Qt, or_eq_false_iff → QH, false_eq_true → QP
open Int renaming le_refl → QB, le_antisymm → QJ, toNat_natCast → QM
set_option maxRecDepth 100000
namespace Go.Proofs.Ythmkfeiapdbojaa
open Go.Sx Go.Kv Go.Bun
mutual
def a6u:Ex->Prop | .node _ _ _ _ _ _ _ _ l=>l.length<=9223372036854775807/\b1X l
def b1X:List Ex->Prop | []=>True | e::l=>a6u e/\b1X l
end
mutual
def a5I (k:Nat):Ex->Bool | .node _ a b c d e f _ l=>decide (0 < [a,b,c,d,e,f].getD k 0)||b1y k l
def b1y (k:Nat):List Ex->Bool | []=>false | e::l=>a5I k e||b1y k l
end
mutual
def a3B (d:Nat):Ex->Int | .node _ _ _ _ _ _ _ _ l=>if 10 < d\/20 < l.length then 1000 else 1+a3i (d+1) l
def a3i (d:Nat):List Ex->Int | []=>0 | e::l=>a3B d e+a3i d l
end
def bN:Nat->Int
 | 0=>1000
 | k+1=>1+20*bN k
theorem b7T:∀ k,1000<=bN k
 | 0=>QB _
 | k+1=>by have:=b7T k; simp only [bN]; omega
mutual
theorem b7x (d:Nat):∀ e:Ex,1<=a3B d e/\a3B d e<=bN (11-d)
 | .node op a b c d' e f v l=>by
  unfold a3B
  have hb:=b7T (11-d)
  split
  ·omega
  ·rename_i h
   have:=a6G (d+1) l
   obtain ⟨k,hk⟩:∃ k,11-d=k+1:=⟨10-d,by omega⟩
   rw [hk]
   rw [show 11-(d+1)=k by omega] at this
   simp only [bN]
   have hl:(l.length:Int)*bN k<=20*bN k:=Int.mul_le_mul_of_nonneg_right (by omega) (by have:=b7T k; omega)
   omega
theorem a6G (d:Nat):∀ l:List Ex,0<=a3i d l/\a3i d l<=l.length*bN (11-d)
 | []=>by simp [a3i]
 | e::l=>by
  have h1:=b7x d e
  have h2:=a6G d l
  simp only [a3i,Q7]
  rw [Int.natCast_add,Int.add_mul]
  omega
end
mutual
theorem b6u (d:Nat):∀ e:Ex,a3B d e < 1000->a3B d e=e.size
 | .node op a b c d' e f v l,h=>by
  unfold a3B at h ⊢
  split
  ·rename_i hc; rw [if_pos hc] at h; omega
  ·rename_i hc
   rw [if_neg hc] at h
   have:=b5l (d+1) l (by have:=a6G (d+1) l; omega)
   simp only [Ex.size]; omega
theorem b5l (d:Nat):∀ l:List Ex,a3i d l < 1000->a3i d l=a2a l
 | [],_=>by simp [a3i,a2a]
 | e::l,h=>by
  have h1:=b7x d e
  have h2:=a6G d l
  simp only [a3i] at h ⊢
  have h3:=b6u d e (by omega)
  have h4:=b5l d l (by omega)
  simp only [a2a]; omega
end
def want (a b c d e f:Int) (k:Nat):Int:=[a,b,c,d,e,f].getD k 0
end Go.Proofs.Ythmkfeiapdbojaa
set_option maxRecDepth 100000
namespace Go.Proofs.Ythmkfeiapdbojaa
open Go.Sx Go.Kv Go.Bun
def Zk (k:Nat) (kv:KV):Prop:=∀ p∈kv,p.1.getD k 0=0
section
variable {k:Nat} {lim:List Int}
theorem b4D {kv:KV} (h:Zk k kv) {b:List Int} {v:Int} (hb:b.getD k 0=0):Zk k (a2I lim kv b v):=by
 unfold a2I
 split
 ·intro p hp
  rcases b7a.1 hp with rfl | ⟨hp,_⟩
  ·exact hb
  ·exact h p hp
 ·exact h
theorem a4P:∀ {L kv:KV},Zk k kv->(∀ p∈L,p.1.getD k 0=0)->Zk k (raises lim kv L)
 | [],_,h,_=>h
 | p::L,kv,h,hL=>by rw [a7Z]; exact a4P (b4D h (hL p (by simp))) (fun q hq=>hL q (by simp [hq]))
theorem a8t:Zk k []:=fun p hp=>by simp at hp
theorem c1H:∀ {a b:List Int} {k:Nat},a.getD k 0=0->b.getD k 0=0->(a2X a b).getD k 0=0
 | [],_,_,_,_=>by simp [a2X]
 | _::_,[],_,_,_=>by simp [a2X]
 | x::a,y::b,0,h,g=>by simp [a2X] at *; omega
 | x::a,y::b,k+1,h,g=>by
  have:=c1H (a:=a) (b:=b) (k:=k) (by simpa using h) (by simpa using g)
  simpa [a2X] using this
theorem b9V:∀ {a b:List Int} {k:Nat},a.getD k 0=0->b.getD k 0=0->(a2o a b).getD k 0=0
 | [],_,_,_,_=>by simp [a2o]
 | _::_,[],_,_,_=>by simp [a2o]
 | x::a,y::b,0,h,g=>by simp [a2o] at *; omega
 | x::a,y::b,k+1,h,g=>by
  have:=b9V (a:=a) (b:=b) (k:=k) (by simpa using h) (by simpa using g)
  simpa [a2o] using this
theorem d0H {x y:KV} (hx:Zk k x) (hy:Zk k y):Zk k (a3r lim x y):=by
 unfold a3r
 refine a4P (a4P (a4P a8t hx) hy) fun p hp=>?_
 simp only [a6r,List.mem_flatMap,Qk] at hp
 obtain ⟨a,ha,b,hb,rfl⟩:=hp
 exact c1H (hx a ha) (hy b hb)
theorem b9b {F:KV->KV->KV} (hF:∀ a b,Zk k a->Zk k b->Zk k (F a b)):∀ {l:List KV} {a:KV},Zk k a->(∀ x∈l,Zk k x)->Zk k (l.foldl F a)
 | [],_,h,_=>h
 | x::l,a,h,hl=>by rw [QD]; exact b9b hF (hF a x h (hl x (by simp))) (fun y hy=>hl y (by simp [hy]))
theorem c9i {l:List Int} (h:nnL l=true) (k:Nat) (hu:decide (0 < l.getD k 0)=false):l.getD k 0=0:=by
 have hu:=of_decide_eq_false hu
 rw [Q9] at hu ⊢
 cases hk:l[k]? with
 | none=>rfl
 | some z =>
  rw [hk] at hu
  have:=QE.1 h z (Qa hk)
  simp only [Option.getD_some,decide_eq_true_eq] at *
  omega
mutual
theorem d0V:∀ e:Ex,okX e=true->a5I k e=false->Zk k (a0z lim e)
 | .node op a b c d e f v l,h,hu=>by
  simp only [okX,Qm] at h
  obtain ⟨⟨⟨⟨h1,h2⟩,h3⟩,h4⟩,h5⟩:=h
  simp only [a5I,QH] at hu
  have hw:=c9i h1 k hu.1
  have hl:=c5P l h5 hu.2
  have hhead:Zk k ((a1p lim l).headD []):=by
   cases hk:a1p lim l with
   | nil=>exact a8t
   | cons x r=>exact hl x (by rw [hk]; simp)
  simp only [a0z]
  split
  ·exact b4D a8t hw
  split
  ·exact b9b (fun a b ha hb=>a4P ha hb) a8t hl
  split
  ·exact b9b (fun a b=>d0H) a8t hl
  split
  ·unfold a9U
   refine a4P (b4D (a4P a8t hhead) hw) fun p hp=>?_
   obtain ⟨q,hq,rfl⟩:=Qk.1 hp
   exact b9V (hhead q hq) hw
  split
  ·unfold a8r
   refine a4P a8t fun p hp=>?_
   obtain ⟨q,hq,rfl⟩:=Qk.1 hp
   exact hhead q hq
  ·exact a8t
theorem c5P:∀ l:List Ex,a3k l=true->b1y k l=false->∀ x∈a1p lim l,Zk k x
 | [],_,_=>by simp [a1p]
 | e::l,h,hu=>by
  simp only [a3k,Qm] at h
  simp only [b1y,QH] at hu
  have i1:=d0V e h.1 hu.1
  have i2:=c5P l h.2 hu.2
  intro x hx
  simp only [a1p,List.mem_cons] at hx
  rcases hx with rfl | hx
  ·exact i1
  ·exact i2 x hx
end
end
end Go.Proofs.Ythmkfeiapdbojaa
set_option maxRecDepth 100000
namespace Go.Proofs.Ythmkfeiapdbojaa
open Go.Sx Go.Kv Go.Bun
section
variable {σ:List MO} {e:Ex} {row:List PV}
end
end Go.Proofs.Ythmkfeiapdbojaa
set_option maxRecDepth 100000
namespace Go.Proofs.Ythmkfeiapdbojaa
open Go.Sx Go.Kv Go.Bun
section
variable {e:Ex} {row:List PV}
theorem d9O {D:List Int} (h:leL D Bd.zero.l=true) (hn:nnL D=true):D=Bd.zero.l:=by
 obtain ⟨x,rfl⟩:=c6x (l:=D) (by rw [b0h h]; rfl)
 have h:=a7e.1 h
 simp only [nnL,Bd.l,List.all_cons,List.all_nil,Bool.and_true,Qm,decide_eq_true_eq] at hn
 obtain ⟨a,b,c,d,e,f⟩:=x
 simp only [Bd.Le,Bd.zero] at h
 simp only at hn
 simp only [Bd.l,Bd.zero,List.cons.injEq,and_true]
 omega
theorem d9x:leL Bd.zero.l a1t=true/\nnL Bd.zero.l=true:=⟨rfl,rfl⟩
theorem d9I:∀ {l:List Ex} {x:KV},a3k l=true->KvOk a1t x->a1f x Bd.zero.l=0->(∀ e∈l,vX e Bd.zero.l=0)->a1f ((a1p a1t l).foldl (a3r a1t) x) Bd.zero.l=0
 | [],_,_,_,h,_=>h
 | e::l,x,ho,gx,h,he=>by
  simp only [a3k,Qm] at ho
  have gk:=a2P a1t e ho.1
  simp only [a1p,QD]
  refine d9I ho.2 (b2b gx gk) (QJ ((b5J gx gk d9x.1 d9x.2).2 ⟨QB _,fun D d1 d2=>?_⟩) (a1y _ _)) (fun y hy=>he y (by simp [hy]))
  rw [d9O d1 d2,show a3Q Bd.zero.l Bd.zero.l=Bd.zero.l from rfl,h]
  have:=he e (by simp)
  unfold vX at this
  rw [this]
  decide
theorem d9Q:∀ {e:Ex},(∀ y∈e.pre,a2K y=0)->vX e Bd.zero.l=0:=by
 intro e
 induction hM:e.size using Nat.strongRecOn generalizing e with
 | _ M ih =>
  subst hM
  intro h
  have hok:=b7P e h
  obtain ⟨op,a,b,c,d,e',f,v,l⟩:=e
  have hn:=h (.node op a b c d e' f v l) (by simp [Ex.pre])
  have hok':=hok
  simp only [okX,Qm,decide_eq_true_eq] at hok'
  obtain ⟨⟨⟨⟨k1,k2⟩,k3⟩,_⟩,k5⟩:=hok'
  have hl:∀ y∈l,vX y Bd.zero.l=0:=fun y hy=>ih y.size (by have:=a2Q hy; simp only [Ex.size]; omega) rfl (fun z hz=>h z (by simp only [Ex.pre,List.mem_cons]; exact .inr (c2b hy hz)))
  have hw:op=1\/op=4->leL [a,b,c,d,e',f] Bd.zero.l=false:=by
   intro ho
   unfold a2K at hn
   split at hn
   case isFalse=>cases hn
   split at hn
   case isFalse=>cases hn
   rename_i hr
   have hr:=of_decide_eq_true (show decide (b3m op v ⟨a,b,c,d,e',f⟩)=true from hr)
   unfold b3m at hr
   have ht:1<=(⟨a,b,c,d,e',f⟩:W6).tot:=by
    rcases ho with rfl | rfl<;>omega
   cases hle:leL [a,b,c,d,e',f] Bd.zero.l with
   | false=>rfl
   | true =>
    exfalso
    have:=a7e (x:=⟨a,b,c,d,e',f⟩) (b:=Bd.zero) |>.1 hle
    simp only [Bd.Le,Bd.zero] at this
    simp only [W6.tot] at ht
    omega
  refine QJ ?_ (b5c _ _)
  unfold vX
  rcases c2W hn with ⟨rfl,rfl,v1,v2⟩ | ⟨ho,l1,l2⟩ | ⟨rfl,⟨x,rfl⟩,v1,v2⟩ | ⟨rfl,⟨x,rfl⟩,v1,v2⟩
  ·simp only [a0z,if_true]
   rw [b7c k1 d9x.1,hw (.inl rfl)]
   simp
  ·rcases ho with rfl | rfl
   ·simp only [a0z,Int.reduceEq,if_false,if_true]
    rw [b9n d9x.1 (.nil _) (a8i k5),a8u]
    refine ⟨by decide,fun x hx=>?_⟩
    obtain ⟨y,hy,rfl⟩:=Qk.1 hx
    exact Int.le_of_eq (hl y hy)
   ·simp only [a0z,Int.reduceEq,if_false,if_true]
    exact Int.le_of_eq (d9I k5 (.nil _) rfl hl)
  ·have gx:=a2P a1t x (b7t k5 x (by simp))
   simp only [a0z,a1p,Int.reduceEq,if_false,if_true,QK]
   rw [b4M gx k1 rfl k2 d9x.1,hw (.inr rfl)]
   have:=hl x (by simp)
   unfold vX at this
   rw [this]
   exact ⟨by decide,by simp [mnM]⟩
  ·have gx:=a2P a1t x (b7t k5 x (by simp))
   simp only [a0z,a1p,Int.reduceEq,if_false,if_true,QK]
   rw [b5v gx k2 d9x.1]
   have:=hl x (by simp)
   unfold vX at this
   rw [this]
   unfold mnI
   refine ⟨QB _,by split<;>omega⟩
end
end Go.Proofs.Ythmkfeiapdbojaa
set_option maxRecDepth 100000
namespace Go.Proofs.Ythmkfeiapdbojaa
open Go.Sx Go.Bun
theorem c8p {rows:List (List PV)} (h:∀ r∈rows,∃ e,IsE e r/\a6u e/\9*e.size<=PV.wts r):∃ l,a1k l rows/\b1X l/\l.length=rows.length/\9*a2a l<=PV.wtss rows:=by
 induction rows with
 | nil=>exact ⟨[],by simp [a1k],by simp [b1X],rfl,by simp [a2a,PV.wtss]⟩
 | cons r rows ih =>
  obtain ⟨e,he,hw,hs⟩:=h r (by simp)
  obtain ⟨l,hl,hlw,hln,hls⟩:=ih (fun r hr=>h r (by simp [hr]))
  exact ⟨e::l,⟨r,rows,rfl,he,hl⟩,⟨hw,hlw⟩,by simp [hln],by simp only [a2a,PV.wtss]; omega⟩
theorem c1G {n:Nat} {ps:List PV} (h:a1r Try.prog n 23 ps):∃ b:Bd,ps=bpv b:=by
 obtain ⟨m,_,h⟩:=c1h Try.underlying23 h
 simp only [List.replicate,a5Q] at h
 obtain ⟨_,_,rfl,h1,_,_,rfl,h2,_,_,rfl,h3,_,_,rfl,h4,_,_,rfl,h5,_,_,rfl,h6,rfl⟩:=h
 obtain ⟨a,rfl,_⟩:=a3W (k:=.i64) (by kernel_rfl) h1
 obtain ⟨b,rfl,_⟩:=a3W (k:=.i64) (by kernel_rfl) h2
 obtain ⟨c,rfl,_⟩:=a3W (k:=.i64) (by kernel_rfl) h3
 obtain ⟨d,rfl,_⟩:=a3W (k:=.i64) (by kernel_rfl) h4
 obtain ⟨e,rfl,_⟩:=a3W (k:=.i64) (by kernel_rfl) h5
 obtain ⟨f,rfl,_⟩:=a3W (k:=.i64) (by kernel_rfl) h6
 exact ⟨⟨a,b,c,d,e,f⟩,rfl⟩
theorem c6B:∀ (n:Nat) (ps:List PV),a1r Try.prog n 26 ps->∃ e,IsE e ps/\a6u e/\9*e.size<=PV.wts ps:=by
 intro n
 induction n using Nat.strongRecOn with
 | _ n ih =>
 intro ps h
 obtain ⟨m,hm,h⟩:=c0s Try.underlying26 h
 simp only [Q1,Q2,a5Q] at h
 obtain ⟨_,_,rfl,h1,_,_,rfl,h2,_,_,rfl,h3,_,_,rfl,h4,rfl⟩:=h
 obtain ⟨op,rfl,_⟩:=a3W (k:=.i64) (by kernel_rfl) h1
 obtain ⟨w,rfl⟩:=c1G h2
 obtain ⟨v,rfl,_⟩:=a3W (k:=.i64) (by kernel_rfl) h3
 obtain ⟨k,rows,hk,rfl,hr,hrl⟩:=b9Y (e:=26) (by kernel_rfl) h4
 obtain ⟨l,hl,hw,hln,hs⟩:=c8p (fun r hr'=>ih k (by omega) r (hr r hr'))
 have hc:Try.prog.cellsOf 26=9:=by kernel_rfl
 rw [hc]
 refine ⟨.node op w.a w.b w.c w.d w.e w.f v l,?_,?_,?_⟩
 ·simp only [IsE]
  exact ⟨_,rows,rfl,by simp [PV.rowsOf],hl⟩
 ·simp only [a6u]; exact ⟨by omega,hw⟩
 ·simp only [Ex.size,bpv,Q3,Q4,Q5,PV.wts,PV.wt]; omega
end Go.Proofs.Ythmkfeiapdbojaa
set_option maxRecDepth 100000
namespace Go.Proofs.Ythmkfeiapdbojaa
open Go.Sx Go.Kv Go.Bun
theorem b4w {e:Ex} (he:okX e=true) {s:Bd} (hc:s.cnt≠0):a5n e s=a2e e s s.cnt.toNat:=by
 have hs:=Bd.ok_of_cnt hc
 have hcl:=a6p hc
 apply List.ext_getElem?
 intro j
 unfold a5n
 rcases Nat.lt_or_ge j s.cnt.toNat with hj | hj
 ·rw [a5P hj,if_pos hj,d0m he hs (a3m hs j).1 (a3m hs j).2]
  simp [a2e,hj]
 ·rw [QL (by simp [a2L]; omega),QL (by simp [b3b]; omega)]
end Go.Proofs.Ythmkfeiapdbojaa
set_option maxRecDepth 100000
namespace Go.Proofs.Ythmkfeiapdbojaa
open Go.Sx Go.Kv Go.Bun
def a2b (L:List (List Int)):List (List PV):=L.map lpv
theorem a8p (L:List (List Int)):(a2b L).length=L.length:=by simp [a2b]
def a0o (m0:List MO) (R:List (List Int)):List MO:=match R with | []=>m0 | _::_=>m0++[.row (a2b R) 6 23]
def a0l (m0:List MO) (R:List (List Int)):PV:=match R with | []=>.nilS | _::_=>.rsl m0.length R.length 6
inductive HoldsL (m:List MO) (L:List (List Int)):PV->Prop
 | sl:HoldsL m L (.sl 6 (a2b L))
 | rsl {h:Nat}:m[h]?=some (.row (a2b L) 6 23)->HoldsL m L (.rsl h L.length 6)
theorem a1B {m:List MO} {L:List (List Int)} {p:PV} (h:HoldsL m L p):p.len=(L.length:Int)/\p.isKind 0=true/\p.one=true:=by
 cases h with
 | sl=>exact ⟨by simp [PV.len,a8p],rfl,rfl⟩
 | rsl _=>exact ⟨rfl,rfl,rfl⟩
theorem a5K {m m':List MO} {L:List (List Int)} {p:PV} (h:HoldsL m L p) (hm:∀ (i:Nat) (o:MO),m[i]?=some o->m'[i]?=some o):HoldsL m' L p:=by
 cases h with
 | sl=>exact .sl
 | rsl hg=>exact .rsl (hm _ _ hg)
theorem a7B {ρ:PEnv} {L:List (List Int)} {p:PV} (h:HoldsL ρ.m L p) {k:Nat} {x:List Int} (hk:L[k]?=some x) (hx:x.length=6) {n:Nat} (hn:ρ.v[n]?=some p) {e:IE} (he:e.pe ρ=(k:Int)) :
  ∃ l,a0g ρ (.ea n e 6 0)=some l/\a0b ρ false 6 l=some (lpv x):=by
 have hl:=(QC.1 hk).1
 have hrow:(a2b L)[k]?=some (lpv x):=by simp [a2b,hk]
 have ht:a0f 6 (lpv x)=some (lpv x):=by
  unfold a0f
  rw [if_pos (by simp [lpv,hx]),List.take_of_length_le (by simp [lpv,hx])]
 cases h with
 | sl =>
  refine ⟨.row (lpv x) 0,?_,?_⟩
  ·simp only [a0g,hn,Q0,he,a3N]
   rw [if_pos ⟨trivial,by omega⟩,QM,hrow]; rfl
  ·simp only [a0b,QN]; exact ht
 | @rsl hh hg =>
  refine ⟨.elt hh L.length k 6 0,?_,?_⟩
  ·simp only [a0g,hn,Q0,he,a3N]
   rw [if_pos ⟨by omega,by omega,trivial⟩,QM]
  ·simp only [a0b,QP,if_false,hg,Q0,MO.elts,a8p]
   rw [if_pos ⟨trivial,trivial⟩]
   simp only [Q0,hrow,QN]
   exact ht
theorem a7M (m0:List MO) (R:List (List Int)) (y:List Int) (hR:R.length<=100000) {ρ:PEnv} (hm:ρ.m=a0o m0 R) (hv1:ρ.v[1]?=some (a0l m0 R)) (hv2:ρ.v[2]?=some (.sl 6 [lpv y])) (Φ:Fns) (k:PT) :
  (PT.appM (.va 1) (.va 2) 6 23 k).ev Φ ρ=k.ev Φ { ρ with v:=ρ.v++[a0l m0 (R++[y])],m:=a0o m0 (R++[y]) }:=by
 rw [a0y]
 simp only [SV.pv,hv1,Q0,a1x,hv2,PV.rowsOf,if_true]
 cases R with
 | nil =>
  simp only [a0l,QQ]
  rw [if_pos (by omega),if_neg (by omega),hm]
  rfl
 | cons x R =>
  have h0:ρ.m[m0.length]?=some (.row (a2b (x::R)) 6 23):=by rw [hm]; exact b5O _ _ _
  simp only [a0l,h0,QQ]
  rw [if_pos ⟨a8p _,trivial,trivial,trivial,by omega⟩,if_neg (by omega),hm]
  simp only [a0o,Q3,c8B,Q7,QS,Qb,Q8]
  congr 4
  ·simp [a2b]
theorem a6P {m0:List MO} {R:List (List Int)} {i:Nat} {o:MO} (h:m0[i]?=some o):(a0o m0 R)[i]?=some o:=by
 cases R with
 | nil=>exact h
 | cons x R=>exact (List.getElem?_append_left (QC.1 h).1).trans h
theorem a6q (m0:List MO) {R:List (List Int)} (h:R≠[]):HoldsL (a0o m0 R) R (a0l m0 R):=by
 cases R with
 | nil=>exact absurd rfl h
 | cons x R=>exact .rsl (b5O _ _ _)
theorem a2R (m0:List MO) (R:List (List Int)):(a0l m0 R).one=true/\(a0l m0 R).isKind 0=true:=by cases R<;>exact ⟨rfl,rfl⟩
section
variable {Φ:Fns} {m0:List MO} {L:List (List Int)} {p:PV} {s:Bd} {K:Nat}
theorem c7E (hs:s.Ok) (hh:HoldsL m0 L p) (hL:∀ x∈L,x.length=6) (hl:L.length<=10000) {k:Nat} (hk:k < L.length):∀ q,q < s.a.toNat+1->∀ fuel,
  saleroomref07_List_S.loop Φ (fuel+1) 1 { i:=[(k:Int),(q:Int),s.a,s.b,s.c,s.d,s.e,s.f],b:=[],v:=[p,a0l m0 (a0j 0 (s.a.toNat+1) L k q)],m:=a0o m0 (a0j 0 (s.a.toNat+1) L k q),k:=K } =
  saleroomref07_List_S.loop Φ fuel 1 { i:=[(k:Int),((q+1:Nat):Int),s.a,s.b,s.c,s.d,s.e,s.f],b:=[],v:=[p,a0l m0 (a0j 0 (s.a.toNat+1) L k (q+1))],m:=a0o m0 (a0j 0 (s.a.toNat+1) L k (q+1)),k:=K }:=by
 intro q hq fuel
 obtain ⟨x,hx⟩:=a3n hk
 have hx6:=hL x (Qa hx)
 have hgd:L.getD k []=x:=by rw [Q9,hx]; rfl
 have hbl:=a6S 0 (s.a.toNat+1) L k q (by omega)
 have hb:=a5N 0 (s.a.toNat+1) L k q
 rw [hgd] at hb
 simp only [Bd.Ok] at hs
 have hmul:k*(s.a.toNat+1)<=10000*5:=Qn (by omega) (by omega)
 rw [hb]
 generalize a0j 0 (s.a.toNat+1) L k q=B at *
 obtain ⟨h1,h2,h3⟩:=a1B hh
 obtain ⟨v1,v2⟩:=a2R m0 B
 have q0:leB (q:Int) s.a=true:=by simp [leB]; omega
 have q1:ltB (k:Int) (L.length:Int)=true:=by simp [ltB]; omega
 have q2:=a2h (i:=q) (by omega)
 obtain ⟨l,r1,r2⟩:=a7B (ρ:={ i:=[(k:Int),(q:Int),s.a,s.b,s.c,s.d,s.e,s.f],b:=[],v:=[p,a0l m0 B],m:=a0o m0 B,k:=K }) (a5K hh fun i o h=>a6P h) hx hx6 (n:=0) rfl (e:=.a 0) rfl
 obtain ⟨x0,x1,x2,x3,x4,x5,rfl⟩:=a1z hx6
 have happ:=fun kk=>a7M m0 B ([x0,x1,x2,x3,x4,x5].set 0 (q:Int)) (by omega) (ρ:={ i:=[(k:Int),(q:Int),s.a,s.b,s.c,s.d,s.e,s.f,x0,x1,x2,x3,x4,x5],b:=[],v:=[p,a0l m0 B,.sl 6 [lpv ([x0,x1,x2,x3,x4,x5].set 0 (q:Int))]],m:=a0o m0 B,k:=K }) rfl rfl rfl Φ kk
 simp only [Qp,Qq] at happ ⊢
 generalize a0l m0 (B++_)=V2 at *
 generalize a0o m0 (B++_)=M2 at *
 generalize a0l m0 B=V1 at *
 generalize a0o m0 B=M1 at *
 simp only [lpv,Q1,Q2] at happ r2
 rw [Sys.loop,show saleroomref07_List_S.loops[1]?=some a2F from rfl]
 simp -implicitDefEqProofs only [Q0,a2F,a0D,a0p,a0q,a0C,a0r,BE.safe,BE.pe,IE.pe,PEnv.at,Qr,Qs,q0,h1,q1,le0,r1,r2,if_true,Qt,Q7,Qb,Nat.reduceAdd,a0c,Q6,PEnv.push,Q3,Q4,Q5,a1x,Qd,Qe,Qf,Qg,Qh,Qj,SV.pvs,SV.pv,Q0,Q8,Nat.reduceLeDiff,happ,q2,BE.all,a0v,Q1,Q2,Qu,Qv]
theorem c8j (hs:s.Ok) (hh:HoldsL m0 L p) (hL:∀ x∈L,x.length=6) (hl:L.length<=10000) {k:Nat} (hk:k < L.length):∀ q,q < s.b.toNat+1->∀ fuel,
  saleroomref07_List_S.loop Φ (fuel+1) 5 { i:=[(k:Int),(q:Int),s.a,s.b,s.c,s.d,s.e,s.f],b:=[],v:=[p,a0l m0 (a0j 1 (s.b.toNat+1) L k q)],m:=a0o m0 (a0j 1 (s.b.toNat+1) L k q),k:=K } =
  saleroomref07_List_S.loop Φ fuel 5 { i:=[(k:Int),((q+1:Nat):Int),s.a,s.b,s.c,s.d,s.e,s.f],b:=[],v:=[p,a0l m0 (a0j 1 (s.b.toNat+1) L k (q+1))],m:=a0o m0 (a0j 1 (s.b.toNat+1) L k (q+1)),k:=K }:=by
 intro q hq fuel
 obtain ⟨x,hx⟩:=a3n hk
 have hx6:=hL x (Qa hx)
 have hgd:L.getD k []=x:=by rw [Q9,hx]; rfl
 have hbl:=a6S 1 (s.b.toNat+1) L k q (by omega)
 have hb:=a5N 1 (s.b.toNat+1) L k q
 rw [hgd] at hb
 simp only [Bd.Ok] at hs
 have hmul:k*(s.b.toNat+1)<=10000*5:=Qn (by omega) (by omega)
 rw [hb]
 generalize a0j 1 (s.b.toNat+1) L k q=B at *
 obtain ⟨h1,h2,h3⟩:=a1B hh
 obtain ⟨v1,v2⟩:=a2R m0 B
 have q0:leB (q:Int) s.b=true:=by simp [leB]; omega
 have q1:ltB (k:Int) (L.length:Int)=true:=by simp [ltB]; omega
 have q2:=a2h (i:=q) (by omega)
 obtain ⟨l,r1,r2⟩:=a7B (ρ:={ i:=[(k:Int),(q:Int),s.a,s.b,s.c,s.d,s.e,s.f],b:=[],v:=[p,a0l m0 B],m:=a0o m0 B,k:=K }) (a5K hh fun i o h=>a6P h) hx hx6 (n:=0) rfl (e:=.a 0) rfl
 obtain ⟨x0,x1,x2,x3,x4,x5,rfl⟩:=a1z hx6
 have happ:=fun kk=>a7M m0 B ([x0,x1,x2,x3,x4,x5].set 1 (q:Int)) (by omega) (ρ:={ i:=[(k:Int),(q:Int),s.a,s.b,s.c,s.d,s.e,s.f,x0,x1,x2,x3,x4,x5],b:=[],v:=[p,a0l m0 B,.sl 6 [lpv ([x0,x1,x2,x3,x4,x5].set 1 (q:Int))]],m:=a0o m0 B,k:=K }) rfl rfl rfl Φ kk
 simp only [Qp,Qq] at happ ⊢
 generalize a0l m0 (B++_)=V2 at *
 generalize a0o m0 (B++_)=M2 at *
 generalize a0l m0 B=V1 at *
 generalize a0o m0 B=M1 at *
 simp only [lpv,Q1,Q2] at happ r2
 rw [Sys.loop,show saleroomref07_List_S.loops[5]?=some a2r from rfl]
 simp -implicitDefEqProofs only [Q0,a2r,a0D,a0p,a0q,a0C,a0r,BE.safe,BE.pe,IE.pe,PEnv.at,Qr,Qs,q0,h1,q1,le0,r1,r2,if_true,Qt,Q7,Qb,Nat.reduceAdd,a0c,Q6,PEnv.push,Q3,Q4,Q5,a1x,Qd,Qe,Qf,Qg,Qh,Qj,SV.pvs,SV.pv,Q0,Q8,Nat.reduceLeDiff,happ,q2,BE.all,a0v,Q1,Q2,Qu,Qv]
theorem c8m (hs:s.Ok) (hh:HoldsL m0 L p) (hL:∀ x∈L,x.length=6) (hl:L.length<=10000) {k:Nat} (hk:k < L.length):∀ q,q < s.c.toNat+1->∀ fuel,
  saleroomref07_List_S.loop Φ (fuel+1) 8 { i:=[(k:Int),(q:Int),s.a,s.b,s.c,s.d,s.e,s.f],b:=[],v:=[p,a0l m0 (a0j 2 (s.c.toNat+1) L k q)],m:=a0o m0 (a0j 2 (s.c.toNat+1) L k q),k:=K } =
  saleroomref07_List_S.loop Φ fuel 8 { i:=[(k:Int),((q+1:Nat):Int),s.a,s.b,s.c,s.d,s.e,s.f],b:=[],v:=[p,a0l m0 (a0j 2 (s.c.toNat+1) L k (q+1))],m:=a0o m0 (a0j 2 (s.c.toNat+1) L k (q+1)),k:=K }:=by
 intro q hq fuel
 obtain ⟨x,hx⟩:=a3n hk
 have hx6:=hL x (Qa hx)
 have hgd:L.getD k []=x:=by rw [Q9,hx]; rfl
 have hbl:=a6S 2 (s.c.toNat+1) L k q (by omega)
 have hb:=a5N 2 (s.c.toNat+1) L k q
 rw [hgd] at hb
 simp only [Bd.Ok] at hs
 have hmul:k*(s.c.toNat+1)<=10000*5:=Qn (by omega) (by omega)
 rw [hb]
 generalize a0j 2 (s.c.toNat+1) L k q=B at *
 obtain ⟨h1,h2,h3⟩:=a1B hh
 obtain ⟨v1,v2⟩:=a2R m0 B
 have q0:leB (q:Int) s.c=true:=by simp [leB]; omega
 have q1:ltB (k:Int) (L.length:Int)=true:=by simp [ltB]; omega
 have q2:=a2h (i:=q) (by omega)
 obtain ⟨l,r1,r2⟩:=a7B (ρ:={ i:=[(k:Int),(q:Int),s.a,s.b,s.c,s.d,s.e,s.f],b:=[],v:=[p,a0l m0 B],m:=a0o m0 B,k:=K }) (a5K hh fun i o h=>a6P h) hx hx6 (n:=0) rfl (e:=.a 0) rfl
 obtain ⟨x0,x1,x2,x3,x4,x5,rfl⟩:=a1z hx6
 have happ:=fun kk=>a7M m0 B ([x0,x1,x2,x3,x4,x5].set 2 (q:Int)) (by omega) (ρ:={ i:=[(k:Int),(q:Int),s.a,s.b,s.c,s.d,s.e,s.f,x0,x1,x2,x3,x4,x5],b:=[],v:=[p,a0l m0 B,.sl 6 [lpv ([x0,x1,x2,x3,x4,x5].set 2 (q:Int))]],m:=a0o m0 B,k:=K }) rfl rfl rfl Φ kk
 simp only [Qp,Qq] at happ ⊢
 generalize a0l m0 (B++_)=V2 at *
 generalize a0o m0 (B++_)=M2 at *
 generalize a0l m0 B=V1 at *
 generalize a0o m0 B=M1 at *
 simp only [lpv,Q1,Q2] at happ r2
 rw [Sys.loop,show saleroomref07_List_S.loops[8]?=some a2E from rfl]
 simp -implicitDefEqProofs only [Q0,a2E,a0D,a0p,a0q,a0C,a0r,BE.safe,BE.pe,IE.pe,PEnv.at,Qr,Qs,q0,h1,q1,le0,r1,r2,if_true,Qt,Q7,Qb,Nat.reduceAdd,a0c,Q6,PEnv.push,Q3,Q4,Q5,a1x,Qd,Qe,Qf,Qg,Qh,Qj,SV.pvs,SV.pv,Q0,Q8,Nat.reduceLeDiff,happ,q2,BE.all,a0v,Q1,Q2,Qu,Qv]
theorem c7n (hs:s.Ok) (hh:HoldsL m0 L p) (hL:∀ x∈L,x.length=6) (hl:L.length<=10000) {k:Nat} (hk:k < L.length):∀ q,q < s.d.toNat+1->∀ fuel,
  saleroomref07_List_S.loop Φ (fuel+1) 9 { i:=[(k:Int),(q:Int),s.a,s.b,s.c,s.d,s.e,s.f],b:=[],v:=[p,a0l m0 (a0j 3 (s.d.toNat+1) L k q)],m:=a0o m0 (a0j 3 (s.d.toNat+1) L k q),k:=K } =
  saleroomref07_List_S.loop Φ fuel 9 { i:=[(k:Int),((q+1:Nat):Int),s.a,s.b,s.c,s.d,s.e,s.f],b:=[],v:=[p,a0l m0 (a0j 3 (s.d.toNat+1) L k (q+1))],m:=a0o m0 (a0j 3 (s.d.toNat+1) L k (q+1)),k:=K }:=by
 intro q hq fuel
 obtain ⟨x,hx⟩:=a3n hk
 have hx6:=hL x (Qa hx)
 have hgd:L.getD k []=x:=by rw [Q9,hx]; rfl
 have hbl:=a6S 3 (s.d.toNat+1) L k q (by omega)
 have hb:=a5N 3 (s.d.toNat+1) L k q
 rw [hgd] at hb
 simp only [Bd.Ok] at hs
 have hmul:k*(s.d.toNat+1)<=10000*5:=Qn (by omega) (by omega)
 rw [hb]
 generalize a0j 3 (s.d.toNat+1) L k q=B at *
 obtain ⟨h1,h2,h3⟩:=a1B hh
 obtain ⟨v1,v2⟩:=a2R m0 B
 have q0:leB (q:Int) s.d=true:=by simp [leB]; omega
 have q1:ltB (k:Int) (L.length:Int)=true:=by simp [ltB]; omega
 have q2:=a2h (i:=q) (by omega)
 obtain ⟨l,r1,r2⟩:=a7B (ρ:={ i:=[(k:Int),(q:Int),s.a,s.b,s.c,s.d,s.e,s.f],b:=[],v:=[p,a0l m0 B],m:=a0o m0 B,k:=K }) (a5K hh fun i o h=>a6P h) hx hx6 (n:=0) rfl (e:=.a 0) rfl
 obtain ⟨x0,x1,x2,x3,x4,x5,rfl⟩:=a1z hx6
 have happ:=fun kk=>a7M m0 B ([x0,x1,x2,x3,x4,x5].set 3 (q:Int)) (by omega) (ρ:={ i:=[(k:Int),(q:Int),s.a,s.b,s.c,s.d,s.e,s.f,x0,x1,x2,x3,x4,x5],b:=[],v:=[p,a0l m0 B,.sl 6 [lpv ([x0,x1,x2,x3,x4,x5].set 3 (q:Int))]],m:=a0o m0 B,k:=K }) rfl rfl rfl Φ kk
 simp only [Qp,Qq] at happ ⊢
 generalize a0l m0 (B++_)=V2 at *
 generalize a0o m0 (B++_)=M2 at *
 generalize a0l m0 B=V1 at *
 generalize a0o m0 B=M1 at *
 simp only [lpv,Q1,Q2] at happ r2
 rw [Sys.loop,show saleroomref07_List_S.loops[9]?=some a2B from rfl]
 simp -implicitDefEqProofs only [Q0,a2B,a0D,a0p,a0q,a0C,a0r,BE.safe,BE.pe,IE.pe,PEnv.at,Qr,Qs,q0,h1,q1,le0,r1,r2,if_true,Qt,Q7,Qb,Nat.reduceAdd,a0c,Q6,PEnv.push,Q3,Q4,Q5,a1x,Qd,Qe,Qf,Qg,Qh,Qj,SV.pvs,SV.pv,Q0,Q8,Nat.reduceLeDiff,happ,q2,BE.all,a0v,Q1,Q2,Qu,Qv]
theorem c7a (hs:s.Ok) (hh:HoldsL m0 L p) (hL:∀ x∈L,x.length=6) (hl:L.length<=10000) {k:Nat} (hk:k < L.length):∀ q,q < s.e.toNat+1->∀ fuel,
  saleroomref07_List_S.loop Φ (fuel+1) 10 { i:=[(k:Int),(q:Int),s.a,s.b,s.c,s.d,s.e,s.f],b:=[],v:=[p,a0l m0 (a0j 4 (s.e.toNat+1) L k q)],m:=a0o m0 (a0j 4 (s.e.toNat+1) L k q),k:=K } =
  saleroomref07_List_S.loop Φ fuel 10 { i:=[(k:Int),((q+1:Nat):Int),s.a,s.b,s.c,s.d,s.e,s.f],b:=[],v:=[p,a0l m0 (a0j 4 (s.e.toNat+1) L k (q+1))],m:=a0o m0 (a0j 4 (s.e.toNat+1) L k (q+1)),k:=K }:=by
 intro q hq fuel
 obtain ⟨x,hx⟩:=a3n hk
 have hx6:=hL x (Qa hx)
 have hgd:L.getD k []=x:=by rw [Q9,hx]; rfl
 have hbl:=a6S 4 (s.e.toNat+1) L k q (by omega)
 have hb:=a5N 4 (s.e.toNat+1) L k q
 rw [hgd] at hb
 simp only [Bd.Ok] at hs
 have hmul:k*(s.e.toNat+1)<=10000*5:=Qn (by omega) (by omega)
 rw [hb]
 generalize a0j 4 (s.e.toNat+1) L k q=B at *
 obtain ⟨h1,h2,h3⟩:=a1B hh
 obtain ⟨v1,v2⟩:=a2R m0 B
 have q0:leB (q:Int) s.e=true:=by simp [leB]; omega
 have q1:ltB (k:Int) (L.length:Int)=true:=by simp [ltB]; omega
 have q2:=a2h (i:=q) (by omega)
 obtain ⟨l,r1,r2⟩:=a7B (ρ:={ i:=[(k:Int),(q:Int),s.a,s.b,s.c,s.d,s.e,s.f],b:=[],v:=[p,a0l m0 B],m:=a0o m0 B,k:=K }) (a5K hh fun i o h=>a6P h) hx hx6 (n:=0) rfl (e:=.a 0) rfl
 obtain ⟨x0,x1,x2,x3,x4,x5,rfl⟩:=a1z hx6
 have happ:=fun kk=>a7M m0 B ([x0,x1,x2,x3,x4,x5].set 4 (q:Int)) (by omega) (ρ:={ i:=[(k:Int),(q:Int),s.a,s.b,s.c,s.d,s.e,s.f,x0,x1,x2,x3,x4,x5],b:=[],v:=[p,a0l m0 B,.sl 6 [lpv ([x0,x1,x2,x3,x4,x5].set 4 (q:Int))]],m:=a0o m0 B,k:=K }) rfl rfl rfl Φ kk
 simp only [Qp,Qq] at happ ⊢
 generalize a0l m0 (B++_)=V2 at *
 generalize a0o m0 (B++_)=M2 at *
 generalize a0l m0 B=V1 at *
 generalize a0o m0 B=M1 at *
 simp only [lpv,Q1,Q2] at happ r2
 rw [Sys.loop,show saleroomref07_List_S.loops[10]?=some a2m from rfl]
 simp -implicitDefEqProofs only [Q0,a2m,a0D,a0p,a0q,a0C,a0r,BE.safe,BE.pe,IE.pe,PEnv.at,Qr,Qs,q0,h1,q1,le0,r1,r2,if_true,Qt,Q7,Qb,Nat.reduceAdd,a0c,Q6,PEnv.push,Q3,Q4,Q5,a1x,Qd,Qe,Qf,Qg,Qh,Qj,SV.pvs,SV.pv,Q0,Q8,Nat.reduceLeDiff,happ,q2,BE.all,a0v,Q1,Q2,Qu,Qv]
theorem c7e (hs:s.Ok) (hh:HoldsL m0 L p) (hL:∀ x∈L,x.length=6) (hl:L.length<=10000) {k:Nat} (hk:k < L.length):∀ q,q < s.f.toNat+1->∀ fuel,
  saleroomref07_List_S.loop Φ (fuel+1) 11 { i:=[(k:Int),(q:Int),s.a,s.b,s.c,s.d,s.e,s.f],b:=[],v:=[p,a0l m0 (a0j 5 (s.f.toNat+1) L k q)],m:=a0o m0 (a0j 5 (s.f.toNat+1) L k q),k:=K } =
  saleroomref07_List_S.loop Φ fuel 11 { i:=[(k:Int),((q+1:Nat):Int),s.a,s.b,s.c,s.d,s.e,s.f],b:=[],v:=[p,a0l m0 (a0j 5 (s.f.toNat+1) L k (q+1))],m:=a0o m0 (a0j 5 (s.f.toNat+1) L k (q+1)),k:=K }:=by
 intro q hq fuel
 obtain ⟨x,hx⟩:=a3n hk
 have hx6:=hL x (Qa hx)
 have hgd:L.getD k []=x:=by rw [Q9,hx]; rfl
 have hbl:=a6S 5 (s.f.toNat+1) L k q (by omega)
 have hb:=a5N 5 (s.f.toNat+1) L k q
 rw [hgd] at hb
 simp only [Bd.Ok] at hs
 have hmul:k*(s.f.toNat+1)<=10000*5:=Qn (by omega) (by omega)
 rw [hb]
 generalize a0j 5 (s.f.toNat+1) L k q=B at *
 obtain ⟨h1,h2,h3⟩:=a1B hh
 obtain ⟨v1,v2⟩:=a2R m0 B
 have q0:leB (q:Int) s.f=true:=by simp [leB]; omega
 have q1:ltB (k:Int) (L.length:Int)=true:=by simp [ltB]; omega
 have q2:=a2h (i:=q) (by omega)
 obtain ⟨l,r1,r2⟩:=a7B (ρ:={ i:=[(k:Int),(q:Int),s.a,s.b,s.c,s.d,s.e,s.f],b:=[],v:=[p,a0l m0 B],m:=a0o m0 B,k:=K }) (a5K hh fun i o h=>a6P h) hx hx6 (n:=0) rfl (e:=.a 0) rfl
 obtain ⟨x0,x1,x2,x3,x4,x5,rfl⟩:=a1z hx6
 have happ:=fun kk=>a7M m0 B ([x0,x1,x2,x3,x4,x5].set 5 (q:Int)) (by omega) (ρ:={ i:=[(k:Int),(q:Int),s.a,s.b,s.c,s.d,s.e,s.f,x0,x1,x2,x3,x4,x5],b:=[],v:=[p,a0l m0 B,.sl 6 [lpv ([x0,x1,x2,x3,x4,x5].set 5 (q:Int))]],m:=a0o m0 B,k:=K }) rfl rfl rfl Φ kk
 simp only [Qp,Qq] at happ ⊢
 generalize a0l m0 (B++_)=V2 at *
 generalize a0o m0 (B++_)=M2 at *
 generalize a0l m0 B=V1 at *
 generalize a0o m0 B=M1 at *
 simp only [lpv,Q1,Q2] at happ r2
 rw [Sys.loop,show saleroomref07_List_S.loops[11]?=some a2l from rfl]
 simp -implicitDefEqProofs only [Q0,a2l,a0D,a0p,a0q,a0C,a0r,BE.safe,BE.pe,IE.pe,PEnv.at,Qr,Qs,q0,h1,q1,le0,r1,r2,if_true,Qt,Q7,Qb,Nat.reduceAdd,a0c,Q6,PEnv.push,Q3,Q4,Q5,a1x,Qd,Qe,Qf,Qg,Qh,Qj,SV.pvs,SV.pv,Q0,Q8,Nat.reduceLeDiff,happ,q2,BE.all,a0v,Q1,Q2,Qu,Qv]
end
end Go.Proofs.Ythmkfeiapdbojaa
set_option maxRecDepth 100000
namespace Go.Proofs.Ythmkfeiapdbojaa
open Go.Sx Go.Kv Go.Bun
section
variable {Φ:Fns} {m0:List MO} {L:List (List Int)} {p:PV} {s:Bd} {K:Nat}
theorem c7p (hs:s.Ok) (hh:HoldsL m0 L p) (hL:∀ x∈L,x.length=6) (hl:L.length<=10000):∀ (d k:Nat),k+d=L.length->∀ fuel,
  saleroomref07_List_S.loop Φ (fuel+d*(s.a.toNat+3)) 0 { i:=[(k:Int),s.a,s.b,s.c,s.d,s.e,s.f],b:=[],v:=[p,a0l m0 (a0j 0 (s.a.toNat+1) L k 0)],m:=a0o m0 (a0j 0 (s.a.toNat+1) L k 0),k:=K } =
  saleroomref07_List_S.loop Φ fuel 0 { i:=[(L.length:Int),s.a,s.b,s.c,s.d,s.e,s.f],b:=[],v:=[p,a0l m0 (a1H 0 (s.a.toNat+1) L)],m:=a0o m0 (a1H 0 (s.a.toNat+1) L),k:=K }:=by
 intro d
 induction d with
 | zero =>
  intro k hk fuel
  obtain rfl:k=L.length:=by omega
  rw [a6W _ _ _ _ (Qw _),Qy,Qz]
 | succ d ih =>
  intro k hk fuel
  have hkl:k < L.length:=by omega
  obtain ⟨h1,h2,h3⟩:=a1B hh
  have q1:ltB (k:Int) (L.length:Int)=true:=by simp [ltB]; omega
  have q2:=a2h (i:=k) (by omega)
  have hnx:=ih (k+1) (by omega) fuel
  rw [a5W _ _ _ _ hkl] at hnx
  have hin:=a3R (Φ:=Φ) (S:=saleroomref07_List_S) (q:=1) (fun q=>{ i:=[(k:Int),(q:Int),s.a,s.b,s.c,s.d,s.e,s.f],b:=[],v:=[p,a0l m0 (a0j 0 (s.a.toNat+1) L k q)],m:=a0o m0 (a0j 0 (s.a.toNat+1) L k q),k:=K })
   (c7E (Φ:=Φ) (K:=K) hs hh hL hl hkl) (s.a.toNat+1) 0 (by omega) (fuel+d*(s.a.toNat+3)+1)
  simp only [Bd.Ok] at hs
  have q0:leB ((s.a.toNat:Int)+1) s.a=false:=by simp [leB]; omega
  have hout:saleroomref07_List_S.loop Φ (fuel+d*(s.a.toNat+3)+1) 1 { i:=[(k:Int),((s.a.toNat+1:Nat):Int),s.a,s.b,s.c,s.d,s.e,s.f],b:=[],v:=[p,a0l m0 (a0j 0 (s.a.toNat+1) L k (s.a.toNat+1))],m:=a0o m0 (a0j 0 (s.a.toNat+1) L k (s.a.toNat+1)),k:=K } =
    saleroomref07_List_S.loop Φ (fuel+d*(s.a.toNat+3)) 0 { i:=[((k+1:Nat):Int),s.a,s.b,s.c,s.d,s.e,s.f],b:=[],v:=[p,a0l m0 (a0j 0 (s.a.toNat+1) L k (s.a.toNat+1))],m:=a0o m0 (a0j 0 (s.a.toNat+1) L k (s.a.toNat+1)),k:=K }:=by
   generalize a0l m0 (a0j 0 (s.a.toNat+1) L k (s.a.toNat+1))=V1 at *
   rw [Sys.loop,show saleroomref07_List_S.loops[1]?=some a2F from rfl]
   simp -implicitDefEqProofs only [Q0,a2F,↓reduceIte,eq_self,ξ1,ξ2,ξ3,ξ4,ξ5,ξ6,ξ7,ξ8,ξ9,ξa,ξb,ξc,ξd,ξe,ξf,ξg,ξh,Nat.reduceAdd,ξi,if_true,if_false,ξl,ξm,ξn,ξo,ξp,ξq,ξr,ξs,ξt,ξu,ξv,ξw,ξx,ξy,ξz,ξA,ξB,ξC,ξD,ξE,q0,q2,a0v]
  rw [<- hnx,<- hout,<- hin]
  rw [show fuel+(d+1)*(s.a.toNat+3)=fuel+d*(s.a.toNat+3)+1+(s.a.toNat+1)+1 by rw [QA]; omega]
  have v1:=a2R m0 (a0j 0 (s.a.toNat+1) L k 0)
  generalize a0l m0 (a0j 0 (s.a.toNat+1) L k 0)=V0 at *
  generalize a0o m0 (a0j 0 (s.a.toNat+1) L k 0)=M0 at *
  rw [Sys.loop,show saleroomref07_List_S.loops[0]?=some a2w from rfl]
  simp -implicitDefEqProofs only [Q0,a2w,↓reduceIte,eq_self,ξ1,ξ2,ξ3,ξ4,ξ5,ξ6,ξ7,ξ8,ξ9,ξa,ξb,ξc,ξd,ξe,ξf,ξg,ξh,Nat.reduceAdd,ξi,if_true,if_false,ξl,ξm,ξn,ξo,ξp,ξq,ξr,ξs,ξt,ξu,ξv,ξw,ξx,ξy,ξz,ξA,ξB,ξC,ξD,ξE,h1,h2,q1]
  rfl
theorem c7C (hs:s.Ok) (hh:HoldsL m0 L p) (hL:∀ x∈L,x.length=6) (hl:L.length<=10000):∀ (d k:Nat),k+d=L.length->∀ fuel,
  saleroomref07_List_S.loop Φ (fuel+d*(s.b.toNat+3)) 2 { i:=[(k:Int),s.a,s.b,s.c,s.d,s.e,s.f],b:=[],v:=[p,a0l m0 (a0j 1 (s.b.toNat+1) L k 0)],m:=a0o m0 (a0j 1 (s.b.toNat+1) L k 0),k:=K } =
  saleroomref07_List_S.loop Φ fuel 2 { i:=[(L.length:Int),s.a,s.b,s.c,s.d,s.e,s.f],b:=[],v:=[p,a0l m0 (a1H 1 (s.b.toNat+1) L)],m:=a0o m0 (a1H 1 (s.b.toNat+1) L),k:=K }:=by
 intro d
 induction d with
 | zero =>
  intro k hk fuel
  obtain rfl:k=L.length:=by omega
  rw [a6W _ _ _ _ (Qw _),Qy,Qz]
 | succ d ih =>
  intro k hk fuel
  have hkl:k < L.length:=by omega
  obtain ⟨h1,h2,h3⟩:=a1B hh
  have q1:ltB (k:Int) (L.length:Int)=true:=by simp [ltB]; omega
  have q2:=a2h (i:=k) (by omega)
  have hnx:=ih (k+1) (by omega) fuel
  rw [a5W _ _ _ _ hkl] at hnx
  have hin:=a3R (Φ:=Φ) (S:=saleroomref07_List_S) (q:=5) (fun q=>{ i:=[(k:Int),(q:Int),s.a,s.b,s.c,s.d,s.e,s.f],b:=[],v:=[p,a0l m0 (a0j 1 (s.b.toNat+1) L k q)],m:=a0o m0 (a0j 1 (s.b.toNat+1) L k q),k:=K })
   (c8j (Φ:=Φ) (K:=K) hs hh hL hl hkl) (s.b.toNat+1) 0 (by omega) (fuel+d*(s.b.toNat+3)+1)
  simp only [Bd.Ok] at hs
  have q0:leB ((s.b.toNat:Int)+1) s.b=false:=by simp [leB]; omega
  have hout:saleroomref07_List_S.loop Φ (fuel+d*(s.b.toNat+3)+1) 5 { i:=[(k:Int),((s.b.toNat+1:Nat):Int),s.a,s.b,s.c,s.d,s.e,s.f],b:=[],v:=[p,a0l m0 (a0j 1 (s.b.toNat+1) L k (s.b.toNat+1))],m:=a0o m0 (a0j 1 (s.b.toNat+1) L k (s.b.toNat+1)),k:=K } =
    saleroomref07_List_S.loop Φ (fuel+d*(s.b.toNat+3)) 2 { i:=[((k+1:Nat):Int),s.a,s.b,s.c,s.d,s.e,s.f],b:=[],v:=[p,a0l m0 (a0j 1 (s.b.toNat+1) L k (s.b.toNat+1))],m:=a0o m0 (a0j 1 (s.b.toNat+1) L k (s.b.toNat+1)),k:=K }:=by
   generalize a0l m0 (a0j 1 (s.b.toNat+1) L k (s.b.toNat+1))=V1 at *
   rw [Sys.loop,show saleroomref07_List_S.loops[5]?=some a2r from rfl]
   simp -implicitDefEqProofs only [Q0,a2r,↓reduceIte,eq_self,ξ1,ξ2,ξ3,ξ4,ξ5,ξ6,ξ7,ξ8,ξ9,ξa,ξb,ξc,ξd,ξe,ξf,ξg,ξh,Nat.reduceAdd,ξi,if_true,if_false,ξl,ξm,ξn,ξo,ξp,ξq,ξr,ξs,ξt,ξu,ξv,ξw,ξx,ξy,ξz,ξA,ξB,ξC,ξD,ξE,q0,q2,a0v]
  rw [<- hnx,<- hout,<- hin]
  rw [show fuel+(d+1)*(s.b.toNat+3)=fuel+d*(s.b.toNat+3)+1+(s.b.toNat+1)+1 by rw [QA]; omega]
  have v1:=a2R m0 (a0j 1 (s.b.toNat+1) L k 0)
  generalize a0l m0 (a0j 1 (s.b.toNat+1) L k 0)=V0 at *
  generalize a0o m0 (a0j 1 (s.b.toNat+1) L k 0)=M0 at *
  rw [Sys.loop,show saleroomref07_List_S.loops[2]?=some a2A from rfl]
  simp -implicitDefEqProofs only [Q0,a2A,↓reduceIte,eq_self,ξ1,ξ2,ξ3,ξ4,ξ5,ξ6,ξ7,ξ8,ξ9,ξa,ξb,ξc,ξd,ξe,ξf,ξg,ξh,Nat.reduceAdd,ξi,if_true,if_false,ξl,ξm,ξn,ξo,ξp,ξq,ξr,ξs,ξt,ξu,ξv,ξw,ξx,ξy,ξz,ξA,ξB,ξC,ξD,ξE,h1,h2,q1]
  rfl
theorem c7M (hs:s.Ok) (hh:HoldsL m0 L p) (hL:∀ x∈L,x.length=6) (hl:L.length<=10000):∀ (d k:Nat),k+d=L.length->∀ fuel,
  saleroomref07_List_S.loop Φ (fuel+d*(s.c.toNat+3)) 3 { i:=[(k:Int),s.a,s.b,s.c,s.d,s.e,s.f],b:=[],v:=[p,a0l m0 (a0j 2 (s.c.toNat+1) L k 0)],m:=a0o m0 (a0j 2 (s.c.toNat+1) L k 0),k:=K } =
  saleroomref07_List_S.loop Φ fuel 3 { i:=[(L.length:Int),s.a,s.b,s.c,s.d,s.e,s.f],b:=[],v:=[p,a0l m0 (a1H 2 (s.c.toNat+1) L)],m:=a0o m0 (a1H 2 (s.c.toNat+1) L),k:=K }:=by
 intro d
 induction d with
 | zero =>
  intro k hk fuel
  obtain rfl:k=L.length:=by omega
  rw [a6W _ _ _ _ (Qw _),Qy,Qz]
 | succ d ih =>
  intro k hk fuel
  have hkl:k < L.length:=by omega
  obtain ⟨h1,h2,h3⟩:=a1B hh
  have q1:ltB (k:Int) (L.length:Int)=true:=by simp [ltB]; omega
  have q2:=a2h (i:=k) (by omega)
  have hnx:=ih (k+1) (by omega) fuel
  rw [a5W _ _ _ _ hkl] at hnx
  have hin:=a3R (Φ:=Φ) (S:=saleroomref07_List_S) (q:=8) (fun q=>{ i:=[(k:Int),(q:Int),s.a,s.b,s.c,s.d,s.e,s.f],b:=[],v:=[p,a0l m0 (a0j 2 (s.c.toNat+1) L k q)],m:=a0o m0 (a0j 2 (s.c.toNat+1) L k q),k:=K })
   (c8m (Φ:=Φ) (K:=K) hs hh hL hl hkl) (s.c.toNat+1) 0 (by omega) (fuel+d*(s.c.toNat+3)+1)
  simp only [Bd.Ok] at hs
  have q0:leB ((s.c.toNat:Int)+1) s.c=false:=by simp [leB]; omega
  have hout:saleroomref07_List_S.loop Φ (fuel+d*(s.c.toNat+3)+1) 8 { i:=[(k:Int),((s.c.toNat+1:Nat):Int),s.a,s.b,s.c,s.d,s.e,s.f],b:=[],v:=[p,a0l m0 (a0j 2 (s.c.toNat+1) L k (s.c.toNat+1))],m:=a0o m0 (a0j 2 (s.c.toNat+1) L k (s.c.toNat+1)),k:=K } =
    saleroomref07_List_S.loop Φ (fuel+d*(s.c.toNat+3)) 3 { i:=[((k+1:Nat):Int),s.a,s.b,s.c,s.d,s.e,s.f],b:=[],v:=[p,a0l m0 (a0j 2 (s.c.toNat+1) L k (s.c.toNat+1))],m:=a0o m0 (a0j 2 (s.c.toNat+1) L k (s.c.toNat+1)),k:=K }:=by
   generalize a0l m0 (a0j 2 (s.c.toNat+1) L k (s.c.toNat+1))=V1 at *
   rw [Sys.loop,show saleroomref07_List_S.loops[8]?=some a2E from rfl]
   simp -implicitDefEqProofs only [Q0,a2E,↓reduceIte,eq_self,ξ1,ξ2,ξ3,ξ4,ξ5,ξ6,ξ7,ξ8,ξ9,ξa,ξb,ξc,ξd,ξe,ξf,ξg,ξh,Nat.reduceAdd,ξi,if_true,if_false,ξl,ξm,ξn,ξo,ξp,ξq,ξr,ξs,ξt,ξu,ξv,ξw,ξx,ξy,ξz,ξA,ξB,ξC,ξD,ξE,q0,q2,a0v]
  rw [<- hnx,<- hout,<- hin]
  rw [show fuel+(d+1)*(s.c.toNat+3)=fuel+d*(s.c.toNat+3)+1+(s.c.toNat+1)+1 by rw [QA]; omega]
  have v1:=a2R m0 (a0j 2 (s.c.toNat+1) L k 0)
  generalize a0l m0 (a0j 2 (s.c.toNat+1) L k 0)=V0 at *
  generalize a0o m0 (a0j 2 (s.c.toNat+1) L k 0)=M0 at *
  rw [Sys.loop,show saleroomref07_List_S.loops[3]?=some a2s from rfl]
  simp -implicitDefEqProofs only [Q0,a2s,↓reduceIte,eq_self,ξ1,ξ2,ξ3,ξ4,ξ5,ξ6,ξ7,ξ8,ξ9,ξa,ξb,ξc,ξd,ξe,ξf,ξg,ξh,Nat.reduceAdd,ξi,if_true,if_false,ξl,ξm,ξn,ξo,ξp,ξq,ξr,ξs,ξt,ξu,ξv,ξw,ξx,ξy,ξz,ξA,ξB,ξC,ξD,ξE,h1,h2,q1]
  rfl
theorem c8k (hs:s.Ok) (hh:HoldsL m0 L p) (hL:∀ x∈L,x.length=6) (hl:L.length<=10000):∀ (d k:Nat),k+d=L.length->∀ fuel,
  saleroomref07_List_S.loop Φ (fuel+d*(s.d.toNat+3)) 4 { i:=[(k:Int),s.a,s.b,s.c,s.d,s.e,s.f],b:=[],v:=[p,a0l m0 (a0j 3 (s.d.toNat+1) L k 0)],m:=a0o m0 (a0j 3 (s.d.toNat+1) L k 0),k:=K } =
  saleroomref07_List_S.loop Φ fuel 4 { i:=[(L.length:Int),s.a,s.b,s.c,s.d,s.e,s.f],b:=[],v:=[p,a0l m0 (a1H 3 (s.d.toNat+1) L)],m:=a0o m0 (a1H 3 (s.d.toNat+1) L),k:=K }:=by
 intro d
 induction d with
 | zero =>
  intro k hk fuel
  obtain rfl:k=L.length:=by omega
  rw [a6W _ _ _ _ (Qw _),Qy,Qz]
 | succ d ih =>
  intro k hk fuel
  have hkl:k < L.length:=by omega
  obtain ⟨h1,h2,h3⟩:=a1B hh
  have q1:ltB (k:Int) (L.length:Int)=true:=by simp [ltB]; omega
  have q2:=a2h (i:=k) (by omega)
  have hnx:=ih (k+1) (by omega) fuel
  rw [a5W _ _ _ _ hkl] at hnx
  have hin:=a3R (Φ:=Φ) (S:=saleroomref07_List_S) (q:=9) (fun q=>{ i:=[(k:Int),(q:Int),s.a,s.b,s.c,s.d,s.e,s.f],b:=[],v:=[p,a0l m0 (a0j 3 (s.d.toNat+1) L k q)],m:=a0o m0 (a0j 3 (s.d.toNat+1) L k q),k:=K })
   (c7n (Φ:=Φ) (K:=K) hs hh hL hl hkl) (s.d.toNat+1) 0 (by omega) (fuel+d*(s.d.toNat+3)+1)
  simp only [Bd.Ok] at hs
  have q0:leB ((s.d.toNat:Int)+1) s.d=false:=by simp [leB]; omega
  have hout:saleroomref07_List_S.loop Φ (fuel+d*(s.d.toNat+3)+1) 9 { i:=[(k:Int),((s.d.toNat+1:Nat):Int),s.a,s.b,s.c,s.d,s.e,s.f],b:=[],v:=[p,a0l m0 (a0j 3 (s.d.toNat+1) L k (s.d.toNat+1))],m:=a0o m0 (a0j 3 (s.d.toNat+1) L k (s.d.toNat+1)),k:=K } =
    saleroomref07_List_S.loop Φ (fuel+d*(s.d.toNat+3)) 4 { i:=[((k+1:Nat):Int),s.a,s.b,s.c,s.d,s.e,s.f],b:=[],v:=[p,a0l m0 (a0j 3 (s.d.toNat+1) L k (s.d.toNat+1))],m:=a0o m0 (a0j 3 (s.d.toNat+1) L k (s.d.toNat+1)),k:=K }:=by
   generalize a0l m0 (a0j 3 (s.d.toNat+1) L k (s.d.toNat+1))=V1 at *
   rw [Sys.loop,show saleroomref07_List_S.loops[9]?=some a2B from rfl]
   simp -implicitDefEqProofs only [Q0,a2B,↓reduceIte,eq_self,ξ1,ξ2,ξ3,ξ4,ξ5,ξ6,ξ7,ξ8,ξ9,ξa,ξb,ξc,ξd,ξe,ξf,ξg,ξh,Nat.reduceAdd,ξi,if_true,if_false,ξl,ξm,ξn,ξo,ξp,ξq,ξr,ξs,ξt,ξu,ξv,ξw,ξx,ξy,ξz,ξA,ξB,ξC,ξD,ξE,q0,q2,a0v]
  rw [<- hnx,<- hout,<- hin]
  rw [show fuel+(d+1)*(s.d.toNat+3)=fuel+d*(s.d.toNat+3)+1+(s.d.toNat+1)+1 by rw [QA]; omega]
  have v1:=a2R m0 (a0j 3 (s.d.toNat+1) L k 0)
  generalize a0l m0 (a0j 3 (s.d.toNat+1) L k 0)=V0 at *
  generalize a0o m0 (a0j 3 (s.d.toNat+1) L k 0)=M0 at *
  rw [Sys.loop,show saleroomref07_List_S.loops[4]?=some a2t from rfl]
  simp -implicitDefEqProofs only [Q0,a2t,↓reduceIte,eq_self,ξ1,ξ2,ξ3,ξ4,ξ5,ξ6,ξ7,ξ8,ξ9,ξa,ξb,ξc,ξd,ξe,ξf,ξg,ξh,Nat.reduceAdd,ξi,if_true,if_false,ξl,ξm,ξn,ξo,ξp,ξq,ξr,ξs,ξt,ξu,ξv,ξw,ξx,ξy,ξz,ξA,ξB,ξC,ξD,ξE,h1,h2,q1]
  rfl
theorem c8l (hs:s.Ok) (hh:HoldsL m0 L p) (hL:∀ x∈L,x.length=6) (hl:L.length<=10000):∀ (d k:Nat),k+d=L.length->∀ fuel,
  saleroomref07_List_S.loop Φ (fuel+d*(s.e.toNat+3)) 6 { i:=[(k:Int),s.a,s.b,s.c,s.d,s.e,s.f],b:=[],v:=[p,a0l m0 (a0j 4 (s.e.toNat+1) L k 0)],m:=a0o m0 (a0j 4 (s.e.toNat+1) L k 0),k:=K } =
  saleroomref07_List_S.loop Φ fuel 6 { i:=[(L.length:Int),s.a,s.b,s.c,s.d,s.e,s.f],b:=[],v:=[p,a0l m0 (a1H 4 (s.e.toNat+1) L)],m:=a0o m0 (a1H 4 (s.e.toNat+1) L),k:=K }:=by
 intro d
 induction d with
 | zero =>
  intro k hk fuel
  obtain rfl:k=L.length:=by omega
  rw [a6W _ _ _ _ (Qw _),Qy,Qz]
 | succ d ih =>
  intro k hk fuel
  have hkl:k < L.length:=by omega
  obtain ⟨h1,h2,h3⟩:=a1B hh
  have q1:ltB (k:Int) (L.length:Int)=true:=by simp [ltB]; omega
  have q2:=a2h (i:=k) (by omega)
  have hnx:=ih (k+1) (by omega) fuel
  rw [a5W _ _ _ _ hkl] at hnx
  have hin:=a3R (Φ:=Φ) (S:=saleroomref07_List_S) (q:=10) (fun q=>{ i:=[(k:Int),(q:Int),s.a,s.b,s.c,s.d,s.e,s.f],b:=[],v:=[p,a0l m0 (a0j 4 (s.e.toNat+1) L k q)],m:=a0o m0 (a0j 4 (s.e.toNat+1) L k q),k:=K })
   (c7a (Φ:=Φ) (K:=K) hs hh hL hl hkl) (s.e.toNat+1) 0 (by omega) (fuel+d*(s.e.toNat+3)+1)
  simp only [Bd.Ok] at hs
  have q0:leB ((s.e.toNat:Int)+1) s.e=false:=by simp [leB]; omega
  have hout:saleroomref07_List_S.loop Φ (fuel+d*(s.e.toNat+3)+1) 10 { i:=[(k:Int),((s.e.toNat+1:Nat):Int),s.a,s.b,s.c,s.d,s.e,s.f],b:=[],v:=[p,a0l m0 (a0j 4 (s.e.toNat+1) L k (s.e.toNat+1))],m:=a0o m0 (a0j 4 (s.e.toNat+1) L k (s.e.toNat+1)),k:=K } =
    saleroomref07_List_S.loop Φ (fuel+d*(s.e.toNat+3)) 6 { i:=[((k+1:Nat):Int),s.a,s.b,s.c,s.d,s.e,s.f],b:=[],v:=[p,a0l m0 (a0j 4 (s.e.toNat+1) L k (s.e.toNat+1))],m:=a0o m0 (a0j 4 (s.e.toNat+1) L k (s.e.toNat+1)),k:=K }:=by
   generalize a0l m0 (a0j 4 (s.e.toNat+1) L k (s.e.toNat+1))=V1 at *
   rw [Sys.loop,show saleroomref07_List_S.loops[10]?=some a2m from rfl]
   simp -implicitDefEqProofs only [Q0,a2m,↓reduceIte,eq_self,ξ1,ξ2,ξ3,ξ4,ξ5,ξ6,ξ7,ξ8,ξ9,ξa,ξb,ξc,ξd,ξe,ξf,ξg,ξh,Nat.reduceAdd,ξi,if_true,if_false,ξl,ξm,ξn,ξo,ξp,ξq,ξr,ξs,ξt,ξu,ξv,ξw,ξx,ξy,ξz,ξA,ξB,ξC,ξD,ξE,q0,q2,a0v]
  rw [<- hnx,<- hout,<- hin]
  rw [show fuel+(d+1)*(s.e.toNat+3)=fuel+d*(s.e.toNat+3)+1+(s.e.toNat+1)+1 by rw [QA]; omega]
  have v1:=a2R m0 (a0j 4 (s.e.toNat+1) L k 0)
  generalize a0l m0 (a0j 4 (s.e.toNat+1) L k 0)=V0 at *
  generalize a0o m0 (a0j 4 (s.e.toNat+1) L k 0)=M0 at *
  rw [Sys.loop,show saleroomref07_List_S.loops[6]?=some a2u from rfl]
  simp -implicitDefEqProofs only [Q0,a2u,↓reduceIte,eq_self,ξ1,ξ2,ξ3,ξ4,ξ5,ξ6,ξ7,ξ8,ξ9,ξa,ξb,ξc,ξd,ξe,ξf,ξg,ξh,Nat.reduceAdd,ξi,if_true,if_false,ξl,ξm,ξn,ξo,ξp,ξq,ξr,ξs,ξt,ξu,ξv,ξw,ξx,ξy,ξz,ξA,ξB,ξC,ξD,ξE,h1,h2,q1]
  rfl
theorem c8r (hs:s.Ok) (hh:HoldsL m0 L p) (hL:∀ x∈L,x.length=6) (hl:L.length<=10000):∀ (d k:Nat),k+d=L.length->∀ fuel,
  saleroomref07_List_S.loop Φ (fuel+d*(s.f.toNat+3)) 7 { i:=[(k:Int),s.a,s.b,s.c,s.d,s.e,s.f],b:=[],v:=[p,a0l m0 (a0j 5 (s.f.toNat+1) L k 0)],m:=a0o m0 (a0j 5 (s.f.toNat+1) L k 0),k:=K } =
  saleroomref07_List_S.loop Φ fuel 7 { i:=[(L.length:Int),s.a,s.b,s.c,s.d,s.e,s.f],b:=[],v:=[p,a0l m0 (a1H 5 (s.f.toNat+1) L)],m:=a0o m0 (a1H 5 (s.f.toNat+1) L),k:=K }:=by
 intro d
 induction d with
 | zero =>
  intro k hk fuel
  obtain rfl:k=L.length:=by omega
  rw [a6W _ _ _ _ (Qw _),Qy,Qz]
 | succ d ih =>
  intro k hk fuel
  have hkl:k < L.length:=by omega
  obtain ⟨h1,h2,h3⟩:=a1B hh
  have q1:ltB (k:Int) (L.length:Int)=true:=by simp [ltB]; omega
  have q2:=a2h (i:=k) (by omega)
  have hnx:=ih (k+1) (by omega) fuel
  rw [a5W _ _ _ _ hkl] at hnx
  have hin:=a3R (Φ:=Φ) (S:=saleroomref07_List_S) (q:=11) (fun q=>{ i:=[(k:Int),(q:Int),s.a,s.b,s.c,s.d,s.e,s.f],b:=[],v:=[p,a0l m0 (a0j 5 (s.f.toNat+1) L k q)],m:=a0o m0 (a0j 5 (s.f.toNat+1) L k q),k:=K })
   (c7e (Φ:=Φ) (K:=K) hs hh hL hl hkl) (s.f.toNat+1) 0 (by omega) (fuel+d*(s.f.toNat+3)+1)
  simp only [Bd.Ok] at hs
  have q0:leB ((s.f.toNat:Int)+1) s.f=false:=by simp [leB]; omega
  have hout:saleroomref07_List_S.loop Φ (fuel+d*(s.f.toNat+3)+1) 11 { i:=[(k:Int),((s.f.toNat+1:Nat):Int),s.a,s.b,s.c,s.d,s.e,s.f],b:=[],v:=[p,a0l m0 (a0j 5 (s.f.toNat+1) L k (s.f.toNat+1))],m:=a0o m0 (a0j 5 (s.f.toNat+1) L k (s.f.toNat+1)),k:=K } =
    saleroomref07_List_S.loop Φ (fuel+d*(s.f.toNat+3)) 7 { i:=[((k+1:Nat):Int),s.a,s.b,s.c,s.d,s.e,s.f],b:=[],v:=[p,a0l m0 (a0j 5 (s.f.toNat+1) L k (s.f.toNat+1))],m:=a0o m0 (a0j 5 (s.f.toNat+1) L k (s.f.toNat+1)),k:=K }:=by
   generalize a0l m0 (a0j 5 (s.f.toNat+1) L k (s.f.toNat+1))=V1 at *
   rw [Sys.loop,show saleroomref07_List_S.loops[11]?=some a2l from rfl]
   simp -implicitDefEqProofs only [Q0,a2l,↓reduceIte,eq_self,ξ1,ξ2,ξ3,ξ4,ξ5,ξ6,ξ7,ξ8,ξ9,ξa,ξb,ξc,ξd,ξe,ξf,ξg,ξh,Nat.reduceAdd,ξi,if_true,if_false,ξl,ξm,ξn,ξo,ξp,ξq,ξr,ξs,ξt,ξu,ξv,ξw,ξx,ξy,ξz,ξA,ξB,ξC,ξD,ξE,q0,q2,a0v]
  rw [<- hnx,<- hout,<- hin]
  rw [show fuel+(d+1)*(s.f.toNat+3)=fuel+d*(s.f.toNat+3)+1+(s.f.toNat+1)+1 by rw [QA]; omega]
  have v1:=a2R m0 (a0j 5 (s.f.toNat+1) L k 0)
  generalize a0l m0 (a0j 5 (s.f.toNat+1) L k 0)=V0 at *
  generalize a0o m0 (a0j 5 (s.f.toNat+1) L k 0)=M0 at *
  rw [Sys.loop,show saleroomref07_List_S.loops[7]?=some a2z from rfl]
  simp -implicitDefEqProofs only [Q0,a2z,↓reduceIte,eq_self,ξ1,ξ2,ξ3,ξ4,ξ5,ξ6,ξ7,ξ8,ξ9,ξa,ξb,ξc,ξd,ξe,ξf,ξg,ξh,Nat.reduceAdd,ξi,if_true,if_false,ξl,ξm,ξn,ξo,ξp,ξq,ξr,ξs,ξt,ξu,ξv,ξw,ξx,ξy,ξz,ξA,ξB,ξC,ξD,ξE,h1,h2,q1]
  rfl
theorem c8W (hh:HoldsL m0 L p) {V:PV} {M:List MO} (fuel:Nat) :
  saleroomref07_List_S.loop Φ (fuel+1) 0 { i:=[(L.length:Int),s.a,s.b,s.c,s.d,s.e,s.f],b:=[],v:=[p,V],m:=M,k:=K } =
  saleroomref07_List_S.loop Φ fuel 2 { i:=[((0:Nat):Int),s.a,s.b,s.c,s.d,s.e,s.f],b:=[],v:=[V,.nilS],m:=M,k:=K }:=by
 obtain ⟨h1,h2,h3⟩:=a1B hh
 have q1:ltB (L.length:Int) (L.length:Int)=false:=by simp [ltB]
 rw [Sys.loop,show saleroomref07_List_S.loops[0]?=some a2w from rfl]
 simp -implicitDefEqProofs only [Q0,a2w,↓reduceIte,eq_self,ξ1,ξ2,ξ3,ξ4,ξ5,ξ6,ξ7,ξ8,ξ9,ξa,ξb,ξc,ξd,ξe,ξf,ξg,ξh,Nat.reduceAdd,ξi,if_true,if_false,ξl,ξm,ξn,ξo,ξp,ξq,ξr,ξs,ξt,ξu,ξv,ξw,ξx,ξy,ξz,ξA,ξB,ξC,ξD,ξE,h1,h2,q1]
 rfl
theorem c9Q (hh:HoldsL m0 L p) {V:PV} {M:List MO} (fuel:Nat) :
  saleroomref07_List_S.loop Φ (fuel+1) 2 { i:=[(L.length:Int),s.a,s.b,s.c,s.d,s.e,s.f],b:=[],v:=[p,V],m:=M,k:=K } =
  saleroomref07_List_S.loop Φ fuel 3 { i:=[((0:Nat):Int),s.a,s.b,s.c,s.d,s.e,s.f],b:=[],v:=[V,.nilS],m:=M,k:=K }:=by
 obtain ⟨h1,h2,h3⟩:=a1B hh
 have q1:ltB (L.length:Int) (L.length:Int)=false:=by simp [ltB]
 rw [Sys.loop,show saleroomref07_List_S.loops[2]?=some a2A from rfl]
 simp -implicitDefEqProofs only [Q0,a2A,↓reduceIte,eq_self,ξ1,ξ2,ξ3,ξ4,ξ5,ξ6,ξ7,ξ8,ξ9,ξa,ξb,ξc,ξd,ξe,ξf,ξg,ξh,Nat.reduceAdd,ξi,if_true,if_false,ξl,ξm,ξn,ξo,ξp,ξq,ξr,ξs,ξt,ξu,ξv,ξw,ξx,ξy,ξz,ξA,ξB,ξC,ξD,ξE,h1,h2,q1]
 rfl
theorem c9S (hh:HoldsL m0 L p) {V:PV} {M:List MO} (fuel:Nat) :
  saleroomref07_List_S.loop Φ (fuel+1) 3 { i:=[(L.length:Int),s.a,s.b,s.c,s.d,s.e,s.f],b:=[],v:=[p,V],m:=M,k:=K } =
  saleroomref07_List_S.loop Φ fuel 4 { i:=[((0:Nat):Int),s.a,s.b,s.c,s.d,s.e,s.f],b:=[],v:=[V,.nilS],m:=M,k:=K }:=by
 obtain ⟨h1,h2,h3⟩:=a1B hh
 have q1:ltB (L.length:Int) (L.length:Int)=false:=by simp [ltB]
 rw [Sys.loop,show saleroomref07_List_S.loops[3]?=some a2s from rfl]
 simp -implicitDefEqProofs only [Q0,a2s,↓reduceIte,eq_self,ξ1,ξ2,ξ3,ξ4,ξ5,ξ6,ξ7,ξ8,ξ9,ξa,ξb,ξc,ξd,ξe,ξf,ξg,ξh,Nat.reduceAdd,ξi,if_true,if_false,ξl,ξm,ξn,ξo,ξp,ξq,ξr,ξs,ξt,ξu,ξv,ξw,ξx,ξy,ξz,ξA,ξB,ξC,ξD,ξE,h1,h2,q1]
 rfl
theorem c8U (hh:HoldsL m0 L p) {V:PV} {M:List MO} (fuel:Nat) :
  saleroomref07_List_S.loop Φ (fuel+1) 4 { i:=[(L.length:Int),s.a,s.b,s.c,s.d,s.e,s.f],b:=[],v:=[p,V],m:=M,k:=K } =
  saleroomref07_List_S.loop Φ fuel 6 { i:=[((0:Nat):Int),s.a,s.b,s.c,s.d,s.e,s.f],b:=[],v:=[V,.nilS],m:=M,k:=K }:=by
 obtain ⟨h1,h2,h3⟩:=a1B hh
 have q1:ltB (L.length:Int) (L.length:Int)=false:=by simp [ltB]
 rw [Sys.loop,show saleroomref07_List_S.loops[4]?=some a2t from rfl]
 simp -implicitDefEqProofs only [Q0,a2t,↓reduceIte,eq_self,ξ1,ξ2,ξ3,ξ4,ξ5,ξ6,ξ7,ξ8,ξ9,ξa,ξb,ξc,ξd,ξe,ξf,ξg,ξh,Nat.reduceAdd,ξi,if_true,if_false,ξl,ξm,ξn,ξo,ξp,ξq,ξr,ξs,ξt,ξu,ξv,ξw,ξx,ξy,ξz,ξA,ξB,ξC,ξD,ξE,h1,h2,q1]
 rfl
theorem c9x (hh:HoldsL m0 L p) {V:PV} {M:List MO} (fuel:Nat) :
  saleroomref07_List_S.loop Φ (fuel+1) 6 { i:=[(L.length:Int),s.a,s.b,s.c,s.d,s.e,s.f],b:=[],v:=[p,V],m:=M,k:=K } =
  saleroomref07_List_S.loop Φ fuel 7 { i:=[((0:Nat):Int),s.a,s.b,s.c,s.d,s.e,s.f],b:=[],v:=[V,.nilS],m:=M,k:=K }:=by
 obtain ⟨h1,h2,h3⟩:=a1B hh
 have q1:ltB (L.length:Int) (L.length:Int)=false:=by simp [ltB]
 rw [Sys.loop,show saleroomref07_List_S.loops[6]?=some a2u from rfl]
 simp -implicitDefEqProofs only [Q0,a2u,↓reduceIte,eq_self,ξ1,ξ2,ξ3,ξ4,ξ5,ξ6,ξ7,ξ8,ξ9,ξa,ξb,ξc,ξd,ξe,ξf,ξg,ξh,Nat.reduceAdd,ξi,if_true,if_false,ξl,ξm,ξn,ξo,ξp,ξq,ξr,ξs,ξt,ξu,ξv,ξw,ξx,ξy,ξz,ξA,ξB,ξC,ξD,ξE,h1,h2,q1]
 rfl
theorem c8N (hh:HoldsL m0 L p) {V:PV} {M:List MO} {r:PV × List MO} (hr:∀ ρ:PEnv,ρ.m=M->ρ.k=K->a0k ρ false V=some r) (fuel:Nat) :
  saleroomref07_List_S.loop Φ (fuel+1) 7 { i:=[(L.length:Int),s.a,s.b,s.c,s.d,s.e,s.f],b:=[],v:=[p,V],m:=M,k:=K }=some r:=by
 obtain ⟨h1,h2,h3⟩:=a1B hh
 have q1:ltB (L.length:Int) (L.length:Int)=false:=by simp [ltB]
 rw [Sys.loop,show saleroomref07_List_S.loops[7]?=some a2z from rfl]
 simp -implicitDefEqProofs only [Q0,a2z,↓reduceIte,eq_self,ξ1,ξ2,ξ3,ξ4,ξ5,ξ6,ξ7,ξ8,ξ9,ξa,ξb,ξc,ξd,ξe,ξf,ξg,ξh,Nat.reduceAdd,ξi,if_true,if_false,ξl,ξm,ξn,ξo,ξp,ξq,ξr,ξs,ξt,ξu,ξv,ξw,ξx,ξy,ξz,ξA,ξB,ξC,ξD,ξE,h1,h2,q1,hr]
theorem a8e (m0:List MO) (R:List (List Int)):∃ g,a0o m0 R=m0++g:=by
 cases R with
 | nil=>exact ⟨[],by simp [a0o]⟩
 | cons x R=>exact ⟨_,rfl⟩
end
theorem c3t (m0:List MO) (i m:Nat) (L:List (List Int)):a0l m0 (a0j i m L 0 0)=.nilS/\a0o m0 (a0j i m L 0 0)=m0:=by rw [c4W]; exact ⟨rfl,rfl⟩
theorem b9H (k:Nat):∀ L:List (List Int),PV.lowss k (a2b L)=true
 | []=>rfl
 | x::L=>by
  have:=b9H k L
  have h1:=b6U k x
  simp only [a2b,Q1,PV.lowss,Qm] at *
  exact ⟨h1,this⟩
theorem c9P (s:Bd) (hc:s.cnt≠0) {σ:List MO} (hlow:σ.all (MO.low σ.length)=true) (n:Nat) (hn:100000<=n):a0e Tab n 36 [.agg (bpv s)] σ=some (.sl 6 (a2b (Lk s 6)),σ):=by
 obtain ⟨n,rfl⟩:∃ m,n=m+3:=⟨n-3,by omega⟩
 have hs:=Bd.ok_of_cnt hc
 have hcn:=a4a s σ n
 have hq:eqB s.cnt 0=false:=eqF hc
 have hlen:=fun i=>c8F s hs i
 have hpos:=fun i=>c1T s i
 have hmem:=fun i=>c6o s i
 have hne:∀ i,Lk s i≠[]:=fun i h=>by have:=hpos i; rw [h] at this; simp at this
 have hst:∀ i,Lk s (i+1)=a1H i ((s.l.getD i 0).toNat+1) (Lk s i):=fun i=>rfl
 have e0:Lk s 1=a1H 0 (s.a.toNat+1) (Lk s 0):=rfl
 have e1:Lk s 2=a1H 1 (s.b.toNat+1) (Lk s 1):=rfl
 have e2:Lk s 3=a1H 2 (s.c.toNat+1) (Lk s 2):=rfl
 have e3:Lk s 4=a1H 3 (s.d.toNat+1) (Lk s 3):=rfl
 have e4:Lk s 5=a1H 4 (s.e.toNat+1) (Lk s 4):=rfl
 have e5:Lk s 6=a1H 5 (s.f.toNat+1) (Lk s 5):=rfl
 have l0:(Lk s 0).length<=1:=hlen 0
 have l1:(Lk s 1).length<=5:=hlen 1
 have l2:(Lk s 2).length<=25:=hlen 2
 have l3:(Lk s 3).length<=125:=hlen 3
 have l4:(Lk s 4).length<=625:=hlen 4
 have l5:(Lk s 5).length<=3125:=hlen 5
 obtain ⟨m1,hm1⟩:∃ m,m=a0o σ (Lk s 1):=⟨_,rfl⟩
 obtain ⟨m2,hm2⟩:∃ m,m=a0o m1 (Lk s 2):=⟨_,rfl⟩
 obtain ⟨m3,hm3⟩:∃ m,m=a0o m2 (Lk s 3):=⟨_,rfl⟩
 obtain ⟨m4,hm4⟩:∃ m,m=a0o m3 (Lk s 4):=⟨_,rfl⟩
 obtain ⟨m5,hm5⟩:∃ m,m=a0o m4 (Lk s 5):=⟨_,rfl⟩
 have H0:HoldsL σ (Lk s 0) (.sl 6 (a2b (Lk s 0))):=.sl
 have H1:HoldsL m1 (Lk s 1) (a0l σ (Lk s 1)):=hm1▸a6q σ (hne 1)
 have H2:HoldsL m2 (Lk s 2) (a0l m1 (Lk s 2)):=hm2▸a6q m1 (hne 2)
 have H3:HoldsL m3 (Lk s 3) (a0l m2 (Lk s 3)):=hm3▸a6q m2 (hne 3)
 have H4:HoldsL m4 (Lk s 4) (a0l m3 (Lk s 4)):=hm4▸a6q m3 (hne 4)
 have H5:HoldsL m5 (Lk s 5) (a0l m4 (Lk s 5)):=hm5▸a6q m4 (hne 5)
 obtain ⟨g,hg⟩:∃ g,m5=σ++g:=by
  obtain ⟨g1,h1⟩:=a8e σ (Lk s 1)
  obtain ⟨g2,h2⟩:=a8e m1 (Lk s 2)
  obtain ⟨g3,h3⟩:=a8e m2 (Lk s 3)
  obtain ⟨g4,h4⟩:=a8e m3 (Lk s 4)
  obtain ⟨g5,h5⟩:=a8e m4 (Lk s 5)
  exact ⟨g1++(g2++(g3++(g4++g5))),by rw [hm5,h5,hm4,h4,hm3,h3,hm2,h2,hm1,h1]; simp⟩
 have hret:∀ ρ:PEnv,ρ.m=a0o m5 (Lk s 6)->ρ.k=σ.length->a0k ρ false (a0l m5 (Lk s 6))=some (.sl 6 (a2b (Lk s 6)),σ):=by
  intro ρ r1 r2
  have h6:=hne 6
  cases h:Lk s 6 with
  | nil=>exact absurd h h6
  | cons y R =>
   rw [h] at r1
   simp only [a0o] at r1
   unfold a0k
   rw [r1,r2,hg]
   rw [if_neg (by simp),show List.take σ.length (σ++g++[MO.row (a2b (y::R)) 6 23])=σ by rw [List.append_assoc,QU],if_pos hlow]
   simp only [a0l,PV.frz]
   rw [if_neg (by rw [QS]; omega)]
   have hlk:a5V ρ 3 (σ++g).length=some (.row (a2b (y::R)) 6 23):=by
    have h0:ρ.m[(σ++g).length]?=some (.row (a2b (y::R)) 6 23):=by rw [r1,hg]; exact b5O _ _ _
    simp only [a5V,h0,Q0]
    rw [PV.frzss_low (a2b (y::R)) (b9H _ _) (fun l hl=>by
     obtain ⟨z,_,rfl⟩:=Qk.1 hl
     exact QE.2 fun p hp=>by obtain ⟨w,_,rfl⟩:=Qk.1 hp; rfl)]
    rfl
   rw [hlk]
   simp only [Q0,MO.elts,a8p,and_self,if_true,Q6]
 have hf:∀ (x:Nat) (z:Int),0<=z/\z<=4->x*(z.toNat+3)<=x*7:=fun x z hz=>Nat.mul_le_mul_left x (by omega)
 have hs':=hs
 simp only [Bd.Ok] at hs'
 have f0:=hf (Lk s 0).length s.a hs'.1
 have f1:=hf (Lk s 1).length s.b hs'.2.1
 have f2:=hf (Lk s 2).length s.c hs'.2.2.1
 have f3:=hf (Lk s 3).length s.d hs'.2.2.2.1
 have f4:=hf (Lk s 4).length s.e hs'.2.2.2.2.1
 have f5:=hf (Lk s 5).length s.f hs'.2.2.2.2.2
 obtain ⟨F,hF⟩:∃ F,n+2=F+1+(Lk s 5).length*(s.f.toNat+3)+1+(Lk s 4).length*(s.e.toNat+3)+1+(Lk s 3).length*(s.d.toNat+3)+1+(Lk s 2).length*(s.c.toNat+3)+1+(Lk s 1).length*(s.b.toNat+3)+1+(Lk s 0).length*(s.a.toNat+3) :=
  ⟨n+2-(1+(Lk s 5).length*(s.f.toNat+3)+1+(Lk s 4).length*(s.e.toNat+3)+1+(Lk s 3).length*(s.d.toNat+3)+1+(Lk s 2).length*(s.c.toNat+3)+1+(Lk s 1).length*(s.b.toNat+3)+1+(Lk s 0).length*(s.a.toNat+3)),by omega⟩
 have s0:=c7p (Φ:=a0e Tab (n+2)) (K:=σ.length) hs H0 (hmem 0) (by omega) (Lk s 0).length 0 (by omega)
 have s1:=c7C (Φ:=a0e Tab (n+2)) (K:=σ.length) hs H1 (hmem 1) (by omega) (Lk s 1).length 0 (by omega)
 have s2:=c7M (Φ:=a0e Tab (n+2)) (K:=σ.length) hs H2 (hmem 2) (by omega) (Lk s 2).length 0 (by omega)
 have s3:=c8k (Φ:=a0e Tab (n+2)) (K:=σ.length) hs H3 (hmem 3) (by omega) (Lk s 3).length 0 (by omega)
 have s4:=c8l (Φ:=a0e Tab (n+2)) (K:=σ.length) hs H4 (hmem 4) (by omega) (Lk s 4).length 0 (by omega)
 have s5:=c8r (Φ:=a0e Tab (n+2)) (K:=σ.length) hs H5 (hmem 5) (by omega) (Lk s 5).length 0 (by omega)
 simp only [(c3t _ _ _ _).1,(c3t _ _ _ _).2,<- e0,<- e1,<- e2,<- e3,<- e4,<- e5,<- hm1,<- hm2,<- hm3,<- hm4,<- hm5] at s0 s1 s2 s3 s4 s5
 have hrun:saleroomref07_List_S.loop (a0e Tab (n+2)) (n+2) 0 { i:=[((0:Nat):Int),s.a,s.b,s.c,s.d,s.e,s.f],b:=[],v:=[.sl 6 (a2b (Lk s 0)),.nilS],m:=σ,k:=σ.length }=some (.sl 6 (a2b (Lk s 6)),σ):=by
  generalize a0e Tab (n+2)=Φ at *
  rw [hF,s0,c8W H0,s1,c9Q H1,s2,c9S H2,s3,c8U H3,s4,c9x H4,s5]
  exact c8N H5 hret F
 obtain ⟨a,b,c,d,e,f⟩:=s
 simp only [bpv] at hcn ⊢
 rw [a0e,b1k]
 simp only [Q0,Sys.run]
 show ((a0i [.sh (.agg [_,_,_,_,_,_])] _).bind _)=_
 simp only [a0i,a0d,a0c,Q6,Q0,Q5,Q4,Q3,if_true]
 show (PT.ev _ a4R _).bind _=_
 refine Eq.trans ?_ hrun
 simp -implicitDefEqProofs only [a4R,↓reduceIte,eq_self,ξ1,ξ2,ξ3,ξ4,ξ5,ξ6,ξ7,ξ8,ξ9,ξa,ξb,ξc,ξd,ξe,ξf,ξg,ξh,Nat.reduceAdd,ξi,if_true,if_false,ξl,ξm,ξn,ξo,ξp,ξq,ξr,ξs,ξt,ξu,ξv,ξw,ξx,ξy,ξz,ξA,ξB,ξC,ξD,ξE,a1x,Qd,Qe,Qf,Qg,Qh,Qj,hcn,hq,Nat.reduceLeDiff,Q8]
 rfl
end Go.Proofs.Ythmkfeiapdbojaa
set_option maxRecDepth 100000
namespace Go.Proofs.Ythmkfeiapdbojaa
open Go.Sx Go.Kv Go.Bun
section
variable {σ:List MO} {t:List Int} {s:Bd}
end
end Go.Proofs.Ythmkfeiapdbojaa
set_option maxRecDepth 100000
namespace Go.Proofs.Ythmkfeiapdbojaa
open Go.Sx Go.Kv Go.Bun
section
variable {σ:List MO} {t:List Int} {s:Bd}
theorem c5V {e:Ex} {row:List PV} (hrow:IsE e row) (hsz:e.size<=400) (hlow:σ.all (MO.low σ.length)=true) (s:Bd) (n:Nat) (hn:4000000<=n) :
  a0e Tab n 25 [.agg row,.agg (bpv s)] σ=some (a3V e s,σ):=by
 obtain ⟨n,rfl⟩:∃ m,n=m+3:=⟨n-3,by omega⟩
 have hck:=c4b σ e row hrow (n+2) (by omega) (by omega)
 have hbc:a0e Tab (n+2) 16 [.agg (bpv s)] σ=some (.int .i64 s.check,σ):=b3H s σ (n+1)
 have hcn:a0e Tab (n+2) 23 [.agg (bpv s)] σ=some (.int .i64 s.cnt,σ):=a4a s σ n
 have hal:chk e=0->s.cnt≠0->∃ (h:Nat) (g:List MO),a0e Tab (n+2) 51 [.agg row,.agg (bpv s)] σ=some (.msl h 0 s.cnt.toNat s.cnt.toNat 1,σ++g)/\σ.length<=h/\(σ++g)[h]?=some (.cells (iPV (a5n e s)) 2):=by
  intro h1 h2
  have hcl:=a6p h2
  obtain ⟨h,g,r1,r2,r3⟩:=c8S h2 (N:=s.cnt.toNat) (by omega) e (c1v h1).2.2.2 hsz row hrow (n+2) (by omega) σ
  exact ⟨h,g,r1,r2,by rw [b4w (a8v h1) h2]; exact r3⟩
 have hTl:(a5n e s).length=s.cnt.toNat:=by unfold a5n; rw [a2L]
 have hset:s.check=if s.Ok then 0 else 4:=rfl
 unfold a3V
 generalize a5n e s=tt at *
 generalize chk e=ck at *
 obtain ⟨op,a,b,c,d,e',f,v,l⟩:=e
 simp only [IsE] at hrow
 obtain ⟨x,rows,rfl,hx,hl⟩:=hrow
 obtain ⟨x1,x2,x3⟩:=a0T hx
 rw [a0e,b0y]
 simp only [Q0,Sys.run]
 show ((a0i [.sh (.agg [_,_,_,_,_,_,_,_,_]),.sh (.agg [_,_,_,_,_,_])] _).bind _)=_
 simp only [bpv] at hbc hcn hal ⊢
 simp only [a0i,a0d,a0c,Q6,Q0,Q5,Q4,Q3,if_true,x3]
 show (PT.ev _ a1Q _).bind _=_
 by_cases hc0:ck=0
 case neg =>
  have qq:eqB ck 0=false:=eqF hc0
  rw [if_pos hc0]
  simp -implicitDefEqProofs only [a1Q,↓reduceIte,eq_self,ξ1,ξ2,ξ3,ξ4,ξ5,ξ6,ξ7,ξ8,ξ9,ξa,ξb,ξc,ξd,ξe,ξf,ξg,ξh,Nat.reduceAdd,ξi,if_true,if_false,ξl,ξm,ξn,ξo,ξp,ξq,ξr,ξs,ξt,ξu,ξv,ξw,ξx,ξy,ξz,ξA,ξB,ξC,ξD,ξE,hck,qq,a0k,or_true]
 rw [if_neg (by simp [hc0])]
 have q1:eqB ck 0=true:=by rw [hc0]; rfl
 by_cases hb0:s.check=0
 case neg =>
  have qq:eqB s.check 0=false:=eqF hb0
  rw [if_pos hb0]
  simp -implicitDefEqProofs only [a1Q,↓reduceIte,eq_self,ξ1,ξ2,ξ3,ξ4,ξ5,ξ6,ξ7,ξ8,ξ9,ξa,ξb,ξc,ξd,ξe,ξf,ξg,ξh,Nat.reduceAdd,ξi,if_true,if_false,ξl,ξm,ξn,ξo,ξp,ξq,ξr,ξs,ξt,ξu,ξv,ξw,ξx,ξy,ξz,ξA,ξB,ξC,ξD,ξE,hck,q1,hbc,qq,a0k,or_true]
 rw [if_neg (by simp [hb0])]
 have q2:eqB s.check 0=true:=by rw [hb0]; rfl
 by_cases hz:s.cnt=0
 ·have qq:eqB s.cnt 0=true:=by rw [hz]; rfl
  rw [if_pos hz]
  simp -implicitDefEqProofs only [a1Q,↓reduceIte,eq_self,ξ1,ξ2,ξ3,ξ4,ξ5,ξ6,ξ7,ξ8,ξ9,ξa,ξb,ξc,ξd,ξe,ξf,ξg,ξh,Nat.reduceAdd,ξi,if_true,if_false,ξl,ξm,ξn,ξo,ξp,ξq,ξr,ξs,ξt,ξu,ξv,ξw,ξx,ξy,ξz,ξA,ξB,ξC,ξD,ξE,hck,q1,hbc,q2,hcn,qq,a0k,or_true]
 rw [if_neg hz]
 have q3:eqB s.cnt 0=false:=eqF hz
 obtain ⟨h,g,r1,r2,r3⟩:=hal hc0 hz
 have hone:∀ z,(PV.msl h 0 z z 1).one=true:=fun _=>rfl
 have hcl:=a6p hz
 have hlt:=(QC.1 r3).1
 have hret:∀ ρ:PEnv,ρ.m=σ++g->ρ.k=σ.length->a0k ρ false (.tup [.msl h 0 s.cnt.toNat s.cnt.toNat 1,.int .i64 0])=some (.tup [.sl 1 (a0P tt),.int .i64 0],σ):=by
  intro ρ e1 e2
  unfold a0k
  rw [e1,e2,if_neg (by simp only [QP,false_or]; omega),QU,if_pos hlow]
  have:=c2Z (k:=σ.length) (h:=h) (look:=a5V ρ 3) (t:=tt) (T:=2) r2 (b9O (by rw [e1]; exact r3))
  rw [hTl] at this
  simp only [PV.frz,PV.frzs] at this ⊢
  rw [this]
  rfl
 simp -implicitDefEqProofs only [a1Q,↓reduceIte,eq_self,ξ1,ξ2,ξ3,ξ4,ξ5,ξ6,ξ7,ξ8,ξ9,ξa,ξb,ξc,ξd,ξe,ξf,ξg,ξh,Nat.reduceAdd,ξi,if_true,if_false,ξl,ξm,ξn,ξo,ξp,ξq,ξr,ξs,ξt,ξu,ξv,ξw,ξx,ξy,ξz,ξA,ξB,ξC,ξD,ξE,hck,q1,hbc,q2,hcn,q3,r1,hone,hret]
end
end Go.Proofs.Ythmkfeiapdbojaa
set_option maxRecDepth 100000
namespace Go.Proofs.Ythmkfeiapdbojaa
open Go.Sx Go.Kv Go.Bun
section
variable {e:Ex} {row:List PV}
theorem d0k (hrow:IsE e row) (he:e.size<=400) (s:Bd) {σ:List MO} (hlow:σ.all (MO.low σ.length)=true) (n:Nat):a0e a4u (n+1) 24 [.agg row,.agg (bpv s)] σ=some (a3V e s,σ):=by
 have hT:a4u 24=some tableP:=rfl
 rw [a0e,hT]
 simp only [Q0,Sys.run,tableP,b7K,b5F 400 e row hrow he,c3X]
 rw [if_pos ⟨he,hlow⟩]
end
end Go.Proofs.Ythmkfeiapdbojaa
