/- Which products an expression uses, and how many nodes it has: the reference's. -/
import Derived.Test.YthmkfeiapdbojaaHVq
import Derived.Test.YthmkfeiapdbojaaHVn
import Derived.Test.YthmkfeiapdbojaaHGx
import Derived.Test.YthmkfeiapdbojaaHTxe
set_option linter.unusedSimpArgs false
set_option linter.unusedVariables false
open Go.Sx.PT renaming ev → ξ1
open Go.Sx.BE renaming safe → ξ2, pe → ξ3, all → ξz
open Go.Sx.IE renaming pe → ξ4
open Go.Sx renaming PEnv.at → ξ5
open Go.Sx.PEnv renaming push → ξt
open List renaming getD_cons_zero → ξ6, getD_cons_succ → ξ7, getElem?_cons_zero → ξ8, getElem?_cons_succ → ξ9, drop_zero → ξf, length_cons → ξg, length_nil → ξh, take_succ_cons → ξm, take_zero → ξn, cons_append → ξu, nil_append → ξv, append_nil → ξw, map_cons → ξD, map_nil → ξE
open Go.Sx renaming a0g → ξa, a0h → ξb, a0b → ξc, a0f → ξd, a0c → ξo, a0a → ξp, a0d → ξq, a0N → ξF, a0D → ξG, a0p → ξH, a0q → ξI, a0C → ξJ, a1d → ξK, a0Z → ξL, a1e → ξM, a0Y → ξN, a0A → ξO, a0n → ξP, a0B → ξQ, a0M → ξR, a0m → ξS, a0y → ξT, a0R → ξU, a0H → ξV, a0I → ξW, a0J → ξX, a0r → ξY
open Nat renaming add_zero → ξe, le_refl → ξi
open Bool renaming false_eq_true → ξl, and_self → ξA, not_true → ξB, not_false → ξC
open Option renaming map_some → ξr, bind_some → ξs
open Go.Sx.SV renaming pvs → ξx, pv → ξy
open Option renaming bind_some → Q0, map_some → Q5
open Bool renaming true_and → Q1, false_and → Q2, and_self → Qa, true_or → Qg, or_true → Qh, or_false → Qj, and_eq_true → Qp, or_eq_false_iff → Qq, and_false → Qt
open List renaming getD_eq_getElem?_getD → Q3, range → Q4, all_cons → Q6, append_nil → Q7, nil_append → Q8, cons_append → Q9, mem_map → Qb, map_cons → Qe, range' → Qf, range_eq_range' → Qk, foldl_cons → Qm, all_eq_true → Qn, length_map → Qr, range'_succ → Qs
open Int renaming toNat_natCast → Qd
set_option maxRecDepth 100000
namespace Go.Proofs.Ythmkfeiapdbojaa
open Go.Sx Go.Kv Go.Bun
mutual
def a6u:Ex->Prop | .node _ _ _ _ _ _ _ _ l=>l.length<=9223372036854775807/\b1X l
def b1X:List Ex->Prop | []=>True | e::l=>a6u e/\b1X l
end
mutual
def a5I (k:Nat):Ex->Bool | .node _ a b c d e f _ l=>decide (0 < [a,b,c,d,e,f].getD k 0)||b1y k l
def b1y (k:Nat):List Ex->Bool | []=>false | e::l=>a5I k e||b1y k l
end
mutual
def a3B (d:Nat):Ex->Int | .node _ _ _ _ _ _ _ _ l=>if 10 < d\/20 < l.length then 1000 else 1+a3i (d+1) l
def a3i (d:Nat):List Ex->Int | []=>0 | e::l=>a3B d e+a3i d l
end
def bN:Nat->Int
 | 0=>1000
 | k+1=>1+20*bN k
theorem b7T:∀ k,1000<=bN k
 | 0=>Int.le_refl _
 | k+1=>by have:=b7T k; simp only [bN]; omega
mutual
theorem b7x (d:Nat):∀ e:Ex,1<=a3B d e/\a3B d e<=bN (11-d)
 | .node op a b c d' e f v l=>by
  unfold a3B
  have hb:=b7T (11-d)
  split
  ·omega
  ·rename_i h
   have:=a6G (d+1) l
   obtain ⟨k,hk⟩:∃ k,11-d=k+1:=⟨10-d,by omega⟩
   rw [hk]
   rw [show 11-(d+1)=k by omega] at this
   simp only [bN]
   have hl:(l.length:Int)*bN k<=20*bN k:=Int.mul_le_mul_of_nonneg_right (by omega) (by have:=b7T k; omega)
   omega
theorem a6G (d:Nat):∀ l:List Ex,0<=a3i d l/\a3i d l<=l.length*bN (11-d)
 | []=>by simp [a3i]
 | e::l=>by
  have h1:=b7x d e
  have h2:=a6G d l
  simp only [a3i,List.length_cons]
  rw [Int.natCast_add,Int.add_mul]
  omega
end
mutual
theorem b6u (d:Nat):∀ e:Ex,a3B d e < 1000->a3B d e=e.size
 | .node op a b c d' e f v l,h=>by
  unfold a3B at h ⊢
  split
  ·rename_i hc; rw [if_pos hc] at h; omega
  ·rename_i hc
   rw [if_neg hc] at h
   have:=b5l (d+1) l (by have:=a6G (d+1) l; omega)
   simp only [Ex.size]; omega
theorem b5l (d:Nat):∀ l:List Ex,a3i d l < 1000->a3i d l=a2a l
 | [],_=>by simp [a3i,a2a]
 | e::l,h=>by
  have h1:=b7x d e
  have h2:=a6G d l
  simp only [a3i] at h ⊢
  have h3:=b6u d e (by omega)
  have h4:=b5l d l (by omega)
  simp only [a2a]; omega
end
def want (a b c d e f:Int) (k:Nat):Int:=[a,b,c,d,e,f].getD k 0
end Go.Proofs.Ythmkfeiapdbojaa
set_option maxRecDepth 100000
namespace Go.Proofs.Ythmkfeiapdbojaa
open Go.Sx Go.Kv Go.Bun
def Zk (k:Nat) (kv:KV):Prop:=∀ p∈kv,p.1.getD k 0=0
section
variable {k:Nat} {lim:List Int}
theorem b4D {kv:KV} (h:Zk k kv) {b:List Int} {v:Int} (hb:b.getD k 0=0):Zk k (a2I lim kv b v):=by
 unfold a2I
 split
 ·intro p hp
  rcases b7a.1 hp with rfl | ⟨hp,_⟩
  ·exact hb
  ·exact h p hp
 ·exact h
theorem a4P:∀ {L kv:KV},Zk k kv->(∀ p∈L,p.1.getD k 0=0)->Zk k (raises lim kv L)
 | [],_,h,_=>h
 | p::L,kv,h,hL=>by rw [a7Z]; exact a4P (b4D h (hL p (by simp))) (fun q hq=>hL q (by simp [hq]))
theorem a8t:Zk k []:=fun p hp=>by simp at hp
theorem c1H:∀ {a b:List Int} {k:Nat},a.getD k 0=0->b.getD k 0=0->(a2X a b).getD k 0=0
 | [],_,_,_,_=>by simp [a2X]
 | _::_,[],_,_,_=>by simp [a2X]
 | x::a,y::b,0,h,g=>by simp [a2X] at *; omega
 | x::a,y::b,k+1,h,g=>by
  have:=c1H (a:=a) (b:=b) (k:=k) (by simpa using h) (by simpa using g)
  simpa [a2X] using this
theorem b9V:∀ {a b:List Int} {k:Nat},a.getD k 0=0->b.getD k 0=0->(a2o a b).getD k 0=0
 | [],_,_,_,_=>by simp [a2o]
 | _::_,[],_,_,_=>by simp [a2o]
 | x::a,y::b,0,h,g=>by simp [a2o] at *; omega
 | x::a,y::b,k+1,h,g=>by
  have:=b9V (a:=a) (b:=b) (k:=k) (by simpa using h) (by simpa using g)
  simpa [a2o] using this
theorem d0H {x y:KV} (hx:Zk k x) (hy:Zk k y):Zk k (a3r lim x y):=by
 unfold a3r
 refine a4P (a4P (a4P a8t hx) hy) fun p hp=>?_
 simp only [a6r,List.mem_flatMap,Qb] at hp
 obtain ⟨a,ha,b,hb,rfl⟩:=hp
 exact c1H (hx a ha) (hy b hb)
theorem b9b {F:KV->KV->KV} (hF:∀ a b,Zk k a->Zk k b->Zk k (F a b)):∀ {l:List KV} {a:KV},Zk k a->(∀ x∈l,Zk k x)->Zk k (l.foldl F a)
 | [],_,h,_=>h
 | x::l,a,h,hl=>by rw [Qm]; exact b9b hF (hF a x h (hl x (by simp))) (fun y hy=>hl y (by simp [hy]))
theorem c9i {l:List Int} (h:nnL l=true) (k:Nat) (hu:decide (0 < l.getD k 0)=false):l.getD k 0=0:=by
 have hu:=of_decide_eq_false hu
 rw [Q3] at hu ⊢
 cases hk:l[k]? with
 | none=>rfl
 | some z =>
  rw [hk] at hu
  have:=Qn.1 h z (List.mem_of_getElem? hk)
  simp only [Option.getD_some,decide_eq_true_eq] at *
  omega
mutual
theorem d0V:∀ e:Ex,okX e=true->a5I k e=false->Zk k (a0z lim e)
 | .node op a b c d e f v l,h,hu=>by
  simp only [okX,Qp] at h
  obtain ⟨⟨⟨⟨h1,h2⟩,h3⟩,h4⟩,h5⟩:=h
  simp only [a5I,Qq] at hu
  have hw:=c9i h1 k hu.1
  have hl:=c5P l h5 hu.2
  have hhead:Zk k ((a1p lim l).headD []):=by
   cases hk:a1p lim l with
   | nil=>exact a8t
   | cons x r=>exact hl x (by rw [hk]; simp)
  simp only [a0z]
  split
  ·exact b4D a8t hw
  split
  ·exact b9b (fun a b ha hb=>a4P ha hb) a8t hl
  split
  ·exact b9b (fun a b=>d0H) a8t hl
  split
  ·unfold a9U
   refine a4P (b4D (a4P a8t hhead) hw) fun p hp=>?_
   obtain ⟨q,hq,rfl⟩:=Qb.1 hp
   exact b9V (hhead q hq) hw
  split
  ·unfold a8r
   refine a4P a8t fun p hp=>?_
   obtain ⟨q,hq,rfl⟩:=Qb.1 hp
   exact hhead q hq
  ·exact a8t
theorem c5P:∀ l:List Ex,a3k l=true->b1y k l=false->∀ x∈a1p lim l,Zk k x
 | [],_,_=>by simp [a1p]
 | e::l,h,hu=>by
  simp only [a3k,Qp] at h
  simp only [b1y,Qq] at hu
  have i1:=d0V e h.1 hu.1
  have i2:=c5P l h.2 hu.2
  intro x hx
  simp only [a1p,List.mem_cons] at hx
  rcases hx with rfl | hx
  ·exact i1
  ·exact i2 x hx
end
end
end Go.Proofs.Ythmkfeiapdbojaa
set_option maxRecDepth 100000
namespace Go.Proofs.Ythmkfeiapdbojaa
open Go.Sx Go.Kv Go.Bun
section
variable {σ:List MO} {e:Ex} {row:List PV}
end
end Go.Proofs.Ythmkfeiapdbojaa
set_option maxRecDepth 100000
namespace Go.Proofs.Ythmkfeiapdbojaa
open Go.Sx Go.Kv Go.Bun
section
variable {e:Ex} {row:List PV}
theorem d0n {n:Nat} (hn:2000<=n):a0e a4u n a6R [] []=some (.bool true,[]):=c7R hn c9U
end
end Go.Proofs.Ythmkfeiapdbojaa
set_option maxRecDepth 100000
namespace Go.Proofs.Ythmkfeiapdbojaa
open Go.Sx Go.Bun
theorem c1G {n:Nat} {ps:List PV} (h:a1r Try.prog n 23 ps):∃ b:Bd,ps=bpv b:=by
 obtain ⟨m,_,h⟩:=c1h Try.underlying23 h
 simp only [List.replicate,a5Q] at h
 obtain ⟨_,_,rfl,h1,_,_,rfl,h2,_,_,rfl,h3,_,_,rfl,h4,_,_,rfl,h5,_,_,rfl,h6,rfl⟩:=h
 obtain ⟨a,rfl,_⟩:=a3W (k:=.i64) (by kernel_rfl) h1
 obtain ⟨b,rfl,_⟩:=a3W (k:=.i64) (by kernel_rfl) h2
 obtain ⟨c,rfl,_⟩:=a3W (k:=.i64) (by kernel_rfl) h3
 obtain ⟨d,rfl,_⟩:=a3W (k:=.i64) (by kernel_rfl) h4
 obtain ⟨e,rfl,_⟩:=a3W (k:=.i64) (by kernel_rfl) h5
 obtain ⟨f,rfl,_⟩:=a3W (k:=.i64) (by kernel_rfl) h6
 exact ⟨⟨a,b,c,d,e,f⟩,rfl⟩
end Go.Proofs.Ythmkfeiapdbojaa
set_option maxRecDepth 100000
namespace Go.Proofs.Ythmkfeiapdbojaa
open Go.Sx Go.Kv Go.Bun
def c4k (s:Bd) (t:List Int) (n:Nat):Bool:=(s.offs (s.unr n)).all fun st=>decide (t.getD ((n:Int)-st).toNat 0<=t.getD n 0)
def a3L (s:Bd) (t:List Int) (n:Nat):Bool:=(Q4 n).all (c4k s t)
theorem c2T (s:Bd) (t:List Int) (n:Nat):a3L s t (n+1)=(a3L s t n&&c4k s t n):=by
 unfold a3L; rw [List.range_succ,List.all_append]; simp
def b5y (s:Bd) (t:List Int) (N:Nat):Bool:=(Q4 N).all fun (i:Nat)=>(Q4 N).all fun (j:Nat)=>!decide ((s.unr i).Le (s.unr j))||decide (t.getD i 0<=t.getD j 0)
theorem c6y {s:Bd} {t:List Int} {N:Nat} (hN:(N:Int)=s.cnt):a3L s t N=b5y s t N:=by
 rw [Bool.eq_iff_iff]
 unfold a3L b5y c4k
 simp only [Qn,List.mem_range,decide_eq_true_eq,Bool.or_eq_true,Bool.not_eq_true',decide_eq_false_iff_not]
 constructor
 ·intro h i hi j
  induction j using Nat.strongRecOn with
  | _ j ih =>
   intro hj
   by_cases hle:(s.unr i).Le (s.unr j)
   case neg=>exact .inl hle
   obtain ⟨o1,o2⟩:=a7N (s:=s) (n:=j) (by omega) rfl
   rcases o2 (s.unr i) (a3m (Bd.ok_of_cnt (s:=s) (by omega)) i).1 hle with he | ⟨st,hst,m,m1,m2,m3⟩
   ·have h1:=a8q (s:=s) (n:=i) (by omega)
    have h2:=a8q (s:=s) (n:=j) (by omega)
    rw [he,h2] at h1
    have:i=j:=by omega
    subst this
    exact .inr (Int.le_refl _)
   ·have h1:=h j hj st hst
    rw [m1,Qd] at h1
    rcases ih m m2 (by omega) with h2 | h2
    ·exact absurd m3 h2
    ·exact .inr (by omega)
 ·intro h j hj st hst
  obtain ⟨o1,_⟩:=a7N (s:=s) (n:=j) (by omega) rfl
  obtain ⟨m,m1,m2,m3,_⟩:=o1 st hst
  rw [m1,Qd]
  rcases h m (by omega) j hj with h1 | h1
  ·exact absurd m3 h1
  ·exact h1
end Go.Proofs.Ythmkfeiapdbojaa
set_option maxRecDepth 100000
namespace Go.Proofs.Ythmkfeiapdbojaa
open Go.Sx Go.Kv Go.Bun
def a2b (L:List (List Int)):List (List PV):=L.map lpv
inductive HoldsL (m:List MO) (L:List (List Int)):PV->Prop
 | sl:HoldsL m L (.sl 6 (a2b L))
 | rsl {h:Nat}:m[h]?=some (.row (a2b L) 6 23)->HoldsL m L (.rsl h L.length 6)
section
variable {Φ:Fns} {m0:List MO} {L:List (List Int)} {p:PV} {s:Bd} {K:Nat}
end
end Go.Proofs.Ythmkfeiapdbojaa
set_option maxRecDepth 100000
namespace Go.Proofs.Ythmkfeiapdbojaa
open Go.Sx Go.Kv Go.Bun
section
variable {Φ:Fns} {m0:List MO} {L:List (List Int)} {p:PV} {s:Bd} {K:Nat}
end
end Go.Proofs.Ythmkfeiapdbojaa
set_option maxRecDepth 100000
namespace Go.Proofs.Ythmkfeiapdbojaa
open Go.Sx Go.Kv Go.Bun
def mmO (σ:List MO) (t:List Int) (i:Int) (ok:Bool):List MO:=σ++[.cells [.sl 1 (a0P t)] 37,.cells [.int .i64 i] 3,.cells [.bool ok] 4]
section
variable {σ:List MO} {t:List Int} {s:Bd}
theorem c3a (i:Int) (ok:Bool):(mmO σ t i ok).length=σ.length+3:=by simp [mmO]
theorem d1d (i:Int) (ok:Bool):(mmO σ t i ok)[σ.length]?=some (.cells [.sl 1 (a0P t)] 37):=b5O _ _ _
theorem c4r (i:Int) (ok:Bool):(mmO σ t i ok)[σ.length+1]?=some (.cells [.int .i64 i] 3):=b6D rfl
theorem c5q (i:Int) (ok:Bool):(mmO σ t i ok)[σ.length+2]?=some (.cells [.bool ok] 4):=b6D rfl
theorem c6N (i i':Int) (ok:Bool):(mmO σ t i ok).set (σ.length+1) (.cells [.int .i64 i'] 3)=mmO σ t i' ok:=a8B
theorem c1Q (i:Int) (ok ok':Bool):(mmO σ t i ok).set (σ.length+2) (.cells [.bool ok'] 4)=mmO σ t i ok':=a8B
theorem c8f {i j:Nat} (hi:i < t.length) (hj:j < t.length) (ok:Bool) (q:Nat) :
  a0e Tab (q+1) 56 [.int .i64 j,.ref (σ.length+2) 0,.ref σ.length 0,.ref (σ.length+1) 0] (mmO σ t i ok)=some (.tup [],mmO σ t i (ok&&decide (t.getD j 0<=t.getD i 0))):=by
 have gt:=d1d (σ:=σ) (t:=t) i ok
 have gi:=c4r (σ:=σ) (t:=t) i ok
 have go:=c5q (σ:=σ) (t:=t) i ok
 obtain ⟨x,hx⟩:=a3n hi
 obtain ⟨y,hy⟩:=a3n hj
 have l1:=b4y hx
 have l2:=b4y hy
 have q1:ltB (i:Int) (t.length:Int)=true:=by simp [ltB]; omega
 have q2:ltB (j:Int) (t.length:Int)=true:=by simp [ltB]; omega
 have e1:t.getD i 0=x:=by rw [Q3,hx]; rfl
 have e2:t.getD j 0=y:=by rw [Q3,hy]; rfl
 have hone:(PV.sl 1 (a0P t)).one=true:=rfl
 have hlen:(PV.sl 1 (a0P t)).len=(t.length:Int):=by simp [PV.len,b5n]
 have hle:leB y x=decide (y<=x):=rfl
 have hs1:(mmO σ t i ok).set (σ.length+2) (.cells (a1A [.bool ok] 0 [.bool (decide (y<=x))]) 4)=mmO σ t i (decide (y<=x)):=c1Q _ _ _
 have hs2:(mmO σ t i ok).set (σ.length+2) (.cells (a1A [.bool ok] 0 [.bool false]) 4)=mmO σ t i false:=c1Q _ _ _
 rw [a0e,a9m,e1,e2]
 simp only [Q0,Sys.run]
 show ((a0i [.sh (.one (.int .i64)),.ptr,.ptr,.ptr] _).bind _)=_
 simp only [a0i,a0d,a0c,Q5,Q0,Q7,Q8,Q9,if_true,PV.isPtr]
 show (PT.ev _ a3a _).bind _=_
 cases ok with
 | false=>simp -implicitDefEqProofs only [a3a,↓reduceIte,eq_self,ξ1,ξ2,ξ3,ξ4,ξ5,ξ6,ξ7,ξ8,ξ9,ξa,ξb,ξc,ξd,ξe,ξf,ξg,ξh,Nat.reduceAdd,ξi,if_true,if_false,ξl,ξm,ξn,ξo,ξp,ξq,ξr,ξs,ξt,ξu,ξv,ξw,ξx,ξy,ξz,ξA,ξB,ξC,ξD,ξE,gt,gi,go,MO.list,hs2,a0k,true_or,Q2]
 | true=>simp -implicitDefEqProofs only [a3a,↓reduceIte,eq_self,ξ1,ξ2,ξ3,ξ4,ξ5,ξ6,ξ7,ξ8,ξ9,ξa,ξb,ξc,ξd,ξe,ξf,ξg,ξh,Nat.reduceAdd,ξi,if_true,if_false,ξl,ξm,ξn,ξo,ξp,ξq,ξr,ξs,ξt,ξu,ξv,ξw,ξx,ξy,ξz,ξA,ξB,ξC,ξD,ξE,gt,gi,go,MO.list,hone,hlen,le0,q1,q2,l1,l2,hle,hs1,a0k,true_or,Q1]
theorem c7f (l:List Int) (g:Int->Bool):∀ b:Bool,l.foldl (fun ok st=>ok&&g st) b=(b&&l.all g):=by
 induction l with
 | nil=>intro b; simp
 | cons x l ih=>intro b; rw [Qm,ih,Q6,Bool.and_assoc]
set_option maxHeartbeats 4000000 in
theorem c2J (s:Bd) {tp:PV} (htp:tp=.sl 1 (a0P t)) (hlow:σ.all (MO.low σ.length)=true) (n:Nat) (hn:20<=n) :
  a0e Tab n 27 [tp,.agg (bpv s)] σ=some (.bool (decide (s.cnt≠0)&&(decide ((t.length:Int)=s.cnt)&&b5y s t t.length)),σ):=by
 subst htp
 obtain ⟨q,rfl⟩:∃ q,n=q+9:=⟨n-9,by omega⟩
 have hm1:(σ++[MO.cells [.sl 1 (a0P t)] 37]).all (MO.low (σ++[MO.cells [.sl 1 (a0P t)] 37]).length)=true:=by
  refine b7j hlow ?_
  have hr:∀ k,PV.lowss k (a0P t)=true:=fun k=>by
   induction t with
   | nil=>rfl
   | cons x t ih=>simp only [a0P,Qe,PV.lowss,PV.lows,PV.low,Qa,Q1] at *; exact ih
  simp only [Q6,List.all_nil,MO.low,PV.lows,PV.low,hr,Qa]
 have hr:∀ k,PV.lowss k (a0P t)=true:=fun k=>by
  clear hm1
  induction t with
  | nil=>rfl
  | cons x t ih=>simp only [a0P,Qe,PV.lowss,PV.lows,PV.low,Qa,Q1] at *; exact ih
 have hcn:a0e Tab (q+8) 52 [.agg (bpv s)] (σ++[MO.cells [.sl 1 (a0P t)] 37])=some (.int .i64 s.cnt,σ++[MO.cells [.sl 1 (a0P t)] 37]):=a7a s _ (q+6)
 have hone:(PV.sl 1 (a0P t)).one=true:=rfl
 have hkind:(PV.sl 1 (a0P t)).isKind 0=true:=rfl
 have hlen:(PV.sl 1 (a0P t)).len=(t.length:Int):=by simp [PV.len,b5n]
 have hretF:∀ (ρ:PEnv) (b:Bool) (g:List MO),ρ.m=σ++g->g≠[]->ρ.k=σ.length->a0k ρ false (.bool b)=some (.bool b,σ):=by
  intro ρ b g e1 e2 e3
  unfold a0k
  rw [e1,e3,if_neg (by rw [List.length_append]; have:=List.length_pos_iff.2 e2; simp; exact e2),List.take_left,if_pos hlow]
  rfl
 have g0:(σ++[MO.cells [.sl 1 (a0P t)] 37])[σ.length]?=some (.cells [.sl 1 (a0P t)] 37):=b5O _ _ _
 have hr1:∀ (ρ:PEnv) (b:Bool),ρ.m=σ++[MO.cells [.sl 1 (a0P t)] 37]->ρ.k=σ.length->a0k ρ false (.bool b)=some (.bool b,σ):=fun ρ b e1 e2=>hretF ρ b _ e1 (by simp) e2
 rw [a0e,b0T]
 have hrun:Sys.run (a0e Tab (q+8)) valuation_Monotone_S (q+8) [.sl 1 (a0P t),.agg (bpv s)] σ=c2g (a0e Tab (q+8)) valuation_Monotone_S valuation_Monotone_G [.sl 1 (a0P t),.agg (bpv s)] σ:=rfl
 rw [Q0,hrun]
 unfold c2g
 have hps:a0i valuation_Monotone_S.ps [.sl 1 (a0P t),.agg (bpv s)]=some ([s.a,s.b,s.c,s.d,s.e,s.f],[],[.sl 1 (a0P t)]):=by
  show a0i [.sh (.one _),.sh (.agg [_,_,_,_,_,_])] _=_
  simp only [bpv,a0i,a0d,a0c,Q5,Q0,Q7,Q8,Q9,if_true,hone]
 rw [hps,Q0]
 by_cases hc:s.cnt=0
 ·have qz:eqB s.cnt 0=true:=by rw [hc]; rfl
  rw [decide_eq_false (by simp [hc]),Q2]
  have hst:a1i.ev (a0e Tab (q+8)) { i:=[s.a,s.b,s.c,s.d,s.e,s.f],b:=[],v:=[.sl 1 (a0P t)],m:=σ,k:=σ.length }=some (.ret (.bool false) σ):=by
   generalize a0e Tab (q+8)=Φ at *
   generalize s.cnt=cz at *
   obtain ⟨a,b,c,d,e,f⟩:=s
   simp only [bpv] at hcn
   unfold a1i
   repeat (first | rw [a0B] | rw [a0A] | rw [a0D] | rw [a0p] | rw [a0q] | rw [a0m] | rw [a0M] | rw [a3f] | rw [a0C] | rw [a0y] | rw [a0r] | rw [a0N])<;>simp -implicitDefEqProofs only [↓reduceIte,eq_self,ξ2,ξ3,ξ4,ξ5,ξ6,ξ7,ξ8,ξ9,ξa,ξb,ξc,ξd,ξe,ξf,ξg,ξh,Nat.reduceAdd,ξi,if_true,if_false,ξl,ξm,ξn,ξo,ξp,ξq,ξr,ξs,ξt,ξu,ξv,ξw,ξx,ξy,ξz,ξA,ξB,ξC,ξD,ξE,hcn,qz,hr1]
  show ((a1i.ev _ _).bind _)=_
  rw [hst]
  rfl
 have qz:eqB s.cnt 0=false:=eqF hc
 rw [decide_eq_true hc,Q1]
 by_cases hl:(t.length:Int)=s.cnt
 case neg =>
  have ql:eqB (t.length:Int) s.cnt=false:=eqF hl
  rw [decide_eq_false hl,Q2]
  have hst:a1i.ev (a0e Tab (q+8)) { i:=[s.a,s.b,s.c,s.d,s.e,s.f],b:=[],v:=[.sl 1 (a0P t)],m:=σ,k:=σ.length }=some (.ret (.bool false) σ):=by
   generalize a0e Tab (q+8)=Φ at *
   generalize s.cnt=cz at *
   obtain ⟨a,b,c,d,e,f⟩:=s
   simp only [bpv] at hcn
   unfold a1i
   repeat (first | rw [a0B] | rw [a0A] | rw [a0D] | rw [a0p] | rw [a0q] | rw [a0m] | rw [a0M] | rw [a3f] | rw [a0C] | rw [a0y] | rw [a0r] | rw [a0N])<;>simp -implicitDefEqProofs only [↓reduceIte,eq_self,ξ2,ξ3,ξ4,ξ5,ξ6,ξ7,ξ8,ξ9,ξa,ξb,ξc,ξd,ξe,ξf,ξg,ξh,Nat.reduceAdd,ξi,if_true,if_false,ξl,ξm,ξn,ξo,ξp,ξq,ξr,ξs,ξt,ξu,ξv,ξw,ξx,ξy,ξz,ξA,ξB,ξC,ξD,ξE,hcn,qz,PV.on,g0,MO.list,hone,hkind,hlen,ql,hr1]
  show ((a1i.ev _ _).bind _)=_
  rw [hst]
  rfl
 have ql:eqB (t.length:Int) s.cnt=true:=by simp [eqB,hl]
 rw [decide_eq_true hl,Q1]
 have hs:=Bd.ok_of_cnt hc
 have hcl:=a6p hc
 have hmO:∀ i ok,(mmO σ t i ok).all (MO.low (mmO σ t i ok).length)=true:=fun i ok=>b7j hlow (by
  simp only [Q6,List.all_nil,MO.low,PV.lows,PV.low,hr,Qa])
 have hall:a0e Tab (q+8) 53 [.agg (bpv s)] (mmO σ t 0 true)=some (.fn 95 [.cell (bpv s) 0],mmO σ t 0 true):=c6M s hc (mmO σ t 0 true) (hmO 0 true) (q+5)
 have hstart:a1i.ev (a0e Tab (q+8)) { i:=[s.a,s.b,s.c,s.d,s.e,s.f],b:=[],v:=[.sl 1 (a0P t)],m:=σ,k:=σ.length } =
   some (.jump 0 { i:=[s.a,s.b,s.c,s.d,s.e,s.f],b:=[],v:=[.ref σ.length 0,.ref (σ.length+1) 0,.ref (σ.length+2) 0,.fn 95 [.cell (bpv s) 0]],m:=mmO σ t 0 true,k:=σ.length }):=by
  have m1:σ++[MO.cells [.sl 1 (a0P t)] 37]++[MO.cells [.int .i64 0] 3]++[MO.cells [.bool false] 4]=mmO σ t 0 false:=by simp [mmO]
  have m2:(σ++[MO.cells [.sl 1 (a0P t)] 37]).length=σ.length+1:=by simp
  have m3:(σ++[MO.cells [.sl 1 (a0P t)] 37]++[MO.cells [.int .i64 0] 3]).length=σ.length+2:=by simp
  have gi:=c4r (σ:=σ) (t:=t) 0 false
  have go:=c5q (σ:=σ) (t:=t) 0 false
  have s1:(mmO σ t 0 false).set (σ.length+1) (.cells (a1A [.int .i64 0] 0 [.int .i64 0]) 3)=mmO σ t 0 false:=c6N _ _ _
  have s2:(mmO σ t 0 false).set (σ.length+2) (.cells (a1A [.bool false] 0 [.bool true]) 4)=mmO σ t 0 true:=c1Q _ _ _
  generalize s.cnt=cz at *
  obtain ⟨a,b,c,d,e,f⟩:=s
  simp only [bpv] at hcn hall
  have hone2:(PV.fn 95 [.cell [.int .i64 a,.int .i64 b,.int .i64 c,.int .i64 d,.int .i64 e,.int .i64 f] 0]).one=true:=rfl
  unfold a1i
  repeat (first | rw [a0B] | rw [a0A] | rw [a0D] | rw [a0p] | rw [a0q] | rw [a0m] | rw [a0M] | rw [a3f] | rw [a0C] | rw [a0y] | rw [a0r] | rw [a0N])<;>simp -implicitDefEqProofs only [↓reduceIte,eq_self,ξ2,ξ3,ξ4,ξ5,ξ6,ξ7,ξ8,ξ9,ξa,ξb,ξc,ξd,ξe,ξf,ξg,ξh,Nat.reduceAdd,ξi,if_true,if_false,ξl,ξm,ξn,ξo,ξp,ξq,ξr,ξs,ξt,ξu,ξv,ξw,ξx,ξy,ξz,ξA,ξB,ξC,ξD,ξE,hcn,qz,PV.on,g0,MO.list,hone,hone2,hkind,hlen,ql,m1,m2,m3,gi,go,s1,s2,hall,bpv]
 show ((a1i.ev _ _).bind _)=_
 rw [hstart]
 simp only [Q0]
 have hv3:([.ref σ.length 0,.ref (σ.length+1) 0,.ref (σ.length+2) 0,.fn 95 [.cell (bpv s) 0]]:List PV)[valuation_Monotone_G.n]?=some (.fn 95 [.cell (bpv s) 0]):=rfl
 rw [hv3]
 show ((valuation_Monotone_G.it _ _).bind _)=_
 have hit:valuation_Monotone_G.it 95 [.cell (bpv s) 0]=some ((Lk s 6).map fun x=>[.agg (lpv x)]):=c1e hs
 rw [hit]
 simp only [Q0]
 have hNl:(Lk s 6).length=t.length:=by have:=c1Z hc; omega
 have hrng:=b8x (Φ:=a0e Tab (q+8)) (G:=valuation_Monotone_G) (ys:=(Lk s 6).map fun x=>[.agg (lpv x)]) (fun i=>{ i:=[s.a,s.b,s.c,s.d,s.e,s.f],b:=[],v:=[.ref σ.length 0,.ref (σ.length+1) 0,.ref (σ.length+2) 0,.fn 95 [.cell (bpv s) 0]],m:=mmO σ t i (a3L s t i),k:=σ.length }) (fun i y hy=>by
  have hil:i < t.length:=by
   have:=(List.getElem?_eq_some_iff.1 hy).1
   rw [Qr] at this; omega
  rw [List.getElem?_map,c2i hc (by omega)] at hy
  simp only [Q5,Option.some.injEq] at hy
  subst hy
  refine ⟨((s.unr i).l,[],[]),rfl,?_⟩
  obtain ⟨ho,_⟩:=a7N (s:=s) (n:=i) (by omega) rfl
  have hbel:=c2m (Φ:=a0e Tab (q+7)) (F:=56) (caps:=[.ref (σ.length+2) 0,.ref σ.length 0,.ref (σ.length+1) 0]) (M:=fun ok=>mmO σ t i ok) (G:=fun ok st=>ok&&decide (t.getD ((i:Int)-st).toNat 0<=t.getD i 0)) (I:=fun _=>True) (i:=i) (s0:=s.a) (s1:=s.b) (s2:=s.c) (s3:=s.d) (s4:=s.e) (s5:=s.f)
   (b0:=(s.unr i).a) (b1:=(s.unr i).b) (b2:=(s.unr i).c) (b3:=(s.unr i).d) (b4:=(s.unr i).e) (b5:=(s.unr i).f) a7x rfl (a3L s t i) trivial (by omega)
   hs.1 hs.2.1 hs.2.2.1 hs.2.2.2.1 hs.2.2.2.2.1 hs.2.2.2.2.2 (fun b b'=>by rw [c3a,c3a]) (fun st hst ok _=>by
    obtain ⟨m,e1,e2,_⟩:=ho st hst
    refine ⟨?_,trivial⟩
    show a0e Tab (q+7) _ _ _=some (.tup [],mmO σ t i (ok&&decide (t.getD ((i:Int)-st).toNat 0<=t.getD i 0)))
    rw [e1,Qd]
    exact c8f hil (by omega) ok (q+6))
  obtain ⟨_,hbel⟩:=hbel
  rw [c7f] at hbel
  have hok:a3L s t (i+1)=(a3L s t i&&(offs 1 [(s.f,(s.unr i).f),(s.e,(s.unr i).e),(s.d,(s.unr i).d),(s.c,(s.unr i).c),(s.b,(s.unr i).b),(s.a,(s.unr i).a)]).all fun st=>decide (t.getD ((i:Int)-st).toNat 0<=t.getD i 0)):=c2T s t i
  rw [<- hok] at hbel
  rw [hok]
  rw [<- hok]
  clear hok
  have gi:=fun ok=>c4r (σ:=σ) (t:=t) i ok
  have hsi:∀ ok,(mmO σ t i ok).set (σ.length+1) (.cells (a1A [.int .i64 (i:Int)] 0 [.int .i64 ((i:Int)+1)]) 3)=mmO σ t ((i+1:Nat):Int) ok:=fun ok=>c6N _ _ _
  have q2:=a2h (i:=i) (by omega)
  generalize a3L s t (i+1)=k2 at *
  generalize a3L s t i=k1 at *
  generalize s.unr i=u at *
  obtain ⟨a,b,c,d,e,f⟩:=s
  obtain ⟨u0,u1,u2,u3,u4,u5⟩:=u
  simp only [lpv,Qe,List.map_nil] at hbel
  simp only [Bd.l]
  show a4x.ev _ _=_
  unfold a4x
  repeat (first | rw [a0B] | rw [a0A] | rw [a0D] | rw [a0p] | rw [a0q] | rw [a0m] | rw [a0M] | rw [a3f] | rw [a0C] | rw [a0y] | rw [a0r] | rw [a0N])<;>simp -implicitDefEqProofs only [↓reduceIte,eq_self,ξ2,ξ3,ξ4,ξ5,ξ6,ξ7,ξ8,ξ9,ξa,ξb,ξc,ξd,ξe,ξf,ξg,ξh,Nat.reduceAdd,ξi,if_true,if_false,ξl,ξm,ξn,ξo,ξp,ξq,ξr,ξs,ξt,ξu,ξv,ξw,ξx,ξy,ξz,ξA,ξB,ξC,ξD,ξE,gi,MO.list,PV.on,hbel,hsi,q2,a1D]
  )
 rw [Qr,hNl] at hrng
 have h00:a3L s t 0=true:=rfl
 rw [h00] at hrng
 have hrng':a3o (a0e Tab (q+8)) valuation_Monotone_G ((Lk s 6).map fun x=>[.agg (lpv x)]) { i:=[s.a,s.b,s.c,s.d,s.e,s.f],b:=[],v:=[.ref σ.length 0,.ref (σ.length+1) 0,.ref (σ.length+2) 0,.fn 95 [.cell (bpv s) 0]],m:=mmO σ t 0 true,k:=σ.length }=_:=hrng
 rw [hrng']
 simp only [Q0]
 rw [<- c6y hl]
 have go:=c5q (σ:=σ) (t:=t) t.length (a3L s t t.length)
 have hr2:∀ (ρ:PEnv) (b:Bool),ρ.m=mmO σ t t.length (a3L s t t.length)->ρ.k=σ.length->a0k ρ false (.bool b)=some (.bool b,σ):=fun ρ b e1 e2=>hretF ρ b _ e1 (by simp) e2
 generalize a3L s t t.length=kk at *
 have hafter:∀ Φ:Fns,a3g.ev Φ { i:=[s.a,s.b,s.c,s.d,s.e,s.f],b:=[],v:=[.ref σ.length 0,.ref (σ.length+1) 0,.ref (σ.length+2) 0,.fn 95 [.cell (bpv s) 0]],m:=mmO σ t t.length kk,k:=σ.length }=some (.ret (.bool kk) σ):=by
  intro Φ
  simp -implicitDefEqProofs only [a3g,↓reduceIte,eq_self,ξ1,ξ2,ξ3,ξ4,ξ5,ξ6,ξ7,ξ8,ξ9,ξa,ξb,ξc,ξd,ξe,ξf,ξg,ξh,Nat.reduceAdd,ξi,if_true,if_false,ξl,ξm,ξn,ξo,ξp,ξq,ξr,ξs,ξt,ξu,ξv,ξw,ξx,ξy,ξz,ξA,ξB,ξC,ξD,ξE,PV.on,go,MO.list,hr2]
 show ((a3g.ev _ _).bind _)=_
 rw [hafter]
 rfl
end
end Go.Proofs.Ythmkfeiapdbojaa
set_option maxRecDepth 100000
namespace Go.Proofs.Ythmkfeiapdbojaa
open Go.Sx Go.Kv Go.Bun
section
variable {σ:List MO} {t:List Int} {s:Bd}
def d3G (s:Bd) (t:List Int) (i j:Nat):Bool:=!decide ((s.unr i).Le (s.unr j))||decide (t.getD i 0<=t.getD j 0)
theorem d3O {q N:Nat} (hs:s.Ok) (hN:N<=1024) (htl:t.length=N) {i:Nat} (hi:i < N):∀ (d j:Nat),j+d=N->∀ fuel,
  saleroomref13_Monotone_S.loop (a0e Tab (q+1)) (fuel+d+1) 1 { i:=[(N:Int),(i:Int),(j:Int),s.a,s.b,s.c,s.d,s.e,s.f],b:=[],v:=[.sl 1 (a0P t)],m:=σ,k:=σ.length } =
  if (Qf j d).all (d3G s t i)=true then saleroomref13_Monotone_S.loop (a0e Tab (q+1)) fuel 0 { i:=[(N:Int),((i+1:Nat):Int),s.a,s.b,s.c,s.d,s.e,s.f],b:=[],v:=[.sl 1 (a0P t)],m:=σ,k:=σ.length } else some (.bool false,σ):=by
 intro d
 induction d with
 | zero =>
  intro j hj fuel
  have q0:ltB (j:Int) (N:Int)=false:=by simp [ltB]; omega
  have q2:=a2h (i:=i) (by omega)
  rw [if_pos (show (Qf j 0).all (d3G s t i)=true from rfl)]
  rw [Sys.loop,show saleroomref13_Monotone_S.loops[1]?=some d3r from rfl]
  simp -implicitDefEqProofs only [Q0,d3r,↓reduceIte,eq_self,ξ1,ξ2,ξ3,ξ4,ξ5,ξ6,ξ7,ξ8,ξ9,ξa,ξb,ξc,ξd,ξe,ξf,ξg,ξh,Nat.reduceAdd,ξi,if_true,if_false,ξl,ξm,ξn,ξo,ξp,ξq,ξr,ξs,ξt,ξu,ξv,ξw,ξx,ξy,ξz,ξA,ξB,ξC,ξD,ξE,q0,q2,a0v,Nat.add_zero]
 | succ d ih =>
  intro j hj fuel
  have hjN:j < N:=by omega
  have hnx:=ih (j+1) (by omega) fuel
  have h1:=c8w s hs (i:=i) (by omega) σ q
  have h2:=c8w s hs (i:=j) (by omega) σ q
  have h3:=a6b (s.unr i) (s.unr j) σ q
  obtain ⟨x,hx⟩:=a3n (l:=t) (i:=i) (by omega)
  obtain ⟨y,hy⟩:=a3n (l:=t) (i:=j) (by omega)
  have l1:=b4y hx
  have l2:=b4y hy
  have e1:t.getD i 0=x:=by rw [Q3,hx]; rfl
  have e2:t.getD j 0=y:=by rw [Q3,hy]; rfl
  have q0:ltB (j:Int) (N:Int)=true:=by simp [ltB]; omega
  have qi:ltB (i:Int) (N:Int)=true:=by simp [ltB]; omega
  have q2:=a2h (i:=j) (by omega)
  have hlen:(PV.sl 1 (a0P t)).len=(N:Int):=by simp [PV.len,b5n,htl]
  have hc:d3G s t i j=(!decide ((s.unr i).Le (s.unr j))||decide (x<=y)):=by unfold d3G; rw [e1,e2]
  rw [Qs,Q6,hc]
  rw [show fuel+(d+1)+1=fuel+d+1+1 by omega]
  rw [Sys.loop,show saleroomref13_Monotone_S.loops[1]?=some d3r from rfl,Q0]
  have key:d3r.ev (a0e Tab (q+1)) { i:=[(N:Int),(i:Int),(j:Int),s.a,s.b,s.c,s.d,s.e,s.f],b:=[],v:=[.sl 1 (a0P t)],m:=σ,k:=σ.length } =
    if (!decide ((s.unr i).Le (s.unr j))||decide (x<=y))=true then some (.jump 1 { i:=[(N:Int),(i:Int),((j+1:Nat):Int),s.a,s.b,s.c,s.d,s.e,s.f],b:=[],v:=[.sl 1 (a0P t)],m:=σ,k:=σ.length }) else some (.ret (.bool false) σ):=by
   generalize decide ((s.unr i).Le (s.unr j))=w at *
   generalize a0e Tab (q+1)=Φ at *
   generalize s.unr i=u at *
   generalize s.unr j=v at *
   clear hnx ih hc
   obtain ⟨a,b,c,d',e,f⟩:=s
   obtain ⟨u0,u1,u2,u3,u4,u5⟩:=u
   obtain ⟨v0,v1,v2,v3,v4,v5⟩:=v
   simp only [bpv] at h1 h2 h3
   unfold d3r
   cases w with
   | false=>simp -implicitDefEqProofs only [↓reduceIte,eq_self,ξ1,ξ2,ξ3,ξ4,ξ5,ξ6,ξ7,ξ8,ξ9,ξa,ξb,ξc,ξd,ξe,ξf,ξg,ξh,Nat.reduceAdd,ξi,if_true,if_false,ξl,ξm,ξn,ξo,ξp,ξq,ξr,ξs,ξt,ξu,ξv,ξw,ξx,ξy,ξz,ξA,ξB,ξC,ξD,ξE,q0,h1,h2,h3,q2,a0v,Qg]
   | true =>
    by_cases hxy:x<=y
    ·have qq:ltB y x=false:=by simp [ltB]; omega
     simp -implicitDefEqProofs only [↓reduceIte,eq_self,ξ1,ξ2,ξ3,ξ4,ξ5,ξ6,ξ7,ξ8,ξ9,ξa,ξb,ξc,ξd,ξe,ξf,ξg,ξh,Nat.reduceAdd,ξi,if_true,if_false,ξl,ξm,ξn,ξo,ξp,ξq,ξr,ξs,ξt,ξu,ξv,ξw,ξx,ξy,ξz,ξA,ξB,ξC,ξD,ξE,q0,h1,h2,h3,le0,qi,hlen,l1,l2,qq,q2,a0v,hxy,decide_true,Qh]
    ·have qq:ltB y x=true:=by simp [ltB]; omega
     simp -implicitDefEqProofs only [↓reduceIte,eq_self,ξ1,ξ2,ξ3,ξ4,ξ5,ξ6,ξ7,ξ8,ξ9,ξa,ξb,ξc,ξd,ξe,ξf,ξg,ξh,Nat.reduceAdd,ξi,if_true,if_false,ξl,ξm,ξn,ξo,ξp,ξq,ξr,ξs,ξt,ξu,ξv,ξw,ξx,ξy,ξz,ξA,ξB,ξC,ξD,ξE,q0,h1,h2,h3,le0,qi,hlen,l1,l2,qq,hxy,decide_false,Qj,a0k,or_true]
  rw [key]
  cases hb:(!decide ((s.unr i).Le (s.unr j))||decide (x<=y)) with
  | true =>
   simp only [if_true,Q1]
   exact hnx
  | false=>simp
theorem d3N {q N:Nat} (hs:s.Ok) (hN:N<=1024) (htl:t.length=N):∀ (d i:Nat),i+d=N->∀ fuel,d*(N+2)+1<=fuel ->
  saleroomref13_Monotone_S.loop (a0e Tab (q+1)) fuel 0 { i:=[(N:Int),(i:Int),s.a,s.b,s.c,s.d,s.e,s.f],b:=[],v:=[.sl 1 (a0P t)],m:=σ,k:=σ.length } =
  some (.bool ((Qf i d).all fun i=>(Q4 N).all (d3G s t i)),σ):=by
 intro d
 induction d with
 | zero =>
  intro i hi fuel hf
  obtain ⟨fuel,rfl⟩:∃ k,fuel=k+1:=⟨fuel-1,by omega⟩
  have q0:ltB (i:Int) (N:Int)=false:=by simp [ltB]; omega
  rw [Sys.loop,show saleroomref13_Monotone_S.loops[0]?=some d3s from rfl]
  simp -implicitDefEqProofs only [Q0,d3s,↓reduceIte,eq_self,ξ1,ξ2,ξ3,ξ4,ξ5,ξ6,ξ7,ξ8,ξ9,ξa,ξb,ξc,ξd,ξe,ξf,ξg,ξh,Nat.reduceAdd,ξi,if_true,if_false,ξl,ξm,ξn,ξo,ξp,ξq,ξr,ξs,ξt,ξu,ξv,ξw,ξx,ξy,ξz,ξA,ξB,ξC,ξD,ξE,q0,a0k,or_true]
  rfl
 | succ d ih =>
  intro i hi fuel hf
  rw [Nat.add_mul] at hf
  obtain ⟨fuel,rfl⟩:∃ k,fuel=k+N+1+1:=⟨fuel-(N+2),by omega⟩
  have q0:ltB (i:Int) (N:Int)=true:=by simp [ltB]; omega
  have hin:=d3O (q:=q) (σ:=σ) hs hN htl (i:=i) (by omega) N 0 (by omega) fuel
  have hnx:=ih (i+1) (by omega) fuel (by omega)
  rw [hnx] at hin
  rw [Qs,Q6,Qk]
  rw [<- Qk] at hin ⊢
  rw [Sys.loop,show saleroomref13_Monotone_S.loops[0]?=some d3s from rfl]
  refine Eq.trans (b:=saleroomref13_Monotone_S.loop (a0e Tab (q+1)) (fuel+N+1) 1 { i:=[(N:Int),(i:Int),((0:Nat):Int),s.a,s.b,s.c,s.d,s.e,s.f],b:=[],v:=[.sl 1 (a0P t)],m:=σ,k:=σ.length }) ?_ ?_
  ·simp -implicitDefEqProofs only [Q0,d3s,↓reduceIte,eq_self,ξ1,ξ2,ξ3,ξ4,ξ5,ξ6,ξ7,ξ8,ξ9,ξa,ξb,ξc,ξd,ξe,ξf,ξg,ξh,Nat.reduceAdd,ξi,if_true,if_false,ξl,ξm,ξn,ξo,ξp,ξq,ξr,ξs,ξt,ξu,ξv,ξw,ξx,ξy,ξz,ξA,ξB,ξC,ξD,ξE,q0]
   rfl
  ·rw [hin]
   cases (Q4 N).all (d3G s t i)<;>simp
theorem d3J (s:Bd) {tp:PV} (htp:tp=.sl 1 (a0P t)) (n:Nat) (hn:2000000<=n) :
  a0e Tab n 28 [tp,.agg (bpv s)] σ=some (.bool (decide (s.cnt≠0)&&(decide ((t.length:Int)=s.cnt)&&b5y s t t.length)),σ):=by
 subst htp
 obtain ⟨q,rfl⟩:∃ q,n=q+3:=⟨n-3,by omega⟩
 have hcn:a0e Tab (q+2) 23 [.agg (bpv s)] σ=some (.int .i64 s.cnt,σ):=a4a s σ q
 have hone:(PV.sl 1 (a0P t)).one=true:=rfl
 have hkind:(PV.sl 1 (a0P t)).isKind 0=true:=rfl
 have hlen:(PV.sl 1 (a0P t)).len=(t.length:Int):=by simp [PV.len,b5n]
 have hout:s.cnt≠0->(t.length:Int)=s.cnt->saleroomref13_Monotone_S.loop (a0e Tab (q+2)) (q+2) 0 { i:=[(t.length:Int),((0:Nat):Int),s.a,s.b,s.c,s.d,s.e,s.f],b:=[],v:=[.sl 1 (a0P t)],m:=σ,k:=σ.length }=some (.bool (b5y s t t.length),σ):=by
  intro h1 h2
  have hcl:=a6p h1
  have hm:t.length*(t.length+2)<=1024*1026:=Nat.mul_le_mul (by omega) (by omega)
  rw [d3N (q:=q+1) (Bd.ok_of_cnt h1) (N:=t.length) (by omega) rfl t.length 0 (by omega) _ (by omega),<- Qk]
  rfl
 rw [a0e,d3B]
 simp only [Q0,Sys.run]
 show ((a0i [.sh (.one _),.sh (.agg [_,_,_,_,_,_])] _).bind _)=_
 simp only [bpv] at hcn ⊢
 simp only [a0i,a0d,a0c,Q5,Q0,Q7,Q8,Q9,if_true,hone]
 show (PT.ev _ d3t _).bind _=_
 by_cases hc:s.cnt=0
 ·have qz:eqB s.cnt 0=true:=by rw [hc]; rfl
  rw [decide_eq_false (by simp [hc]),Q2]
  simp -implicitDefEqProofs only [d3t,↓reduceIte,eq_self,ξ1,ξ2,ξ3,ξ4,ξ5,ξ6,ξ7,ξ8,ξ9,ξa,ξb,ξc,ξd,ξe,ξf,ξg,ξh,Nat.reduceAdd,ξi,if_true,if_false,ξl,ξm,ξn,ξo,ξp,ξq,ξr,ξs,ξt,ξu,ξv,ξw,ξx,ξy,ξz,ξA,ξB,ξC,ξD,ξE,hcn,qz,a0k,or_true]
 have qz:eqB s.cnt 0=false:=eqF hc
 rw [decide_eq_true hc,Q1]
 by_cases hl:(t.length:Int)=s.cnt
 case neg =>
  have ql:eqB (t.length:Int) s.cnt=false:=eqF hl
  rw [decide_eq_false hl,Q2]
  simp -implicitDefEqProofs only [d3t,↓reduceIte,eq_self,ξ1,ξ2,ξ3,ξ4,ξ5,ξ6,ξ7,ξ8,ξ9,ξa,ξb,ξc,ξd,ξe,ξf,ξg,ξh,Nat.reduceAdd,ξi,if_true,if_false,ξl,ξm,ξn,ξo,ξp,ξq,ξr,ξs,ξt,ξu,ξv,ξw,ξx,ξy,ξz,ξA,ξB,ξC,ξD,ξE,hcn,qz,hkind,hlen,ql,a0k,or_true]
 have ql:eqB (t.length:Int) s.cnt=true:=by simp [eqB,hl]
 rw [decide_eq_true hl,Q1,<- hout hc hl]
 rw [<- hl] at hcn qz ql
 simp -implicitDefEqProofs only [d3t,↓reduceIte,eq_self,ξ1,ξ2,ξ3,ξ4,ξ5,ξ6,ξ7,ξ8,ξ9,ξa,ξb,ξc,ξd,ξe,ξf,ξg,ξh,Nat.reduceAdd,ξi,if_true,if_false,ξl,ξm,ξn,ξo,ξp,ξq,ξr,ξs,ξt,ξu,ξv,ξw,ξx,ξy,ξz,ξA,ξB,ξC,ξD,ξE,hcn,qz,hkind,hlen,ql]
 rfl
end
end Go.Proofs.Ythmkfeiapdbojaa
set_option maxRecDepth 100000
namespace Go.Proofs.Ythmkfeiapdbojaa
open Go.Sx Go.Kv Go.Bun
theorem d3K (t:List Int) (s:Bd) (n:Nat) (hn:5000000<=n):a0e a4u (n+1) d3u [.sl 1 (a0P t),.agg (bpv s)] []=some (.bool true,[]):=by
 have ha:=d0n (n:=n) (by omega)
 have hT:a4u d3u=some saleroomlaw13_ValuationOrders_S:=c3c _ _ d3w
 have hcn:a0e a4u n 23 [.agg (bpv s)] []=some (.int .i64 s.cnt,[]):=by
  obtain ⟨m,rfl⟩:∃ m,n=m+2:=⟨n-2,by omega⟩
  exact evH (a4a s [] m)
 have h1:=evH (c2J (σ:=[]) s (tp:=.sl 1 (a0P t)) rfl rfl n (by omega))
 have h2:=evH (d3J (σ:=[]) s (tp:=.sl 1 (a0P t)) rfl n (by omega))
 have hone:(PV.sl 1 (a0P t)).one=true:=rfl
 have hkind:(PV.sl 1 (a0P t)).isKind 0=true:=rfl
 generalize (decide (s.cnt≠0)&&(decide ((t.length:Int)=s.cnt)&&b5y s t t.length))=bb at *
 generalize s.cnt=cz at *
 have hl:(PV.sl 1 (a0P t)).len=(t.length:Int):=by simp [PV.len,b5n]
 generalize PV.sl 1 (a0P t)=tp at *
 generalize (t.length:Int)=tl at *
 obtain ⟨a,b,c,d,e,f⟩:=s
 simp only [bpv] at hcn h1 h2 ⊢
 rw [a0e,hT]
 simp only [Q0,Sys.run]
 show ((a0i [.sh (.one _),.sh (.agg [_,_,_,_,_,_])] _).bind _)=_
 simp only [a0i,a0d,a0c,Q5,Q0,Q7,Q8,Q9,if_true,hone]
 show (PT.ev _ d3q _).bind _=_
 cases q1:ltB 110 tl with
 | true=>simp -implicitDefEqProofs only [d3q,↓reduceIte,eq_self,ξ1,ξ2,ξ3,ξ4,ξ5,ξ6,ξ7,ξ8,ξ9,ξa,ξb,ξc,ξd,ξe,ξf,ξg,ξh,Nat.reduceAdd,ξi,if_true,if_false,ξl,ξm,ξn,ξo,ξp,ξq,ξr,ξs,ξt,ξu,ξv,ξw,ξx,ξy,ξz,ξA,ξB,ξC,ξD,ξE,hkind,hl,q1,ha,a0k,or_true]
 | false =>
  cases q2:ltB 100 cz with
  | true=>simp -implicitDefEqProofs only [d3q,↓reduceIte,eq_self,ξ1,ξ2,ξ3,ξ4,ξ5,ξ6,ξ7,ξ8,ξ9,ξa,ξb,ξc,ξd,ξe,ξf,ξg,ξh,Nat.reduceAdd,ξi,if_true,if_false,ξl,ξm,ξn,ξo,ξp,ξq,ξr,ξs,ξt,ξu,ξv,ξw,ξx,ξy,ξz,ξA,ξB,ξC,ξD,ξE,hkind,hl,q1,hcn,q2,ha,a0k,or_true]
  | false =>
   cases bb with
   | true=>simp -implicitDefEqProofs only [d3q,↓reduceIte,eq_self,ξ1,ξ2,ξ3,ξ4,ξ5,ξ6,ξ7,ξ8,ξ9,ξa,ξb,ξc,ξd,ξe,ξf,ξg,ξh,Nat.reduceAdd,ξi,if_true,if_false,ξl,ξm,ξn,ξo,ξp,ξq,ξr,ξs,ξt,ξu,ξv,ξw,ξx,ξy,ξz,ξA,ξB,ξC,ξD,ξE,hkind,hl,q1,hcn,q2,h1,h2,ha,a0k,or_true,Qj,Qg,Qh,Qt,Q2,Bool.and_true]
   | false=>simp -implicitDefEqProofs only [d3q,↓reduceIte,eq_self,ξ1,ξ2,ξ3,ξ4,ξ5,ξ6,ξ7,ξ8,ξ9,ξa,ξb,ξc,ξd,ξe,ξf,ξg,ξh,Nat.reduceAdd,ξi,if_true,if_false,ξl,ξm,ξn,ξo,ξp,ξq,ξr,ξs,ξt,ξu,ξv,ξw,ξx,ξy,ξz,ξA,ξB,ξC,ξD,ξE,hkind,hl,q1,hcn,q2,h1,h2,ha,a0k,or_true,Qj,Qg,Qh,Qt,Q2,Bool.and_true]
section
variable {e:Ex} {row:List PV}
end
end Go.Proofs.Ythmkfeiapdbojaa
