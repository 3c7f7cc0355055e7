/- The chapter's examples hold. -/
import Derived.Test.YthmkfeiapdbojaaHVn
import Derived.Test.YthmkfeiapdbojaaHVq
import Derived.Test.YthmkfeiapdbojaaHGx
import Derived.Test.YthmkfeiapdbojaaHSaa
import Derived.Test.YthmkfeiapdbojaaHSab
import Derived.Test.YthmkfeiapdbojaaHVr
import Derived.Test.YthmkfeiapdbojaaHSac
set_option linter.unusedSimpArgs false
set_option linter.unusedVariables false
open Go.Sx.PT renaming ev → ξ1
open Go.Sx.BE renaming safe → ξ2, pe → ξ3, all → ξz
open Go.Sx.IE renaming pe → ξ4
open Go.Sx renaming PEnv.at → ξ5
open Go.Sx.PEnv renaming push → ξt
open List renaming getD_cons_zero → ξ6, getD_cons_succ → ξ7, getElem?_cons_zero → ξ8, getElem?_cons_succ → ξ9, drop_zero → ξf, length_cons → ξg, length_nil → ξh, take_succ_cons → ξm, take_zero → ξn, cons_append → ξu, nil_append → ξv, append_nil → ξw, map_cons → ξD, map_nil → ξE
open Go.Sx renaming a0g → ξa, a0h → ξb, a0b → ξc, a0f → ξd, a0c → ξo, a0a → ξp, a0d → ξq, a0N → ξF, a0D → ξG, a0p → ξH, a0q → ξI, a0C → ξJ, a1d → ξK, a0Z → ξL, a1e → ξM, a0Y → ξN, a0A → ξO, a0n → ξP, a0B → ξQ, a0M → ξR, a0m → ξS, a0y → ξT, a0R → ξU, a0H → ξV, a0I → ξW, a0J → ξX, a0r → ξY
open Nat renaming add_zero → ξe, le_refl → ξi
open Bool renaming false_eq_true → ξl, and_self → ξA, not_true → ξB, not_false → ξC
open Option renaming map_some → ξr, bind_some → ξs
open Go.Sx.SV renaming pvs → ξx, pv → ξy
open Option renaming bind_some → Q0, bind → Q3, map_some → Q4
open List renaming getD_eq_getElem?_getD → Q1, append_nil → Q2, nil_append → Q5, cons_append → Q6, replicate → Q7, range → Q8, map_cons → Q9, mem_range → Qa, map_nil → Qb, length_nil → Qe, getElem?_eq_none → Qm, mem_cons → Qn, length_map → Qp, length_singleton → Qr, mem_map → Qs, countP_cons → Qu, foldl_cons → Qv, mem_filter → Qw, ext_getElem? → Qy, all_eq_true → Qz, take_left → QA, getElem?_eq_some_iff → QC, getElem?_map → QD
open Int renaming le_trans → Qd, mul_pos → Qj, toNat_natCast → Qk
open Bool renaming and_eq_true → Qf, not_eq_true' → Qg, true_and → Qh, and_self → Qq, eq_iff_iff → Qt, false_and → QB
set_option maxRecDepth 1000000
namespace Go.Proofs.Ythmkfeiapdbojaa
open Go.Sx Go.Kv
theorem d5V:a0e a4u 2000 d3Z [] []=some (.bool true,[]):=by kernel_rfl
end Go.Proofs.Ythmkfeiapdbojaa
set_option maxRecDepth 100000
namespace Go.Proofs.Ythmkfeiapdbojaa
open Go.Sx Go.Kv Go.Bun
structure Of where
 p:Int
 w:Bd
 v:Int
 deriving DecidableEq,Inhabited
def Of.pv (o:Of):List PV:=[.int .i64 o.p,.int .i64 o.w.a,.int .i64 o.w.b,.int .i64 o.w.c,.int .i64 o.w.d,.int .i64 o.w.e,.int .i64 o.w.f,.int .i64 o.v]
def osR (L:List Of):List (List PV):=L.map Of.pv
theorem d5U (L:List Of):(osR L).length=L.length:=by simp [osR]
theorem d5z {L:List Of} {i:Nat} {o:Of} (h:L[i]?=some o):(osR L)[i]?=some o.pv:=by simp [osR,h]
def d5w (L:List Of) (x:PV):Prop:=x.rowsOf 8=some (osR L)
theorem d5h {L:List Of} {x:PV} (h:d5w L x):x.len=(L.length:Int)/\x.isKind 0=true/\x.one=true:=by
 obtain ⟨h1,h2,h3⟩:=a0T h
 exact ⟨by rw [h1,d5U],h2,h3⟩
def d3W (b:Bd) (m:Int) (o:Of):Int:=if o.w.Le b then mxI m o.v else m
def d5B (b:Bd) (L:List Of):Int:=L.foldl (d3W b) 0
theorem d5M:Ext Tab:=by
 intro f S h
 unfold tabW at h
 repeat' split at h
 all_goals first
  | (cases h; done)
  | (rename_i hf; subst hf; cases h; first | exact d4g | exact d5d | exact d5u | exact d5y | exact d5q)
theorem d5G (x y:Bd) (σ:List MO) (n:Nat):a0e Tab (n+2) 62 [.agg (bpv x),.agg (bpv y)] σ=some (.bool (decide (x.Le y)),σ):=by
 have:=c5Q d5M n σ (a:=x.l) (b:=y.l) rfl rfl
 rw [show leL x.l y.l=decide (x.Le y) by rw [Qt,a7e,decide_eq_true_eq]] at this
 exact this
section
variable {σ:List MO} {L:List Of} {x:PV}
theorem d5K (hx:d5w L x) (hL:L.length<=1000000) (b:Bd) (n:Nat) (hn:L.length+10<=n):a0e Tab n 37 [x,.agg (bpv b)] σ=some (.int .i64 (d5B b L),σ):=by
 obtain ⟨q,rfl⟩:∃ q,n=q+3:=⟨n-3,by omega⟩
 obtain ⟨x1,x2,x3⟩:=d5h hx
 have step:∀ i:Nat,i < L.length->∀ fuel,flatten_Value_S.loop (a0e Tab (q+2)) (fuel+1) 0 { i:=[(L.take i).foldl (d3W b) 0,(L.length:Int),(i:Int),b.a,b.b,b.c,b.d,b.e,b.f],b:=[],v:=[x],m:=σ,k:=σ.length } =
   flatten_Value_S.loop (a0e Tab (q+2)) fuel 0 { i:=[(L.take (i+1)).foldl (d3W b) 0,(L.length:Int),((i+1:Nat):Int),b.a,b.b,b.c,b.d,b.e,b.f],b:=[],v:=[x],m:=σ,k:=σ.length }:=by
  intro i hi fuel
  obtain ⟨o,ho⟩:=a3n hi
  rw [d5v (d3W b) 0 ho]
  generalize (L.take i).foldl (d3W b) 0=z at *
  have hw:=d5G o.w b σ q
  have hloc:=a4d (off:=0) hx (d5z ho)
  have q0:ltB (i:Int) (L.length:Int)=true:=by simp [ltB]; exact hi
  have q2:=a2h (i:=i) (by omega)
  obtain ⟨p,w,v⟩:=o
  unfold d3W
  simp only at hw ⊢
  rw [Sys.loop,show flatten_Value_S.loops[0]?=some d3S from rfl]
  by_cases hle:w.Le b
  ·rw [decide_eq_true hle] at hw
   rw [if_pos hle]
   obtain ⟨w0,w1,w2,w3,w4,w5⟩:=w
   simp only [bpv] at hw
   by_cases hv:z < v
   ·have qv:ltB z v=true:=by simp [ltB]; exact hv
    rw [show mxI z v=v by unfold mxI; rw [if_pos hv]]
    simp -implicitDefEqProofs only [Q0,d3S,↓reduceIte,eq_self,ξ1,ξ2,ξ3,ξ4,ξ5,ξ6,ξ7,ξ8,ξ9,ξa,ξb,ξc,ξd,ξe,ξf,ξg,ξh,Nat.reduceAdd,ξi,if_true,if_false,ξl,ξm,ξn,ξo,ξp,ξq,ξr,ξs,ξt,ξu,ξv,ξw,ξx,ξy,ξz,ξA,ξB,ξC,ξD,ξE,q0,x1,le0,hloc,Of.pv,qv,hw,q2,a0v]
   ·have qv:ltB z v=false:=by simp [ltB]; omega
    rw [show mxI z v=z by unfold mxI; rw [if_neg hv]]
    simp -implicitDefEqProofs only [Q0,d3S,↓reduceIte,eq_self,ξ1,ξ2,ξ3,ξ4,ξ5,ξ6,ξ7,ξ8,ξ9,ξa,ξb,ξc,ξd,ξe,ξf,ξg,ξh,Nat.reduceAdd,ξi,if_true,if_false,ξl,ξm,ξn,ξo,ξp,ξq,ξr,ξs,ξt,ξu,ξv,ξw,ξx,ξy,ξz,ξA,ξB,ξC,ξD,ξE,q0,x1,le0,hloc,Of.pv,qv,hw,q2,a0v]
  ·rw [decide_eq_false hle] at hw
   rw [if_neg hle]
   obtain ⟨w0,w1,w2,w3,w4,w5⟩:=w
   simp only [bpv] at hw
   cases qv:ltB z v<;>simp -implicitDefEqProofs only [Q0,d3S,↓reduceIte,eq_self,ξ1,ξ2,ξ3,ξ4,ξ5,ξ6,ξ7,ξ8,ξ9,ξa,ξb,ξc,ξd,ξe,ξf,ξg,ξh,Nat.reduceAdd,ξi,if_true,if_false,ξl,ξm,ξn,ξo,ξp,ξq,ξr,ξs,ξt,ξu,ξv,ξw,ξx,ξy,ξz,ξA,ξB,ξC,ξD,ξE,q0,x1,le0,hloc,Of.pv,qv,hw,q2,a0v]
 have h0:=d5C (fun i=>{ i:=[(L.take i).foldl (d3W b) 0,(L.length:Int),(i:Int),b.a,b.b,b.c,b.d,b.e,b.f],b:=[],v:=[x],m:=σ,k:=σ.length }) step (q+2) (by omega)
 rw [a0e,d5b]
 simp only [Q0,Sys.run]
 show ((a0i [.sh (.one _),.sh (.agg [_,_,_,_,_,_])] _).bind _)=_
 simp only [bpv,a0i,a0d,a0c,Q4,Q0,Q2,Q5,Q6,if_true,x3]
 show (PT.ev _ d4b _).bind _=_
 refine Eq.trans (b:=flatten_Value_S.loop (a0e Tab (q+2)) (q+2) 0 { i:=[(L.take 0).foldl (d3W b) 0,(L.length:Int),((0:Nat):Int),b.a,b.b,b.c,b.d,b.e,b.f],b:=[],v:=[x],m:=σ,k:=σ.length }) ?_ ?_
 ·simp -implicitDefEqProofs only [d4b,↓reduceIte,eq_self,ξ1,ξ2,ξ3,ξ4,ξ5,ξ6,ξ7,ξ8,ξ9,ξa,ξb,ξc,ξd,ξe,ξf,ξg,ξh,Nat.reduceAdd,ξi,if_true,if_false,ξl,ξm,ξn,ξo,ξp,ξq,ξr,ξs,ξt,ξu,ξv,ξw,ξx,ξy,ξz,ξA,ξB,ξC,ξD,ξE,x1,x2]
  rfl
 rw [h0,List.take_length]
 obtain ⟨fu,hfu⟩:∃ k,q+2-L.length=k+1:=⟨q+1-L.length,by omega⟩
 have q0:ltB (L.length:Int) (L.length:Int)=false:=by simp [ltB]
 rw [hfu,Sys.loop,show flatten_Value_S.loops[0]?=some d3S from rfl]
 unfold d5B
 simp -implicitDefEqProofs only [Q0,d3S,↓reduceIte,eq_self,ξ1,ξ2,ξ3,ξ4,ξ5,ξ6,ξ7,ξ8,ξ9,ξa,ξb,ξc,ξd,ξe,ξf,ξg,ξh,Nat.reduceAdd,ξi,if_true,if_false,ξl,ξm,ξn,ξo,ξp,ξq,ξr,ξs,ξt,ξu,ξv,ξw,ξx,ξy,ξz,ξA,ξB,ξC,ξD,ξE,q0,a0k,or_true]
theorem d5O {n:Nat} (hn:2000<=n):a0e a4u n d3Z [] []=some (.bool true,[]):=c7R hn d5V
end
end Go.Proofs.Ythmkfeiapdbojaa
set_option maxRecDepth 100000
namespace Go.Proofs.Ythmkfeiapdbojaa
open Go.Sx Go.Kv Go.Bun
def d6j (L:List Of) (i k:Nat):Bool :=
 !decide (i=k)&&decide ((L.getD i default).p=(L.getD k default).p)&&decide ((L.getD k default).w.Le (L.getD i default).w)&&decide ((L.getD i default).v<=(L.getD k default).v) &&
 (!decide ((L.getD i default).w=(L.getD k default).w)||!decide ((L.getD i default).v=(L.getD k default).v)||decide (k < i))
def d6M (L:List Of) (i:Nat):Bool:=(Q8 L.length).any (d6j L i)
def d6k (L:List Of) (i:Nat):Bool:=decide (1<=(L.getD i default).v)&&!d6M L i
theorem d6r {L:List Of} {i k:Nat}:d6j L i k=true↔i≠k/\(L.getD i default).p=(L.getD k default).p/\(L.getD k default).w.Le (L.getD i default).w/\(L.getD i default).v<=(L.getD k default).v /\
  ((L.getD i default).w≠(L.getD k default).w\/(L.getD i default).v≠(L.getD k default).v\/k < i):=by
 unfold d6j
 simp only [Qf,Bool.or_eq_true,Qg,decide_eq_true_eq,decide_eq_false_iff_not]
 constructor
 ·rintro ⟨⟨⟨⟨h1,h2⟩,h3⟩,h4⟩,h5⟩
  refine ⟨h1,h2,h3,h4,?_⟩
  rcases h5 with (h5 | h5) | h5
  ·exact .inl h5
  ·exact .inr (.inl h5)
  ·exact .inr (.inr h5)
 ·rintro ⟨h1,h2,h3,h4,h5⟩
  refine ⟨⟨⟨⟨h1,h2⟩,h3⟩,h4⟩,?_⟩
  rcases h5 with h5 | h5 | h5
  ·exact .inl (.inl h5)
  ·exact .inl (.inr h5)
  ·exact .inr h5
theorem d7b {x y:Bd} (h:x.Le y) (k:y.Le x):x=y:=by
 obtain ⟨a,b,c,d,e,f⟩:=x
 obtain ⟨a',b',c',d',e',f'⟩:=y
 simp only [Bd.Le] at h k
 simp only [Bd.mk.injEq]
 omega
theorem d7e {x y z:Bd} (h:x.Le y) (k:y.Le z):x.Le z:=by
 simp only [Bd.Le] at *
 omega
theorem d7k {L:List Of} {i k:Nat} (h:d6j L i k=true) (g:d6j L k i=true):False:=by
 rw [d6r] at *
 obtain ⟨h1,h2,h3,h4,h5⟩:=h
 obtain ⟨g1,g2,g3,g4,g5⟩:=g
 have e3:=d7b h3 g3
 have e4:(L.getD i default).v=(L.getD k default).v:=by omega
 have h6:k < i:=by
  rcases h5 with h5 | h5 | h5
  ·exact absurd e3.symm h5
  ·exact absurd e4 h5
  ·exact h5
 have g6:i < k:=by
  rcases g5 with g5 | g5 | g5
  ·exact absurd e3 g5
  ·exact absurd e4.symm g5
  ·exact g5
 omega
theorem d7f {L:List Of} {i k m:Nat} (h:d6j L i k=true) (g:d6j L k m=true):d6j L i m=true:=by
 by_cases he:i=m
 ·subst he; exact (d7k h g).elim
 rw [d6r] at *
 obtain ⟨h1,h2,h3,h4,h5⟩:=h
 obtain ⟨g1,g2,g3,g4,g5⟩:=g
 refine ⟨he,h2.trans g2,d7e g3 h3,Qd h4 g4,?_⟩
 by_cases e1:(L.getD i default).w=(L.getD m default).w
 ·by_cases e2:(L.getD i default).v=(L.getD m default).v
  ·have e3:(L.getD k default).w=(L.getD i default).w:=d7b h3 (by rw [e1]; exact g3)
   have e4:(L.getD k default).v=(L.getD i default).v:=by omega
   have c5:m < k:=by
    rcases g5 with c4 | c4 | c4
    ·exact absurd (e3.trans e1) c4
    ·exact absurd (e4.trans e2) c4
    ·exact c4
   have h6:k < i:=by
    rcases h5 with h5 | h5 | h5
    ·exact absurd e3.symm h5
    ·exact absurd e4.symm h5
    ·exact h5
   exact .inr (.inr (by omega))
  ·exact .inr (.inl e2)
 ·exact .inl e1
theorem d6Q {α:Type} {p q:α->Bool}:∀ {l:List α},(∀ x∈l,p x=true->q x=true)->(∃ x∈l,q x=true/\p x=false)->l.countP p < l.countP q
 | [],_,h=>by obtain ⟨x,hx,_⟩:=h; simp at hx
 | a::l,h,hx=>by
  have hle:l.countP p<=l.countP q:=List.countP_mono_left fun x hx=>h x (by simp [hx])
  have ha:=h a (by simp)
  rw [Qu,Qu]
  obtain ⟨x,hx,h1,h2⟩:=hx
  rcases Qn.1 hx with rfl | hx
  ·rw [h1,h2]; simp; omega
  ·have:=d6Q (fun y hy=>h y (by simp [hy])) ⟨x,hx,h1,h2⟩
   cases hp:p a with
   | false=>cases q a<;>simp<;>omega
   | true=>rw [ha hp]; simp; omega
theorem kept {L:List Of}:∀ (m i:Nat),(Q8 L.length).countP (d6j L i)=m->i < L.length->1<=(L.getD i default).v->∃ j,j < L.length/\d6k L j=true/\(L.getD j default).p=(L.getD i default).p/\(L.getD j default).w.Le (L.getD i default).w/\(L.getD i default).v<=(L.getD j default).v:=by
 intro m
 induction m using Nat.strongRecOn with
 | _ m ih =>
  intro i hm hi hv
  by_cases hd:d6M L i=true
  ·obtain ⟨k,hk,hd⟩:=List.any_eq_true.1 hd
   rw [Qa] at hk
   have hdi:=d6r.1 hd
   obtain ⟨j,j1,j2,j3,j4,j5⟩:=ih _ (by
    rw [<- hm]
    exact d6Q (p:=d6j L k) (q:=d6j L i) (fun x _ hx=>d7f hd hx) ⟨k,Qa.2 hk,hd,by
     cases hkk:d6j L k k with
     | false=>rfl
     | true=>exact absurd rfl (d6r.1 hkk).1⟩) k rfl hk (by omega)
   exact ⟨j,j1,j2,j3.trans hdi.2.1.symm,d7e j4 hdi.2.2.1,by omega⟩
  ·refine ⟨i,hi,?_,rfl,by simp only [Bd.Le]; omega,Int.le_refl _⟩
   unfold d6k
   rw [decide_eq_true hv,Qh]
   simpa using hd
end Go.Proofs.Ythmkfeiapdbojaa
set_option maxRecDepth 100000
namespace Go.Proofs.Ythmkfeiapdbojaa
open Go.Sx Go.Kv Go.Bun
section
variable {σ:List MO} {L M:List Of} {x y:PV}
theorem b5I {L:List Of} {i:Nat} {o:Of} (h:L[i]?=some o):L.getD i default=o:=by rw [Q1,h]; rfl
def oV (R:List Of):PV:=match R with | []=>.nilS | _::_=>.sl 8 (osR R)
theorem d6E (R:List Of):d5w R (oV R):=by cases R<;>simp [d5w,oV,PV.rowsOf,osR]
theorem d8r (R:List Of):(oV R).one=true:=(d5h (d6E R)).2.2
end
end Go.Proofs.Ythmkfeiapdbojaa
set_option maxRecDepth 100000
namespace Go.Proofs.Ythmkfeiapdbojaa
open Go.Sx Go.Kv Go.Bun
section
variable {σ:List MO} {L M:List Of} {x y:PV}
end
end Go.Proofs.Ythmkfeiapdbojaa
set_option maxRecDepth 100000
namespace Go.Proofs.Ythmkfeiapdbojaa
open Go.Sx Go.Kv Go.Bun
open Go.Bun (offs)
theorem d8M (s:Bd) (hc:s.cnt≠0) (x:Bd) (hx:x.Ok) (hl:x.Le s) (σ:List MO) (n:Nat):a0e Tab (n+3) 97 [.agg (bpv s),.agg (bpv x)] σ=some (.tup [.int .i64 (s.horner x),.int .i64 0],σ):=by
 have hs:=Bd.ok_of_cnt hc
 have hcn:=a7a s σ n
 have hck:=b5f x σ (n+1)
 have hw:=d5G x s σ n
 rw [decide_eq_true hl] at hw
 have hck0:x.check=0:=by unfold Bd.check; rw [if_pos hx]
 rw [hck0] at hck
 have qz:eqB s.cnt 0=false:=eqF hc
 generalize s.cnt=cz at *
 obtain ⟨a,b,c,d,e,f⟩:=s
 obtain ⟨x0,x1,x2,x3,x4,x5⟩:=x
 simp only [Bd.Ok] at hs hx
 simp only [bpv,Bd.horner] at hcn hck hw ⊢
 have ok1:∀ x:Int,0<=x/\x<=4->(leB (-9223372036854775808) (x+1)&&leB (x+1) 9223372036854775807)=true:=fun x hx=>a0u (by omega)
 have ok2:∀ x:Int,0<=x/\x<=1000000->(leB (-9223372036854775808) x&&leB x 9223372036854775807)=true:=fun x hx=>a0u (by omega)
 obtain ⟨z1,hz1⟩:∃ z,z=0*(a+1):=⟨_,rfl⟩
 have hz1':z1=0:=by rw [hz1]; omega
 have u2:=a2i (x:=z1+x0) (y:=b+1) (A:=4) (B:=5) (by omega) (by omega)
 have u3:=a2i (x:=(z1+x0)*(b+1)+x1) (y:=c+1) (A:=24) (B:=5) (by omega) (by omega)
 have u4:=a2i (x:=((z1+x0)*(b+1)+x1)*(c+1)+x2) (y:=d+1) (A:=124) (B:=5) (by omega) (by omega)
 have u5:=a2i (x:=(((z1+x0)*(b+1)+x1)*(c+1)+x2)*(d+1)+x3) (y:=e+1) (A:=624) (B:=5) (by omega) (by omega)
 have u6:=a2i (x:=((((z1+x0)*(b+1)+x1)*(c+1)+x2)*(d+1)+x3)*(e+1)+x4) (y:=f+1) (A:=3124) (B:=5) (by omega) (by omega)
 rw [<- hz1]
 have j1:=ok2 z1 (by omega)
 have j1':=ok2 (z1+x0) (by omega)
 have j2:=ok2 _ ⟨u2.1,by omega⟩
 have j2':=ok2 ((z1+x0)*(b+1)+x1) (by omega)
 have j3:=ok2 _ ⟨u3.1,by omega⟩
 have j3':=ok2 (((z1+x0)*(b+1)+x1)*(c+1)+x2) (by omega)
 have j4:=ok2 _ ⟨u4.1,by omega⟩
 have j4':=ok2 ((((z1+x0)*(b+1)+x1)*(c+1)+x2)*(d+1)+x3) (by omega)
 have j5:=ok2 _ ⟨u5.1,by omega⟩
 have j5':=ok2 (((((z1+x0)*(b+1)+x1)*(c+1)+x2)*(d+1)+x3)*(e+1)+x4) (by omega)
 have j6:=ok2 _ ⟨u6.1,by omega⟩
 have j6':=ok2 ((((((z1+x0)*(b+1)+x1)*(c+1)+x2)*(d+1)+x3)*(e+1)+x4)*(f+1)+x5) (by omega)
 rw [a0e,d7V]
 have qzz:eqB 0 0=true:=rfl
 generalize a0e Tab (n+2)=Φ at *
 simp only [Q0,Sys.run]
 show ((a0i [.sh (.agg [_,_,_,_,_,_]),.sh (.agg [_,_,_,_,_,_])] _).bind _)=_
 simp only [a0i,a0d,a0c,Q4,Q0,Q2,Q5,Q6,if_true]
 show (PT.ev _ d5A _).bind _=_
 simp -implicitDefEqProofs only [d5A,↓reduceIte,eq_self,ξ1,ξ2,ξ3,ξ4,ξ5,ξ6,ξ7,ξ8,ξ9,ξa,ξb,ξc,ξd,ξe,ξf,ξg,ξh,Nat.reduceAdd,ξi,if_true,if_false,ξl,ξm,ξn,ξo,ξp,ξq,ξr,ξs,ξt,ξu,ξv,ξw,ξx,ξy,ξz,ξA,ξB,ξC,ξD,ξE,hcn,hck,hw,qz,qzz,a0k,or_true,ok1 a hs.1,ok1 b hs.2.1,ok1 c hs.2.2.1,ok1 d hs.2.2.2.1,ok1 e hs.2.2.2.2.1,ok1 f hs.2.2.2.2.2,<- hz1,j1,j1',j2,j2',j3,j3',j4,j4',j5,j5',j6,j6']
section
variable {Φ:Fns} {σ:List MO} {h N:Nat} {M:List Int} {s0 s1 s2 s3 s4 s5 b0 b1 b2 b3 b4 b5:Int}
def fE (u q s0 s1 s2 s3 s4 s5 b0 b1 b2 b3 b4 b5:Int) (h N:Nat) (σ:List MO):PEnv:={ i:=[u,b0,b1,b2,b3,b4,b5,q,s0,s1,s2,s3,s4,s5],b:=[],v:=[.msl h 0 N N 1],m:=σ,k:=σ.length }
theorem d8C (fuel:Nat) (u:Int) (r:Nat) (hb:0<=b0/\b0<=4) (hM:M.length=N) (hm:σ[h]?=some (.cells (iPV M) 2)) (hr:0 < b0->r < N/\Φ 97 [.agg (lpv [s0,s1,s2,s3,s4,s5]),.agg (lpv [(b0-1),b1,b2,b3,b4,b5])] σ=some (.tup [.int .i64 r,.int .i64 0],σ)) :
  flatten_below_S.loop Φ (fuel+1) 0 (fE u 0 s0 s1 s2 s3 s4 s5 b0 b1 b2 b3 b4 b5 h N σ)=flatten_below_S.loop Φ fuel 0 (fE (if 0 < b0 then mxI u (M.getD r 0) else u) 1 s0 s1 s2 s3 s4 s5 b0 b1 b2 b3 b4 b5 h N σ):=by
 have q0:ltB 0 6=true:=rfl
 have q1:(leB (-9223372036854775808) (b0-1)&&leB (b0-1) 9223372036854775807)=true:=a0u (by omega)
 have qzz:eqB 0 0=true:=rfl
 have e5:eqB 0 5=decide ((0:Int)=5):=rfl
 have e4:eqB 0 4=decide ((0:Int)=4):=rfl
 have e3:eqB 0 3=decide ((0:Int)=3):=rfl
 have e2:eqB 0 2=decide ((0:Int)=2):=rfl
 have e1:eqB 0 1=decide ((0:Int)=1):=rfl
 have e0:eqB 0 0=decide ((0:Int)=0):=rfl
 have p0:leB 0 0=true:=rfl
 simp only [Int.reduceEq,decide_true,decide_false] at e5 e4 e3 e2 e1 e0
 rw [Sys.loop,show flatten_below_S.loops[0]?=some _ from rfl]
 by_cases hb0:0 < b0
 ·obtain ⟨hc1,hc2⟩:=hr hb0
  rw [if_pos hb0]
  have hz:eqB b0 0=false:=eqF (by omega)
  obtain ⟨y,hy⟩:=a3n (l:=M) (i:=r) (by omega)
  have l2:=a3p (h:=h) (c:=N) hc1
  have r2:=a7n hy
  unfold a0f at r2
  have ey:M.getD r 0=y:=by rw [Q1,hy]; rfl
  have q2:(leB 0 (r:Int)&&ltB (r:Int) (N:Int))=true:=by simp [leB,ltB]; omega
  have hone:(PV.msl h 0 N N 1).one=true:=rfl
  have hlen:(PV.msl h 0 N N 1).len=(N:Int):=rfl
  rw [ey]
  have hsh:a2O [Sh.one (.int .i64),Sh.one (.int .i64)] [.int .i64 r,.int .i64 0]=some ([(r:Int),0],[],[]):=rfl
  simp only [Q0,d5k,fE]
  simp only [lpv,Q9,Qb] at hc2
  simp -implicitDefEqProofs only [↓reduceIte,eq_self,ξ1,ξ2,ξ3,ξ4,ξ5,ξ6,ξ7,ξ8,ξ9,ξa,ξb,ξc,ξd,ξe,ξf,ξg,ξh,Nat.reduceAdd,ξi,if_true,if_false,ξl,ξm,ξn,ξo,ξp,ξq,ξr,ξs,ξt,ξu,ξv,ξw,ξx,ξy,ξz,ξA,ξB,ξC,ξD,ξE,q0,p0,e0,e1,e2,e3,e4,e5,q1,hz,qzz,hc2,hsh,hm,MO.list,hone,hlen,l2,r2,q2]
 ·rw [if_neg hb0]
  have hz:eqB b0 0=true:=by rw [show b0=0 by omega]; rfl
  simp only [Q0,d5k,fE]
  simp -implicitDefEqProofs only [↓reduceIte,eq_self,ξ1,ξ2,ξ3,ξ4,ξ5,ξ6,ξ7,ξ8,ξ9,ξa,ξb,ξc,ξd,ξe,ξf,ξg,ξh,Nat.reduceAdd,ξi,if_true,if_false,ξl,ξm,ξn,ξo,ξp,ξq,ξr,ξs,ξt,ξu,ξv,ξw,ξx,ξy,ξz,ξA,ξB,ξC,ξD,ξE,q0,p0,e0,e1,e2,e3,e4,e5,hz]
theorem d8D (fuel:Nat) (u:Int) (r:Nat) (hb:0<=b1/\b1<=4) (hM:M.length=N) (hm:σ[h]?=some (.cells (iPV M) 2)) (hr:0 < b1->r < N/\Φ 97 [.agg (lpv [s0,s1,s2,s3,s4,s5]),.agg (lpv [b0,(b1-1),b2,b3,b4,b5])] σ=some (.tup [.int .i64 r,.int .i64 0],σ)) :
  flatten_below_S.loop Φ (fuel+1) 0 (fE u 1 s0 s1 s2 s3 s4 s5 b0 b1 b2 b3 b4 b5 h N σ)=flatten_below_S.loop Φ fuel 0 (fE (if 0 < b1 then mxI u (M.getD r 0) else u) 2 s0 s1 s2 s3 s4 s5 b0 b1 b2 b3 b4 b5 h N σ):=by
 have q0:ltB 1 6=true:=rfl
 have q1:(leB (-9223372036854775808) (b1-1)&&leB (b1-1) 9223372036854775807)=true:=a0u (by omega)
 have qzz:eqB 0 0=true:=rfl
 have e5:eqB 1 5=decide ((1:Int)=5):=rfl
 have e4:eqB 1 4=decide ((1:Int)=4):=rfl
 have e3:eqB 1 3=decide ((1:Int)=3):=rfl
 have e2:eqB 1 2=decide ((1:Int)=2):=rfl
 have e1:eqB 1 1=decide ((1:Int)=1):=rfl
 have e0:eqB 1 0=decide ((1:Int)=0):=rfl
 have p0:leB 0 1=true:=rfl
 simp only [Int.reduceEq,decide_true,decide_false] at e5 e4 e3 e2 e1 e0
 rw [Sys.loop,show flatten_below_S.loops[0]?=some _ from rfl]
 by_cases hb0:0 < b1
 ·obtain ⟨hc1,hc2⟩:=hr hb0
  rw [if_pos hb0]
  have hz:eqB b1 0=false:=eqF (by omega)
  obtain ⟨y,hy⟩:=a3n (l:=M) (i:=r) (by omega)
  have l2:=a3p (h:=h) (c:=N) hc1
  have r2:=a7n hy
  unfold a0f at r2
  have ey:M.getD r 0=y:=by rw [Q1,hy]; rfl
  have q2:(leB 0 (r:Int)&&ltB (r:Int) (N:Int))=true:=by simp [leB,ltB]; omega
  have hone:(PV.msl h 0 N N 1).one=true:=rfl
  have hlen:(PV.msl h 0 N N 1).len=(N:Int):=rfl
  rw [ey]
  have hsh:a2O [Sh.one (.int .i64),Sh.one (.int .i64)] [.int .i64 r,.int .i64 0]=some ([(r:Int),0],[],[]):=rfl
  simp only [Q0,d5k,fE]
  simp only [lpv,Q9,Qb] at hc2
  simp -implicitDefEqProofs only [↓reduceIte,eq_self,ξ1,ξ2,ξ3,ξ4,ξ5,ξ6,ξ7,ξ8,ξ9,ξa,ξb,ξc,ξd,ξe,ξf,ξg,ξh,Nat.reduceAdd,ξi,if_true,if_false,ξl,ξm,ξn,ξo,ξp,ξq,ξr,ξs,ξt,ξu,ξv,ξw,ξx,ξy,ξz,ξA,ξB,ξC,ξD,ξE,q0,p0,e0,e1,e2,e3,e4,e5,q1,hz,qzz,hc2,hsh,hm,MO.list,hone,hlen,l2,r2,q2]
 ·rw [if_neg hb0]
  have hz:eqB b1 0=true:=by rw [show b1=0 by omega]; rfl
  simp only [Q0,d5k,fE]
  simp -implicitDefEqProofs only [↓reduceIte,eq_self,ξ1,ξ2,ξ3,ξ4,ξ5,ξ6,ξ7,ξ8,ξ9,ξa,ξb,ξc,ξd,ξe,ξf,ξg,ξh,Nat.reduceAdd,ξi,if_true,if_false,ξl,ξm,ξn,ξo,ξp,ξq,ξr,ξs,ξt,ξu,ξv,ξw,ξx,ξy,ξz,ξA,ξB,ξC,ξD,ξE,q0,p0,e0,e1,e2,e3,e4,e5,hz]
theorem d8B (fuel:Nat) (u:Int) (r:Nat) (hb:0<=b2/\b2<=4) (hM:M.length=N) (hm:σ[h]?=some (.cells (iPV M) 2)) (hr:0 < b2->r < N/\Φ 97 [.agg (lpv [s0,s1,s2,s3,s4,s5]),.agg (lpv [b0,b1,(b2-1),b3,b4,b5])] σ=some (.tup [.int .i64 r,.int .i64 0],σ)) :
  flatten_below_S.loop Φ (fuel+1) 0 (fE u 2 s0 s1 s2 s3 s4 s5 b0 b1 b2 b3 b4 b5 h N σ)=flatten_below_S.loop Φ fuel 0 (fE (if 0 < b2 then mxI u (M.getD r 0) else u) 3 s0 s1 s2 s3 s4 s5 b0 b1 b2 b3 b4 b5 h N σ):=by
 have q0:ltB 2 6=true:=rfl
 have q1:(leB (-9223372036854775808) (b2-1)&&leB (b2-1) 9223372036854775807)=true:=a0u (by omega)
 have qzz:eqB 0 0=true:=rfl
 have e5:eqB 2 5=decide ((2:Int)=5):=rfl
 have e4:eqB 2 4=decide ((2:Int)=4):=rfl
 have e3:eqB 2 3=decide ((2:Int)=3):=rfl
 have e2:eqB 2 2=decide ((2:Int)=2):=rfl
 have e1:eqB 2 1=decide ((2:Int)=1):=rfl
 have e0:eqB 2 0=decide ((2:Int)=0):=rfl
 have p0:leB 0 2=true:=rfl
 simp only [Int.reduceEq,decide_true,decide_false] at e5 e4 e3 e2 e1 e0
 rw [Sys.loop,show flatten_below_S.loops[0]?=some _ from rfl]
 by_cases hb0:0 < b2
 ·obtain ⟨hc1,hc2⟩:=hr hb0
  rw [if_pos hb0]
  have hz:eqB b2 0=false:=eqF (by omega)
  obtain ⟨y,hy⟩:=a3n (l:=M) (i:=r) (by omega)
  have l2:=a3p (h:=h) (c:=N) hc1
  have r2:=a7n hy
  unfold a0f at r2
  have ey:M.getD r 0=y:=by rw [Q1,hy]; rfl
  have q2:(leB 0 (r:Int)&&ltB (r:Int) (N:Int))=true:=by simp [leB,ltB]; omega
  have hone:(PV.msl h 0 N N 1).one=true:=rfl
  have hlen:(PV.msl h 0 N N 1).len=(N:Int):=rfl
  rw [ey]
  have hsh:a2O [Sh.one (.int .i64),Sh.one (.int .i64)] [.int .i64 r,.int .i64 0]=some ([(r:Int),0],[],[]):=rfl
  simp only [Q0,d5k,fE]
  simp only [lpv,Q9,Qb] at hc2
  simp -implicitDefEqProofs only [↓reduceIte,eq_self,ξ1,ξ2,ξ3,ξ4,ξ5,ξ6,ξ7,ξ8,ξ9,ξa,ξb,ξc,ξd,ξe,ξf,ξg,ξh,Nat.reduceAdd,ξi,if_true,if_false,ξl,ξm,ξn,ξo,ξp,ξq,ξr,ξs,ξt,ξu,ξv,ξw,ξx,ξy,ξz,ξA,ξB,ξC,ξD,ξE,q0,p0,e0,e1,e2,e3,e4,e5,q1,hz,qzz,hc2,hsh,hm,MO.list,hone,hlen,l2,r2,q2]
 ·rw [if_neg hb0]
  have hz:eqB b2 0=true:=by rw [show b2=0 by omega]; rfl
  simp only [Q0,d5k,fE]
  simp -implicitDefEqProofs only [↓reduceIte,eq_self,ξ1,ξ2,ξ3,ξ4,ξ5,ξ6,ξ7,ξ8,ξ9,ξa,ξb,ξc,ξd,ξe,ξf,ξg,ξh,Nat.reduceAdd,ξi,if_true,if_false,ξl,ξm,ξn,ξo,ξp,ξq,ξr,ξs,ξt,ξu,ξv,ξw,ξx,ξy,ξz,ξA,ξB,ξC,ξD,ξE,q0,p0,e0,e1,e2,e3,e4,e5,hz]
theorem d8J (fuel:Nat) (u:Int) (r:Nat) (hb:0<=b3/\b3<=4) (hM:M.length=N) (hm:σ[h]?=some (.cells (iPV M) 2)) (hr:0 < b3->r < N/\Φ 97 [.agg (lpv [s0,s1,s2,s3,s4,s5]),.agg (lpv [b0,b1,b2,(b3-1),b4,b5])] σ=some (.tup [.int .i64 r,.int .i64 0],σ)) :
  flatten_below_S.loop Φ (fuel+1) 0 (fE u 3 s0 s1 s2 s3 s4 s5 b0 b1 b2 b3 b4 b5 h N σ)=flatten_below_S.loop Φ fuel 0 (fE (if 0 < b3 then mxI u (M.getD r 0) else u) 4 s0 s1 s2 s3 s4 s5 b0 b1 b2 b3 b4 b5 h N σ):=by
 have q0:ltB 3 6=true:=rfl
 have q1:(leB (-9223372036854775808) (b3-1)&&leB (b3-1) 9223372036854775807)=true:=a0u (by omega)
 have qzz:eqB 0 0=true:=rfl
 have e5:eqB 3 5=decide ((3:Int)=5):=rfl
 have e4:eqB 3 4=decide ((3:Int)=4):=rfl
 have e3:eqB 3 3=decide ((3:Int)=3):=rfl
 have e2:eqB 3 2=decide ((3:Int)=2):=rfl
 have e1:eqB 3 1=decide ((3:Int)=1):=rfl
 have e0:eqB 3 0=decide ((3:Int)=0):=rfl
 have p0:leB 0 3=true:=rfl
 simp only [Int.reduceEq,decide_true,decide_false] at e5 e4 e3 e2 e1 e0
 rw [Sys.loop,show flatten_below_S.loops[0]?=some _ from rfl]
 by_cases hb0:0 < b3
 ·obtain ⟨hc1,hc2⟩:=hr hb0
  rw [if_pos hb0]
  have hz:eqB b3 0=false:=eqF (by omega)
  obtain ⟨y,hy⟩:=a3n (l:=M) (i:=r) (by omega)
  have l2:=a3p (h:=h) (c:=N) hc1
  have r2:=a7n hy
  unfold a0f at r2
  have ey:M.getD r 0=y:=by rw [Q1,hy]; rfl
  have q2:(leB 0 (r:Int)&&ltB (r:Int) (N:Int))=true:=by simp [leB,ltB]; omega
  have hone:(PV.msl h 0 N N 1).one=true:=rfl
  have hlen:(PV.msl h 0 N N 1).len=(N:Int):=rfl
  rw [ey]
  have hsh:a2O [Sh.one (.int .i64),Sh.one (.int .i64)] [.int .i64 r,.int .i64 0]=some ([(r:Int),0],[],[]):=rfl
  simp only [Q0,d5k,fE]
  simp only [lpv,Q9,Qb] at hc2
  simp -implicitDefEqProofs only [↓reduceIte,eq_self,ξ1,ξ2,ξ3,ξ4,ξ5,ξ6,ξ7,ξ8,ξ9,ξa,ξb,ξc,ξd,ξe,ξf,ξg,ξh,Nat.reduceAdd,ξi,if_true,if_false,ξl,ξm,ξn,ξo,ξp,ξq,ξr,ξs,ξt,ξu,ξv,ξw,ξx,ξy,ξz,ξA,ξB,ξC,ξD,ξE,q0,p0,e0,e1,e2,e3,e4,e5,q1,hz,qzz,hc2,hsh,hm,MO.list,hone,hlen,l2,r2,q2]
 ·rw [if_neg hb0]
  have hz:eqB b3 0=true:=by rw [show b3=0 by omega]; rfl
  simp only [Q0,d5k,fE]
  simp -implicitDefEqProofs only [↓reduceIte,eq_self,ξ1,ξ2,ξ3,ξ4,ξ5,ξ6,ξ7,ξ8,ξ9,ξa,ξb,ξc,ξd,ξe,ξf,ξg,ξh,Nat.reduceAdd,ξi,if_true,if_false,ξl,ξm,ξn,ξo,ξp,ξq,ξr,ξs,ξt,ξu,ξv,ξw,ξx,ξy,ξz,ξA,ξB,ξC,ξD,ξE,q0,p0,e0,e1,e2,e3,e4,e5,hz]
theorem d8G (fuel:Nat) (u:Int) (r:Nat) (hb:0<=b4/\b4<=4) (hM:M.length=N) (hm:σ[h]?=some (.cells (iPV M) 2)) (hr:0 < b4->r < N/\Φ 97 [.agg (lpv [s0,s1,s2,s3,s4,s5]),.agg (lpv [b0,b1,b2,b3,(b4-1),b5])] σ=some (.tup [.int .i64 r,.int .i64 0],σ)) :
  flatten_below_S.loop Φ (fuel+1) 0 (fE u 4 s0 s1 s2 s3 s4 s5 b0 b1 b2 b3 b4 b5 h N σ)=flatten_below_S.loop Φ fuel 0 (fE (if 0 < b4 then mxI u (M.getD r 0) else u) 5 s0 s1 s2 s3 s4 s5 b0 b1 b2 b3 b4 b5 h N σ):=by
 have q0:ltB 4 6=true:=rfl
 have q1:(leB (-9223372036854775808) (b4-1)&&leB (b4-1) 9223372036854775807)=true:=a0u (by omega)
 have qzz:eqB 0 0=true:=rfl
 have e5:eqB 4 5=decide ((4:Int)=5):=rfl
 have e4:eqB 4 4=decide ((4:Int)=4):=rfl
 have e3:eqB 4 3=decide ((4:Int)=3):=rfl
 have e2:eqB 4 2=decide ((4:Int)=2):=rfl
 have e1:eqB 4 1=decide ((4:Int)=1):=rfl
 have e0:eqB 4 0=decide ((4:Int)=0):=rfl
 have p0:leB 0 4=true:=rfl
 simp only [Int.reduceEq,decide_true,decide_false] at e5 e4 e3 e2 e1 e0
 rw [Sys.loop,show flatten_below_S.loops[0]?=some _ from rfl]
 by_cases hb0:0 < b4
 ·obtain ⟨hc1,hc2⟩:=hr hb0
  rw [if_pos hb0]
  have hz:eqB b4 0=false:=eqF (by omega)
  obtain ⟨y,hy⟩:=a3n (l:=M) (i:=r) (by omega)
  have l2:=a3p (h:=h) (c:=N) hc1
  have r2:=a7n hy
  unfold a0f at r2
  have ey:M.getD r 0=y:=by rw [Q1,hy]; rfl
  have q2:(leB 0 (r:Int)&&ltB (r:Int) (N:Int))=true:=by simp [leB,ltB]; omega
  have hone:(PV.msl h 0 N N 1).one=true:=rfl
  have hlen:(PV.msl h 0 N N 1).len=(N:Int):=rfl
  rw [ey]
  have hsh:a2O [Sh.one (.int .i64),Sh.one (.int .i64)] [.int .i64 r,.int .i64 0]=some ([(r:Int),0],[],[]):=rfl
  simp only [Q0,d5k,fE]
  simp only [lpv,Q9,Qb] at hc2
  simp -implicitDefEqProofs only [↓reduceIte,eq_self,ξ1,ξ2,ξ3,ξ4,ξ5,ξ6,ξ7,ξ8,ξ9,ξa,ξb,ξc,ξd,ξe,ξf,ξg,ξh,Nat.reduceAdd,ξi,if_true,if_false,ξl,ξm,ξn,ξo,ξp,ξq,ξr,ξs,ξt,ξu,ξv,ξw,ξx,ξy,ξz,ξA,ξB,ξC,ξD,ξE,q0,p0,e0,e1,e2,e3,e4,e5,q1,hz,qzz,hc2,hsh,hm,MO.list,hone,hlen,l2,r2,q2]
 ·rw [if_neg hb0]
  have hz:eqB b4 0=true:=by rw [show b4=0 by omega]; rfl
  simp only [Q0,d5k,fE]
  simp -implicitDefEqProofs only [↓reduceIte,eq_self,ξ1,ξ2,ξ3,ξ4,ξ5,ξ6,ξ7,ξ8,ξ9,ξa,ξb,ξc,ξd,ξe,ξf,ξg,ξh,Nat.reduceAdd,ξi,if_true,if_false,ξl,ξm,ξn,ξo,ξp,ξq,ξr,ξs,ξt,ξu,ξv,ξw,ξx,ξy,ξz,ξA,ξB,ξC,ξD,ξE,q0,p0,e0,e1,e2,e3,e4,e5,hz]
theorem d8I (fuel:Nat) (u:Int) (r:Nat) (hb:0<=b5/\b5<=4) (hM:M.length=N) (hm:σ[h]?=some (.cells (iPV M) 2)) (hr:0 < b5->r < N/\Φ 97 [.agg (lpv [s0,s1,s2,s3,s4,s5]),.agg (lpv [b0,b1,b2,b3,b4,(b5-1)])] σ=some (.tup [.int .i64 r,.int .i64 0],σ)) :
  flatten_below_S.loop Φ (fuel+1) 0 (fE u 5 s0 s1 s2 s3 s4 s5 b0 b1 b2 b3 b4 b5 h N σ)=flatten_below_S.loop Φ fuel 0 (fE (if 0 < b5 then mxI u (M.getD r 0) else u) 6 s0 s1 s2 s3 s4 s5 b0 b1 b2 b3 b4 b5 h N σ):=by
 have q0:ltB 5 6=true:=rfl
 have q1:(leB (-9223372036854775808) (b5-1)&&leB (b5-1) 9223372036854775807)=true:=a0u (by omega)
 have qzz:eqB 0 0=true:=rfl
 have e5:eqB 5 5=decide ((5:Int)=5):=rfl
 have e4:eqB 5 4=decide ((5:Int)=4):=rfl
 have e3:eqB 5 3=decide ((5:Int)=3):=rfl
 have e2:eqB 5 2=decide ((5:Int)=2):=rfl
 have e1:eqB 5 1=decide ((5:Int)=1):=rfl
 have e0:eqB 5 0=decide ((5:Int)=0):=rfl
 have p0:leB 0 5=true:=rfl
 simp only [Int.reduceEq,decide_true,decide_false] at e5 e4 e3 e2 e1 e0
 rw [Sys.loop,show flatten_below_S.loops[0]?=some _ from rfl]
 by_cases hb0:0 < b5
 ·obtain ⟨hc1,hc2⟩:=hr hb0
  rw [if_pos hb0]
  have hz:eqB b5 0=false:=eqF (by omega)
  obtain ⟨y,hy⟩:=a3n (l:=M) (i:=r) (by omega)
  have l2:=a3p (h:=h) (c:=N) hc1
  have r2:=a7n hy
  unfold a0f at r2
  have ey:M.getD r 0=y:=by rw [Q1,hy]; rfl
  have q2:(leB 0 (r:Int)&&ltB (r:Int) (N:Int))=true:=by simp [leB,ltB]; omega
  have hone:(PV.msl h 0 N N 1).one=true:=rfl
  have hlen:(PV.msl h 0 N N 1).len=(N:Int):=rfl
  rw [ey]
  have hsh:a2O [Sh.one (.int .i64),Sh.one (.int .i64)] [.int .i64 r,.int .i64 0]=some ([(r:Int),0],[],[]):=rfl
  simp only [Q0,d5k,fE]
  simp only [lpv,Q9,Qb] at hc2
  simp -implicitDefEqProofs only [↓reduceIte,eq_self,ξ1,ξ2,ξ3,ξ4,ξ5,ξ6,ξ7,ξ8,ξ9,ξa,ξb,ξc,ξd,ξe,ξf,ξg,ξh,Nat.reduceAdd,ξi,if_true,if_false,ξl,ξm,ξn,ξo,ξp,ξq,ξr,ξs,ξt,ξu,ξv,ξw,ξx,ξy,ξz,ξA,ξB,ξC,ξD,ξE,q0,p0,e0,e1,e2,e3,e4,e5,q1,hz,qzz,hc2,hsh,hm,MO.list,hone,hlen,l2,r2,q2]
 ·rw [if_neg hb0]
  have hz:eqB b5 0=true:=by rw [show b5=0 by omega]; rfl
  simp only [Q0,d5k,fE]
  simp -implicitDefEqProofs only [↓reduceIte,eq_self,ξ1,ξ2,ξ3,ξ4,ξ5,ξ6,ξ7,ξ8,ξ9,ξa,ξb,ξc,ξd,ξe,ξf,ξg,ξh,Nat.reduceAdd,ξi,if_true,if_false,ξl,ξm,ξn,ξo,ξp,ξq,ξr,ξs,ξt,ξu,ξv,ξw,ξx,ξy,ξz,ξA,ξB,ξC,ξD,ξE,q0,p0,e0,e1,e2,e3,e4,e5,hz]
end
end Go.Proofs.Ythmkfeiapdbojaa
set_option maxRecDepth 100000
namespace Go.Proofs.Ythmkfeiapdbojaa
open Go.Sx Go.Kv Go.Bun
open Go.Bun (offs)
theorem d7P {s b b':Bd} {n:Nat} {st:Int} (hn:(n:Int) < s.cnt) (hb:s.unr n=b) (hb':b'.Ok) (hle:b'.Le s) (hh:s.horner b'=s.horner b-st) (hst:0 < st) :
  ∃ m:Nat,(n:Int)-st=m/\m < n/\s.horner b'=m/\b'.Ok/\b'.Le s:=by
 obtain ⟨m,h1,h2,h3⟩:=a9b hn hb hb' hle hh hst
 refine ⟨m,h1,h2,?_,hb',hle⟩
 rw [<- h3]
 exact a8q (by omega)
theorem d8T {A B C D E F a b' c d e f:Int} {n:Nat} (hn:(n:Int) < (Bd.mk A B C D E F).cnt) (hb:(Bd.mk A B C D E F).unr n=⟨a,b',c,d,e,f⟩) :
  (0 < a->∃ m:Nat,(n:Int)-1*(F+1)*(E+1)*(D+1)*(C+1)*(B+1)=m/\m < n/\(Bd.mk A B C D E F).horner ⟨a-1,b',c,d,e,f⟩=m/\(Bd.mk (a-1) b' c d e f).Ok/\(Bd.mk (a-1) b' c d e f).Le ⟨A,B,C,D,E,F⟩) /\
  (0 < b'->∃ m:Nat,(n:Int)-1*(F+1)*(E+1)*(D+1)*(C+1)=m/\m < n/\(Bd.mk A B C D E F).horner ⟨a,b'-1,c,d,e,f⟩=m/\(Bd.mk a (b'-1) c d e f).Ok/\(Bd.mk a (b'-1) c d e f).Le ⟨A,B,C,D,E,F⟩) /\
  (0 < c->∃ m:Nat,(n:Int)-1*(F+1)*(E+1)*(D+1)=m/\m < n/\(Bd.mk A B C D E F).horner ⟨a,b',c-1,d,e,f⟩=m/\(Bd.mk a b' (c-1) d e f).Ok/\(Bd.mk a b' (c-1) d e f).Le ⟨A,B,C,D,E,F⟩) /\
  (0 < d->∃ m:Nat,(n:Int)-1*(F+1)*(E+1)=m/\m < n/\(Bd.mk A B C D E F).horner ⟨a,b',c,d-1,e,f⟩=m/\(Bd.mk a b' c (d-1) e f).Ok/\(Bd.mk a b' c (d-1) e f).Le ⟨A,B,C,D,E,F⟩) /\
  (0 < e->∃ m:Nat,(n:Int)-1*(F+1)=m/\m < n/\(Bd.mk A B C D E F).horner ⟨a,b',c,d,e-1,f⟩=m/\(Bd.mk a b' c d (e-1) f).Ok/\(Bd.mk a b' c d (e-1) f).Le ⟨A,B,C,D,E,F⟩) /\
  (0 < f->∃ m:Nat,(n:Int)-1=m/\m < n/\(Bd.mk A B C D E F).horner ⟨a,b',c,d,e,f-1⟩=m/\(Bd.mk a b' c d e (f-1)).Ok/\(Bd.mk a b' c d e (f-1)).Le ⟨A,B,C,D,E,F⟩):=by
 have h0:(Bd.mk A B C D E F).cnt≠0:=by omega
 have hs:=Bd.ok_of_cnt h0
 obtain ⟨hbo,hbl⟩:=a3m hs n
 rw [hb] at hbo hbl
 simp only [Bd.Ok,Bd.Le] at hs hbo hbl
 have pB:=c1l hs.2.1
 have pC:=c1l hs.2.2.1
 have pD:=c1l hs.2.2.2.1
 have pE:=c1l hs.2.2.2.2.1
 have pF:=c1l hs.2.2.2.2.2
 have t4:0 < 1*(F+1):=by omega
 have t3:0 < 1*(F+1)*(E+1):=Qj t4 pE
 have t2:0 < 1*(F+1)*(E+1)*(D+1):=Qj t3 pD
 have t1:0 < 1*(F+1)*(E+1)*(D+1)*(C+1):=Qj t2 pC
 have t0:0 < 1*(F+1)*(E+1)*(D+1)*(C+1)*(B+1):=Qj t1 pB
 refine ⟨fun h=>?_,fun h=>?_,fun h=>?_,fun h=>?_,fun h=>?_,fun h=>?_⟩
 ·exact d7P hn hb (by simp only [Bd.Ok]; omega) (by simp only [Bd.Le]; omega) (by
   simp only [Bd.horner]
   rw [show (1*(F+1)*(E+1)*(D+1)*(C+1)*(B+1):Int)=1*(B+1)*(C+1)*(D+1)*(E+1)*(F+1) by ac_rfl,<- dif,<- dif,<- dif,<- dif,<- dif]; congr 10; omega) t0
 ·exact d7P hn hb (by simp only [Bd.Ok]; omega) (by simp only [Bd.Le]; omega) (by
   simp only [Bd.horner]
   rw [show (1*(F+1)*(E+1)*(D+1)*(C+1):Int)=1*(C+1)*(D+1)*(E+1)*(F+1) by ac_rfl,<- dif,<- dif,<- dif,<- dif]; congr 8; omega) t1
 ·exact d7P hn hb (by simp only [Bd.Ok]; omega) (by simp only [Bd.Le]; omega) (by
   simp only [Bd.horner]
   rw [show (1*(F+1)*(E+1)*(D+1):Int)=1*(D+1)*(E+1)*(F+1) by ac_rfl,<- dif,<- dif,<- dif]; congr 6; omega) t2
 ·exact d7P hn hb (by simp only [Bd.Ok]; omega) (by simp only [Bd.Le]; omega) (by
   simp only [Bd.horner]
   rw [show (1*(F+1)*(E+1):Int)=1*(E+1)*(F+1) by ac_rfl,<- dif,<- dif]; congr 4; omega) t3
 ·exact d7P hn hb (by simp only [Bd.Ok]; omega) (by simp only [Bd.Le]; omega) (by
   simp only [Bd.horner]
   rw [<- dif]; congr 2; omega) t4
 ·exact d7P hn hb (by simp only [Bd.Ok]; omega) (by simp only [Bd.Le]; omega) (by simp only [Bd.horner]; omega) (by omega)
theorem d8d {a b c:Int}:mxI a b<=c↔a<=c/\b<=c:=by
 unfold mxI
 constructor
 ·intro h; split at h<;>omega
 ·rintro ⟨h1,h2⟩; split<;>omega
theorem d8R {p:Prop} [Decidable p] {a b c:Int}:(if p then mxI a b else a)<=c↔a<=c/\(p->b<=c):=by
 split
 ·rename_i h; rw [d8d]; exact ⟨fun h1=>⟨h1.1,fun _=>h1.2⟩,fun h1=>⟨h1.1,h1.2 h⟩⟩
 ·rename_i h; exact ⟨fun h1=>⟨h1,fun h2=>absurd h2 h⟩,fun h1=>h1.1⟩
theorem d8E {P:Int->Prop} {A B C D E F a b c d e f:Int}:(∀ st∈(Bd.mk A B C D E F).offs ⟨a,b,c,d,e,f⟩,P st) ↔
  (0 < a->P (1*(F+1)*(E+1)*(D+1)*(C+1)*(B+1)))/\(0 < b->P (1*(F+1)*(E+1)*(D+1)*(C+1)))/\(0 < c->P (1*(F+1)*(E+1)*(D+1)))/\(0 < d->P (1*(F+1)*(E+1)))/\(0 < e->P (1*(F+1)))/\(0 < f->P 1):=by
 have hi:∀ (q:Prop) [Decidable q] (x:Int) ,(∀ st∈(if q then [x] else []),P st)↔(q->P x):=by
  intro q _ x
  split
  ·rename_i h; simp [h]
  ·rename_i h; simp [h]
 simp only [Bd.offs,offs,Q2,List.forall_mem_append,hi]
 constructor
 ·rintro ⟨h5,h4,h3,h2,h1,h0⟩; exact ⟨h0,h1,h2,h3,h4,h5⟩
 ·rintro ⟨h0,h1,h2,h3,h4,h5⟩; exact ⟨h5,h4,h3,h2,h1,h0⟩
theorem d8v {s:Bd} (hc:s.cnt≠0) {i h N:Nat} (hN:(N:Int)=s.cnt) (hi:i < N) {M:List Int} (hM:M.length=N) {σ:List MO} (hm:σ[h]?=some (.cells (iPV M) 2)) (n:Nat) :
  ∃ u:Int,(∀ c,u<=c↔-1<=c/\∀ st∈s.offs (s.unr i),M.getD ((i:Int)-st).toNat 0<=c) /\
   a0e Tab (n+8) 88 [.agg (bpv s),.agg (bpv (s.unr i)),.msl h 0 N N 1] σ=some (.int .i64 u,σ):=by
 have hrk:=fun x h1 h2=>d8M s hc x h1 h2 σ (n+4)
 have hbo:=(a3m (Bd.ok_of_cnt hc) i).1
 have hp:∀ A B C D E F a b' c d e f,s=⟨A,B,C,D,E,F⟩->s.unr i=⟨a,b',c,d,e,f⟩->_:=fun A B C D E F a b' c d e f h1 h2=>d8T (n:=i) (A:=A) (B:=B) (C:=C) (D:=D) (E:=E) (F:=F) (a:=a) (b':=b') (c:=c) (d:=d) (e:=e) (f:=f) (by rw [<- h1]; omega) (by rw [<- h1]; exact h2)
 obtain ⟨A,B,C,D,E,F⟩:=s
 obtain ⟨⟨a,b,c,d,e,f⟩,hu⟩:∃ u,(Bd.mk A B C D E F).unr i=u:=⟨_,rfl⟩
 obtain ⟨p0,p1,p2,p3,p4,p5⟩:=hp _ _ _ _ _ _ _ _ _ _ _ _ rfl hu
 rw [hu] at hbo
 rw [hu]
 simp only [Bd.Ok] at hbo
 have hq:∀ (q:Prop) (st:Int) (x:Bd),(q->∃ m:Nat,(i:Int)-st=m/\m < i/\(Bd.mk A B C D E F).horner x=m/\x.Ok/\x.Le ⟨A,B,C,D,E,F⟩)->q->((i:Int)-st).toNat < N/\a0e Tab (n+7) 97 [.agg (bpv ⟨A,B,C,D,E,F⟩),.agg (bpv x)] σ=some (.tup [.int .i64 (((i:Int)-st).toNat:Nat),.int .i64 0],σ):=by
  intro q st x hx hq
  obtain ⟨m,e1,e2,e3,e4,e5⟩:=hx hq
  have:=hrk x e4 e5
  rw [e1,Qk]
  rw [e3] at this
  exact ⟨by omega,this⟩
 generalize hΦ:a0e Tab (n+7)=Φ at hq
 refine ⟨(if 0 < f then mxI (if 0 < e then mxI (if 0 < d then mxI (if 0 < c then mxI (if 0 < b then mxI (if 0 < a then mxI (-1) (M.getD ((i:Int)-1*(F+1)*(E+1)*(D+1)*(C+1)*(B+1)).toNat 0) else (-1)) (M.getD ((i:Int)-1*(F+1)*(E+1)*(D+1)*(C+1)).toNat 0) else (if 0 < a then mxI (-1) (M.getD ((i:Int)-1*(F+1)*(E+1)*(D+1)*(C+1)*(B+1)).toNat 0) else (-1))) (M.getD ((i:Int)-1*(F+1)*(E+1)*(D+1)).toNat 0) else (if 0 < b then mxI (if 0 < a then mxI (-1) (M.getD ((i:Int)-1*(F+1)*(E+1)*(D+1)*(C+1)*(B+1)).toNat 0) else (-1)) (M.getD ((i:Int)-1*(F+1)*(E+1)*(D+1)*(C+1)).toNat 0) else (if 0 < a then mxI (-1) (M.getD ((i:Int)-1*(F+1)*(E+1)*(D+1)*(C+1)*(B+1)).toNat 0) else (-1)))) (M.getD ((i:Int)-1*(F+1)*(E+1)).toNat 0) else (if 0 < c then mxI (if 0 < b then mxI (if 0 < a then mxI (-1) (M.getD ((i:Int)-1*(F+1)*(E+1)*(D+1)*(C+1)*(B+1)).toNat 0) else (-1)) (M.getD ((i:Int)-1*(F+1)*(E+1)*(D+1)*(C+1)).toNat 0) else (if 0 < a then mxI (-1) (M.getD ((i:Int)-1*(F+1)*(E+1)*(D+1)*(C+1)*(B+1)).toNat 0) else (-1))) (M.getD ((i:Int)-1*(F+1)*(E+1)*(D+1)).toNat 0) else (if 0 < b then mxI (if 0 < a then mxI (-1) (M.getD ((i:Int)-1*(F+1)*(E+1)*(D+1)*(C+1)*(B+1)).toNat 0) else (-1)) (M.getD ((i:Int)-1*(F+1)*(E+1)*(D+1)*(C+1)).toNat 0) else (if 0 < a then mxI (-1) (M.getD ((i:Int)-1*(F+1)*(E+1)*(D+1)*(C+1)*(B+1)).toNat 0) else (-1))))) (M.getD ((i:Int)-1*(F+1)).toNat 0) else (if 0 < d then mxI (if 0 < c then mxI (if 0 < b then mxI (if 0 < a then mxI (-1) (M.getD ((i:Int)-1*(F+1)*(E+1)*(D+1)*(C+1)*(B+1)).toNat 0) else (-1)) (M.getD ((i:Int)-1*(F+1)*(E+1)*(D+1)*(C+1)).toNat 0) else (if 0 < a then mxI (-1) (M.getD ((i:Int)-1*(F+1)*(E+1)*(D+1)*(C+1)*(B+1)).toNat 0) else (-1))) (M.getD ((i:Int)-1*(F+1)*(E+1)*(D+1)).toNat 0) else (if 0 < b then mxI (if 0 < a then mxI (-1) (M.getD ((i:Int)-1*(F+1)*(E+1)*(D+1)*(C+1)*(B+1)).toNat 0) else (-1)) (M.getD ((i:Int)-1*(F+1)*(E+1)*(D+1)*(C+1)).toNat 0) else (if 0 < a then mxI (-1) (M.getD ((i:Int)-1*(F+1)*(E+1)*(D+1)*(C+1)*(B+1)).toNat 0) else (-1)))) (M.getD ((i:Int)-1*(F+1)*(E+1)).toNat 0) else (if 0 < c then mxI (if 0 < b then mxI (if 0 < a then mxI (-1) (M.getD ((i:Int)-1*(F+1)*(E+1)*(D+1)*(C+1)*(B+1)).toNat 0) else (-1)) (M.getD ((i:Int)-1*(F+1)*(E+1)*(D+1)*(C+1)).toNat 0) else (if 0 < a then mxI (-1) (M.getD ((i:Int)-1*(F+1)*(E+1)*(D+1)*(C+1)*(B+1)).toNat 0) else (-1))) (M.getD ((i:Int)-1*(F+1)*(E+1)*(D+1)).toNat 0) else (if 0 < b then mxI (if 0 < a then mxI (-1) (M.getD ((i:Int)-1*(F+1)*(E+1)*(D+1)*(C+1)*(B+1)).toNat 0) else (-1)) (M.getD ((i:Int)-1*(F+1)*(E+1)*(D+1)*(C+1)).toNat 0) else (if 0 < a then mxI (-1) (M.getD ((i:Int)-1*(F+1)*(E+1)*(D+1)*(C+1)*(B+1)).toNat 0) else (-1)))))) (M.getD ((i:Int)-1).toNat 0) else (if 0 < e then mxI (if 0 < d then mxI (if 0 < c then mxI (if 0 < b then mxI (if 0 < a then mxI (-1) (M.getD ((i:Int)-1*(F+1)*(E+1)*(D+1)*(C+1)*(B+1)).toNat 0) else (-1)) (M.getD ((i:Int)-1*(F+1)*(E+1)*(D+1)*(C+1)).toNat 0) else (if 0 < a then mxI (-1) (M.getD ((i:Int)-1*(F+1)*(E+1)*(D+1)*(C+1)*(B+1)).toNat 0) else (-1))) (M.getD ((i:Int)-1*(F+1)*(E+1)*(D+1)).toNat 0) else (if 0 < b then mxI (if 0 < a then mxI (-1) (M.getD ((i:Int)-1*(F+1)*(E+1)*(D+1)*(C+1)*(B+1)).toNat 0) else (-1)) (M.getD ((i:Int)-1*(F+1)*(E+1)*(D+1)*(C+1)).toNat 0) else (if 0 < a then mxI (-1) (M.getD ((i:Int)-1*(F+1)*(E+1)*(D+1)*(C+1)*(B+1)).toNat 0) else (-1)))) (M.getD ((i:Int)-1*(F+1)*(E+1)).toNat 0) else (if 0 < c then mxI (if 0 < b then mxI (if 0 < a then mxI (-1) (M.getD ((i:Int)-1*(F+1)*(E+1)*(D+1)*(C+1)*(B+1)).toNat 0) else (-1)) (M.getD ((i:Int)-1*(F+1)*(E+1)*(D+1)*(C+1)).toNat 0) else (if 0 < a then mxI (-1) (M.getD ((i:Int)-1*(F+1)*(E+1)*(D+1)*(C+1)*(B+1)).toNat 0) else (-1))) (M.getD ((i:Int)-1*(F+1)*(E+1)*(D+1)).toNat 0) else (if 0 < b then mxI (if 0 < a then mxI (-1) (M.getD ((i:Int)-1*(F+1)*(E+1)*(D+1)*(C+1)*(B+1)).toNat 0) else (-1)) (M.getD ((i:Int)-1*(F+1)*(E+1)*(D+1)*(C+1)).toNat 0) else (if 0 < a then mxI (-1) (M.getD ((i:Int)-1*(F+1)*(E+1)*(D+1)*(C+1)*(B+1)).toNat 0) else (-1))))) (M.getD ((i:Int)-1*(F+1)).toNat 0) else (if 0 < d then mxI (if 0 < c then mxI (if 0 < b then mxI (if 0 < a then mxI (-1) (M.getD ((i:Int)-1*(F+1)*(E+1)*(D+1)*(C+1)*(B+1)).toNat 0) else (-1)) (M.getD ((i:Int)-1*(F+1)*(E+1)*(D+1)*(C+1)).toNat 0) else (if 0 < a then mxI (-1) (M.getD ((i:Int)-1*(F+1)*(E+1)*(D+1)*(C+1)*(B+1)).toNat 0) else (-1))) (M.getD ((i:Int)-1*(F+1)*(E+1)*(D+1)).toNat 0) else (if 0 < b then mxI (if 0 < a then mxI (-1) (M.getD ((i:Int)-1*(F+1)*(E+1)*(D+1)*(C+1)*(B+1)).toNat 0) else (-1)) (M.getD ((i:Int)-1*(F+1)*(E+1)*(D+1)*(C+1)).toNat 0) else (if 0 < a then mxI (-1) (M.getD ((i:Int)-1*(F+1)*(E+1)*(D+1)*(C+1)*(B+1)).toNat 0) else (-1)))) (M.getD ((i:Int)-1*(F+1)*(E+1)).toNat 0) else (if 0 < c then mxI (if 0 < b then mxI (if 0 < a then mxI (-1) (M.getD ((i:Int)-1*(F+1)*(E+1)*(D+1)*(C+1)*(B+1)).toNat 0) else (-1)) (M.getD ((i:Int)-1*(F+1)*(E+1)*(D+1)*(C+1)).toNat 0) else (if 0 < a then mxI (-1) (M.getD ((i:Int)-1*(F+1)*(E+1)*(D+1)*(C+1)*(B+1)).toNat 0) else (-1))) (M.getD ((i:Int)-1*(F+1)*(E+1)*(D+1)).toNat 0) else (if 0 < b then mxI (if 0 < a then mxI (-1) (M.getD ((i:Int)-1*(F+1)*(E+1)*(D+1)*(C+1)*(B+1)).toNat 0) else (-1)) (M.getD ((i:Int)-1*(F+1)*(E+1)*(D+1)*(C+1)).toNat 0) else (if 0 < a then mxI (-1) (M.getD ((i:Int)-1*(F+1)*(E+1)*(D+1)*(C+1)*(B+1)).toNat 0) else (-1))))))),?_,?_⟩
 rotate_left
 ·rw [a0e,d7R,hΦ]
  simp only [Q0,Sys.run]
  show ((a0i [.sh (.agg [_,_,_,_,_,_]),.sh (.agg [_,_,_,_,_,_]),.sh (.one _)] _).bind _)=_
  have hone:(PV.msl h 0 N N 1).one=true:=rfl
  simp only [bpv,a0i,a0d,a0c,Q4,Q0,Q2,Q5,Q6,if_true,hone]
  show (PT.ev _ d5r _).bind _=_
  simp -implicitDefEqProofs only [d5r,↓reduceIte,eq_self,ξ1,ξ2,ξ3,ξ4,ξ5,ξ6,ξ7,ξ8,ξ9,ξa,ξb,ξc,ξd,ξe,ξf,ξg,ξh,Nat.reduceAdd,ξi,if_true,if_false,ξl,ξm,ξn,ξo,ξp,ξq,ξr,ξs,ξt,ξu,ξv,ξw,ξx,ξy,ξz,ξA,ξB,ξC,ξD,ξE]
  show flatten_below_S.loop Φ (n+7) 0 (fE (-1) 0 A B C D E F a b c d e f h N σ)=_
  rw [d8C (n+6) _ _ hbo.1 hM hm (hq _ _ ⟨a-1,b,c,d,e,f⟩ p0),d8D (n+5) _ _ hbo.2.1 hM hm (hq _ _ ⟨a,b-1,c,d,e,f⟩ p1),d8B (n+4) _ _ hbo.2.2.1 hM hm (hq _ _ ⟨a,b,c-1,d,e,f⟩ p2),d8J (n+3) _ _ hbo.2.2.2.1 hM hm (hq _ _ ⟨a,b,c,d-1,e,f⟩ p3),d8G (n+2) _ _ hbo.2.2.2.2.1 hM hm (hq _ _ ⟨a,b,c,d,e-1,f⟩ p4),d8I (n+1) _ _ hbo.2.2.2.2.2 hM hm (hq _ _ ⟨a,b,c,d,e,f-1⟩ p5)]
  have q0:ltB 6 6=false:=rfl
  rw [Sys.loop,show flatten_below_S.loops[0]?=some d5k from rfl]
  simp -implicitDefEqProofs only [Q0,d5k,fE,↓reduceIte,eq_self,ξ1,ξ2,ξ3,ξ4,ξ5,ξ6,ξ7,ξ8,ξ9,ξa,ξb,ξc,ξd,ξe,ξf,ξg,ξh,Nat.reduceAdd,ξi,if_true,if_false,ξl,ξm,ξn,ξo,ξp,ξq,ξr,ξs,ξt,ξu,ξv,ξw,ξx,ξy,ξz,ξA,ξB,ξC,ξD,ξE,q0,a0k,or_true]
 ·intro c
  rw [d8E]
  simp only [d8R]
  constructor
  ·rintro ⟨⟨⟨⟨⟨⟨h,h0⟩,h1⟩,h2⟩,h3⟩,h4⟩,h5⟩; exact ⟨h,h0,h1,h2,h3,h4,h5⟩
  ·rintro ⟨h,h0,h1,h2,h3,h4,h5⟩; exact ⟨⟨⟨⟨⟨⟨h,h0⟩,h1⟩,h2⟩,h3⟩,h4⟩,h5⟩
end Go.Proofs.Ythmkfeiapdbojaa
set_option maxRecDepth 100000
namespace Go.Proofs.Ythmkfeiapdbojaa
open Go.Sx Go.Kv Go.Bun
section
variable {s:Bd} {t:List Int} {N:Nat}
def d7J (s:Bd) (t:List Int) (i k:Nat):Bool:=!(!decide (k=i)&&(decide (t.getD i 0<=t.getD k 0)&&decide ((s.unr k).Le (s.unr i))))
def d7H (s:Bd) (t:List Int) (N i:Nat):Bool:=(Q8 N).all (d7J s t i)
def d7Z (s:Bd) (t:List Int) (i:Nat):Of:=⟨0,s.unr i,t.getD i 0⟩
def d7s (s:Bd) (t:List Int) (N n:Nat):List Of:=((Q8 n).filter fun i=>decide (0 < i)&&d7H s t N i).map (d7Z s t)
theorem d8a (s:Bd) (t:List Int) (N n:Nat):d7s s t N (n+1)=if (decide (0 < n)&&d7H s t N n)=true then d7s s t N n++[d7Z s t n] else d7s s t N n:=by
 unfold d7s
 rw [List.range_succ,List.filter_append,List.map_append]
 split<;>rename_i h<;>simp [h]
theorem d8g (s:Bd) (t:List Int) (N n:Nat):(d7s s t N n).length<=n:=by
 unfold d7s
 rw [Qp]
 have:=List.length_filter_le (fun i=>decide (0 < i)&&d7H s t N i) (Q8 n)
 rwa [List.length_range] at this
def d7U (s:Bd) (t:List Int) (N j:Nat):Int:=((Q8 N).filter fun (k:Nat)=>decide ((s.unr k).Le (s.unr j))).foldl (fun v k=>mxI v (t.getD k 0)) (t.getD j 0)
theorem d8f {f:Nat->Int} {c:Int}:∀ (L:List Nat) (v:Int),L.foldl (fun v k=>mxI v (f k)) v<=c↔v<=c/\∀ k∈L,f k<=c
 | [],v=>by simp
 | x::L,v=>by
  rw [Qv,d8f L,d8d]
  simp only [Qn,forall_eq_or_imp]
  exact and_assoc
theorem d8k (x:Bd):x.Le x:=by obtain ⟨a,b,c,d,e,f⟩:=x; simp only [Bd.Le]; omega
theorem d8F {x y z:Bd} (h:x.Le y) (k:y.Le z):x.Le z:=by
 obtain ⟨a,b,c,d,e,f⟩:=x; obtain ⟨a',b',c',d',e',f'⟩:=y; obtain ⟨a2,b2,c2,d2,e2,f2⟩:=z
 simp only [Bd.Le] at *; omega
theorem d7Y {c:Int} {j:Nat} (hj:j < N):d7U s t N j<=c↔∀ k < N,(s.unr k).Le (s.unr j)->t.getD k 0<=c:=by
 unfold d7U
 rw [d8f]
 simp only [Qw,Qa,decide_eq_true_eq]
 constructor
 ·rintro ⟨_,h⟩ k hk hl; exact h k ⟨hk,hl⟩
 ·intro h; exact ⟨h j hj (d8k _),fun k hk=>h k hk.1 hk.2⟩
def d7v (s:Bd) (t:List Int) (N i:Nat):List Int:=(Q8 N).map fun j=>if j < i then d7U s t N j else t.getD j 0
theorem d7x (i:Nat):(d7v s t N i).length=N:=by simp [d7v]
theorem d7E {i j:Nat} (h:j < N):(d7v s t N i)[j]?=some (if j < i then d7U s t N j else t.getD j 0):=by simp [d7v,h]
theorem d7W {i j:Nat} (h:j < N):(d7v s t N i).getD j 0=if j < i then d7U s t N j else t.getD j 0:=by rw [Q1,d7E h]; rfl
theorem d8n (h:t.length=N):d7v s t N 0=t:=by
 apply Qy
 intro j
 rcases Nat.lt_or_ge j N with hj | hj
 ·rw [d7E hj,if_neg (by omega)]
  obtain ⟨x,hx⟩:=a3n (l:=t) (i:=j) (by omega)
  rw [hx,Q1,hx]; rfl
 ·rw [Qm (by rw [d7x]; exact hj),Qm (by omega)]
theorem d8t {i:Nat} (hi:i < N):(d7v s t N i).set i (d7U s t N i)=d7v s t N (i+1):=by
 apply Qy
 intro j
 rcases Nat.lt_or_ge j N with hj | hj
 ·rw [d7E hj,List.getElem?_set]
  split
  ·rename_i he; subst he
   rw [if_pos (by rw [d7x]; exact hj),if_pos (by omega)]
  ·rw [d7E hj]
   by_cases hjn:j < i
   ·rw [if_pos hjn,if_pos (by omega)]
   ·rw [if_neg hjn,if_neg (by omega)]
 ·rw [Qm (by simp [d7x]; exact hj),Qm (by simp [d7x]; exact hj)]
theorem d8O {i k:Nat} (hN:(N:Int)=s.cnt) (hi:i < N) (hk:k < N) (h:s.unr k=s.unr i):k=i:=by
 have h1:=a8q (s:=s) (n:=i) (by omega)
 have h2:=a8q (s:=s) (n:=k) (by omega)
 rw [h,h1] at h2
 omega
theorem d8h (hN:(N:Int)=s.cnt) {i:Nat} (hi:i < N) {c:Int}:(∀ st∈s.offs (s.unr i),(d7v s t N i).getD ((i:Int)-st).toNat 0<=c)↔∀ k < N,k≠i->(s.unr k).Le (s.unr i)->t.getD k 0<=c:=by
 obtain ⟨o1,o2⟩:=a7N (s:=s) (n:=i) (by omega) rfl
 constructor
 ·intro h k hk hki hl
  rcases o2 (s.unr k) (a3m (Bd.ok_of_cnt (s:=s) (by omega)) k).1 hl with he | ⟨st,hst,m,m1,m2,m3⟩
  ·exact absurd (d8O hN hi hk he) hki
  ·have:=h st hst
   rw [m1,Qk,d7W (by omega),if_pos m2,d7Y (by omega)] at this
   exact this k hk m3
 ·intro h st hst
  obtain ⟨m,m1,m2,m3,m4,_⟩:=o1 st hst
  rw [m1,Qk,d7W (by omega),if_pos m2,d7Y (by omega)]
  intro k hk hl
  refine h k hk ?_ (d8F hl m3)
  rintro rfl
  exact m4 (d7b m3 hl)
theorem d8y (hN:(N:Int)=s.cnt) {i:Nat} (hi:i < N) (ht:0<=t.getD i 0) {u:Int} (hu:∀ c,u<=c↔-1<=c/\∀ st∈s.offs (s.unr i),(d7v s t N i).getD ((i:Int)-st).toNat 0<=c):mxI (t.getD i 0) u=d7U s t N i:=by
 refine a1O fun c=>?_
 rw [d8d,hu,d8h hN hi,d7Y hi]
 constructor
 ·rintro ⟨h1,_,h2⟩ k hk hl
  by_cases hki:k=i
  ·rw [hki]; exact h1
  ·exact h2 k hk hki hl
 ·intro h
  have:=h i hi (d8k _)
  exact ⟨this,by omega,fun k hk _ hl=>h k hk hl⟩
theorem d8i (hN:(N:Int)=s.cnt) {i:Nat} (hi:i < N) (ht:0<=t.getD i 0) {u:Int} (hu:∀ c,u<=c↔-1<=c/\∀ st∈s.offs (s.unr i),(d7v s t N i).getD ((i:Int)-st).toNat 0<=c):decide (u < t.getD i 0)=d7H s t N i:=by
 have h1:u < t.getD i 0↔u<=t.getD i 0-1:=by omega
 rw [Qt,decide_eq_true_eq,h1,hu,d8h hN hi]
 unfold d7H d7J
 simp only [Qz,Qa,Qg,Bool.and_eq_false_iff,Bool.not_eq_false',decide_eq_true_eq,decide_eq_false_iff_not]
 constructor
 ·rintro ⟨_,h⟩ k hk
  by_cases hki:k=i
  ·exact .inl hki
  by_cases hl:(s.unr k).Le (s.unr i)
  ·have:=h k hk hki hl
   exact .inr (.inl (by omega))
  ·exact .inr (.inr hl)
 ·intro h
  refine ⟨by omega,fun k hk hki hl=>?_⟩
  rcases h k hk with h | h | h
  ·exact absurd h hki
  ·omega
  ·exact absurd hl h
end
end Go.Proofs.Ythmkfeiapdbojaa
set_option maxRecDepth 100000
namespace Go.Proofs.Ythmkfeiapdbojaa
open Go.Sx Go.Kv Go.Bun
def oS (g:Nat) (R:List Of):PV:=match R with | []=>.nilS | _::_=>.rsl g R.length 8
def oR (R:List Of):List MO:=match R with | []=>[] | _::_=>[.row (osR R) 8 59]
def mnM (σ:List MO) (M:List Int) (R:List Of):List MO:=σ++MO.cells (iPV M) 2::oR R
section
variable {σ:List MO} {M M':List Int} {R:List Of} {s:Bd} {t:List Int} {N:Nat}
theorem d8p:(mnM σ M R)[σ.length]?=some (.cells (iPV M) 2):=b5O _ _ _
theorem d8K:(mnM σ M R).set σ.length (.cells (iPV M') 2)=mnM σ M' R:=c8B _ _ _ _
theorem d8L {o:Of}:(mnM σ M (o::R))[σ.length+1]?=some (.row (osR (o::R)) 8 59):=d0S _ _ _ _
theorem d8Q {o:Of} {x:MO}:(mnM σ M (o::R)).set (σ.length+1) x=σ++[.cells (iPV M) 2,x]:=d0R _ _ _ _ _
theorem d7T (k:Nat):∀ L:List Of,PV.lowss k (osR L)=true
 | []=>rfl
 | o::L=>by have:=d7T k L; simp only [osR,Q9,PV.lowss,Of.pv,PV.lows,PV.low,Qq,Qh] at *; exact this
theorem d8N (h:σ.all (MO.low σ.length)=true):(mnM σ M R).all (MO.low (mnM σ M R).length)=true:=by
 refine b7j h ?_
 cases R with
 | nil=>simp only [oR,List.all_cons,List.all_nil,MO.low,b6U,Qq]
 | cons o R=>simp only [oR,List.all_cons,List.all_nil,MO.low,b6U,d7T,Qq]
theorem d8S {Φ:Fns} {ρ:PEnv} {k:PT} {n3 n4:Nat} {o:Of} (h3:ρ.v[n3]?=some (oS (σ.length+1) R)) (h4:ρ.v[n4]?=some (.sl 8 [o.pv])) (hR:R.length<=100000) (hm:ρ.m=mnM σ M R) :
  (PT.appM (.va n3) (.va n4) 8 59 k).ev Φ ρ=k.ev Φ { ρ with v:=ρ.v++[oS (σ.length+1) (R++[o])],m:=mnM σ M (R++[o]) }:=by
 have hs:a1x ρ 8 (.va n4)=some [o.pv]:=by simp only [a1x,h4,Q0,PV.rowsOf,if_true]
 have hd:(SV.va n3).pv ρ noOwn=some (oS (σ.length+1) R):=by simp only [SV.pv,h3]
 rw [a0y,hd,hs]
 cases R with
 | nil =>
  simp only [Q0,oS,Qr]
  have hl:(mnM σ M []).length=σ.length+1:=by simp [mnM,oR]
  rw [if_pos (by omega),if_neg (by omega),hm,hl]
  simp [mnM,oR,osR]
 | cons y R =>
  have h1:ρ.m[σ.length+1]?=some (.row (osR (y::R)) 8 59):=by rw [hm]; exact d8L
  have h2:ρ.m.set (σ.length+1) (.row (osR (y::R)++[o.pv]) 8 59)=mnM σ M ((y::R)++[o]):=by rw [hm,d8Q]; simp [mnM,oR,osR]
  simp only [Q0,oS,h1,Qr]
  rw [if_pos ⟨d5U _,trivial,trivial,trivial,by omega⟩,if_neg (by omega),h2]
  simp [oS]
theorem d8U {ρ:PEnv} (hlow:σ.all (MO.low σ.length)=true) (h1:ρ.m=mnM σ M R) (h2:ρ.k=σ.length) (z:Int):a0k ρ false (.tup [oS (σ.length+1) R,.int .i64 z])=some (.tup [oV R,.int .i64 z],σ):=by
 unfold a0k
 rw [h1,h2,if_neg (by simp [mnM]),show List.take σ.length (mnM σ M R)=σ from QA,if_pos hlow]
 cases R with
 | nil=>rfl
 | cons y R =>
  have hlk:a5V ρ 3 (σ.length+1)=some (.row (osR (y::R)) 8 59):=by
   have h0:ρ.m[σ.length+1]?=some (.row (osR (y::R)) 8 59):=by rw [h1]; exact d8L
   simp only [a5V,h0,Q0]
   rw [PV.frzss_low (osR (y::R)) (d7T _ _) (fun l hl=>by
    obtain ⟨z,_,rfl⟩:=Qs.1 hl
    rfl)]
   rfl
  simp only [oS,PV.frz,PV.frzs]
  rw [if_neg (by omega),hlk]
  simp only [Q0,MO.elts,d5U,and_self,if_true,Q4]
  rfl
theorem d8V {ρ:PEnv} (hlow:σ.all (MO.low σ.length)=true) (h1:ρ.m=mnM σ M R) (h2:ρ.k=σ.length) (z:Int):a0k ρ false (.tup [.nilS,.int .i64 z])=some (.tup [.nilS,.int .i64 z],σ):=by
 unfold a0k
 rw [h1,h2,if_neg (by simp [mnM]),show List.take σ.length (mnM σ M R)=σ from QA,if_pos hlow]
 rfl
end
section
variable {σ:List MO} {s:Bd} {t:List Int} {N:Nat}
def mnE (σ:List MO) (s:Bd) (t:List Int) (N:Nat) (i:Nat):PEnv:={ i:=[s.a,s.b,s.c,s.d,s.e,s.f,(i:Int)],b:=[],v:=[.fn 95 [.cell (bpv s) 0],.sl 1 (a0P t),.msl σ.length 0 N N 1,oS (σ.length+1) (d7s s t N i)],m:=mnM σ (d7v s t N i) (d7s s t N i),k:=σ.length }
theorem d8x {Φ:Fns} (hN:(N:Int)=s.cnt) (htl:t.length=N) {i:Nat} (hi:i < N) (ht:0<=t.getD i 0) {u:Int} (hu:∀ c,u<=c↔-1<=c/\∀ st∈s.offs (s.unr i),(d7v s t N i).getD ((i:Int)-st).toNat 0<=c)
  (hcall:Φ 88 [.agg (bpv s),.agg (bpv (s.unr i)),.msl σ.length 0 N N 1] (mnM σ (d7v s t N i) (d7s s t N i))=some (.int .i64 u,mnM σ (d7v s t N i) (d7s s t N i))) :
  d4P.ev Φ ((mnE σ s t N i).push ((s.unr i).l,[],[]))=some (.jump 0 (mnE σ s t N (i+1))):=by
 have hcl:=a6p (s:=s) (by omega)
 have htop:=d8y hN hi ht hu
 have habv:=d8i hN hi ht hu
 have hol:=d8g s t N i
 obtain ⟨x,hx⟩:=a3n (l:=t) (i:=i) (by omega)
 have ex:t.getD i 0=x:=by rw [Q1,hx]; rfl
 have hM:(d7v s t N i)[i]?=some x:=by rw [d7E hi,if_neg (by omega),ex]
 have hset:=d8t (s:=s) (t:=t) hi
 rw [ex] at htop habv
 rw [<- htop] at hset
 have hml:=d7x (s:=s) (t:=t) (N:=N) i
 have ho:d7Z s t i=⟨0,s.unr i,x⟩:=by unfold d7Z; rw [ex]
 have hE:mnE σ s t N (i+1)={ i:=[s.a,s.b,s.c,s.d,s.e,s.f,((i+1:Nat):Int)],b:=[],v:=[.fn 95 [.cell (bpv s) 0],.sl 1 (a0P t),.msl σ.length 0 N N 1,oS (σ.length+1) (if (decide (0 < i)&&decide (u < x))=true then d7s s t N i++[⟨0,s.unr i,x⟩] else d7s s t N i)],m:=mnM σ ((d7v s t N i).set i (mxI x u)) (if (decide (0 < i)&&decide (u < x))=true then d7s s t N i++[⟨0,s.unr i,x⟩] else d7s s t N i),k:=σ.length }:=by
  unfold mnE
  rw [d8a,<- habv,ho,hset]
 rw [hE]
 unfold mnE
 clear hE hu htop habv hset ho
 generalize d7s s t N i=R at *
 generalize d7v s t N i=M at *
 have l1:=b4y hx
 have l2:=a3p (h:=σ.length) (c:=N) hi
 have r2:=a7n hM
 have hst:i+1<=(iPV M).length:=d8q M i (mxI x u) (by omega)
 have hsv:=b5Q (t:=M) (i:=i) (x:=mxI x u) (by omega)
 unfold a0f at r2
 have q0:ltB 0 (i:Int)=decide (0 < i):=by simp [ltB]
 have qu:ltB u x=decide (u < x):=rfl
 have qN:ltB (i:Int) (N:Int)=true:=by simp [ltB]; omega
 have q2:=a2h (i:=i) (by omega)
 have hone:(PV.msl σ.length 0 N N 1).one=true:=rfl
 have hlen:(PV.msl σ.length 0 N N 1).len=(N:Int):=rfl
 have hone1:(PV.sl 1 (a0P t)).one=true:=rfl
 have hlen1:(PV.sl 1 (a0P t)).len=(N:Int):=by simp [PV.len,b5n,htl]
 have g0:=fun R=>d8p (σ:=σ) (M:=M) (R:=R)
 have gs:=fun R=>d8K (σ:=σ) (M:=M) (M':=M.set i (mxI x u)) (R:=R)
 have hR:R.length<=100000:=by omega
 have hap:∀ (v5:List PV) (ii:List Int) (k:PT),(PT.appM (.va 3) (.va 4) 8 59 k).ev Φ { i:=ii,b:=[],v:=[.fn 95 [.cell (bpv s) 0],.sl 1 (a0P t),.msl σ.length 0 N N 1,oS (σ.length+1) R,.sl 8 [Of.pv ⟨0,s.unr i,x⟩]],m:=mnM σ M R,k:=σ.length }=k.ev Φ { i:=ii,b:=[],v:=[.fn 95 [.cell (bpv s) 0],.sl 1 (a0P t),.msl σ.length 0 N N 1,oS (σ.length+1) R,.sl 8 [Of.pv ⟨0,s.unr i,x⟩],oS (σ.length+1) (R++[⟨0,s.unr i,x⟩])],m:=mnM σ M (R++[⟨0,s.unr i,x⟩]),k:=σ.length }:=fun v5 ii k=>d8S (M:=M) rfl rfl hR rfl
 have hoS:∀ R,(oS (σ.length+1) R).one=true:=fun R=>by cases R<;>rfl
 generalize hO:(⟨0,s.unr i,x⟩:Of)=o at *
 have hpv:o.pv=[.int .i64 0,.int .i64 (s.unr i).a,.int .i64 (s.unr i).b,.int .i64 (s.unr i).c,.int .i64 (s.unr i).d,.int .i64 (s.unr i).e,.int .i64 (s.unr i).f,.int .i64 x]:=by rw [<- hO]; rfl
 generalize s.unr i=u' at *
 obtain ⟨a,b,c,d,e,f⟩:=s
 obtain ⟨u0,u1,u2,u3,u4,u5⟩:=u'
 simp only [bpv] at hcall hap ⊢
 simp only [hpv] at hap
 simp only [Bd.l,PEnv.push,Q6,Q5,Q2]
 have hsz:([]:List (List PV)).length+1<=1000000:=by decide
 have b1:d3Y.ev Φ { i:=[a,b,c,d,e,f,(i:Int),u0,u1,u2,u3,u4,u5,u,x,x],b:=[],v:=[.fn 95 [.cell [.int .i64 a,.int .i64 b,.int .i64 c,.int .i64 d,.int .i64 e,.int .i64 f] 0],.sl 1 (a0P t),.msl σ.length 0 N N 1,oS (σ.length+1) R],m:=mnM σ M R,k:=σ.length }=some (.jump 0 { i:=[a,b,c,d,e,f,((i+1:Nat):Int)],b:=[],v:=[.fn 95 [.cell [.int .i64 a,.int .i64 b,.int .i64 c,.int .i64 d,.int .i64 e,.int .i64 f] 0],.sl 1 (a0P t),.msl σ.length 0 N N 1,oS (σ.length+1) (R++[o])],m:=mnM σ (M.set i (mxI x u)) (R++[o]),k:=σ.length }):=by
  unfold d3Y
  simp -implicitDefEqProofs only [a0C,a1x,List.mapM_cons,List.mapM_nil,List.reverse_cons,List.reverse_nil,Option.bind_eq_bind,Option.pure_def,Qe,Qr,List.length_cons,↓reduceIte,eq_self,ξ2,ξ3,ξ4,ξ5,ξ6,ξ7,ξ8,ξ9,ξa,ξb,ξc,ξd,ξe,ξf,ξg,ξh,Nat.reduceAdd,ξi,if_true,if_false,ξl,ξm,ξn,ξo,ξp,ξq,ξr,ξs,ξt,ξu,ξv,ξw,ξx,ξy,ξz,ξA,ξB,ξC,ξD,ξE]
  rw [hap []]
  repeat (first | rw [a0B] | rw [a0A] | rw [a0D] | rw [a0p] | rw [a0q] | rw [a0m] | rw [a0M] | rw [a3f] | rw [a0C] | rw [a0y] | rw [a0r] | rw [a0N])<;>simp -implicitDefEqProofs only [↓reduceIte,eq_self,ξ2,ξ3,ξ4,ξ5,ξ6,ξ7,ξ8,ξ9,ξa,ξb,ξc,ξd,ξe,ξf,ξg,ξh,Nat.reduceAdd,ξi,if_true,if_false,ξl,ξm,ξn,ξo,ξp,ξq,ξr,ξs,ξt,ξu,ξv,ξw,ξx,ξy,ξz,ξA,ξB,ξC,ξD,ξE,hone,hlen,le0,qN,l2,g0,MO.list,r2,hst,hsv,gs,q2,a0v,hoS,d6O]
 have hwh:MO.list (.cells (iPV M) 2)=some (iPV M):=rfl
 by_cases h0:0 < i
 case neg =>
  have e0:decide (0 < i)=false:=by simp [h0]
  rw [e0] at q0 ⊢
  unfold d4P
  repeat (first | rw [a0B] | rw [a0A] | rw [a0D] | rw [a0p] | rw [a0q] | rw [a0m] | rw [a0M] | rw [a3f] | rw [a0C] | rw [a0y] | rw [a0r] | rw [a0N])<;>simp -implicitDefEqProofs only [↓reduceIte,eq_self,ξ2,ξ3,ξ4,ξ5,ξ6,ξ7,ξ8,ξ9,ξa,ξb,ξc,ξd,ξe,ξf,ξg,ξh,Nat.reduceAdd,ξi,if_true,if_false,ξl,ξm,ξn,ξo,ξp,ξq,ξr,ξs,ξt,ξu,ξv,ξw,ξx,ξy,ξz,ξA,ξB,ξC,ξD,ξE,hcall,q0,hone,hlen,le0,qN,l2,g0,hwh,r2,hst,hsv,gs,q2,a0v,hoS,QB]
 have e0:decide (0 < i)=true:=by simp [h0]
 rw [e0] at q0 ⊢
 rw [Qh]
 by_cases h1:u < x
 case neg =>
  have e1:decide (u < x)=false:=by simp [h1]
  rw [e1] at qu ⊢
  unfold d4P
  repeat (first | rw [a0B] | rw [a0A] | rw [a0D] | rw [a0p] | rw [a0q] | rw [a0m] | rw [a0M] | rw [a3f] | rw [a0C] | rw [a0y] | rw [a0r] | rw [a0N])<;>simp -implicitDefEqProofs only [↓reduceIte,eq_self,ξ2,ξ3,ξ4,ξ5,ξ6,ξ7,ξ8,ξ9,ξa,ξb,ξc,ξd,ξe,ξf,ξg,ξh,Nat.reduceAdd,ξi,if_true,if_false,ξl,ξm,ξn,ξo,ξp,ξq,ξr,ξs,ξt,ξu,ξv,ξw,ξx,ξy,ξz,ξA,ξB,ξC,ξD,ξE,hcall,q0,qu,hone,hlen,hone1,hlen1,le0,qN,l1,l2,g0,hwh,r2,hst,hsv,gs,q2,a0v,hoS]
 have e1:decide (u < x)=true:=by simp [h1]
 rw [e1] at qu ⊢
 have b2:=c3o b1 b1
 simp only [a0v] at b2
 unfold d4P
 repeat (first | rw [a0B] | rw [a0A] | rw [a0D] | rw [a0p] | rw [a0q] | rw [a0m] | rw [a0M] | rw [a3f] | rw [a0C] | rw [a0y] | rw [a0r] | rw [a0N])<;>simp -implicitDefEqProofs only [↓reduceIte,eq_self,ξ2,ξ3,ξ4,ξ5,ξ6,ξ7,ξ8,ξ9,ξa,ξb,ξc,ξd,ξe,ξf,ξg,ξh,Nat.reduceAdd,ξi,if_true,if_false,ξl,ξm,ξn,ξo,ξp,ξq,ξr,ξs,ξt,ξu,ξv,ξw,ξx,ξy,ξz,ξA,ξB,ξC,ξD,ξE,hcall,q0,qu,hone,hlen,hone1,hlen1,le0,qN,l1,l2,g0,hwh,r2,hst,hsv,gs,q2,a0v,hoS,b2]
end
end Go.Proofs.Ythmkfeiapdbojaa
set_option maxRecDepth 100000
namespace Go.Proofs.Ythmkfeiapdbojaa
open Go.Sx Go.Kv Go.Bun
section
variable {σ:List MO} {s:Bd} {t:List Int}
def d7A (s:Bd) (t:List Int) (N:Nat):PV:=if 40 < (d7s s t N N).length then .tup [.nilS,.int .i64 3] else .tup [oV (d7s s t N N),.int .i64 0]
theorem d8m (s:Bd) (hc:s.cnt≠0) (htl:(t.length:Int)=s.cnt) (ht:∀ x∈t,0<=x) {tp:PV} (htp:tp=.sl 1 (a0P t)) (hlow:σ.all (MO.low σ.length)=true) (n:Nat) (hn:20<=n) :
  a0e Tab n 60 [tp,.agg (bpv s)] σ=some (d7A s t t.length,σ):=by
 subst htp
 obtain ⟨q,rfl⟩:∃ q,n=q+9:=⟨n-9,by omega⟩
 have hs:=Bd.ok_of_cnt hc
 have hcl:=a6p hc
 have hone:(PV.sl 1 (a0P t)).one=true:=rfl
 have hkind:(PV.sl 1 (a0P t)).isKind 0=true:=rfl
 have hlen:(PV.sl 1 (a0P t)).len=(t.length:Int):=by simp [PV.len,b5n]
 rw [a0e,d7N]
 have hrun:Sys.run (a0e Tab (q+8)) flatten_minimal_S (q+8) [.sl 1 (a0P t),.agg (bpv s)] σ=c2g (a0e Tab (q+8)) flatten_minimal_S flatten_minimal_G [.sl 1 (a0P t),.agg (bpv s)] σ:=rfl
 rw [Q0,hrun]
 unfold c2g
 have hps:a0i flatten_minimal_S.ps [.sl 1 (a0P t),.agg (bpv s)]=some ([s.a,s.b,s.c,s.d,s.e,s.f],[],[.sl 1 (a0P t)]):=by
  show a0i [.sh (.one _),.sh (.agg [_,_,_,_,_,_])] _=_
  simp only [bpv,a0i,a0d,a0c,Q4,Q0,Q2,Q5,Q6,if_true,hone]
 rw [hps,Q0]
 have hall:∀ M:List Int,a0e Tab (q+8) 53 [.agg (bpv s)] (mnM σ M [])=some (.fn 95 [.cell (bpv s) 0],mnM σ M []):=fun M=>c6M s hc (mnM σ M []) (d8N hlow) (q+5)
 have hstart:d4Z.ev (a0e Tab (q+8)) { i:=[s.a,s.b,s.c,s.d,s.e,s.f],b:=[],v:=[.sl 1 (a0P t)],m:=σ,k:=σ.length }=some (.jump 0 (mnE σ s t t.length 0)):=by
  have hz:d7v s t t.length 0=t:=d8n rfl
  have hrep:(Q7 t.length [PV.int .i64 0]).flatten=iPV (Q7 t.length 0):=b5C _ _
  have hm1:σ++[MO.cells (iPV (Q7 t.length 0)) 2]=mnM σ (Q7 t.length 0) []:=rfl
  have hg:=d8p (σ:=σ) (M:=Q7 t.length 0) (R:=[])
  have hrl:(a0P t).length=t.length:=b5n t
  have hfl:=d7X t
  have hpl:=a9f t
  have hpl2:(iPV (Q7 t.length 0)).length=t.length:=by rw [a9f,List.length_replicate]
  have hset:(mnM σ (Q7 t.length 0) []).set σ.length (.cells (iPV t) 2)=mnM σ t []:=d8K
  have hsp:a1A (iPV (Q7 t.length 0)) 0 (iPV t)=iPV t:=by
   unfold a1A
   rw [List.take_zero,Q5,hpl,List.drop_eq_nil_of_le (by rw [hpl2]; omega),Q2]
  have htk:(iPV t).take t.length=iPV t:=List.take_of_length_le (by rw [hpl]; omega)
  have honeP:(iPV t).all PV.one=true:=Qz.2 fun p hp=>by obtain ⟨w,_,rfl⟩:=Qs.1 hp; rfl
  have hone2:(PV.fn 95 [.cell (bpv s) 0]).one=true:=rfl
  have hN:(t.length:Int)<=1000000:=by omega
  have h0N:(0:Int)<=t.length:=by omega
  have hall':=hall t
  have h8:(8:Nat)<=100000000:=by decide
  have nat_0:((0:Nat):Int)=0:=rfl
  have hl0:((t.length:Int)).toNat=t.length:=Qk _
  unfold mnE
  rw [hz]
  generalize a0e Tab (q+8)=Φ at *
  obtain ⟨a,b,c,d,e,f⟩:=s
  simp only [bpv] at hall' hone2 ⊢
  have hone3:(PV.msl σ.length 0 t.length t.length 1).one=true:=rfl
  have ho0:d7s ⟨a,b,c,d,e,f⟩ t t.length 0=[]:=rfl
  rw [ho0]
  unfold d4Z
  repeat (first | rw [a0B] | rw [a0A] | rw [a0D] | rw [a0p] | rw [a0q] | rw [a0m] | rw [a0M] | rw [a3f] | rw [a0C] | rw [a0y] | rw [a0r] | rw [a0N])<;>simp -implicitDefEqProofs only [↓reduceIte,eq_self,ξ2,ξ3,ξ4,ξ5,ξ6,ξ7,ξ8,ξ9,ξa,ξb,ξc,ξd,ξe,ξf,ξg,ξh,Nat.reduceAdd,ξi,if_true,if_false,ξl,ξm,ξn,ξo,ξp,ξq,ξr,ξs,ξt,ξu,ξv,ξw,ξx,ξy,ξz,ξA,ξB,ξC,ξD,ξE,hkind,hlen,PV.on,h0N,hN,hl0,hrep,hm1,hg,a9B,hrl,hfl,hpl,hpl2,Nat.min_self,Nat.mul_one,Nat.zero_add,Nat.le_refl,honeP,hsp,htk,hset,hall',hone,hone2,hone3,oS,and_self,and_true,h8,nat_0]
 show ((d4Z.ev _ _).bind _)=_
 rw [hstart]
 simp only [Q0]
 have hv3:(mnE σ s t t.length 0).v[flatten_minimal_G.n]?=some (.fn 95 [.cell (bpv s) 0]):=rfl
 rw [hv3]
 show ((flatten_minimal_G.it _ _).bind _)=_
 have hit:flatten_minimal_G.it 95 [.cell (bpv s) 0]=some ((Lk s 6).map fun x=>[.agg (lpv x)]):=c1e hs
 rw [hit]
 simp only [Q0]
 have hNl:(Lk s 6).length=t.length:=by have:=c1Z hc; omega
 have hrng:=b8x (Φ:=a0e Tab (q+8)) (G:=flatten_minimal_G) (ys:=(Lk s 6).map fun x=>[.agg (lpv x)]) (mnE σ s t t.length) (fun i y hy=>by
  have hil:i < t.length:=by
   have:=(QC.1 hy).1
   rw [Qp] at this; omega
  rw [QD,c2i hc (by omega)] at hy
  simp only [Q4,Option.some.injEq] at hy
  subst hy
  refine ⟨((s.unr i).l,[],[]),rfl,?_⟩
  have htd:0<=t.getD i 0:=by
   obtain ⟨x,hx⟩:=a3n hil
   rw [Q1,hx]
   exact ht x (List.mem_of_getElem? hx)
  obtain ⟨u,hu,hcall⟩:=d8v hc htl hil (d7x (s:=s) (t:=t) i) (d8p (σ:=σ) (M:=d7v s t t.length i) (R:=d7s s t t.length i)) q
  exact d8x htl rfl hil htd hu hcall)
 rw [Qp,hNl] at hrng
 rw [hrng]
 simp only [Q0]
 have hr2:∀ (ρ:PEnv) (z:Int),ρ.m=(mnE σ s t t.length t.length).m->ρ.k=σ.length->a0k ρ false (.tup [oS (σ.length+1) (d7s s t t.length t.length),.int .i64 z])=some (.tup [oV (d7s s t t.length t.length),.int .i64 z],σ):=fun ρ z e1 e2=>d8U hlow e1 e2 z
 have hr3:∀ (ρ:PEnv) (z:Int),ρ.m=(mnE σ s t t.length t.length).m->ρ.k=σ.length->a0k ρ false (.tup [.nilS,.int .i64 z])=some (.tup [.nilS,.int .i64 z],σ):=fun ρ z e1 e2=>d8V hlow e1 e2 z
 have hafter:∀ Φ:Fns,d4U.ev Φ (mnE σ s t t.length t.length)=some (.ret (d7A s t t.length) σ):=by
  intro Φ
  unfold d7A
  have hol:(oS (σ.length+1) (d7s s t t.length t.length)).len=((d7s s t t.length t.length).length:Int)/\(oS (σ.length+1) (d7s s t t.length t.length)).isKind 0=true:=by
   cases d7s s t t.length t.length<;>exact ⟨rfl,rfl⟩
  obtain ⟨o1,o2⟩:=hol
  unfold mnE at *
  generalize oS (σ.length+1) (d7s s t t.length t.length)=V at *
  generalize oV (d7s s t t.length t.length)=W at *
  generalize d7s s t t.length t.length=R at *
  by_cases h40:40 < R.length
  ·have qq:ltB 40 (R.length:Int)=true:=by simp [ltB]; omega
   rw [if_pos h40]
   simp -implicitDefEqProofs only [d4U,↓reduceIte,eq_self,ξ1,ξ2,ξ3,ξ4,ξ5,ξ6,ξ7,ξ8,ξ9,ξa,ξb,ξc,ξd,ξe,ξf,ξg,ξh,Nat.reduceAdd,ξi,if_true,if_false,ξl,ξm,ξn,ξo,ξp,ξq,ξr,ξs,ξt,ξu,ξv,ξw,ξx,ξy,ξz,ξA,ξB,ξC,ξD,ξE,PV.on,o1,o2,qq,hr3]
  ·have qq:ltB 40 (R.length:Int)=false:=by simp [ltB]; omega
   rw [if_neg h40]
   simp -implicitDefEqProofs only [d4U,↓reduceIte,eq_self,ξ1,ξ2,ξ3,ξ4,ξ5,ξ6,ξ7,ξ8,ξ9,ξa,ξb,ξc,ξd,ξe,ξf,ξg,ξh,Nat.reduceAdd,ξi,if_true,if_false,ξl,ξm,ξn,ξo,ξp,ξq,ξr,ξs,ξt,ξu,ξv,ξw,ξx,ξy,ξz,ξA,ξB,ξC,ξD,ξE,PV.on,o1,o2,qq,hr2]
 show ((d4U.ev _ _).bind _)=_
 rw [hafter]
 rfl
end
end Go.Proofs.Ythmkfeiapdbojaa
set_option maxRecDepth 100000
namespace Go.Proofs.Ythmkfeiapdbojaa
open Go.Sx Go.Kv Go.Bun
section
variable {σ:List MO} {s:Bd} {t:List Int}
def err (z:Int):PV:=.tup [.nilS,.int .i64 z]
theorem d8u (s:Bd) (t:List Int) (N:Nat):∃ R z,(d7A s t N=.tup [oV R,.int .i64 z]):=by
 unfold d7A
 split
 ·exact ⟨[],3,rfl⟩
 ·exact ⟨_,0,rfl⟩
end
end Go.Proofs.Ythmkfeiapdbojaa
set_option maxRecDepth 100000
namespace Go.Proofs.Ythmkfeiapdbojaa
open Go.Sx Go.Kv Go.Bun
section
variable {σ:List MO} {s:Bd} {t:List Int}
theorem d8c (hc:s.cnt≠0) (htl:(t.length:Int)=s.cnt) {k:Nat} (hk:k < t.length):(a2b (Lk s 6))[k]?=some (bpv (s.unr k)):=by
 have:=c2i hc (i:=k) (by omega)
 unfold a2b
 rw [QD,this]
 rfl
end
end Go.Proofs.Ythmkfeiapdbojaa
set_option maxRecDepth 100000
namespace Go.Proofs.Ythmkfeiapdbojaa
open Go.Sx Go.Kv Go.Bun
section
variable {σ:List MO} {s:Bd} {t:List Int}
end
end Go.Proofs.Ythmkfeiapdbojaa
set_option maxRecDepth 100000
namespace Go.Proofs.Ythmkfeiapdbojaa
open Go.Sx Go.Kv Go.Bun
section
variable {σ:List MO} {e:Ex} {row:List PV} {s:Bd}
def d9A (e:Ex) (s:Bd):PV:=if chk e≠0 then err (chk e) else if s.check≠0 then err s.check else if s.cnt=0 then err 3 else d7A s (a5n e s) (a5n e s).length
theorem d9t (h2:s.cnt≠0):((a5n e s).length:Int)=s.cnt:=by
 have hcl:=a6p h2
 unfold a5n
 rw [a2L]; omega
theorem d9B (h1:chk e=0) (h2:s.cnt≠0) {i:Nat} (hi:i < (a5n e s).length):(a5n e s).getD i 0=vX e (s.unr i).l:=by
 have:=d9t (e:=e) h2
 rw [b4w (a8v h1) h2]
 exact b2L (by omega)
theorem d9M (s:Bd) (hs:s.Ok):s.unr 0=Bd.zero:=by
 have h:=(a3m hs 0).2
 obtain ⟨a,b,c,d,e,f⟩:=s
 simp only [Bd.unr,Int.zero_tdiv,Int.zero_tmod,Bd.zero]
theorem d9R (h1:chk e=0) (h2:s.cnt≠0):(a5n e s).getD 0 0=0:=by
 have hl:=d9t (e:=e) h2
 have hcl:=a6p h2
 rw [d9B h1 h2 (by omega)]
 have:s.unr ((0:Nat):Int)=Bd.zero:=d9M s (Bd.ok_of_cnt h2)
 rw [this]
 exact d9Q (c1v h1).2.2.2
theorem d9N (h1:chk e=0) (h2:s.cnt≠0):∀ x∈a5n e s,0<=x:=by
 intro x hx
 obtain ⟨i,hi⟩:=List.mem_iff_getElem?.1 hx
 have hil:=(QC.1 hi).1
 have:=d9B h1 h2 hil
 rw [Q1,hi] at this
 simp only [Option.getD_some] at this
 rw [this]
 exact b5c _ _
theorem shV {V:PV} (hV:V.one=true) (z:Int):a2O [Sh.one .val,Sh.one (.int .i64)] [V,.int .i64 z]=some ([z],[],[V]):=by simp [a2O,a0d,a0c,hV]
theorem d9G (hrow:IsE e row) (he:e.size<=400) (s:Bd) {σ:List MO} (hlow:σ.all (MO.low σ.length)=true) (n:Nat) (hn:100<=n):a0e a4u n 31 [.agg row,.agg (bpv s)] σ=some (d9A e s,σ):=by
 obtain ⟨q,rfl⟩:∃ q,n=q+2:=⟨n-2,by omega⟩
 have hT:a4u 31=some flatten_Offers_S:=c3c _ _ d9w
 have htab:=d0k hrow he s hlow q
 have hmin:chk e=0->s.cnt≠0->a0e a4u (q+1) 60 [.sl 1 (a0P (a5n e s)),.agg (bpv s)] σ=some (d7A s (a5n e s) (a5n e s).length,σ):=fun h1 h2 =>
  evH (d8m s h2 (d9t h2) (d9N h1 h2) rfl hlow (q+1) (by omega))
 obtain ⟨R,z,hR⟩:=d8u s (a5n e s) (a5n e s).length
 rw [hR] at hmin
 have hV:=d8r R
 have hsh:=fun z=>shV hV z
 have hshT:=fun z=>shV (V:=.sl 1 (a0P (a5n e s))) rfl z
 have hshN:=fun z=>shV (V:=.nilS) rfl z
 have hone:(PV.sl 1 (a0P (a5n e s))).one=true:=rfl
 have hnn:PV.nilS.one=true:=rfl
 have hz0:eqB 0 0=true:=rfl
 have hz3:eqB 3 0=false:=rfl
 unfold a3V at htab
 unfold d9A
 rw [hR]
 generalize a5n e s=T at *
 generalize chk e=ck at *
 clear hR
 obtain ⟨op,a,b',c,d,e',f,v,l⟩:=e
 simp only [IsE] at hrow
 obtain ⟨x,rows,rfl,hx,hl⟩:=hrow
 obtain ⟨x1,x2,x3⟩:=a0T hx
 rw [a0e,hT]
 generalize a0e a4u (q+1)=Φ at *
 simp only [Q0,Sys.run]
 show ((a0i [.sh (.agg [_,_,_,_,_,_,_,_,_]),.sh (.agg [_,_,_,_,_,_])] _).bind _)=_
 have hB:bpv s=[.int .i64 s.a,.int .i64 s.b,.int .i64 s.c,.int .i64 s.d,.int .i64 s.e,.int .i64 s.f]:=rfl
 rw [hB] at htab hmin ⊢
 simp only [a0i,a0d,a0c,Q4,Q0,Q2,Q5,Q6,if_true,x3]
 show (PT.ev _ d5o _).bind _=_
 unfold err
 by_cases h1:ck=0
 case neg =>
  have q1:eqB ck 0=false:=eqF h1
  rw [if_pos h1] at htab ⊢
  have key:d5o.ev Φ { i:=[op,a,b',c,d,e',f,v,s.a,s.b,s.c,s.d,s.e,s.f],b:=[],v:=[x],m:=σ,k:=σ.length }=some (.ret (.tup [.nilS,.int .i64 ck]) σ):=by
   unfold d5o
   repeat (first | rw [a0B] | rw [a0A] | rw [a0D] | rw [a0p] | rw [a0q] | rw [a0m] | rw [a0M] | rw [a3f] | rw [a0C] | rw [a0y] | rw [a0r] | rw [a0N])<;>simp -implicitDefEqProofs only [↓reduceIte,eq_self,ξ2,ξ3,ξ4,ξ5,ξ6,ξ7,ξ8,ξ9,ξa,ξb,ξc,ξd,ξe,ξf,ξg,ξh,Nat.reduceAdd,ξi,if_true,if_false,ξl,ξm,ξn,ξo,ξp,ξq,ξr,ξs,ξt,ξu,ξv,ξw,ξx,ξy,ξz,ξA,ξB,ξC,ξD,ξE,htab,hshN,hnn,x3,q1,a0k,or_true]
  exact (congrArg (fun r=>Q3 r _) key)
 rw [if_neg (by simp [h1])] at htab ⊢
 by_cases h2:s.check=0
 case neg =>
  have q1:eqB s.check 0=false:=eqF h2
  rw [if_pos h2] at htab ⊢
  have key:d5o.ev Φ { i:=[op,a,b',c,d,e',f,v,s.a,s.b,s.c,s.d,s.e,s.f],b:=[],v:=[x],m:=σ,k:=σ.length }=some (.ret (.tup [.nilS,.int .i64 s.check]) σ):=by
   unfold d5o
   repeat (first | rw [a0B] | rw [a0A] | rw [a0D] | rw [a0p] | rw [a0q] | rw [a0m] | rw [a0M] | rw [a3f] | rw [a0C] | rw [a0y] | rw [a0r] | rw [a0N])<;>simp -implicitDefEqProofs only [↓reduceIte,eq_self,ξ2,ξ3,ξ4,ξ5,ξ6,ξ7,ξ8,ξ9,ξa,ξb,ξc,ξd,ξe,ξf,ξg,ξh,Nat.reduceAdd,ξi,if_true,if_false,ξl,ξm,ξn,ξo,ξp,ξq,ξr,ξs,ξt,ξu,ξv,ξw,ξx,ξy,ξz,ξA,ξB,ξC,ξD,ξE,htab,hshN,hnn,x3,q1,a0k,or_true]
  exact (congrArg (fun r=>Q3 r _) key)
 rw [if_neg (by simp [h2])] at htab ⊢
 by_cases h3:s.cnt=0
 ·rw [if_pos h3] at htab ⊢
  have key:d5o.ev Φ { i:=[op,a,b',c,d,e',f,v,s.a,s.b,s.c,s.d,s.e,s.f],b:=[],v:=[x],m:=σ,k:=σ.length }=some (.ret (.tup [.nilS,.int .i64 3]) σ):=by
   unfold d5o
   repeat (first | rw [a0B] | rw [a0A] | rw [a0D] | rw [a0p] | rw [a0q] | rw [a0m] | rw [a0M] | rw [a3f] | rw [a0C] | rw [a0y] | rw [a0r] | rw [a0N])<;>simp -implicitDefEqProofs only [↓reduceIte,eq_self,ξ2,ξ3,ξ4,ξ5,ξ6,ξ7,ξ8,ξ9,ξa,ξb,ξc,ξd,ξe,ξf,ξg,ξh,Nat.reduceAdd,ξi,if_true,if_false,ξl,ξm,ξn,ξo,ξp,ξq,ξr,ξs,ξt,ξu,ξv,ξw,ξx,ξy,ξz,ξA,ξB,ξC,ξD,ξE,htab,hshN,hnn,x3,hz3,a0k,or_true]
  exact (congrArg (fun r=>Q3 r _) key)
 rw [if_neg h3] at htab ⊢
 have hm:=hmin h1 h3
 have key:d5o.ev Φ { i:=[op,a,b',c,d,e',f,v,s.a,s.b,s.c,s.d,s.e,s.f],b:=[],v:=[x],m:=σ,k:=σ.length }=some (.ret (.tup [oV R,.int .i64 z]) σ):=by
  generalize oV R=V at *
  unfold d5o
  repeat (first | rw [a0B] | rw [a0A] | rw [a0D] | rw [a0p] | rw [a0q] | rw [a0m] | rw [a0M] | rw [a3f] | rw [a0C] | rw [a0y] | rw [a0r] | rw [a0N])<;>simp -implicitDefEqProofs only [↓reduceIte,eq_self,ξ2,ξ3,ξ4,ξ5,ξ6,ξ7,ξ8,ξ9,ξa,ξb,ξc,ξd,ξe,ξf,ξg,ξh,Nat.reduceAdd,ξi,if_true,if_false,ξl,ξm,ξn,ξo,ξp,ξq,ξr,ξs,ξt,ξu,ξv,ξw,ξx,ξy,ξz,ξA,ξB,ξC,ξD,ξE,htab,hshT,hone,x3,hz0,hm,hsh,hV,a0k,or_true]
 exact (congrArg (fun r=>Q3 r _) key)
theorem d9L (hrow:IsE e row) (he:e.size<=1000000) (s:Bd) {σ:List MO} (hlow:σ.all (MO.low σ.length)=true) (n:Nat) (hn:e.size+20<=n):a0e Tab n 29 [.agg row,.agg (bpv s)] σ=some (.bool (decide (e.size<=60)&&decide (s.cnt<=100)),σ):=by
 obtain ⟨q,rfl⟩:∃ q,n=q+3:=⟨n-3,by omega⟩
 have h1:=d9J σ hlow e row hrow (q+2) (by omega) he
 have h2:=a4a s σ q
 simp only [d9f] at h1
 have q1:leB (e.size:Int) 60=decide (e.size<=60):=by simp [leB]; omega
 have q2:leB s.cnt 100=decide (s.cnt<=100):=rfl
 generalize e.size=sz at *
 obtain ⟨op,a,b',c,d,e',f,v,l⟩:=e
 simp only [IsE] at hrow
 obtain ⟨x,rows,rfl,hx,hl⟩:=hrow
 obtain ⟨x1,x2,x3⟩:=a0T hx
 rw [a0e,d9p]
 generalize a0e Tab (q+2)=Φ at *
 simp only [Q0,Sys.run]
 show ((a0i [.sh (.agg [_,_,_,_,_,_,_,_,_]),.sh (.agg [_,_,_,_,_,_])] _).bind _)=_
 generalize s.cnt=cz at *
 have hB:bpv s=[.int .i64 s.a,.int .i64 s.b,.int .i64 s.c,.int .i64 s.d,.int .i64 s.e,.int .i64 s.f]:=rfl
 rw [hB] at h2 ⊢
 simp only [a0i,a0d,a0c,Q4,Q0,Q2,Q5,Q6,if_true,x3]
 show (PT.ev _ d8Z _).bind _=_
 generalize decide (cz<=100)=w2 at *
 cases hw:decide (sz<=60) with
 | true =>
  rw [hw] at q1
  simp -implicitDefEqProofs only [d8Z,↓reduceIte,eq_self,ξ1,ξ2,ξ3,ξ4,ξ5,ξ6,ξ7,ξ8,ξ9,ξa,ξb,ξc,ξd,ξe,ξf,ξg,ξh,Nat.reduceAdd,ξi,if_true,if_false,ξl,ξm,ξn,ξo,ξp,ξq,ξr,ξs,ξt,ξu,ξv,ξw,ξx,ξy,ξz,ξA,ξB,ξC,ξD,ξE,x3,h1,h2,q1,q2,a0k,or_true,Qh]
 | false =>
  rw [hw] at q1
  simp -implicitDefEqProofs only [d8Z,↓reduceIte,eq_self,ξ1,ξ2,ξ3,ξ4,ξ5,ξ6,ξ7,ξ8,ξ9,ξa,ξb,ξc,ξd,ξe,ξf,ξg,ξh,Nat.reduceAdd,ξi,if_true,if_false,ξl,ξm,ξn,ξo,ξp,ξq,ξr,ξs,ξt,ξu,ξv,ξw,ξx,ξy,ξz,ξA,ξB,ξC,ξD,ξE,x3,h1,q1,a0k,or_true,QB]
end
end Go.Proofs.Ythmkfeiapdbojaa
set_option maxRecDepth 100000
namespace Go.Proofs.Ythmkfeiapdbojaa
open Go.Sx Go.Kv Go.Bun
section
variable {e:Ex} {row:List PV} {s:Bd} {t:List Int} {N:Nat}
theorem e0i {b:Bd} {c:Int}:∀ (L:List Of) (m:Int),L.foldl (d3W b) m<=c↔m<=c/\∀ o∈L,o.w.Le b->o.v<=c
 | [],m=>by simp
 | o::L,m=>by
  rw [Qv,e0i L]
  unfold d3W
  rw [d8R]
  simp only [Qn,forall_eq_or_imp]
  exact and_assoc
theorem e0h {o:Of} {n:Nat}:o∈d7s s t N n↔∃ i < n,0 < i/\d7H s t N i=true/\o=d7Z s t i:=by
 unfold d7s
 simp only [Qs,Qw,Qa,Qf,decide_eq_true_eq]
 constructor
 ·rintro ⟨i,⟨h1,h2,h3⟩,rfl⟩; exact ⟨i,h1,h2,h3,rfl⟩
 ·rintro ⟨i,h1,h2,h3,rfl⟩; exact ⟨i,⟨h1,h2,h3⟩,rfl⟩
theorem e0l {i:Nat} (h:d7H s t N i=false):∃ k < N,k≠i/\t.getD i 0<=t.getD k 0/\(s.unr k).Le (s.unr i):=by
 unfold d7H at h
 rw [List.all_eq_false] at h
 obtain ⟨k,hk,h⟩:=h
 unfold d7J at h
 simp only [Qg,Bool.not_eq_false,Bool.not_not,Qf,Qg,decide_eq_true_eq,decide_eq_false_iff_not] at h
 exact ⟨k,Qa.1 hk,h.1,h.2.1,h.2.2⟩
theorem e0m (hN:(N:Int)=s.cnt) (h0:t.getD 0 0=0) (hm:∀ k < N,∀ i < N,(s.unr k).Le (s.unr i)->t.getD k 0<=t.getD i 0) (hnn:∀ i < N,0<=t.getD i 0) {i:Nat} (hi:i < N):d5B (s.unr i) (d7s s t N N)=t.getD i 0:=by
 refine a1O fun c=>?_
 unfold d5B
 rw [e0i]
 constructor
 ·rintro ⟨hc,ho⟩
  have key:∀ i,i < N->(∀ k < N,0 < k->d7H s t N k=true->(s.unr k).Le (s.unr i)->t.getD k 0<=c)->t.getD i 0<=c:=by
   intro i
   induction i using Nat.strongRecOn with
   | _ i ih =>
    intro hi hk
    rcases Nat.eq_zero_or_pos i with rfl | hpos
    ·rw [h0]; exact hc
    cases ha:d7H s t N i with
    | true=>exact hk i hi hpos ha (d8k _)
    | false =>
     obtain ⟨k,hkN,hki,htk,hl⟩:=e0l ha
     obtain ⟨o1,o2⟩:=a7N (s:=s) (n:=i) (by omega) rfl
     rcases o2 (s.unr k) (a3m (Bd.ok_of_cnt (s:=s) (by omega)) k).1 hl with he | ⟨st,hst,m,m1,m2,m3⟩
     ·exact absurd (d8O hN hi hkN he) hki
     ·obtain ⟨m',m1',_,m3',_,_⟩:=o1 st hst
      obtain rfl:m=m':=by omega
      have:=ih m m2 (by omega) (fun k' hk' hp' ha' hl'=>hk k' hk' hp' ha' (d8F hl' m3'))
      exact Qd htk (Qd (hm k hkN m (by omega) m3) this)
  exact key i hi (fun k hk hp ha hl=>ho (d7Z s t k) (e0h.2 ⟨k,hk,hp,ha,rfl⟩) hl)
 ·intro h
  refine ⟨Qd (hnn i hi) h,fun o ho hl=>?_⟩
  obtain ⟨k,hk,_,_,rfl⟩:=e0h.1 ho
  exact Qd (hm k hk i hi hl) h
theorem e0n (h1:chk e=0) (h2:s.cnt≠0) {i:Nat} (hi:i < (a5n e s).length):d5B (s.unr i) (d7s s (a5n e s) (a5n e s).length (a5n e s).length)=(a5n e s).getD i 0:=by
 refine e0m (d9t h2) (d9R h1 h2) (fun k hk j hj hl=>?_) (fun j hj=>?_) hi
 ·rw [d9B h1 h2 hk,d9B h1 h2 hj]; exact c9E hl
 ·rw [d9B h1 h2 hj]; exact b5c _ _
def fvE (t:List Int) (V:PV) (s:Bd) (i:Nat):PEnv:={ i:=[(t.length:Int),(i:Int)],b:=[],v:=[V,.sl 6 (a2b (Lk s 6)),.sl 1 (a0P t)],m:=[],k:=0 }
theorem e0k {Φ:Fns} (hc:s.cnt≠0) (htl:(t.length:Int)=s.cnt) {V:PV} (hV:V.one=true) (hval:∀ i < t.length,Φ 37 [V,.agg (bpv (s.unr i))] []=some (.int .i64 (t.getD i 0),[])) (ha:Φ d3Z [] []=some (.bool true,[])) (n:Nat) (hn:t.length+1<=n) :
  saleroomlaw14_FlattenValue_S.loop Φ n 0 (fvE t V s 0)=some (.bool true,[]):=by
 have hcl:=a6p hc
 have hlen:(PV.sl 1 (a0P t)).len=(t.length:Int):=by simp [PV.len,b5n]
 have hlenB:(PV.sl 6 (a2b (Lk s 6))).len=(t.length:Int):=by
  have:=c1Z hc
  simp only [PV.len,a8p]; omega
 have hone:(PV.sl 1 (a0P t)).one=true:=rfl
 have honeB:(PV.sl 6 (a2b (Lk s 6))).one=true:=rfl
 have step:∀ i:Nat,i < t.length->∀ fuel,saleroomlaw14_FlattenValue_S.loop Φ (fuel+1) 0 (fvE t V s i)=saleroomlaw14_FlattenValue_S.loop Φ fuel 0 (fvE t V s (i+1)):=by
  intro i hi fuel
  obtain ⟨x,hx⟩:=a3n hi
  have ex:t.getD i 0=x:=by rw [Q1,hx]; rfl
  have l1:=b4y hx
  have l3:=a4d (off:=0) (d6I 6 (a2b (Lk s 6))) (d8c hc htl hi)
  have q0:ltB (i:Int) (t.length:Int)=true:=by simp [ltB]; exact hi
  have q2:=a2h (i:=i) (by omega)
  have hv:=hval i hi
  rw [ex] at hv
  have hxx:eqB x x=true:=a2Y x
  unfold fvE
  generalize a2b (Lk s 6)=RB at *
  generalize s.unr i=u at *
  obtain ⟨u0,u1,u2,u3,u4,u5⟩:=u
  simp only [bpv] at hv l3
  rw [Sys.loop,show saleroomlaw14_FlattenValue_S.loops[0]?=some d9T from rfl]
  simp -implicitDefEqProofs only [Q0,d9T,↓reduceIte,eq_self,ξ1,ξ2,ξ3,ξ4,ξ5,ξ6,ξ7,ξ8,ξ9,ξa,ξb,ξc,ξd,ξe,ξf,ξg,ξh,Nat.reduceAdd,ξi,if_true,if_false,ξl,ξm,ξn,ξo,ξp,ξq,ξr,ξs,ξt,ξu,ξv,ξw,ξx,ξy,ξz,ξA,ξB,ξC,ξD,ξE,hlen,hlenB,q0,le0,l1,l3,hV,hv,hxx,q2,a0v,hone,honeB]
 have h0:=d5C (fvE t V s) step n (by omega)
 rw [h0]
 obtain ⟨fu,hfu⟩:∃ k,n-t.length=k+1:=⟨n-t.length-1,by omega⟩
 have q0:ltB (t.length:Int) (t.length:Int)=false:=by simp [ltB]
 rw [hfu,Sys.loop,show saleroomlaw14_FlattenValue_S.loops[0]?=some d9T from rfl]
 simp only [d3Z] at ha
 simp -implicitDefEqProofs only [Q0,d9T,fvE,↓reduceIte,eq_self,ξ1,ξ2,ξ3,ξ4,ξ5,ξ6,ξ7,ξ8,ξ9,ξa,ξb,ξc,ξd,ξe,ξf,ξg,ξh,Nat.reduceAdd,ξi,if_true,if_false,ξl,ξm,ξn,ξo,ξp,ξq,ξr,ξs,ξt,ξu,ξv,ξw,ξx,ξy,ξz,ξA,ξB,ξC,ξD,ξE,q0,ha,a0k,or_true,Qe]
theorem e0j (hrow:IsE e row) (hs:e.size<=1000000) (s:Bd) (n:Nat) (hn:6000000<=n):a0e a4u (n+1) d9U [.agg row,.agg (bpv s)] []=some (.bool true,[]):=by
 have ha:=d5O (n:=n) (by omega)
 have hT:a4u d9U=some saleroomlaw14_FlattenValue_S:=c3c _ _ d9Y
 have h0:=evH (d9L (σ:=[]) hrow hs s rfl n (by omega))
 have h1:e.size<=60->a0e a4u n 31 [.agg row,.agg (bpv s)] []=some (d9A e s,[]):=fun h=>d9G (σ:=[]) hrow (by omega) s rfl n (by omega)
 have h2:e.size<=60->a0e a4u n 25 [.agg row,.agg (bpv s)] []=some (a3V e s,[]):=fun h=>evH (c5V (σ:=[]) hrow (by omega) rfl s n (by omega))
 have h3:s.cnt≠0->a0e a4u n 36 [.agg (bpv s)] []=some (.sl 6 (a2b (Lk s 6)),[]):=fun h=>evH (c9P s h (σ:=[]) rfl n (by omega))
 have hlp:chk e=0->s.cnt≠0->saleroomlaw14_FlattenValue_S.loop (a0e a4u n) n 0 (fvE (a5n e s) (oV (d7s s (a5n e s) (a5n e s).length (a5n e s).length)) s 0)=some (.bool true,[]):=by
  intro k1 k2
  have hcl:=a6p k2
  have hl:=d9t (e:=e) k2
  refine e0k k2 hl (d8r _) (fun i hi=>?_) ha n (by omega)
  rw [<- e0n k1 k2 hi]
  have:=d8g s (a5n e s) (a5n e s).length (a5n e s).length
  exact evH (d5K (σ:=[]) (d6E _) (by omega) (s.unr i) n (by omega))
 have hsh:=fun R z=>shV (d8r R) z
 have hshN:=fun z=>shV (V:=.nilS) rfl z
 have hshT:=fun z=>shV (V:=.sl 1 (a0P (a5n e s))) rfl z
 have hw:(decide (e.size<=60)&&decide (s.cnt<=100))=true->e.size<=60:=fun h=>by simp only [Qf,decide_eq_true_eq] at h; exact h.1
 generalize (decide (e.size<=60)&&decide (s.cnt<=100))=w at *
 unfold d9A d7A at h1
 unfold a3V at h2
 generalize a5n e s=T at *
 generalize chk e=ck at *
 obtain ⟨op,a,b',c,d,e',f,v,l⟩:=e
 simp only [IsE] at hrow
 obtain ⟨x,rows,rfl,hx,hl⟩:=hrow
 obtain ⟨x1,x2,x3⟩:=a0T hx
 rw [a0e,hT]
 generalize a0e a4u n=Φ at *
 simp only [Q0,Sys.run]
 show ((a0i [.sh (.agg [_,_,_,_,_,_,_,_,_]),.sh (.agg [_,_,_,_,_,_])] _).bind _)=_
 have hB:bpv s=[.int .i64 s.a,.int .i64 s.b,.int .i64 s.c,.int .i64 s.d,.int .i64 s.e,.int .i64 s.f]:=rfl
 rw [hB] at h0 h1 h2 h3 ⊢
 simp only [a0i,a0d,a0c,Q4,Q0,Q2,Q5,Q6,if_true,x3]
 show (PT.ev _ d9S _).bind _=_
 have hnn:PV.nilS.one=true:=rfl
 unfold err at h1
 have bad:∀ z:Int,z≠0->Φ 31 [.agg [.int .i64 op,.int .i64 a,.int .i64 b',.int .i64 c,.int .i64 d,.int .i64 e',.int .i64 f,.int .i64 v,x],.agg [.int .i64 s.a,.int .i64 s.b,.int .i64 s.c,.int .i64 s.d,.int .i64 s.e,.int .i64 s.f]] []=some (.tup [.nilS,.int .i64 z],[])->Φ d9E [.agg [.int .i64 op,.int .i64 a,.int .i64 b',.int .i64 c,.int .i64 d,.int .i64 e',.int .i64 f,.int .i64 v,x],.agg [.int .i64 s.a,.int .i64 s.b,.int .i64 s.c,.int .i64 s.d,.int .i64 s.e,.int .i64 s.f]] []=some (.bool true,[]) ->
   d9S.ev Φ { i:=[op,a,b',c,d,e',f,v,s.a,s.b,s.c,s.d,s.e,s.f],b:=[],v:=[x],m:=[],k:=0 }=some (.ret (.bool true) []):=by
  intro z hz hbad h0
  have hz0:eqB z 0=false:=eqF hz
  simp only [d9E] at h0
  unfold d9S
  repeat (first | rw [a0B] | rw [a0A] | rw [a0D] | rw [a0p] | rw [a0q] | rw [a0m] | rw [a0M] | rw [a3f] | rw [a0C] | rw [a0y] | rw [a0r] | rw [a0N])<;>simp -implicitDefEqProofs only [↓reduceIte,eq_self,ξ2,ξ3,ξ4,ξ5,ξ6,ξ7,ξ8,ξ9,ξa,ξb,ξc,ξd,ξe,ξf,ξg,ξh,Nat.reduceAdd,ξi,if_true,if_false,ξl,ξm,ξn,ξo,ξp,ξq,ξr,ξs,ξt,ξu,ξv,ξw,ξx,ξy,ξz,ξA,ξB,ξC,ξD,ξE,h0,x3,ha,hbad,hshN,hz0,hnn,a0k,or_true,Qe]
 cases w with
 | false =>
  have key:d9S.ev Φ { i:=[op,a,b',c,d,e',f,v,s.a,s.b,s.c,s.d,s.e,s.f],b:=[],v:=[x],m:=[],k:=0 }=some (.ret (.bool true) []):=by
   unfold d9S
   repeat (first | rw [a0B] | rw [a0A] | rw [a0D] | rw [a0p] | rw [a0q] | rw [a0m] | rw [a0M] | rw [a3f] | rw [a0C] | rw [a0y] | rw [a0r] | rw [a0N])<;>simp -implicitDefEqProofs only [↓reduceIte,eq_self,ξ2,ξ3,ξ4,ξ5,ξ6,ξ7,ξ8,ξ9,ξa,ξb,ξc,ξd,ξe,ξf,ξg,ξh,Nat.reduceAdd,ξi,if_true,if_false,ξl,ξm,ξn,ξo,ξp,ξq,ξr,ξs,ξt,ξu,ξv,ξw,ξx,ξy,ξz,ξA,ξB,ξC,ξD,ξE,h0,x3,ha,a0k,or_true,Qe]
  exact (congrArg (fun r=>Q3 r _) key)
 | true =>
  have h1:=h1 (hw rfl)
  have h2:=h2 (hw rfl)
  by_cases k1:ck=0
  case neg =>
   rw [if_pos k1] at h1
   exact (congrArg (fun r=>Q3 r _) (bad ck k1 h1 h0))
  rw [if_neg (by simp [k1])] at h1 h2
  by_cases k2:s.check=0
  case neg =>
   rw [if_pos k2] at h1
   exact (congrArg (fun r=>Q3 r _) (bad s.check k2 h1 h0))
  rw [if_neg (by simp [k2])] at h1 h2
  by_cases k3:s.cnt=0
  ·rw [if_pos k3] at h1
   exact (congrArg (fun r=>Q3 r _) (bad 3 (by decide) h1 h0))
  rw [if_neg k3] at h1 h2
  by_cases k4:40 < (d7s s T T.length T.length).length
  ·rw [if_pos k4] at h1
   exact (congrArg (fun r=>Q3 r _) (bad 3 (by decide) h1 h0))
  rw [if_neg k4] at h1
  have h3:=h3 k3
  have hlp:=hlp k1 k3
  have hone:=d8r (d7s s T T.length T.length)
  have hsh:=hsh (d7s s T T.length T.length)
  refine Eq.trans ?_ hlp
  unfold fvE
  generalize oV (d7s s T T.length T.length)=V at *
  have hone1:(PV.sl 1 (a0P T)).one=true:=rfl
  have hkind:(PV.sl 1 (a0P T)).isKind 0=true:=rfl
  have hone6:(PV.sl 6 (a2b (Lk s 6))).one=true:=rfl
  have hlen:(PV.sl 1 (a0P T)).len=(T.length:Int):=by simp [PV.len,b5n]
  have hz0:eqB 0 0=true:=rfl
  generalize a2b (Lk s 6)=RB at *
  have key:d9S.ev Φ { i:=[op,a,b',c,d,e',f,v,s.a,s.b,s.c,s.d,s.e,s.f],b:=[],v:=[x],m:=[],k:=0 }=some (.jump 0 { i:=[(T.length:Int),((0:Nat):Int)],b:=[],v:=[V,.sl 6 RB,.sl 1 (a0P T)],m:=[],k:=0 }):=by
   have nat_0:((0:Nat):Int)=0:=rfl
   unfold d9S
   repeat (first | rw [a0B] | rw [a0A] | rw [a0D] | rw [a0p] | rw [a0q] | rw [a0m] | rw [a0M] | rw [a3f] | rw [a0C] | rw [a0y] | rw [a0r] | rw [a0N])<;>simp -implicitDefEqProofs only [↓reduceIte,eq_self,ξ2,ξ3,ξ4,ξ5,ξ6,ξ7,ξ8,ξ9,ξa,ξb,ξc,ξd,ξe,ξf,ξg,ξh,Nat.reduceAdd,ξi,if_true,if_false,ξl,ξm,ξn,ξo,ξp,ξq,ξr,ξs,ξt,ξu,ξv,ξw,ξx,ξy,ξz,ξA,ξB,ξC,ξD,ξE,h0,x3,ha,h1,h2,h3,hsh,hshT,hone,hone1,hone6,hkind,hlen,hz0,a0k,or_true,Qe,nat_0]
  exact (congrArg (fun r=>Q3 r _) key)
end
end Go.Proofs.Ythmkfeiapdbojaa
