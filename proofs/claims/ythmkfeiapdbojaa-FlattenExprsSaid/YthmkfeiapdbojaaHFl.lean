/- The chapter's examples hold. -/
import Derived.Test.YthmkfeiapdbojaaHVn
import Derived.Test.YthmkfeiapdbojaaHVq
import Derived.Test.YthmkfeiapdbojaaHGx
import Derived.Test.YthmkfeiapdbojaaHSaa
import Derived.Test.YthmkfeiapdbojaaHSab
import Derived.Test.YthmkfeiapdbojaaHVr
import Derived.Test.YthmkfeiapdbojaaHSac
set_option linter.unusedSimpArgs false
set_option linter.unusedVariables false
open Go.Sx.PT renaming ev → ξ1
open Go.Sx.BE renaming safe → ξ2, pe → ξ3, all → ξz
open Go.Sx.IE renaming pe → ξ4
open Go.Sx renaming PEnv.at → ξ5
open Go.Sx.PEnv renaming push → ξt
open List renaming getD_cons_zero → ξ6, getD_cons_succ → ξ7, getElem?_cons_zero → ξ8, getElem?_cons_succ → ξ9, drop_zero → ξf, length_cons → ξg, length_nil → ξh, take_succ_cons → ξm, take_zero → ξn, cons_append → ξu, nil_append → ξv, append_nil → ξw, map_cons → ξD, map_nil → ξE
open Go.Sx renaming a0g → ξa, a0h → ξb, a0b → ξc, a0f → ξd, a0c → ξo, a0a → ξp, a0d → ξq, a0N → ξF, a0D → ξG, a0p → ξH, a0q → ξI, a0C → ξJ, a1d → ξK, a0Z → ξL, a1e → ξM, a0Y → ξN, a0A → ξO, a0n → ξP, a0B → ξQ, a0M → ξR, a0m → ξS, a0y → ξT, a0R → ξU, a0H → ξV, a0I → ξW, a0J → ξX, a0r → ξY
open Nat renaming add_zero → ξe, le_refl → ξi
open Bool renaming false_eq_true → ξl, and_self → ξA, not_true → ξB, not_false → ξC
open Option renaming map_some → ξr, bind_some → ξs
open Go.Sx.SV renaming pvs → ξx, pv → ξy
open Option renaming bind_some → Q0
open List renaming countP_cons → Q1, mem_range → Q2
set_option maxRecDepth 1000000
namespace Go.Proofs.Ythmkfeiapdbojaa
open Go.Sx Go.Kv
theorem d5V:a0e a4u 2000 d3Z [] []=some (.bool true,[]):=by kernel_rfl
end Go.Proofs.Ythmkfeiapdbojaa
set_option maxRecDepth 100000
namespace Go.Proofs.Ythmkfeiapdbojaa
open Go.Sx Go.Kv Go.Bun
structure Of where
 p:Int
 w:Bd
 v:Int
 deriving DecidableEq,Inhabited
def Of.pv (o:Of):List PV:=[.int .i64 o.p,.int .i64 o.w.a,.int .i64 o.w.b,.int .i64 o.w.c,.int .i64 o.w.d,.int .i64 o.w.e,.int .i64 o.w.f,.int .i64 o.v]
def osR (L:List Of):List (List PV):=L.map Of.pv
theorem d5U (L:List Of):(osR L).length=L.length:=by simp [osR]
theorem d5z {L:List Of} {i:Nat} {o:Of} (h:L[i]?=some o):(osR L)[i]?=some o.pv:=by simp [osR,h]
def d5w (L:List Of) (x:PV):Prop:=x.rowsOf 8=some (osR L)
theorem d5h {L:List Of} {x:PV} (h:d5w L x):x.len=(L.length:Int)/\x.isKind 0=true/\x.one=true:=by
 obtain ⟨h1,h2,h3⟩:=a0T h
 exact ⟨by rw [h1,d5U],h2,h3⟩
def d3W (b:Bd) (m:Int) (o:Of):Int:=if o.w.Le b then mxI m o.v else m
def d5B (b:Bd) (L:List Of):Int:=L.foldl (d3W b) 0
theorem d5M:Ext Tab:=by
 intro f S h
 unfold tabW at h
 repeat' split at h
 all_goals first
  | (cases h; done)
  | (rename_i hf; subst hf; cases h; first | exact d4g | exact d5d | exact d5u | exact d5y | exact d5q)
theorem d5G (x y:Bd) (σ:List MO) (n:Nat):a0e Tab (n+2) 62 [.agg (bpv x),.agg (bpv y)] σ=some (.bool (decide (x.Le y)),σ):=by
 have:=c5Q d5M n σ (a:=x.l) (b:=y.l) rfl rfl
 rw [show leL x.l y.l=decide (x.Le y) by rw [Bool.eq_iff_iff,a7e,decide_eq_true_eq]] at this
 exact this
section
variable {σ:List MO} {L:List Of} {x:PV}
theorem d5K (hx:d5w L x) (hL:L.length<=1000000) (b:Bd) (n:Nat) (hn:L.length+10<=n):a0e Tab n 37 [x,.agg (bpv b)] σ=some (.int .i64 (d5B b L),σ):=by
 obtain ⟨q,rfl⟩:∃ q,n=q+3:=⟨n-3,by omega⟩
 obtain ⟨x1,x2,x3⟩:=d5h hx
 have step:∀ i:Nat,i < L.length->∀ fuel,flatten_Value_S.loop (a0e Tab (q+2)) (fuel+1) 0 { i:=[(L.take i).foldl (d3W b) 0,(L.length:Int),(i:Int),b.a,b.b,b.c,b.d,b.e,b.f],b:=[],v:=[x],m:=σ,k:=σ.length } =
   flatten_Value_S.loop (a0e Tab (q+2)) fuel 0 { i:=[(L.take (i+1)).foldl (d3W b) 0,(L.length:Int),((i+1:Nat):Int),b.a,b.b,b.c,b.d,b.e,b.f],b:=[],v:=[x],m:=σ,k:=σ.length }:=by
  intro i hi fuel
  obtain ⟨o,ho⟩:=a3n hi
  rw [d5v (d3W b) 0 ho]
  generalize (L.take i).foldl (d3W b) 0=z at *
  have hw:=d5G o.w b σ q
  have hloc:=a4d (off:=0) hx (d5z ho)
  have q0:ltB (i:Int) (L.length:Int)=true:=by simp [ltB]; exact hi
  have q2:=a2h (i:=i) (by omega)
  obtain ⟨p,w,v⟩:=o
  unfold d3W
  simp only at hw ⊢
  rw [Sys.loop,show flatten_Value_S.loops[0]?=some d3S from rfl]
  by_cases hle:w.Le b
  ·rw [decide_eq_true hle] at hw
   rw [if_pos hle]
   obtain ⟨w0,w1,w2,w3,w4,w5⟩:=w
   simp only [bpv] at hw
   by_cases hv:z < v
   ·have qv:ltB z v=true:=by simp [ltB]; exact hv
    rw [show mxI z v=v by unfold mxI; rw [if_pos hv]]
    simp -implicitDefEqProofs only [Q0,d3S,↓reduceIte,eq_self,ξ1,ξ2,ξ3,ξ4,ξ5,ξ6,ξ7,ξ8,ξ9,ξa,ξb,ξc,ξd,ξe,ξf,ξg,ξh,Nat.reduceAdd,ξi,if_true,if_false,ξl,ξm,ξn,ξo,ξp,ξq,ξr,ξs,ξt,ξu,ξv,ξw,ξx,ξy,ξz,ξA,ξB,ξC,ξD,ξE,q0,x1,le0,hloc,Of.pv,qv,hw,q2,a0v]
   ·have qv:ltB z v=false:=by simp [ltB]; omega
    rw [show mxI z v=z by unfold mxI; rw [if_neg hv]]
    simp -implicitDefEqProofs only [Q0,d3S,↓reduceIte,eq_self,ξ1,ξ2,ξ3,ξ4,ξ5,ξ6,ξ7,ξ8,ξ9,ξa,ξb,ξc,ξd,ξe,ξf,ξg,ξh,Nat.reduceAdd,ξi,if_true,if_false,ξl,ξm,ξn,ξo,ξp,ξq,ξr,ξs,ξt,ξu,ξv,ξw,ξx,ξy,ξz,ξA,ξB,ξC,ξD,ξE,q0,x1,le0,hloc,Of.pv,qv,hw,q2,a0v]
  ·rw [decide_eq_false hle] at hw
   rw [if_neg hle]
   obtain ⟨w0,w1,w2,w3,w4,w5⟩:=w
   simp only [bpv] at hw
   cases qv:ltB z v<;>simp -implicitDefEqProofs only [Q0,d3S,↓reduceIte,eq_self,ξ1,ξ2,ξ3,ξ4,ξ5,ξ6,ξ7,ξ8,ξ9,ξa,ξb,ξc,ξd,ξe,ξf,ξg,ξh,Nat.reduceAdd,ξi,if_true,if_false,ξl,ξm,ξn,ξo,ξp,ξq,ξr,ξs,ξt,ξu,ξv,ξw,ξx,ξy,ξz,ξA,ξB,ξC,ξD,ξE,q0,x1,le0,hloc,Of.pv,qv,hw,q2,a0v]
 have h0:=d5C (fun i=>{ i:=[(L.take i).foldl (d3W b) 0,(L.length:Int),(i:Int),b.a,b.b,b.c,b.d,b.e,b.f],b:=[],v:=[x],m:=σ,k:=σ.length }) step (q+2) (by omega)
 rw [a0e,d5b]
 simp only [Q0,Sys.run]
 show ((a0i [.sh (.one _),.sh (.agg [_,_,_,_,_,_])] _).bind _)=_
 simp only [bpv,a0i,a0d,a0c,Option.map_some,Q0,List.append_nil,List.nil_append,List.cons_append,if_true,x3]
 show (PT.ev _ d4b _).bind _=_
 refine Eq.trans (b:=flatten_Value_S.loop (a0e Tab (q+2)) (q+2) 0 { i:=[(L.take 0).foldl (d3W b) 0,(L.length:Int),((0:Nat):Int),b.a,b.b,b.c,b.d,b.e,b.f],b:=[],v:=[x],m:=σ,k:=σ.length }) ?_ ?_
 ·simp -implicitDefEqProofs only [d4b,↓reduceIte,eq_self,ξ1,ξ2,ξ3,ξ4,ξ5,ξ6,ξ7,ξ8,ξ9,ξa,ξb,ξc,ξd,ξe,ξf,ξg,ξh,Nat.reduceAdd,ξi,if_true,if_false,ξl,ξm,ξn,ξo,ξp,ξq,ξr,ξs,ξt,ξu,ξv,ξw,ξx,ξy,ξz,ξA,ξB,ξC,ξD,ξE,x1,x2]
  rfl
 rw [h0,List.take_length]
 obtain ⟨fu,hfu⟩:∃ k,q+2-L.length=k+1:=⟨q+1-L.length,by omega⟩
 have q0:ltB (L.length:Int) (L.length:Int)=false:=by simp [ltB]
 rw [hfu,Sys.loop,show flatten_Value_S.loops[0]?=some d3S from rfl]
 unfold d5B
 simp -implicitDefEqProofs only [Q0,d3S,↓reduceIte,eq_self,ξ1,ξ2,ξ3,ξ4,ξ5,ξ6,ξ7,ξ8,ξ9,ξa,ξb,ξc,ξd,ξe,ξf,ξg,ξh,Nat.reduceAdd,ξi,if_true,if_false,ξl,ξm,ξn,ξo,ξp,ξq,ξr,ξs,ξt,ξu,ξv,ξw,ξx,ξy,ξz,ξA,ξB,ξC,ξD,ξE,q0,a0k,or_true]
theorem d5O {n:Nat} (hn:2000<=n):a0e a4u n d3Z [] []=some (.bool true,[]):=c7R hn d5V
end
end Go.Proofs.Ythmkfeiapdbojaa
set_option maxRecDepth 100000
namespace Go.Proofs.Ythmkfeiapdbojaa
open Go.Sx Go.Kv Go.Bun
def d6j (L:List Of) (i k:Nat):Bool :=
 !decide (i=k)&&decide ((L.getD i default).p=(L.getD k default).p)&&decide ((L.getD k default).w.Le (L.getD i default).w)&&decide ((L.getD i default).v<=(L.getD k default).v) &&
 (!decide ((L.getD i default).w=(L.getD k default).w)||!decide ((L.getD i default).v=(L.getD k default).v)||decide (k < i))
def d6M (L:List Of) (i:Nat):Bool:=(List.range L.length).any (d6j L i)
def d6k (L:List Of) (i:Nat):Bool:=decide (1<=(L.getD i default).v)&&!d6M L i
theorem d6r {L:List Of} {i k:Nat}:d6j L i k=true↔i≠k/\(L.getD i default).p=(L.getD k default).p/\(L.getD k default).w.Le (L.getD i default).w/\(L.getD i default).v<=(L.getD k default).v /\
  ((L.getD i default).w≠(L.getD k default).w\/(L.getD i default).v≠(L.getD k default).v\/k < i):=by
 unfold d6j
 simp only [Bool.and_eq_true,Bool.or_eq_true,Bool.not_eq_true',decide_eq_true_eq,decide_eq_false_iff_not]
 constructor
 ·rintro ⟨⟨⟨⟨h1,h2⟩,h3⟩,h4⟩,h5⟩
  refine ⟨h1,h2,h3,h4,?_⟩
  rcases h5 with (h5 | h5) | h5
  ·exact .inl h5
  ·exact .inr (.inl h5)
  ·exact .inr (.inr h5)
 ·rintro ⟨h1,h2,h3,h4,h5⟩
  refine ⟨⟨⟨⟨h1,h2⟩,h3⟩,h4⟩,?_⟩
  rcases h5 with h5 | h5 | h5
  ·exact .inl (.inl h5)
  ·exact .inl (.inr h5)
  ·exact .inr h5
theorem d7b {x y:Bd} (h:x.Le y) (k:y.Le x):x=y:=by
 obtain ⟨a,b,c,d,e,f⟩:=x
 obtain ⟨a',b',c',d',e',f'⟩:=y
 simp only [Bd.Le] at h k
 simp only [Bd.mk.injEq]
 omega
theorem d7e {x y z:Bd} (h:x.Le y) (k:y.Le z):x.Le z:=by
 simp only [Bd.Le] at *
 omega
theorem d7k {L:List Of} {i k:Nat} (h:d6j L i k=true) (g:d6j L k i=true):False:=by
 rw [d6r] at *
 obtain ⟨h1,h2,h3,h4,h5⟩:=h
 obtain ⟨g1,g2,g3,g4,g5⟩:=g
 have e3:=d7b h3 g3
 have e4:(L.getD i default).v=(L.getD k default).v:=by omega
 have h6:k < i:=by
  rcases h5 with h5 | h5 | h5
  ·exact absurd e3.symm h5
  ·exact absurd e4 h5
  ·exact h5
 have g6:i < k:=by
  rcases g5 with g5 | g5 | g5
  ·exact absurd e3 g5
  ·exact absurd e4.symm g5
  ·exact g5
 omega
theorem d7f {L:List Of} {i k m:Nat} (h:d6j L i k=true) (g:d6j L k m=true):d6j L i m=true:=by
 by_cases he:i=m
 ·subst he; exact (d7k h g).elim
 rw [d6r] at *
 obtain ⟨h1,h2,h3,h4,h5⟩:=h
 obtain ⟨g1,g2,g3,g4,g5⟩:=g
 refine ⟨he,h2.trans g2,d7e g3 h3,Int.le_trans h4 g4,?_⟩
 by_cases e1:(L.getD i default).w=(L.getD m default).w
 ·by_cases e2:(L.getD i default).v=(L.getD m default).v
  ·have e3:(L.getD k default).w=(L.getD i default).w:=d7b h3 (by rw [e1]; exact g3)
   have e4:(L.getD k default).v=(L.getD i default).v:=by omega
   have c5:m < k:=by
    rcases g5 with c4 | c4 | c4
    ·exact absurd (e3.trans e1) c4
    ·exact absurd (e4.trans e2) c4
    ·exact c4
   have h6:k < i:=by
    rcases h5 with h5 | h5 | h5
    ·exact absurd e3.symm h5
    ·exact absurd e4.symm h5
    ·exact h5
   exact .inr (.inr (by omega))
  ·exact .inr (.inl e2)
 ·exact .inl e1
theorem d6Q {α:Type} {p q:α->Bool}:∀ {l:List α},(∀ x∈l,p x=true->q x=true)->(∃ x∈l,q x=true/\p x=false)->l.countP p < l.countP q
 | [],_,h=>by obtain ⟨x,hx,_⟩:=h; simp at hx
 | a::l,h,hx=>by
  have hle:l.countP p<=l.countP q:=List.countP_mono_left fun x hx=>h x (by simp [hx])
  have ha:=h a (by simp)
  rw [Q1,Q1]
  obtain ⟨x,hx,h1,h2⟩:=hx
  rcases List.mem_cons.1 hx with rfl | hx
  ·rw [h1,h2]; simp; omega
  ·have:=d6Q (fun y hy=>h y (by simp [hy])) ⟨x,hx,h1,h2⟩
   cases hp:p a with
   | false=>cases q a<;>simp<;>omega
   | true=>rw [ha hp]; simp; omega
theorem kept {L:List Of}:∀ (m i:Nat),(List.range L.length).countP (d6j L i)=m->i < L.length->1<=(L.getD i default).v->∃ j,j < L.length/\d6k L j=true/\(L.getD j default).p=(L.getD i default).p/\(L.getD j default).w.Le (L.getD i default).w/\(L.getD i default).v<=(L.getD j default).v:=by
 intro m
 induction m using Nat.strongRecOn with
 | _ m ih =>
  intro i hm hi hv
  by_cases hd:d6M L i=true
  ·obtain ⟨k,hk,hd⟩:=List.any_eq_true.1 hd
   rw [Q2] at hk
   have hdi:=d6r.1 hd
   obtain ⟨j,j1,j2,j3,j4,j5⟩:=ih _ (by
    rw [<- hm]
    exact d6Q (p:=d6j L k) (q:=d6j L i) (fun x _ hx=>d7f hd hx) ⟨k,Q2.2 hk,hd,by
     cases hkk:d6j L k k with
     | false=>rfl
     | true=>exact absurd rfl (d6r.1 hkk).1⟩) k rfl hk (by omega)
   exact ⟨j,j1,j2,j3.trans hdi.2.1.symm,d7e j4 hdi.2.2.1,by omega⟩
  ·refine ⟨i,hi,?_,rfl,by simp only [Bd.Le]; omega,Int.le_refl _⟩
   unfold d6k
   rw [decide_eq_true hv,Bool.true_and]
   simpa using hd
end Go.Proofs.Ythmkfeiapdbojaa
set_option maxRecDepth 100000
namespace Go.Proofs.Ythmkfeiapdbojaa
open Go.Sx Go.Kv Go.Bun
section
variable {σ:List MO} {L M:List Of} {x y:PV}
theorem b5I {L:List Of} {i:Nat} {o:Of} (h:L[i]?=some o):L.getD i default=o:=by rw [List.getD_eq_getElem?_getD,h]; rfl
end
end Go.Proofs.Ythmkfeiapdbojaa
set_option maxRecDepth 100000
namespace Go.Proofs.Ythmkfeiapdbojaa
open Go.Sx Go.Kv Go.Bun
section
variable {σ:List MO} {L M:List Of} {x y:PV}
end
end Go.Proofs.Ythmkfeiapdbojaa
set_option maxRecDepth 100000
namespace Go.Proofs.Ythmkfeiapdbojaa
open Go.Sx Go.Kv Go.Bun
open Go.Bun (offs)
section
variable {Φ:Fns} {σ:List MO} {h N:Nat} {M:List Int} {s0 s1 s2 s3 s4 s5 b0 b1 b2 b3 b4 b5:Int}
end
end Go.Proofs.Ythmkfeiapdbojaa
set_option maxRecDepth 100000
namespace Go.Proofs.Ythmkfeiapdbojaa
open Go.Sx Go.Kv Go.Bun
open Go.Bun (offs)
theorem d8d {a b c:Int}:mxI a b<=c↔a<=c/\b<=c:=by
 unfold mxI
 constructor
 ·intro h; split at h<;>omega
 ·rintro ⟨h1,h2⟩; split<;>omega
theorem d8R {p:Prop} [Decidable p] {a b c:Int}:(if p then mxI a b else a)<=c↔a<=c/\(p->b<=c):=by
 split
 ·rename_i h; rw [d8d]; exact ⟨fun h1=>⟨h1.1,fun _=>h1.2⟩,fun h1=>⟨h1.1,h1.2 h⟩⟩
 ·rename_i h; exact ⟨fun h1=>⟨h1,fun h2=>absurd h2 h⟩,fun h1=>h1.1⟩
end Go.Proofs.Ythmkfeiapdbojaa
set_option maxRecDepth 100000
namespace Go.Proofs.Ythmkfeiapdbojaa
open Go.Sx Go.Kv Go.Bun
section
variable {s:Bd} {t:List Int} {N:Nat}
end
end Go.Proofs.Ythmkfeiapdbojaa
set_option maxRecDepth 100000
namespace Go.Proofs.Ythmkfeiapdbojaa
open Go.Sx Go.Kv Go.Bun
def oR (R:List Of):List MO:=match R with | []=>[] | _::_=>[.row (osR R) 8 59]
def mnM (σ:List MO) (M:List Int) (R:List Of):List MO:=σ++MO.cells (iPV M) 2::oR R
section
variable {σ:List MO} {M M':List Int} {R:List Of} {s:Bd} {t:List Int} {N:Nat}
end
section
variable {σ:List MO} {s:Bd} {t:List Int} {N:Nat}
end
end Go.Proofs.Ythmkfeiapdbojaa
set_option maxRecDepth 100000
namespace Go.Proofs.Ythmkfeiapdbojaa
open Go.Sx Go.Kv Go.Bun
section
variable {σ:List MO} {s:Bd} {t:List Int}
end
end Go.Proofs.Ythmkfeiapdbojaa
set_option maxRecDepth 100000
namespace Go.Proofs.Ythmkfeiapdbojaa
open Go.Sx Go.Kv Go.Bun
section
variable {σ:List MO} {s:Bd} {t:List Int}
end
end Go.Proofs.Ythmkfeiapdbojaa
set_option maxRecDepth 100000
namespace Go.Proofs.Ythmkfeiapdbojaa
open Go.Sx Go.Kv Go.Bun
section
variable {σ:List MO} {s:Bd} {t:List Int}
end
end Go.Proofs.Ythmkfeiapdbojaa
set_option maxRecDepth 100000
namespace Go.Proofs.Ythmkfeiapdbojaa
open Go.Sx Go.Kv Go.Bun
section
variable {σ:List MO} {s:Bd} {t:List Int}
end
end Go.Proofs.Ythmkfeiapdbojaa
set_option maxRecDepth 100000
namespace Go.Proofs.Ythmkfeiapdbojaa
open Go.Sx Go.Kv Go.Bun
section
variable {σ:List MO} {e:Ex} {row:List PV} {s:Bd}
end
end Go.Proofs.Ythmkfeiapdbojaa
set_option maxRecDepth 100000
namespace Go.Proofs.Ythmkfeiapdbojaa
open Go.Sx Go.Kv Go.Bun
section
variable {e:Ex} {row:List PV} {s:Bd} {t:List Int} {N:Nat}
theorem e0i {b:Bd} {c:Int}:∀ (L:List Of) (m:Int),L.foldl (d3W b) m<=c↔m<=c/\∀ o∈L,o.w.Le b->o.v<=c
 | [],m=>by simp
 | o::L,m=>by
  rw [List.foldl_cons,e0i L]
  unfold d3W
  rw [d8R]
  simp only [List.mem_cons,forall_eq_or_imp]
  exact and_assoc
end
end Go.Proofs.Ythmkfeiapdbojaa
