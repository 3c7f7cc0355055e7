/- The chapter's examples hold. -/
import Derived.Test.YthmkfeiapdbojaaHVn
import Derived.Test.YthmkfeiapdbojaaHVq
import Derived.Test.YthmkfeiapdbojaaHGx
set_option linter.unusedSimpArgs false
set_option linter.unusedVariables false
open Go.Sx.PT renaming ev → ξ1
open Go.Sx.BE renaming safe → ξ2, pe → ξ3, all → ξz
open Go.Sx.IE renaming pe → ξ4
open Go.Sx renaming PEnv.at → ξ5
open Go.Sx.PEnv renaming push → ξt
open List renaming getD_cons_zero → ξ6, getD_cons_succ → ξ7, getElem?_cons_zero → ξ8, getElem?_cons_succ → ξ9, drop_zero → ξf, length_cons → ξg, length_nil → ξh, take_succ_cons → ξm, take_zero → ξn, cons_append → ξu, nil_append → ξv, append_nil → ξw, map_cons → ξD, map_nil → ξE
open Go.Sx renaming a0g → ξa, a0h → ξb, a0b → ξc, a0f → ξd, a0c → ξo, a0a → ξp, a0d → ξq, a0N → ξF, a0D → ξG, a0p → ξH, a0q → ξI, a0C → ξJ, a1d → ξK, a0Z → ξL, a1e → ξM, a0Y → ξN, a0A → ξO, a0n → ξP, a0B → ξQ, a0M → ξR, a0m → ξS, a0y → ξT, a0R → ξU, a0H → ξV, a0I → ξW, a0J → ξX, a0r → ξY
open Nat renaming add_zero → ξe, le_refl → ξi
open Bool renaming false_eq_true → ξl, and_self → ξA, not_true → ξB, not_false → ξC
open Option renaming map_some → ξr, bind_some → ξs
open Go.Sx.SV renaming pvs → ξx, pv → ξy
open Option renaming bind_some → Q0, map_some → Q5, bind_eq_bind → Qm, pure_def → Qn
open Bool renaming eq_iff_iff → Q1, false_and → Q3, and_false → Q7, and_self → Qd, and_eq_true → Qe, true_or → Qf, true_and → Qs, or_true → Qu, or_false → Qv
open List renaming getD_eq_getElem?_getD → Q2, range → Q4, getElem?_eq_getElem → Q6, append_nil → Q8, nil_append → Q9, cons_append → Qa, mem_range → Qb, mapM_cons → Qg, mapM_nil → Qh, reverse_cons → Qj, reverse_nil → Qk, take_length → Qq, any_eq_true → Qr, getElem_mem → Qt, range_succ → Qw, filter_append → Qy, length_map → Qz, length_filter_le → QA, countP_cons → QB, getElem?_map → QC, getElem?_eq_none → QD, drop_of_length_le → QE, drop_eq_getElem?_toList_append → QH, drop_zero → QJ, length_nil → QK
open Nat renaming zero_add → Qp
set_option maxRecDepth 1000000
namespace Go.Proofs.Ythmkfeiapdbojaa
open Go.Sx Go.Kv
theorem d5V:a0e a4u 2000 d3Z [] []=some (.bool true,[]):=by kernel_rfl
end Go.Proofs.Ythmkfeiapdbojaa
set_option maxRecDepth 100000
namespace Go.Proofs.Ythmkfeiapdbojaa
open Go.Sx Go.Kv Go.Bun
structure Of where
 p:Int
 w:Bd
 v:Int
 deriving DecidableEq,Inhabited
def Of.pv (o:Of):List PV:=[.int .i64 o.p,.int .i64 o.w.a,.int .i64 o.w.b,.int .i64 o.w.c,.int .i64 o.w.d,.int .i64 o.w.e,.int .i64 o.w.f,.int .i64 o.v]
def osR (L:List Of):List (List PV):=L.map Of.pv
theorem d5U (L:List Of):(osR L).length=L.length:=by simp [osR]
theorem d5z {L:List Of} {i:Nat} {o:Of} (h:L[i]?=some o):(osR L)[i]?=some o.pv:=by simp [osR,h]
def d5w (L:List Of) (x:PV):Prop:=x.rowsOf 8=some (osR L)
theorem d5h {L:List Of} {x:PV} (h:d5w L x):x.len=(L.length:Int)/\x.isKind 0=true/\x.one=true:=by
 obtain ⟨h1,h2,h3⟩:=a0T h
 exact ⟨by rw [h1,d5U],h2,h3⟩
def d3W (b:Bd) (m:Int) (o:Of):Int:=if o.w.Le b then mxI m o.v else m
def d5B (b:Bd) (L:List Of):Int:=L.foldl (d3W b) 0
theorem d5M:Ext Tab:=by
 intro f S h
 unfold tabW at h
 repeat' split at h
 all_goals first
  | (cases h; done)
  | (rename_i hf; subst hf; cases h; first | exact d4g | exact d5d | exact d5u | exact d5y | exact d5q)
theorem d5G (x y:Bd) (σ:List MO) (n:Nat):a0e Tab (n+2) 62 [.agg (bpv x),.agg (bpv y)] σ=some (.bool (decide (x.Le y)),σ):=by
 have:=c5Q d5M n σ (a:=x.l) (b:=y.l) rfl rfl
 rw [show leL x.l y.l=decide (x.Le y) by rw [Q1,a7e,decide_eq_true_eq]] at this
 exact this
section
variable {σ:List MO} {L:List Of} {x:PV}
theorem d5K (hx:d5w L x) (hL:L.length<=1000000) (b:Bd) (n:Nat) (hn:L.length+10<=n):a0e Tab n 37 [x,.agg (bpv b)] σ=some (.int .i64 (d5B b L),σ):=by
 obtain ⟨q,rfl⟩:∃ q,n=q+3:=⟨n-3,by omega⟩
 obtain ⟨x1,x2,x3⟩:=d5h hx
 have step:∀ i:Nat,i < L.length->∀ fuel,flatten_Value_S.loop (a0e Tab (q+2)) (fuel+1) 0 { i:=[(L.take i).foldl (d3W b) 0,(L.length:Int),(i:Int),b.a,b.b,b.c,b.d,b.e,b.f],b:=[],v:=[x],m:=σ,k:=σ.length } =
   flatten_Value_S.loop (a0e Tab (q+2)) fuel 0 { i:=[(L.take (i+1)).foldl (d3W b) 0,(L.length:Int),((i+1:Nat):Int),b.a,b.b,b.c,b.d,b.e,b.f],b:=[],v:=[x],m:=σ,k:=σ.length }:=by
  intro i hi fuel
  obtain ⟨o,ho⟩:=a3n hi
  rw [d5v (d3W b) 0 ho]
  generalize (L.take i).foldl (d3W b) 0=z at *
  have hw:=d5G o.w b σ q
  have hloc:=a4d (off:=0) hx (d5z ho)
  have q0:ltB (i:Int) (L.length:Int)=true:=by simp [ltB]; exact hi
  have q2:=a2h (i:=i) (by omega)
  obtain ⟨p,w,v⟩:=o
  unfold d3W
  simp only at hw ⊢
  rw [Sys.loop,show flatten_Value_S.loops[0]?=some d3S from rfl]
  by_cases hle:w.Le b
  ·rw [decide_eq_true hle] at hw
   rw [if_pos hle]
   obtain ⟨w0,w1,w2,w3,w4,w5⟩:=w
   simp only [bpv] at hw
   by_cases hv:z < v
   ·have qv:ltB z v=true:=by simp [ltB]; exact hv
    rw [show mxI z v=v by unfold mxI; rw [if_pos hv]]
    simp -implicitDefEqProofs only [Q0,d3S,↓reduceIte,eq_self,ξ1,ξ2,ξ3,ξ4,ξ5,ξ6,ξ7,ξ8,ξ9,ξa,ξb,ξc,ξd,ξe,ξf,ξg,ξh,Nat.reduceAdd,ξi,if_true,if_false,ξl,ξm,ξn,ξo,ξp,ξq,ξr,ξs,ξt,ξu,ξv,ξw,ξx,ξy,ξz,ξA,ξB,ξC,ξD,ξE,q0,x1,le0,hloc,Of.pv,qv,hw,q2,a0v]
   ·have qv:ltB z v=false:=by simp [ltB]; omega
    rw [show mxI z v=z by unfold mxI; rw [if_neg hv]]
    simp -implicitDefEqProofs only [Q0,d3S,↓reduceIte,eq_self,ξ1,ξ2,ξ3,ξ4,ξ5,ξ6,ξ7,ξ8,ξ9,ξa,ξb,ξc,ξd,ξe,ξf,ξg,ξh,Nat.reduceAdd,ξi,if_true,if_false,ξl,ξm,ξn,ξo,ξp,ξq,ξr,ξs,ξt,ξu,ξv,ξw,ξx,ξy,ξz,ξA,ξB,ξC,ξD,ξE,q0,x1,le0,hloc,Of.pv,qv,hw,q2,a0v]
  ·rw [decide_eq_false hle] at hw
   rw [if_neg hle]
   obtain ⟨w0,w1,w2,w3,w4,w5⟩:=w
   simp only [bpv] at hw
   cases qv:ltB z v<;>simp -implicitDefEqProofs only [Q0,d3S,↓reduceIte,eq_self,ξ1,ξ2,ξ3,ξ4,ξ5,ξ6,ξ7,ξ8,ξ9,ξa,ξb,ξc,ξd,ξe,ξf,ξg,ξh,Nat.reduceAdd,ξi,if_true,if_false,ξl,ξm,ξn,ξo,ξp,ξq,ξr,ξs,ξt,ξu,ξv,ξw,ξx,ξy,ξz,ξA,ξB,ξC,ξD,ξE,q0,x1,le0,hloc,Of.pv,qv,hw,q2,a0v]
 have h0:=d5C (fun i=>{ i:=[(L.take i).foldl (d3W b) 0,(L.length:Int),(i:Int),b.a,b.b,b.c,b.d,b.e,b.f],b:=[],v:=[x],m:=σ,k:=σ.length }) step (q+2) (by omega)
 rw [a0e,d5b]
 simp only [Q0,Sys.run]
 show ((a0i [.sh (.one _),.sh (.agg [_,_,_,_,_,_])] _).bind _)=_
 simp only [bpv,a0i,a0d,a0c,Q5,Q0,Q8,Q9,Qa,if_true,x3]
 show (PT.ev _ d4b _).bind _=_
 refine Eq.trans (b:=flatten_Value_S.loop (a0e Tab (q+2)) (q+2) 0 { i:=[(L.take 0).foldl (d3W b) 0,(L.length:Int),((0:Nat):Int),b.a,b.b,b.c,b.d,b.e,b.f],b:=[],v:=[x],m:=σ,k:=σ.length }) ?_ ?_
 ·simp -implicitDefEqProofs only [d4b,↓reduceIte,eq_self,ξ1,ξ2,ξ3,ξ4,ξ5,ξ6,ξ7,ξ8,ξ9,ξa,ξb,ξc,ξd,ξe,ξf,ξg,ξh,Nat.reduceAdd,ξi,if_true,if_false,ξl,ξm,ξn,ξo,ξp,ξq,ξr,ξs,ξt,ξu,ξv,ξw,ξx,ξy,ξz,ξA,ξB,ξC,ξD,ξE,x1,x2]
  rfl
 rw [h0,Qq]
 obtain ⟨fu,hfu⟩:∃ k,q+2-L.length=k+1:=⟨q+1-L.length,by omega⟩
 have q0:ltB (L.length:Int) (L.length:Int)=false:=by simp [ltB]
 rw [hfu,Sys.loop,show flatten_Value_S.loops[0]?=some d3S from rfl]
 unfold d5B
 simp -implicitDefEqProofs only [Q0,d3S,↓reduceIte,eq_self,ξ1,ξ2,ξ3,ξ4,ξ5,ξ6,ξ7,ξ8,ξ9,ξa,ξb,ξc,ξd,ξe,ξf,ξg,ξh,Nat.reduceAdd,ξi,if_true,if_false,ξl,ξm,ξn,ξo,ξp,ξq,ξr,ξs,ξt,ξu,ξv,ξw,ξx,ξy,ξz,ξA,ξB,ξC,ξD,ξE,q0,a0k,or_true]
theorem d5O {n:Nat} (hn:2000<=n):a0e a4u n d3Z [] []=some (.bool true,[]):=c7R hn d5V
end
end Go.Proofs.Ythmkfeiapdbojaa
set_option maxRecDepth 100000
namespace Go.Proofs.Ythmkfeiapdbojaa
open Go.Sx Go.Kv Go.Bun
def d6j (L:List Of) (i k:Nat):Bool :=
 !decide (i=k)&&decide ((L.getD i default).p=(L.getD k default).p)&&decide ((L.getD k default).w.Le (L.getD i default).w)&&decide ((L.getD i default).v<=(L.getD k default).v) &&
 (!decide ((L.getD i default).w=(L.getD k default).w)||!decide ((L.getD i default).v=(L.getD k default).v)||decide (k < i))
def d6M (L:List Of) (i:Nat):Bool:=(Q4 L.length).any (d6j L i)
def d6k (L:List Of) (i:Nat):Bool:=decide (1<=(L.getD i default).v)&&!d6M L i
def d6c (L:List Of) (i:Nat):List Of:=((Q4 i).filter (d6k L)).map fun k=>L.getD k default
def d5Y (L:List Of):List Of:=d6c L L.length
theorem d6L (L:List Of) (i:Nat):d6c L (i+1)=if d6k L i=true then d6c L i++[L.getD i default] else d6c L i:=by
 unfold d6c
 rw [Qw,Qy,List.map_append]
 split<;>rename_i h<;>simp [h]
theorem d6C (L:List Of) (i:Nat):(d6c L i).length<=i:=by
 unfold d6c
 rw [Qz]
 have:=QA (d6k L) (Q4 i)
 rwa [List.length_range] at this
theorem d6r {L:List Of} {i k:Nat}:d6j L i k=true↔i≠k/\(L.getD i default).p=(L.getD k default).p/\(L.getD k default).w.Le (L.getD i default).w/\(L.getD i default).v<=(L.getD k default).v /\
  ((L.getD i default).w≠(L.getD k default).w\/(L.getD i default).v≠(L.getD k default).v\/k < i):=by
 unfold d6j
 simp only [Qe,Bool.or_eq_true,Bool.not_eq_true',decide_eq_true_eq,decide_eq_false_iff_not]
 constructor
 ·rintro ⟨⟨⟨⟨h1,h2⟩,h3⟩,h4⟩,h5⟩
  refine ⟨h1,h2,h3,h4,?_⟩
  rcases h5 with (h5 | h5) | h5
  ·exact .inl h5
  ·exact .inr (.inl h5)
  ·exact .inr (.inr h5)
 ·rintro ⟨h1,h2,h3,h4,h5⟩
  refine ⟨⟨⟨⟨h1,h2⟩,h3⟩,h4⟩,?_⟩
  rcases h5 with h5 | h5 | h5
  ·exact .inl (.inl h5)
  ·exact .inl (.inr h5)
  ·exact .inr h5
theorem d7b {x y:Bd} (h:x.Le y) (k:y.Le x):x=y:=by
 obtain ⟨a,b,c,d,e,f⟩:=x
 obtain ⟨a',b',c',d',e',f'⟩:=y
 simp only [Bd.Le] at h k
 simp only [Bd.mk.injEq]
 omega
theorem d7e {x y z:Bd} (h:x.Le y) (k:y.Le z):x.Le z:=by
 simp only [Bd.Le] at *
 omega
theorem d7k {L:List Of} {i k:Nat} (h:d6j L i k=true) (g:d6j L k i=true):False:=by
 rw [d6r] at *
 obtain ⟨h1,h2,h3,h4,h5⟩:=h
 obtain ⟨g1,g2,g3,g4,g5⟩:=g
 have e3:=d7b h3 g3
 have e4:(L.getD i default).v=(L.getD k default).v:=by omega
 have h6:k < i:=by
  rcases h5 with h5 | h5 | h5
  ·exact absurd e3.symm h5
  ·exact absurd e4 h5
  ·exact h5
 have g6:i < k:=by
  rcases g5 with g5 | g5 | g5
  ·exact absurd e3 g5
  ·exact absurd e4.symm g5
  ·exact g5
 omega
theorem d7f {L:List Of} {i k m:Nat} (h:d6j L i k=true) (g:d6j L k m=true):d6j L i m=true:=by
 by_cases he:i=m
 ·subst he; exact (d7k h g).elim
 rw [d6r] at *
 obtain ⟨h1,h2,h3,h4,h5⟩:=h
 obtain ⟨g1,g2,g3,g4,g5⟩:=g
 refine ⟨he,h2.trans g2,d7e g3 h3,Int.le_trans h4 g4,?_⟩
 by_cases e1:(L.getD i default).w=(L.getD m default).w
 ·by_cases e2:(L.getD i default).v=(L.getD m default).v
  ·have e3:(L.getD k default).w=(L.getD i default).w:=d7b h3 (by rw [e1]; exact g3)
   have e4:(L.getD k default).v=(L.getD i default).v:=by omega
   have c5:m < k:=by
    rcases g5 with c4 | c4 | c4
    ·exact absurd (e3.trans e1) c4
    ·exact absurd (e4.trans e2) c4
    ·exact c4
   have h6:k < i:=by
    rcases h5 with h5 | h5 | h5
    ·exact absurd e3.symm h5
    ·exact absurd e4.symm h5
    ·exact h5
   exact .inr (.inr (by omega))
  ·exact .inr (.inl e2)
 ·exact .inl e1
theorem d6Q {α:Type} {p q:α->Bool}:∀ {l:List α},(∀ x∈l,p x=true->q x=true)->(∃ x∈l,q x=true/\p x=false)->l.countP p < l.countP q
 | [],_,h=>by obtain ⟨x,hx,_⟩:=h; simp at hx
 | a::l,h,hx=>by
  have hle:l.countP p<=l.countP q:=List.countP_mono_left fun x hx=>h x (by simp [hx])
  have ha:=h a (by simp)
  rw [QB,QB]
  obtain ⟨x,hx,h1,h2⟩:=hx
  rcases List.mem_cons.1 hx with rfl | hx
  ·rw [h1,h2]; simp; omega
  ·have:=d6Q (fun y hy=>h y (by simp [hy])) ⟨x,hx,h1,h2⟩
   cases hp:p a with
   | false=>cases q a<;>simp<;>omega
   | true=>rw [ha hp]; simp; omega
theorem kept {L:List Of}:∀ (m i:Nat),(Q4 L.length).countP (d6j L i)=m->i < L.length->1<=(L.getD i default).v->∃ j,j < L.length/\d6k L j=true/\(L.getD j default).p=(L.getD i default).p/\(L.getD j default).w.Le (L.getD i default).w/\(L.getD i default).v<=(L.getD j default).v:=by
 intro m
 induction m using Nat.strongRecOn with
 | _ m ih =>
  intro i hm hi hv
  by_cases hd:d6M L i=true
  ·obtain ⟨k,hk,hd⟩:=Qr.1 hd
   rw [Qb] at hk
   have hdi:=d6r.1 hd
   obtain ⟨j,j1,j2,j3,j4,j5⟩:=ih _ (by
    rw [<- hm]
    exact d6Q (p:=d6j L k) (q:=d6j L i) (fun x _ hx=>d7f hd hx) ⟨k,Qb.2 hk,hd,by
     cases hkk:d6j L k k with
     | false=>rfl
     | true=>exact absurd rfl (d6r.1 hkk).1⟩) k rfl hk (by omega)
   exact ⟨j,j1,j2,j3.trans hdi.2.1.symm,d7e j4 hdi.2.2.1,by omega⟩
  ·refine ⟨i,hi,?_,rfl,by simp only [Bd.Le]; omega,Int.le_refl _⟩
   unfold d6k
   rw [decide_eq_true hv,Qs]
   simpa using hd
theorem d6R {L:List Of} {o:Of}:o∈d5Y L↔∃ k,k < L.length/\d6k L k=true/\L.getD k default=o:=by
 unfold d5Y d6c
 simp only [List.mem_map,List.mem_filter,Qb]
 constructor
 ·rintro ⟨k,⟨h1,h2⟩,h3⟩; exact ⟨k,h1,h2,h3⟩
 ·rintro ⟨k,h1,h2,h3⟩; exact ⟨k,⟨h1,h2⟩,h3⟩
theorem d6N {b:Bd} {c:Int}:∀ {L:List Of} {m:Int},L.foldl (d3W b) m<=c↔m<=c/\∀ o∈L,o.w.Le b->o.v<=c
 | [],m=>by simp
 | o::L,m=>by
  rw [List.foldl_cons,d6N]
  simp only [List.mem_cons,forall_eq_or_imp]
  unfold d3W mxI
  constructor
  ·rintro ⟨h1,h2⟩
   split at h1
   ·split at h1
    ·exact ⟨by omega,fun _=>h1,h2⟩
    ·exact ⟨h1,fun _=>by omega,h2⟩
   ·rename_i hn; exact ⟨h1,fun h=>absurd h hn,h2⟩
  ·rintro ⟨h1,h2,h3⟩
   refine ⟨?_,h3⟩
   split
   ·rename_i hl; have:=h2 hl; split<;>omega
   ·exact h1
theorem d7c {L:List Of} (p:Int) (b:Bd):d5B b ((d5Y L).filter fun o=>decide (o.p=p))=d5B b (L.filter fun o=>decide (o.p=p)):=by
 refine a1O fun c=>?_
 unfold d5B
 rw [d6N,d6N]
 refine and_congr_right fun h0=>?_
 simp only [List.mem_filter,decide_eq_true_eq,and_imp]
 constructor
 ·intro h o ho hp hl
  by_cases hv:1<=o.v
  ·obtain ⟨i,hi⟩:=List.mem_iff_getElem?.1 ho
   have hil:=(List.getElem?_eq_some_iff.1 hi).1
   have hgd:L.getD i default=o:=by rw [Q2,hi]; rfl
   obtain ⟨j,j1,j2,j3,j4,j5⟩:=kept (L:=L) _ i rfl hil (by rw [hgd]; exact hv)
   rw [hgd] at j3 j4 j5
   have:=h _ (d6R.2 ⟨j,j1,j2,rfl⟩) (j3.trans hp) (d7e j4 hl)
   omega
  ·omega
 ·intro h o ho hp hl
  obtain ⟨k,k1,k2,rfl⟩:=d6R.1 ho
  refine h _ ?_ hp hl
  rw [Q2,Q6 k1]
  exact Qt _
theorem d6Y (L:List Of):d5Y (d5Y L)=d5Y L:=by
 have hsort:((Q4 L.length).filter (d6k L)).Pairwise (· < ·):=List.Pairwise.filter _ List.pairwise_lt_range
 have hall:∀ k∈(Q4 L.length).filter (d6k L),k < L.length/\d6k L k=true:=fun k hk=>by
  simpa using List.mem_filter.1 hk
 have hc:d5Y L=((Q4 L.length).filter (d6k L)).map fun k=>L.getD k default:=rfl
 generalize (Q4 L.length).filter (d6k L)=I at *
 have hget:∀ i,i < I.length->(d5Y L).getD i default=L.getD (I.getD i 0) default:=by
  intro i hi
  have hI:I.getD i 0=I[i]:=by rw [Q2,Q6 hi]; rfl
  rw [hI,hc,Q2,QC,Q6 hi]
  rfl
 have hlt:∀ i k,i < k->k < I.length->I.getD i 0 < I.getD k 0:=by
  intro i k h1 h2
  have:=List.pairwise_iff_getElem.1 hsort i k (by omega) h2 h1
  rw [Q2,Q6 (by omega),Q2,Q6 h2]
  exact this
 have hlen:(d5Y L).length=I.length:=by rw [hc,Qz]
 have hkeep:∀ i,i < I.length->d6k (d5Y L) i=true:=by
  intro i hi
  have hIi:I.getD i 0∈I:=by
   rw [Q2,Q6 hi]; exact Qt _
  obtain ⟨a1,a2⟩:=hall _ hIi
  unfold d6k at a2 ⊢
  rw [Qe,decide_eq_true_eq] at a2 ⊢
  refine ⟨by rw [hget i hi]; exact a2.1,?_⟩
  cases hd:d6M (d5Y L) i with
  | false=>rfl
  | true =>
   exfalso
   obtain ⟨k,hk,hd⟩:=Qr.1 hd
   rw [Qb,hlen] at hk
   have hIk:I.getD k 0∈I:=by
    rw [Q2,Q6 hk]; exact Qt _
   have hd:=d6r.1 hd
   rw [hget i hi,hget k hk] at hd
   have hdL:d6j L (I.getD i 0) (I.getD k 0)=true:=by
    rw [d6r]
    obtain ⟨d1,d2,d3,d4,d5⟩:=hd
    refine ⟨?_,d2,d3,d4,?_⟩
    ·rcases Nat.lt_or_gt_of_ne d1 with h | h
     ·have:=hlt i k h hk; omega
     ·have:=hlt k i h hi; omega
    ·rcases d5 with d5 | d5 | d5
     ·exact .inl d5
     ·exact .inr (.inl d5)
     ·exact .inr (.inr (hlt k i d5 hi))
   have:d6M L (I.getD i 0)=true:=Qr.2 ⟨_,Qb.2 (hall _ hIk).1,hdL⟩
   rw [this] at a2
   simp at a2
 show d6c (d5Y L) (d5Y L).length=d5Y L
 unfold d6c
 rw [List.filter_eq_self.2 (fun i hi=>hkeep i (by rw [<- hlen]; exact Qb.1 hi))]
 apply List.ext_getElem?
 intro i
 rw [QC]
 rcases Nat.lt_or_ge i (d5Y L).length with h | h
 ·rw [List.getElem?_range h,Q5,Q2,Q6 h]; rfl
 ·rw [QD (by simpa using h),QD h]; rfl
end Go.Proofs.Ythmkfeiapdbojaa
set_option maxRecDepth 100000
namespace Go.Proofs.Ythmkfeiapdbojaa
open Go.Sx Go.Kv Go.Bun
section
variable {σ:List MO} {L M:List Of} {x y:PV}
theorem b5I {L:List Of} {i:Nat} {o:Of} (h:L[i]?=some o):L.getD i default=o:=by rw [Q2,h]; rfl
theorem d7j (u w:Bd):(eqB u.a w.a&&(eqB u.b w.b&&(eqB u.c w.c&&(eqB u.d w.d&&(eqB u.e w.e&&eqB u.f w.f)))))=decide (u=w):=by
 rw [Q1]
 simp only [Qe,a2p,decide_eq_true_eq]
 obtain ⟨a,b,c,d,e,f⟩:=u
 obtain ⟨a',b',c',d',e',f'⟩:=w
 simp only [Bd.mk.injEq]
theorem d7n (u w:Bd):(eqB w.a u.a&&(eqB w.b u.b&&(eqB w.c u.c&&(eqB w.d u.d&&(eqB w.e u.e&&eqB w.f u.f)))))=decide (u=w):=by
 rw [d7j,Q1,decide_eq_true_eq,decide_eq_true_eq]; exact eq_comm
theorem d6G (a b:Int):eqB a b=decide (a=b):=rfl
theorem d7i (hx:d5w L x) (hL:L.length<=1000000) {i k:Nat} (hi:i < L.length) (hk:k < L.length) (q:Nat) :
  d4H.ev (a0e Tab (q+2)) { i:=[(i:Int),(L.length:Int),(k:Int)],b:=[],v:=[x],m:=σ,k:=σ.length } =
  if d6j L i k=true then some (.ret (.bool true) σ) else some (.jump 0 { i:=[(i:Int),(L.length:Int),((k+1:Nat):Int)],b:=[],v:=[x],m:=σ,k:=σ.length }):=by
 obtain ⟨x1,x2,x3⟩:=d5h hx
 obtain ⟨a,ha⟩:=a3n hi
 obtain ⟨b,hb⟩:=a3n hk
 have hw:=d5G b.w a.w σ q
 have l1:=a4d (off:=0) hx (d5z ha)
 have l2:=a4d (off:=0) hx (d5z hb)
 have q0:ltB (k:Int) (L.length:Int)=true:=by simp [ltB]; exact hk
 have q1:ltB (i:Int) (L.length:Int)=true:=by simp [ltB]; exact hi
 have q2:=a2h (i:=k) (by omega)
 have hd:d6j L i k=(!decide (i=k)&&decide (a.p=b.p)&&decide (b.w.Le a.w)&&decide (a.v<=b.v)&&(!decide (a.w=b.w)||!decide (a.v=b.v)||decide (k < i))):=by
  unfold d6j; rw [b5I ha,b5I hb]
 rw [hd]
 have e1:eqB (k:Int) (i:Int)=decide (i=k):=by rw [d6G]; rw [Q1]; simp; omega
 have e2:ltB (k:Int) (i:Int)=decide (k < i):=by simp [ltB]
 have e3:eqB b.p a.p=decide (a.p=b.p):=by rw [d6G,Q1,decide_eq_true_eq,decide_eq_true_eq]; exact eq_comm
 have e4:ltB b.v a.v=!decide (a.v<=b.v):=by rw [Q1]; simp [ltB]
 have e5:eqB b.v a.v=decide (a.v=b.v):=by rw [d6G,Q1,decide_eq_true_eq,decide_eq_true_eq]; exact eq_comm
 have e6:=d7n a.w b.w
 generalize decide (i=k)=c1 at *
 generalize decide (k < i)=c2 at *
 generalize decide (a.p=b.p)=c3 at *
 generalize decide (a.v<=b.v)=c4 at *
 generalize decide (a.v=b.v)=c5 at *
 generalize decide (a.w=b.w)=c6 at *
 generalize decide (b.w.Le a.w)=c7 at *
 generalize a0e Tab (q+2)=Φ at *
 clear hd ha hb
 obtain ⟨ap,⟨a0,a1,a2,a3,a4,a5⟩,av⟩:=a
 obtain ⟨bp,⟨b0,b1,b2,b3,b4,b5⟩,bv⟩:=b
 simp only [bpv] at hw e3 e4 e5 e6
 unfold d4H
 cases c1 with
 | true=>simp -implicitDefEqProofs only [↓reduceIte,eq_self,ξ1,ξ2,ξ3,ξ4,ξ5,ξ6,ξ7,ξ8,ξ9,ξa,ξb,ξc,ξd,ξe,ξf,ξg,ξh,Nat.reduceAdd,ξi,if_true,if_false,ξl,ξm,ξn,ξo,ξp,ξq,ξr,ξs,ξt,ξu,ξv,ξw,ξx,ξy,ξz,ξA,ξB,ξC,ξD,ξE,q0,q1,x1,le0,l1,l2,Of.pv,e1,q2,a0v,Q3]
 | false =>
 cases c3 with
 | false=>simp -implicitDefEqProofs only [↓reduceIte,eq_self,ξ1,ξ2,ξ3,ξ4,ξ5,ξ6,ξ7,ξ8,ξ9,ξa,ξb,ξc,ξd,ξe,ξf,ξg,ξh,Nat.reduceAdd,ξi,if_true,if_false,ξl,ξm,ξn,ξo,ξp,ξq,ξr,ξs,ξt,ξu,ξv,ξw,ξx,ξy,ξz,ξA,ξB,ξC,ξD,ξE,q0,q1,x1,le0,l1,l2,Of.pv,e1,e3,q2,a0v,Q3,Q7]
 | true =>
 cases c7 with
 | false=>simp -implicitDefEqProofs only [↓reduceIte,eq_self,ξ1,ξ2,ξ3,ξ4,ξ5,ξ6,ξ7,ξ8,ξ9,ξa,ξb,ξc,ξd,ξe,ξf,ξg,ξh,Nat.reduceAdd,ξi,if_true,if_false,ξl,ξm,ξn,ξo,ξp,ξq,ξr,ξs,ξt,ξu,ξv,ξw,ξx,ξy,ξz,ξA,ξB,ξC,ξD,ξE,q0,q1,x1,le0,l1,l2,Of.pv,e1,e3,hw,q2,a0v,Q3,Q7]
 | true =>
 cases c4 with
 | false=>simp -implicitDefEqProofs only [↓reduceIte,eq_self,ξ1,ξ2,ξ3,ξ4,ξ5,ξ6,ξ7,ξ8,ξ9,ξa,ξb,ξc,ξd,ξe,ξf,ξg,ξh,Nat.reduceAdd,ξi,if_true,if_false,ξl,ξm,ξn,ξo,ξp,ξq,ξr,ξs,ξt,ξu,ξv,ξw,ξx,ξy,ξz,ξA,ξB,ξC,ξD,ξE,q0,q1,x1,le0,l1,l2,Of.pv,e1,e3,hw,e4,q2,a0v,Q3,Q7]
 | true =>
 cases c6 with
 | false=>simp -implicitDefEqProofs only [↓reduceIte,eq_self,ξ1,ξ2,ξ3,ξ4,ξ5,ξ6,ξ7,ξ8,ξ9,ξa,ξb,ξc,ξd,ξe,ξf,ξg,ξh,Nat.reduceAdd,ξi,if_true,if_false,ξl,ξm,ξn,ξo,ξp,ξq,ξr,ξs,ξt,ξu,ξv,ξw,ξx,ξy,ξz,ξA,ξB,ξC,ξD,ξE,q0,q1,x1,le0,l1,l2,Of.pv,e1,e3,hw,e4,e6,a0k,or_true,Qf,Qd]
 | true =>
 cases c5 with
 | false=>simp -implicitDefEqProofs only [↓reduceIte,eq_self,ξ1,ξ2,ξ3,ξ4,ξ5,ξ6,ξ7,ξ8,ξ9,ξa,ξb,ξc,ξd,ξe,ξf,ξg,ξh,Nat.reduceAdd,ξi,if_true,if_false,ξl,ξm,ξn,ξo,ξp,ξq,ξr,ξs,ξt,ξu,ξv,ξw,ξx,ξy,ξz,ξA,ξB,ξC,ξD,ξE,q0,q1,x1,le0,l1,l2,Of.pv,e1,e3,hw,e4,e5,e6,a0k,or_true,Qf,Qu,Qd]
 | true =>
 cases c2 with
 | false=>simp -implicitDefEqProofs only [↓reduceIte,eq_self,ξ1,ξ2,ξ3,ξ4,ξ5,ξ6,ξ7,ξ8,ξ9,ξa,ξb,ξc,ξd,ξe,ξf,ξg,ξh,Nat.reduceAdd,ξi,if_true,if_false,ξl,ξm,ξn,ξo,ξp,ξq,ξr,ξs,ξt,ξu,ξv,ξw,ξx,ξy,ξz,ξA,ξB,ξC,ξD,ξE,q0,q1,x1,le0,l1,l2,Of.pv,e1,e3,hw,e4,e5,e6,e2,q2,a0v,Qv,Q7]
 | true=>simp -implicitDefEqProofs only [↓reduceIte,eq_self,ξ1,ξ2,ξ3,ξ4,ξ5,ξ6,ξ7,ξ8,ξ9,ξa,ξb,ξc,ξd,ξe,ξf,ξg,ξh,Nat.reduceAdd,ξi,if_true,if_false,ξl,ξm,ξn,ξo,ξp,ξq,ξr,ξs,ξt,ξu,ξv,ξw,ξx,ξy,ξz,ξA,ξB,ξC,ξD,ξE,q0,q1,x1,le0,l1,l2,Of.pv,e1,e3,hw,e4,e5,e6,e2,a0k,or_true,Qu,Qd]
theorem d6V (hx:d5w L x) (hL:L.length<=1000000) {i:Nat} (hi:i < L.length) (n:Nat) (hn:L.length+10<=n):a0e Tab n 72 [x,.int .i64 i] σ=some (.bool (d6M L i),σ):=by
 obtain ⟨q,rfl⟩:∃ q,n=q+3:=⟨n-3,by omega⟩
 obtain ⟨x1,x2,x3⟩:=d5h hx
 have loop:∀ (d k:Nat),k+d=L.length->∀ fuel,d+1<=fuel->flatten_dominated_S.loop (a0e Tab (q+2)) fuel 0 { i:=[(i:Int),(L.length:Int),(k:Int)],b:=[],v:=[x],m:=σ,k:=σ.length }=some (.bool ((List.range' k d).any (d6j L i)),σ):=by
  intro d
  induction d with
  | zero =>
   intro k hk fuel hf
   obtain ⟨fuel,rfl⟩:∃ j,fuel=j+1:=⟨fuel-1,by omega⟩
   have q0:ltB (k:Int) (L.length:Int)=false:=by simp [ltB]; omega
   rw [Sys.loop,show flatten_dominated_S.loops[0]?=some d4H from rfl]
   simp -implicitDefEqProofs only [Q0,d4H,↓reduceIte,eq_self,ξ1,ξ2,ξ3,ξ4,ξ5,ξ6,ξ7,ξ8,ξ9,ξa,ξb,ξc,ξd,ξe,ξf,ξg,ξh,Nat.reduceAdd,ξi,if_true,if_false,ξl,ξm,ξn,ξo,ξp,ξq,ξr,ξs,ξt,ξu,ξv,ξw,ξx,ξy,ξz,ξA,ξB,ξC,ξD,ξE,q0,a0k,or_true]
   rfl
  | succ d ih =>
   intro k hk fuel hf
   obtain ⟨fuel,rfl⟩:∃ j,fuel=j+1:=⟨fuel-1,by omega⟩
   rw [Sys.loop,show flatten_dominated_S.loops[0]?=some d4H from rfl,Q0,d7i hx hL hi (by omega) q,List.range'_succ,List.any_cons]
   cases h:d6j L i k with
   | true=>rfl
   | false =>
    simp only [Bool.false_eq_true,if_false,Q0,Bool.false_or]
    exact ih (k+1) (by omega) fuel (by omega)
 have h0:=loop L.length 0 (by omega) (q+2) (by omega)
 rw [<- List.range_eq_range'] at h0
 rw [a0e,d6z]
 simp only [Q0,Sys.run]
 show ((a0i [.sh (.one _),.sh (.one _)] _).bind _)=_
 simp only [a0i,a0d,a0c,Q5,Q0,Q8,Q9,Qa,if_true,x3]
 show (PT.ev _ d4M _).bind _=_
 refine Eq.trans ?_ h0
 simp -implicitDefEqProofs only [d4M,↓reduceIte,eq_self,ξ1,ξ2,ξ3,ξ4,ξ5,ξ6,ξ7,ξ8,ξ9,ξa,ξb,ξc,ξd,ξe,ξf,ξg,ξh,Nat.reduceAdd,ξi,if_true,if_false,ξl,ξm,ξn,ξo,ξp,ξq,ξr,ξs,ξt,ξu,ξv,ξw,ξx,ξy,ξz,ξA,ξB,ξC,ξD,ξE,x1,x2]
 rfl
def oV (R:List Of):PV:=match R with | []=>.nilS | _::_=>.sl 8 (osR R)
theorem d6E (R:List Of):d5w R (oV R):=by cases R<;>simp [d5w,oV,PV.rowsOf,osR]
theorem d6H (R:List Of):(oV R).rowsOf 8=some (osR R):=d6E R
theorem d6P (R:List Of) (o:Of):PV.sl 8 (osR R++[o.pv])=oV (R++[o]):=by
 cases R<;>simp [oV,osR]
theorem d6X (hx:d5w L x) (hL:L.length<=100000) (n:Nat) (hn:L.length+20<=n):a0e Tab n 43 [x] σ=some (oV (d5Y L),σ):=by
 obtain ⟨q,rfl⟩:∃ q,n=q+1:=⟨n-1,by omega⟩
 obtain ⟨x1,x2,x3⟩:=d5h hx
 have step:∀ i:Nat,i < L.length->∀ fuel,flatten_Clean_S.loop (a0e Tab q) (fuel+1) 0 { i:=[(L.length:Int),(i:Int)],b:=[],v:=[x,oV (d6c L i)],m:=σ,k:=σ.length } =
   flatten_Clean_S.loop (a0e Tab q) fuel 0 { i:=[(L.length:Int),((i+1:Nat):Int)],b:=[],v:=[x,oV (d6c L (i+1))],m:=σ,k:=σ.length }:=by
  intro i hi fuel
  have hdm:=d6V (σ:=σ) hx (by omega) hi q (by omega)
  obtain ⟨o,ho⟩:=a3n hi
  have l1:=a4d (off:=0) hx (d5z ho)
  have q0:ltB (i:Int) (L.length:Int)=true:=by simp [ltB]; exact hi
  have q2:=a2h (i:=i) (by omega)
  have hR:=d6H (d6c L i)
  have hA:=d6P (d6c L i) o
  have hl:=d6C L i
  have hsz:(osR (d6c L i)).length+1<=1000000:=by rw [d5U]; omega
  have hk:d6k L i=(decide (1<=o.v)&&!d6M L i):=by unfold d6k; rw [b5I ho]
  have hif:∀ (c:Bool) (A B:List Of),oV (if c=true then A else B)=if c=true then oV A else oV B:=fun c A B=>by cases c<;>rfl
  rw [d6L,hk,b5I ho,hif]
  clear hif
  have e1:leB 1 o.v=decide (1<=o.v):=rfl
  rw [Sys.loop,show flatten_Clean_S.loops[0]?=some d5l from rfl]
  generalize oV (d6c L i++[o])=V2 at *
  generalize oV (d6c L i)=V1 at *
  generalize osR (d6c L i)=RR at *
  generalize d6M L i=dd at *
  generalize decide (1<=o.v)=vv at *
  generalize a0e Tab q=Φ at *
  obtain ⟨p,⟨w0,w1,w2,w3,w4,w5⟩,v⟩:=o
  simp only [Of.pv] at hA l1 e1
  rw [Q0]
  have key:d5l.ev Φ { i:=[(L.length:Int),(i:Int)],b:=[],v:=[x,V1],m:=σ,k:=σ.length }=some (.jump 0 { i:=[(L.length:Int),((i+1:Nat):Int)],b:=[],v:=[x,if (vv&&!dd)=true then V2 else V1],m:=σ,k:=σ.length }):=by
   unfold d5l
   cases vv with
   | false =>
    repeat (first | rw [a0B] | rw [a0A] | rw [a0D] | rw [a0p] | rw [a0q] | rw [a0m] | rw [a0M] | rw [a3f] | rw [a0C] | rw [a0y] | rw [a0r] | rw [a0N])<;>simp -implicitDefEqProofs only [↓reduceIte,eq_self,ξ2,ξ3,ξ4,ξ5,ξ6,ξ7,ξ8,ξ9,ξa,ξb,ξc,ξd,ξe,ξf,ξg,ξh,Nat.reduceAdd,ξi,if_true,if_false,ξl,ξm,ξn,ξo,ξp,ξq,ξr,ξs,ξt,ξu,ξv,ξw,ξx,ξy,ξz,ξA,ξB,ξC,ξD,ξE,q0,x1,le0,l1,e1,q2,a0v,Q3]
   | true =>
    cases dd with
    | true =>
     repeat (first | rw [a0B] | rw [a0A] | rw [a0D] | rw [a0p] | rw [a0q] | rw [a0m] | rw [a0M] | rw [a3f] | rw [a0C] | rw [a0y] | rw [a0r] | rw [a0N])<;>simp -implicitDefEqProofs only [↓reduceIte,eq_self,ξ2,ξ3,ξ4,ξ5,ξ6,ξ7,ξ8,ξ9,ξa,ξb,ξc,ξd,ξe,ξf,ξg,ξh,Nat.reduceAdd,ξi,if_true,if_false,ξl,ξm,ξn,ξo,ξp,ξq,ξr,ξs,ξt,ξu,ξv,ξw,ξx,ξy,ξz,ξA,ξB,ξC,ξD,ξE,q0,x1,le0,l1,e1,hdm,q2,a0v,Q7]
    | false =>
     repeat (first | rw [a0B] | rw [a0A] | rw [a0D] | rw [a0p] | rw [a0q] | rw [a0m] | rw [a0M] | rw [a3f] | rw [a0C] | rw [a0y] | rw [a0r] | rw [a0N])<;>simp -implicitDefEqProofs only [↓reduceIte,eq_self,ξ2,ξ3,ξ4,ξ5,ξ6,ξ7,ξ8,ξ9,ξa,ξb,ξc,ξd,ξe,ξf,ξg,ξh,Nat.reduceAdd,ξi,if_true,if_false,ξl,ξm,ξn,ξo,ξp,ξq,ξr,ξs,ξt,ξu,ξv,ξw,ξx,ξy,ξz,ξA,ξB,ξC,ξD,ξE,q0,x1,le0,l1,e1,hdm,a1x,Qg,Qh,Qj,Qk,Qm,Qn,d6I,hR,hsz,hA,Qp,d6O,q2,a0v]
  rw [key]
  cases vv<;>cases dd<;>rfl
 have h0:=d5C (fun i=>{ i:=[(L.length:Int),(i:Int)],b:=[],v:=[x,oV (d6c L i)],m:=σ,k:=σ.length }) step q (by omega)
 rw [a0e,d6K]
 simp only [Q0,Sys.run]
 show ((a0i [.sh (.one _)] _).bind _)=_
 simp only [a0i,a0d,a0c,Q5,Q0,Q8,Q9,Qa,if_true,x3]
 show (PT.ev _ d5t _).bind _=_
 refine Eq.trans (b:=flatten_Clean_S.loop (a0e Tab q) q 0 { i:=[(L.length:Int),((0:Nat):Int)],b:=[],v:=[x,oV (d6c L 0)],m:=σ,k:=σ.length }) ?_ ?_
 ·simp -implicitDefEqProofs only [d5t,↓reduceIte,eq_self,ξ1,ξ2,ξ3,ξ4,ξ5,ξ6,ξ7,ξ8,ξ9,ξa,ξb,ξc,ξd,ξe,ξf,ξg,ξh,Nat.reduceAdd,ξi,if_true,if_false,ξl,ξm,ξn,ξo,ξp,ξq,ξr,ξs,ξt,ξu,ξv,ξw,ξx,ξy,ξz,ξA,ξB,ξC,ξD,ξE,x1,x2]
  rfl
 rw [h0]
 obtain ⟨fu,hfu⟩:∃ k,q-L.length=k+1:=⟨q-L.length-1,by omega⟩
 have q0:ltB (L.length:Int) (L.length:Int)=false:=by simp [ltB]
 rw [hfu,Sys.loop,show flatten_Clean_S.loops[0]?=some d5l from rfl]
 simp -implicitDefEqProofs only [Q0,d5l,↓reduceIte,eq_self,ξ1,ξ2,ξ3,ξ4,ξ5,ξ6,ξ7,ξ8,ξ9,ξa,ξb,ξc,ξd,ξe,ξf,ξg,ξh,Nat.reduceAdd,ξi,if_true,if_false,ξl,ξm,ξn,ξo,ξp,ξq,ξr,ξs,ξt,ξu,ξv,ξw,ξx,ξy,ξz,ξA,ξB,ξC,ξD,ξE,q0,a0k,or_true]
 rfl
theorem d6T (hx:d5w L x) (hL:L.length<=1000000) {i k:Nat} (hi:i < L.length) (hk:k < L.length) (q:Nat):a0e Tab (q+2) 73 [x,.int .i64 i,.int .i64 k] σ=some (.bool (d6j L i k),σ):=by
 obtain ⟨x1,x2,x3⟩:=d5h hx
 obtain ⟨a,ha⟩:=a3n hi
 obtain ⟨b,hb⟩:=a3n hk
 have hw:=d4r b.w a.w σ q
 have l1:=a4d (off:=0) hx (d5z ha)
 have l2:=a4d (off:=0) hx (d5z hb)
 have q0:ltB (k:Int) (L.length:Int)=true:=by simp [ltB]; exact hk
 have q1:ltB (i:Int) (L.length:Int)=true:=by simp [ltB]; exact hi
 have hd:d6j L i k=(!decide (i=k)&&decide (a.p=b.p)&&decide (b.w.Le a.w)&&decide (a.v<=b.v)&&(!decide (a.w=b.w)||!decide (a.v=b.v)||decide (k < i))):=by
  unfold d6j; rw [b5I ha,b5I hb]
 rw [hd]
 have e1:eqB (i:Int) (k:Int)=decide (i=k):=by rw [d6G]; rw [Q1]; simp; omega
 have e2:ltB (k:Int) (i:Int)=decide (k < i):=by simp [ltB]
 have e3:eqB a.p b.p=decide (a.p=b.p):=rfl
 have e4:ltB b.v a.v=!decide (a.v<=b.v):=by rw [Q1]; simp [ltB]
 have e5:eqB a.v b.v=decide (a.v=b.v):=rfl
 have e6:=d7j a.w b.w
 rw [a0e,d6t]
 simp only [Q0,Sys.run]
 show ((a0i [.sh (.one _),.sh (.one _),.sh (.one _)] _).bind _)=_
 simp only [a0i,a0d,a0c,Q5,Q0,Q8,Q9,Qa,if_true,x3]
 show (PT.ev _ d6h _).bind _=_
 generalize decide (i=k)=c1 at *
 generalize decide (k < i)=c2 at *
 generalize decide (a.p=b.p)=c3 at *
 generalize decide (a.v<=b.v)=c4 at *
 generalize decide (a.v=b.v)=c5 at *
 generalize decide (a.w=b.w)=c6 at *
 generalize decide (b.w.Le a.w)=c7 at *
 generalize a0e Tab (q+1)=Φ at *
 clear hd ha hb
 obtain ⟨ap,⟨a0,a1,a2,a3,a4,a5⟩,av⟩:=a
 obtain ⟨bp,⟨b0,b1,b2,b3,b4,b5⟩,bv⟩:=b
 simp only [bpv] at hw e3 e4 e5 e6
 have key:d6h.ev Φ { i:=[(i:Int),(k:Int)],b:=[],v:=[x],m:=σ,k:=σ.length }=some (.ret (.bool (!c1&&c3&&c7&&c4&&(!c6||!c5||c2))) σ):=by
  unfold d6h
  repeat (first | rw [a0B] | rw [a0A] | rw [a0D] | rw [a0p] | rw [a0q] | rw [a0m] | rw [a0M] | rw [a3f] | rw [a0C] | rw [a0y] | rw [a0r] | rw [a0N])<;>simp -implicitDefEqProofs only [↓reduceIte,eq_self,ξ2,ξ3,ξ4,ξ5,ξ6,ξ7,ξ8,ξ9,ξa,ξb,ξc,ξd,ξe,ξf,ξg,ξh,Nat.reduceAdd,ξi,if_true,if_false,ξl,ξm,ξn,ξo,ξp,ξq,ξr,ξs,ξt,ξu,ξv,ξw,ξx,ξy,ξz,ξA,ξB,ξC,ξD,ξE,q0,q1,x1,le0,l1,l2,Of.pv]
  have hb1:d6f.ev Φ { i:=[(i:Int),(k:Int),ap,a0,a1,a2,a3,a4,a5,av,bp,b0,b1,b2,b3,b4,b5,bv],b:=[],v:=[x],m:=σ,k:=σ.length }=some (.ret (.bool (!c1&&c3&&c7&&c4&&(!c6||!c5||c2))) σ):=by
   unfold d6f
   cases c1 with
   | true=>simp -implicitDefEqProofs only [↓reduceIte,eq_self,ξ1,ξ2,ξ3,ξ4,ξ5,ξ6,ξ7,ξ8,ξ9,ξa,ξb,ξc,ξd,ξe,ξf,ξg,ξh,Nat.reduceAdd,ξi,if_true,if_false,ξl,ξm,ξn,ξo,ξp,ξq,ξr,ξs,ξt,ξu,ξv,ξw,ξx,ξy,ξz,ξA,ξB,ξC,ξD,ξE,e1,a0k,or_true,Q3]
   | false =>
   cases c3 with
   | false=>simp -implicitDefEqProofs only [↓reduceIte,eq_self,ξ1,ξ2,ξ3,ξ4,ξ5,ξ6,ξ7,ξ8,ξ9,ξa,ξb,ξc,ξd,ξe,ξf,ξg,ξh,Nat.reduceAdd,ξi,if_true,if_false,ξl,ξm,ξn,ξo,ξp,ξq,ξr,ξs,ξt,ξu,ξv,ξw,ξx,ξy,ξz,ξA,ξB,ξC,ξD,ξE,e1,e3,a0k,or_true,Q3,Q7]
   | true =>
   cases c7 with
   | false=>simp -implicitDefEqProofs only [↓reduceIte,eq_self,ξ1,ξ2,ξ3,ξ4,ξ5,ξ6,ξ7,ξ8,ξ9,ξa,ξb,ξc,ξd,ξe,ξf,ξg,ξh,Nat.reduceAdd,ξi,if_true,if_false,ξl,ξm,ξn,ξo,ξp,ξq,ξr,ξs,ξt,ξu,ξv,ξw,ξx,ξy,ξz,ξA,ξB,ξC,ξD,ξE,e1,e3,hw,a0k,or_true,Q3,Q7]
   | true =>
   cases c4 with
   | false=>simp -implicitDefEqProofs only [↓reduceIte,eq_self,ξ1,ξ2,ξ3,ξ4,ξ5,ξ6,ξ7,ξ8,ξ9,ξa,ξb,ξc,ξd,ξe,ξf,ξg,ξh,Nat.reduceAdd,ξi,if_true,if_false,ξl,ξm,ξn,ξo,ξp,ξq,ξr,ξs,ξt,ξu,ξv,ξw,ξx,ξy,ξz,ξA,ξB,ξC,ξD,ξE,e1,e3,hw,e4,a0k,or_true,Q3,Q7]
   | true =>
   cases c6 with
   | false=>simp -implicitDefEqProofs only [↓reduceIte,eq_self,ξ1,ξ2,ξ3,ξ4,ξ5,ξ6,ξ7,ξ8,ξ9,ξa,ξb,ξc,ξd,ξe,ξf,ξg,ξh,Nat.reduceAdd,ξi,if_true,if_false,ξl,ξm,ξn,ξo,ξp,ξq,ξr,ξs,ξt,ξu,ξv,ξw,ξx,ξy,ξz,ξA,ξB,ξC,ξD,ξE,e1,e3,hw,e4,e6,a0k,or_true,Qf,Qd]
   | true =>
   cases c5 with
   | false=>simp -implicitDefEqProofs only [↓reduceIte,eq_self,ξ1,ξ2,ξ3,ξ4,ξ5,ξ6,ξ7,ξ8,ξ9,ξa,ξb,ξc,ξd,ξe,ξf,ξg,ξh,Nat.reduceAdd,ξi,if_true,if_false,ξl,ξm,ξn,ξo,ξp,ξq,ξr,ξs,ξt,ξu,ξv,ξw,ξx,ξy,ξz,ξA,ξB,ξC,ξD,ξE,e1,e3,hw,e4,e5,e6,a0k,or_true,Qf,Qu,Qd]
   | true=>simp -implicitDefEqProofs only [↓reduceIte,eq_self,ξ1,ξ2,ξ3,ξ4,ξ5,ξ6,ξ7,ξ8,ξ9,ξa,ξb,ξc,ξd,ξe,ξf,ξg,ξh,Nat.reduceAdd,ξi,if_true,if_false,ξl,ξm,ξn,ξo,ξp,ξq,ξr,ξs,ξt,ξu,ξv,ξw,ξx,ξy,ξz,ξA,ξB,ξC,ξD,ξE,e1,e3,hw,e4,e5,e6,e2,a0k,or_true,Qv,Qd,Qs,Bool.false_or]
  exact c3o hb1 hb1
 rw [key]
 rfl
end
end Go.Proofs.Ythmkfeiapdbojaa
set_option maxRecDepth 100000
namespace Go.Proofs.Ythmkfeiapdbojaa
open Go.Sx Go.Kv Go.Bun
section
variable {σ:List MO} {L M:List Of} {x y:PV}
theorem d6W (c:Bool) (A B:List Of):oV (if c=true then A else B)=if c=true then oV A else oV B:=by cases c<;>rfl
def d6s (L:List Of) (i k:Nat):Bool:=decide (1<=(L.getD i default).v)&&!(Q4 k).any (d6j L i)
theorem d7d (L:List Of) (i k:Nat):d6s L i (k+1)=if d6j L i k=true then false else d6s L i k:=by
 unfold d6s
 rw [Qw,List.any_append]
 simp only [List.any_cons,List.any_nil,Qv]
 cases d6j L i k<;>simp
theorem d7g (hx:d5w L x) (hL:L.length<=100000) {i:Nat} (hi:i < L.length) {V:PV} (q:Nat):∀ k,k < L.length->∀ fuel,
  saleroomref14_Clean_S.loop (a0e Tab (q+2)) (fuel+1) 1 { i:=[(i:Int),(k:Int)],b:=[d6s L i k],v:=[x,V],m:=σ,k:=σ.length } =
  saleroomref14_Clean_S.loop (a0e Tab (q+2)) fuel 1 { i:=[(i:Int),((k+1:Nat):Int)],b:=[d6s L i (k+1)],v:=[x,V],m:=σ,k:=σ.length }:=by
 intro k hk fuel
 obtain ⟨x1,x2,x3⟩:=d5h hx
 have hd:=d6T (σ:=σ) hx (by omega) hi hk q
 have q0:ltB (k:Int) (L.length:Int)=true:=by simp [ltB]; exact hk
 have q2:=a2h (i:=k) (by omega)
 rw [d7d]
 generalize d6s L i k=kk at *
 generalize a0e Tab (q+2)=Φ at *
 rw [Sys.loop,show saleroomref14_Clean_S.loops[1]?=some d6e from rfl]
 cases hdd:d6j L i k with
 | true =>
  rw [hdd] at hd
  simp -implicitDefEqProofs only [Q0,d6e,↓reduceIte,eq_self,ξ1,ξ2,ξ3,ξ4,ξ5,ξ6,ξ7,ξ8,ξ9,ξa,ξb,ξc,ξd,ξe,ξf,ξg,ξh,Nat.reduceAdd,ξi,if_true,if_false,ξl,ξm,ξn,ξo,ξp,ξq,ξr,ξs,ξt,ξu,ξv,ξw,ξx,ξy,ξz,ξA,ξB,ξC,ξD,ξE,x1,x2,q0,hd,q2,a0v]
 | false =>
  rw [hdd] at hd
  simp -implicitDefEqProofs only [Q0,d6e,↓reduceIte,eq_self,ξ1,ξ2,ξ3,ξ4,ξ5,ξ6,ξ7,ξ8,ξ9,ξa,ξb,ξc,ξd,ξe,ξf,ξg,ξh,Nat.reduceAdd,ξi,if_true,if_false,ξl,ξm,ξn,ξo,ξp,ξq,ξr,ξs,ξt,ξu,ξv,ξw,ξx,ξy,ξz,ξA,ξB,ξC,ξD,ξE,x1,x2,q0,hd,q2,a0v]
theorem d7h (hx:d5w L x) (hL:L.length<=1000) (n:Nat) (hn:2000000<=n):a0e Tab n 44 [x] σ=some (oV (d5Y L),σ):=by
 obtain ⟨q,rfl⟩:∃ q,n=q+3:=⟨n-3,by omega⟩
 obtain ⟨x1,x2,x3⟩:=d5h hx
 have outer:∀ (d i:Nat),i+d=L.length->∀ fuel,d*(L.length+2)+1<=fuel->saleroomref14_Clean_S.loop (a0e Tab (q+2)) fuel 0 { i:=[(i:Int)],b:=[],v:=[x,oV (d6c L i)],m:=σ,k:=σ.length }=some (oV (d5Y L),σ):=by
  intro d
  induction d with
  | zero =>
   intro i hi fuel hf
   obtain ⟨fuel,rfl⟩:∃ j,fuel=j+1:=⟨fuel-1,by omega⟩
   obtain rfl:i=L.length:=by omega
   have q0:ltB (L.length:Int) (L.length:Int)=false:=by simp [ltB]
   rw [Sys.loop,show saleroomref14_Clean_S.loops[0]?=some d6g from rfl]
   simp -implicitDefEqProofs only [Q0,d6g,↓reduceIte,eq_self,ξ1,ξ2,ξ3,ξ4,ξ5,ξ6,ξ7,ξ8,ξ9,ξa,ξb,ξc,ξd,ξe,ξf,ξg,ξh,Nat.reduceAdd,ξi,if_true,if_false,ξl,ξm,ξn,ξo,ξp,ξq,ξr,ξs,ξt,ξu,ξv,ξw,ξx,ξy,ξz,ξA,ξB,ξC,ξD,ξE,x1,x2,q0,a0k,or_true]
   rfl
  | succ d ih =>
   intro i hi fuel hf
   rw [Nat.add_mul] at hf
   obtain ⟨fuel,rfl⟩:∃ j,fuel=j+1+L.length+1:=⟨fuel-(L.length+2),by omega⟩
   have hil:i < L.length:=by omega
   obtain ⟨o,ho⟩:=a3n hil
   have hnx:=ih (i+1) (by omega) fuel (by omega)
   have hin:=a3R (fun k=>{ i:=[(i:Int),(k:Int)],b:=[d6s L i k],v:=[x,oV (d6c L i)],m:=σ,k:=σ.length }) (d7g (σ:=σ) (V:=oV (d6c L i)) hx (by omega) hil q) L.length 0 (by omega) (fuel+1)
   have hk:d6s L i L.length=d6k L i:=rfl
   have hk0:d6s L i 0=decide (1<=o.v):=by
    have:([]:List Nat).any (d6j L i)=false:=rfl
    unfold d6s; rw [b5I ho,List.range_zero,this]; simp
   rw [hk,hk0] at hin
   have l7:=a4d (off:=7) hx (d5z ho)
   have l0:=a4d (off:=0) hx (d5z ho)
   have q0:ltB (i:Int) (L.length:Int)=true:=by simp [ltB]; exact hil
   have qL:ltB (L.length:Int) (L.length:Int)=false:=by simp [ltB]
   have q2:=a2h (i:=i) (by omega)
   have hR:=d6H (d6c L i)
   have hA:=d6P (d6c L i) o
   have hl:=d6C L i
   have hsz:(osR (d6c L i)).length+1<=1000000:=by rw [d5U]; omega
   rw [d6L,b5I ho,d6W] at hnx
   have hend:saleroomref14_Clean_S.loop (a0e Tab (q+2)) (fuel+1) 1 { i:=[(i:Int),(L.length:Int)],b:=[d6k L i],v:=[x,oV (d6c L i)],m:=σ,k:=σ.length }=some (oV (d5Y L),σ):=by
    rw [<- hnx]
    generalize oV (d6c L i++[o])=V2 at *
    generalize oV (d6c L i)=V1 at *
    generalize osR (d6c L i)=RR at *
    generalize d6k L i=kp at *
    generalize a0e Tab (q+2)=Φ at *
    clear hin hnx hk0 ih
    obtain ⟨p,⟨w0,w1,w2,w3,w4,w5⟩,v⟩:=o
    simp only [Of.pv] at hA l0
    rw [Sys.loop,show saleroomref14_Clean_S.loops[1]?=some d6e from rfl,Q0]
    have key:d6e.ev Φ { i:=[(i:Int),(L.length:Int)],b:=[kp],v:=[x,V1],m:=σ,k:=σ.length }=some (.jump 0 { i:=[((i+1:Nat):Int)],b:=[],v:=[x,if kp=true then V2 else V1],m:=σ,k:=σ.length }):=by
     unfold d6e
     cases kp with
     | true =>
      repeat (first | rw [a0B] | rw [a0A] | rw [a0D] | rw [a0p] | rw [a0q] | rw [a0m] | rw [a0M] | rw [a3f] | rw [a0C] | rw [a0y] | rw [a0r] | rw [a0N])<;>simp -implicitDefEqProofs only [↓reduceIte,eq_self,ξ2,ξ3,ξ4,ξ5,ξ6,ξ7,ξ8,ξ9,ξa,ξb,ξc,ξd,ξe,ξf,ξg,ξh,Nat.reduceAdd,ξi,if_true,if_false,ξl,ξm,ξn,ξo,ξp,ξq,ξr,ξs,ξt,ξu,ξv,ξw,ξx,ξy,ξz,ξA,ξB,ξC,ξD,ξE,x1,x2,qL,q0,le0,l0,a1x,Qg,Qh,Qj,Qk,Qm,Qn,d6I,hR,hsz,hA,Qp,d6O,q2,a0v]
     | false =>
      repeat (first | rw [a0B] | rw [a0A] | rw [a0D] | rw [a0p] | rw [a0q] | rw [a0m] | rw [a0M] | rw [a3f] | rw [a0C] | rw [a0y] | rw [a0r] | rw [a0N])<;>simp -implicitDefEqProofs only [↓reduceIte,eq_self,ξ2,ξ3,ξ4,ξ5,ξ6,ξ7,ξ8,ξ9,ξa,ξb,ξc,ξd,ξe,ξf,ξg,ξh,Nat.reduceAdd,ξi,if_true,if_false,ξl,ξm,ξn,ξo,ξp,ξq,ξr,ξs,ξt,ξu,ξv,ξw,ξx,ξy,ξz,ξA,ξB,ξC,ξD,ξE,x1,x2,qL,q2,a0v]
    rw [key]
    rfl
   rw [hend] at hin
   rw [<- hin]
   have e1:leB 1 o.v=decide (1<=o.v):=rfl
   generalize oV (d6c L i)=V1 at *
   generalize a0e Tab (q+2)=Φ at *
   obtain ⟨p,⟨w0,w1,w2,w3,w4,w5⟩,v⟩:=o
   rw [Sys.loop,show saleroomref14_Clean_S.loops[0]?=some d6g from rfl]
   simp -implicitDefEqProofs only [Q0,d6g,↓reduceIte,eq_self,ξ1,ξ2,ξ3,ξ4,ξ5,ξ6,ξ7,ξ8,ξ9,ξa,ξb,ξc,ξd,ξe,ξf,ξg,ξh,Nat.reduceAdd,ξi,if_true,if_false,ξl,ξm,ξn,ξo,ξp,ξq,ξr,ξs,ξt,ξu,ξv,ξw,ξx,ξy,ξz,ξA,ξB,ξC,ξD,ξE,x1,x2,q0,le0,l7,Of.pv,List.drop_succ_cons,Nat.reduceLeDiff,e1]
   rfl
 have hm:L.length*(L.length+2)<=1000*1002:=Nat.mul_le_mul hL (by omega)
 have h0:=outer L.length 0 (by omega) (q+2) (by omega)
 rw [a0e,d6w]
 simp only [Q0,Sys.run]
 show ((a0i [.sh (.one _)] _).bind _)=_
 simp only [a0i,a0d,a0c,Q5,Q0,Q8,Q9,Qa,if_true,x3]
 exact h0
theorem d7l (hx:d5w L x) (hy:d5w M y) (hL:L.length<=1000000) (n:Nat) (hn:L.length+10<=n):a0e Tab n 33 [x,y] σ=some (.bool (decide (L=M)),σ):=by
 obtain ⟨q,rfl⟩:∃ q,n=q+1:=⟨n-1,by omega⟩
 obtain ⟨x1,x2,x3⟩:=d5h hx
 obtain ⟨y1,y2,y3⟩:=d5h hy
 rw [a0e,d6y]
 simp only [Q0,Sys.run]
 show ((a0i [.sh (.one _),.sh (.one _)] _).bind _)=_
 simp only [a0i,a0d,a0c,Q5,Q0,Q8,Q9,Qa,if_true,x3,y3]
 show (PT.ev _ d4F _).bind _=_
 by_cases hl:L.length=M.length
 case neg =>
  have q0:eqB (L.length:Int) (M.length:Int)=false:=eqF (by omega)
  rw [decide_eq_false (fun h=>hl (by rw [h]))]
  simp -implicitDefEqProofs only [d4F,↓reduceIte,eq_self,ξ1,ξ2,ξ3,ξ4,ξ5,ξ6,ξ7,ξ8,ξ9,ξa,ξb,ξc,ξd,ξe,ξf,ξg,ξh,Nat.reduceAdd,ξi,if_true,if_false,ξl,ξm,ξn,ξo,ξp,ξq,ξr,ξs,ξt,ξu,ξv,ξw,ξx,ξy,ξz,ξA,ξB,ξC,ξD,ξE,x1,x2,y1,y2,q0,a0k,or_true]
 have q0:eqB (L.length:Int) (M.length:Int)=true:=by rw [hl]; exact a2Y _
 have loop:∀ (d i:Nat),i+d=L.length->∀ fuel,d+1<=fuel->saleroomref14_Same_S.loop (a0e Tab q) fuel 0 { i:=[(i:Int)],b:=[],v:=[x,y],m:=σ,k:=σ.length }=some (.bool (decide (L.drop i=M.drop i)),σ):=by
  intro d
  induction d with
  | zero =>
   intro i hi fuel hf
   obtain ⟨fuel,rfl⟩:∃ j,fuel=j+1:=⟨fuel-1,by omega⟩
   have qq:ltB (i:Int) (L.length:Int)=false:=by simp [ltB]; omega
   rw [decide_eq_true (by rw [QE (by omega),QE (by omega)])]
   rw [Sys.loop,show saleroomref14_Same_S.loops[0]?=some d4B from rfl]
   simp -implicitDefEqProofs only [Q0,d4B,↓reduceIte,eq_self,ξ1,ξ2,ξ3,ξ4,ξ5,ξ6,ξ7,ξ8,ξ9,ξa,ξb,ξc,ξd,ξe,ξf,ξg,ξh,Nat.reduceAdd,ξi,if_true,if_false,ξl,ξm,ξn,ξo,ξp,ξq,ξr,ξs,ξt,ξu,ξv,ξw,ξx,ξy,ξz,ξA,ξB,ξC,ξD,ξE,x1,x2,qq,a0k,or_true]
  | succ d ih =>
   intro i hi fuel hf
   obtain ⟨fuel,rfl⟩:∃ j,fuel=j+1:=⟨fuel-1,by omega⟩
   obtain ⟨a,ha⟩:=a3n (l:=L) (i:=i) (by omega)
   obtain ⟨b,hb⟩:=a3n (l:=M) (i:=i) (by omega)
   have hnx:=ih (i+1) (by omega) fuel (by omega)
   have l1:=a4d (off:=0) hx (d5z ha)
   have l2:=a4d (off:=0) hy (d5z hb)
   have qq:ltB (i:Int) (L.length:Int)=true:=by simp [ltB]; omega
   have qm:ltB (i:Int) (M.length:Int)=true:=by simp [ltB]; omega
   have q2:=a2h (i:=i) (by omega)
   have hdr:(L.drop i=M.drop i)↔(a=b/\L.drop (i+1)=M.drop (i+1)):=by
    rw [QH (i:=i),ha,QH (i:=i) (l:=M),hb]
    simp
   have e0:(eqB a.p b.p&&(eqB a.w.a b.w.a&&(eqB a.w.b b.w.b&&(eqB a.w.c b.w.c&&(eqB a.w.d b.w.d&&(eqB a.w.e b.w.e&&(eqB a.w.f b.w.f&&eqB a.v b.v)))))))=decide (a=b):=by
    rw [Q1]
    simp only [Qe,a2p,decide_eq_true_eq]
    obtain ⟨ap,⟨a0,a1,a2,a3,a4,a5⟩,av⟩:=a
    obtain ⟨bp,⟨b0,b1,b2,b3,b4,b5⟩,bv⟩:=b
    simp only [Of.mk.injEq,Bd.mk.injEq]
    constructor
    ·rintro ⟨h1,h2,h3,h4,h5,h6,h7,h8⟩; exact ⟨h1,⟨h2,h3,h4,h5,h6,h7⟩,h8⟩
    ·rintro ⟨h1,⟨h2,h3,h4,h5,h6,h7⟩,h8⟩; exact ⟨h1,h2,h3,h4,h5,h6,h7,h8⟩
   rw [show decide (L.drop i=M.drop i)=(decide (a=b)&&decide (L.drop (i+1)=M.drop (i+1))) by rw [Q1,Qe,decide_eq_true_eq,decide_eq_true_eq,decide_eq_true_eq]; exact hdr]
   generalize decide (L.drop (i+1)=M.drop (i+1))=rr at *
   generalize decide (a=b)=ab at *
   generalize a0e Tab q=Φ at *
   clear hdr ha hb ih
   obtain ⟨ap,⟨a0,a1,a2,a3,a4,a5⟩,av⟩:=a
   obtain ⟨bp,⟨b0,b1,b2,b3,b4,b5⟩,bv⟩:=b
   simp only at e0
   rw [Sys.loop,show saleroomref14_Same_S.loops[0]?=some d4B from rfl]
   cases ab with
   | false=>simp -implicitDefEqProofs only [Q0,d4B,↓reduceIte,eq_self,ξ1,ξ2,ξ3,ξ4,ξ5,ξ6,ξ7,ξ8,ξ9,ξa,ξb,ξc,ξd,ξe,ξf,ξg,ξh,Nat.reduceAdd,ξi,if_true,if_false,ξl,ξm,ξn,ξo,ξp,ξq,ξr,ξs,ξt,ξu,ξv,ξw,ξx,ξy,ξz,ξA,ξB,ξC,ξD,ξE,x1,x2,qq,y1,qm,le0,l1,l2,Of.pv,e0,a0k,or_true,Q3]
   | true =>
    rw [Qs,<- hnx]
    simp -implicitDefEqProofs only [Q0,d4B,↓reduceIte,eq_self,ξ1,ξ2,ξ3,ξ4,ξ5,ξ6,ξ7,ξ8,ξ9,ξa,ξb,ξc,ξd,ξe,ξf,ξg,ξh,Nat.reduceAdd,ξi,if_true,if_false,ξl,ξm,ξn,ξo,ξp,ξq,ξr,ξs,ξt,ξu,ξv,ξw,ξx,ξy,ξz,ξA,ξB,ξC,ξD,ξE,x1,x2,qq,y1,qm,le0,l1,l2,Of.pv,e0,q2,a0v]
 have h0:=loop L.length 0 (by omega) q (by omega)
 rw [QJ,QJ] at h0
 refine Eq.trans ?_ h0
 simp -implicitDefEqProofs only [d4F,↓reduceIte,eq_self,ξ1,ξ2,ξ3,ξ4,ξ5,ξ6,ξ7,ξ8,ξ9,ξa,ξb,ξc,ξd,ξe,ξf,ξg,ξh,Nat.reduceAdd,ξi,if_true,if_false,ξl,ξm,ξn,ξo,ξp,ξq,ξr,ξs,ξt,ξu,ξv,ξw,ξx,ξy,ξz,ξA,ξB,ξC,ξD,ξE,x1,x2,y1,y2,q0]
 rfl
end
end Go.Proofs.Ythmkfeiapdbojaa
set_option maxRecDepth 100000
namespace Go.Proofs.Ythmkfeiapdbojaa
open Go.Sx Go.Kv Go.Bun
section
variable {L:List Of} {x:PV}
def d6d (L:List Of) (p:Int) (i:Nat):List Of:=(L.take i).filter fun o=>decide (o.p=p)
theorem d6S {L:List Of} {p:Int} {i:Nat} {o:Of} (h:L[i]?=some o):d6d L p (i+1)=if decide (o.p=p)=true then d6d L p i++[o] else d6d L p i:=by
 unfold d6d
 rw [List.take_add_one,h,Qy]
 simp only [Option.toList_some,List.filter_cons,List.filter_nil]
 split<;>simp
theorem d6D (L:List Of) (p:Int) (i:Nat):(d6d L p i).length<=i:=by
 unfold d6d
 have:=QA (fun o:Of=>decide (o.p=p)) (L.take i)
 rw [List.length_take] at this
 omega
theorem d6Z (hx:d5w L x) (p:Int) (b:Bd) (n:Nat) (hn:3000000<=n):a0e a4u (n+1) d6i [x,.int .i64 p,.agg (bpv b)] []=some (.bool true,[]):=by
 have ha:=d5O (n:=n) (by omega)
 have hT:a4u d6i=some saleroomlaw14_FlattenCleans_S:=c3c _ _ d6n
 obtain ⟨x1,x2,x3⟩:=d5h hx
 have hC:=d6C L L.length
 have hCl:(d5Y L).length<=L.length:=hC
 have hsm:L.length<=60->a0e a4u n 43 [x] []=some (oV (d5Y L),[])/\a0e a4u n 44 [x] []=some (oV (d5Y L),[])/\a0e a4u n 43 [oV (d5Y L)] []=some (oV (d5Y L),[]) /\
   a0e a4u n 33 [oV (d5Y L),oV (d5Y L)] []=some (.bool true,[])/\(∀ M:List Of,M.length<=60->a0e a4u n 37 [oV M,.agg (bpv b)] []=some (.int .i64 (d5B b M),[])):=by
  intro h
  have c1:=d6X (σ:=[]) hx (by omega) n (by omega)
  have c2:=d7h (σ:=[]) hx (by omega) n (by omega)
  have c3:=d6X (σ:=[]) (d6E (d5Y L)) (by omega) n (by omega)
  rw [d6Y] at c3
  have c4:=d7l (σ:=[]) (d6E (d5Y L)) (d6E (d5Y L)) (by omega) n (by omega)
  rw [decide_eq_true rfl] at c4
  exact ⟨evH c1,evH c2,evH c3,evH c4,fun M hM=>evH (d5K (d6E M) (by omega) b n (by omega))⟩
 have hbest:=d7c (L:=L) p b
 have hall:d6d L p L.length=L.filter fun o=>decide (o.p=p):=by unfold d6d; rw [Qq]
 have hsome:d6d (d5Y L) p (d5Y L).length=(d5Y L).filter fun o=>decide (o.p=p):=by unfold d6d; rw [Qq]
 rw [<- hall,<- hsome] at hbest
 clear hall hsome
 rw [a0e,hT]
 generalize a0e a4u n=Φ at *
 simp only [Q0,Sys.run]
 show ((a0i [.sh (.one _),.sh (.one _),.sh (.agg [_,_,_,_,_,_])] _).bind _)=_
 simp only [bpv] at hsm ⊢
 simp only [a0i,a0d,a0c,Q5,Q0,Q8,Q9,Qa,if_true,x3]
 show (PT.ev _ d6b _).bind _=_
 by_cases h60:60 < L.length
 ·have q:ltB 60 (L.length:Int)=true:=by simp [ltB]; omega
  have key:d6b.ev Φ { i:=[p,b.a,b.b,b.c,b.d,b.e,b.f],b:=[],v:=[x],m:=[],k:=0 }=some (.ret (.bool true) []):=by
   unfold d6b
   repeat (first | rw [a0B] | rw [a0A] | rw [a0D] | rw [a0p] | rw [a0q] | rw [a0m] | rw [a0M] | rw [a3f] | rw [a0C] | rw [a0y] | rw [a0r] | rw [a0N])<;>simp -implicitDefEqProofs only [↓reduceIte,eq_self,ξ2,ξ3,ξ4,ξ5,ξ6,ξ7,ξ8,ξ9,ξa,ξb,ξc,ξd,ξe,ξf,ξg,ξh,Nat.reduceAdd,ξi,if_true,if_false,ξl,ξm,ξn,ξo,ξp,ξq,ξr,ξs,ξt,ξu,ξv,ξw,ξx,ξy,ξz,ξA,ξB,ξC,ξD,ξE,x1,x2,q,ha,a0k,or_true,QK]
  exact (congrArg (fun r=>Option.bind r _) key)
 have q:ltB 60 (L.length:Int)=false:=by simp [ltB]; omega
 obtain ⟨c1,c2,c3,c4,c5⟩:=hsm (by omega)
 obtain ⟨k1,k2,k3⟩:=d5h (d6E (d5Y L))
 have st0:∀ i:Nat,i < L.length->∀ fuel,saleroomlaw14_FlattenCleans_S.loop Φ (fuel+1) 0 { i:=[p,(L.length:Int),(i:Int),b.a,b.b,b.c,b.d,b.e,b.f],b:=[],v:=[x,oV (d5Y L),oV (d6d L p i)],m:=[],k:=0 } =
   saleroomlaw14_FlattenCleans_S.loop Φ fuel 0 { i:=[p,(L.length:Int),((i+1:Nat):Int),b.a,b.b,b.c,b.d,b.e,b.f],b:=[],v:=[x,oV (d5Y L),oV (d6d L p (i+1))],m:=[],k:=0 }:=by
  intro i hi fuel
  obtain ⟨o,ho⟩:=a3n hi
  have l1:=a4d (off:=0) hx (d5z ho)
  have q0:ltB (i:Int) (L.length:Int)=true:=by simp [ltB]; exact hi
  have q2:=a2h (i:=i) (by omega)
  have hR:=d6H (d6d L p i)
  have hA:=d6P (d6d L p i) o
  have hl:=d6D L p i
  have hsz:(osR (d6d L p i)).length+1<=1000000:=by rw [d5U]; omega
  rw [d6S ho,d6W]
  have e1:eqB o.p p=decide (o.p=p):=rfl
  generalize oV (d6d L p i++[o])=V2 at *
  generalize oV (d6d L p i)=V1 at *
  generalize osR (d6d L p i)=RR at *
  generalize oV (d5Y L)=CC at *
  generalize decide (o.p=p)=dp at *
  obtain ⟨op,⟨w0,w1,w2,w3,w4,w5⟩,v⟩:=o
  simp only [Of.pv] at hA l1
  simp only at e1
  rw [Sys.loop,show saleroomlaw14_FlattenCleans_S.loops[0]?=some d6a from rfl,Q0]
  have key:d6a.ev Φ { i:=[p,(L.length:Int),(i:Int),b.a,b.b,b.c,b.d,b.e,b.f],b:=[],v:=[x,CC,V1],m:=[],k:=0 }=some (.jump 0 { i:=[p,(L.length:Int),((i+1:Nat):Int),b.a,b.b,b.c,b.d,b.e,b.f],b:=[],v:=[x,CC,if dp=true then V2 else V1],m:=[],k:=0 }):=by
   unfold d6a
   cases dp with
   | true =>
    repeat (first | rw [a0B] | rw [a0A] | rw [a0D] | rw [a0p] | rw [a0q] | rw [a0m] | rw [a0M] | rw [a3f] | rw [a0C] | rw [a0y] | rw [a0r] | rw [a0N])<;>simp -implicitDefEqProofs only [↓reduceIte,eq_self,ξ2,ξ3,ξ4,ξ5,ξ6,ξ7,ξ8,ξ9,ξa,ξb,ξc,ξd,ξe,ξf,ξg,ξh,Nat.reduceAdd,ξi,if_true,if_false,ξl,ξm,ξn,ξo,ξp,ξq,ξr,ξs,ξt,ξu,ξv,ξw,ξx,ξy,ξz,ξA,ξB,ξC,ξD,ξE,x1,q0,le0,l1,e1,a1x,Qg,Qh,Qj,Qk,Qm,Qn,d6I,hR,hsz,hA,Qp,d6O,q2,a0v]
   | false =>
    repeat (first | rw [a0B] | rw [a0A] | rw [a0D] | rw [a0p] | rw [a0q] | rw [a0m] | rw [a0M] | rw [a3f] | rw [a0C] | rw [a0y] | rw [a0r] | rw [a0N])<;>simp -implicitDefEqProofs only [↓reduceIte,eq_self,ξ2,ξ3,ξ4,ξ5,ξ6,ξ7,ξ8,ξ9,ξa,ξb,ξc,ξd,ξe,ξf,ξg,ξh,Nat.reduceAdd,ξi,if_true,if_false,ξl,ξm,ξn,ξo,ξp,ξq,ξr,ξs,ξt,ξu,ξv,ξw,ξx,ξy,ξz,ξA,ξB,ξC,ξD,ξE,x1,q0,le0,l1,e1,q2,a0v]
  rw [key]
  rfl
 have st1:∀ V:PV,∀ i:Nat,i < (d5Y L).length->∀ fuel,saleroomlaw14_FlattenCleans_S.loop Φ (fuel+1) 1 { i:=[p,((d5Y L).length:Int),(i:Int),b.a,b.b,b.c,b.d,b.e,b.f],b:=[],v:=[x,oV (d5Y L),V,oV (d6d (d5Y L) p i)],m:=[],k:=0 } =
   saleroomlaw14_FlattenCleans_S.loop Φ fuel 1 { i:=[p,((d5Y L).length:Int),((i+1:Nat):Int),b.a,b.b,b.c,b.d,b.e,b.f],b:=[],v:=[x,oV (d5Y L),V,oV (d6d (d5Y L) p (i+1))],m:=[],k:=0 }:=by
  intro V i hi fuel
  obtain ⟨o,ho⟩:=a3n hi
  have l1:=a4d (off:=0) (d6E (d5Y L)) (d5z ho)
  have q0:ltB (i:Int) ((d5Y L).length:Int)=true:=by simp [ltB]; exact hi
  have q2:=a2h (i:=i) (by omega)
  have hR:=d6H (d6d (d5Y L) p i)
  have hA:=d6P (d6d (d5Y L) p i) o
  have hl:=d6D (d5Y L) p i
  have hsz:(osR (d6d (d5Y L) p i)).length+1<=1000000:=by rw [d5U]; omega
  rw [d6S ho,d6W]
  have e1:eqB o.p p=decide (o.p=p):=rfl
  generalize oV (d6d (d5Y L) p i++[o])=V2 at *
  generalize oV (d6d (d5Y L) p i)=V1 at *
  generalize osR (d6d (d5Y L) p i)=RR at *
  generalize oV (d5Y L)=CC at *
  generalize decide (o.p=p)=dp at *
  obtain ⟨op,⟨w0,w1,w2,w3,w4,w5⟩,v⟩:=o
  simp only [Of.pv] at hA l1
  simp only at e1
  rw [Sys.loop,show saleroomlaw14_FlattenCleans_S.loops[1]?=some d5Z from rfl,Q0]
  have key:d5Z.ev Φ { i:=[p,((d5Y L).length:Int),(i:Int),b.a,b.b,b.c,b.d,b.e,b.f],b:=[],v:=[x,CC,V,V1],m:=[],k:=0 }=some (.jump 1 { i:=[p,((d5Y L).length:Int),((i+1:Nat):Int),b.a,b.b,b.c,b.d,b.e,b.f],b:=[],v:=[x,CC,V,if dp=true then V2 else V1],m:=[],k:=0 }):=by
   unfold d5Z
   cases dp with
   | true =>
    repeat (first | rw [a0B] | rw [a0A] | rw [a0D] | rw [a0p] | rw [a0q] | rw [a0m] | rw [a0M] | rw [a3f] | rw [a0C] | rw [a0y] | rw [a0r] | rw [a0N])<;>simp -implicitDefEqProofs only [↓reduceIte,eq_self,ξ2,ξ3,ξ4,ξ5,ξ6,ξ7,ξ8,ξ9,ξa,ξb,ξc,ξd,ξe,ξf,ξg,ξh,Nat.reduceAdd,ξi,if_true,if_false,ξl,ξm,ξn,ξo,ξp,ξq,ξr,ξs,ξt,ξu,ξv,ξw,ξx,ξy,ξz,ξA,ξB,ξC,ξD,ξE,k1,q0,le0,l1,e1,a1x,Qg,Qh,Qj,Qk,Qm,Qn,d6I,hR,hsz,hA,Qp,d6O,q2,a0v]
   | false =>
    repeat (first | rw [a0B] | rw [a0A] | rw [a0D] | rw [a0p] | rw [a0q] | rw [a0m] | rw [a0M] | rw [a3f] | rw [a0C] | rw [a0y] | rw [a0r] | rw [a0N])<;>simp -implicitDefEqProofs only [↓reduceIte,eq_self,ξ2,ξ3,ξ4,ξ5,ξ6,ξ7,ξ8,ξ9,ξa,ξb,ξc,ξd,ξe,ξf,ξg,ξh,Nat.reduceAdd,ξi,if_true,if_false,ξl,ξm,ξn,ξo,ξp,ξq,ξr,ξs,ξt,ξu,ξv,ξw,ξx,ξy,ξz,ξA,ξB,ξC,ξD,ξE,k1,q0,le0,l1,e1,q2,a0v]
  rw [key]
  rfl
 have h0:=a3R (fun i=>{ i:=[p,(L.length:Int),(i:Int),b.a,b.b,b.c,b.d,b.e,b.f],b:=[],v:=[x,oV (d5Y L),oV (d6d L p i)],m:=[],k:=0 }) st0 L.length 0 (by omega) (n-L.length)
 rw [show n-L.length+L.length=n by omega] at h0
 have h1:=a3R (fun i=>{ i:=[p,((d5Y L).length:Int),(i:Int),b.a,b.b,b.c,b.d,b.e,b.f],b:=[],v:=[x,oV (d5Y L),oV (d6d L p L.length),oV (d6d (d5Y L) p i)],m:=[],k:=0 }) (st1 (oV (d6d L p L.length))) (d5Y L).length 0 (by omega) (n-L.length-1-(d5Y L).length)
 rw [show n-L.length-1-(d5Y L).length+(d5Y L).length=n-L.length-1 by omega] at h1
 have v1:=c5 (d6d L p L.length) (by have:=d6D L p L.length; omega)
 have v2:=c5 (d6d (d5Y L) p (d5Y L).length) (by have:=d6D (d5Y L) p (d5Y L).length; omega)
 rw [hbest] at v2
 have qL:ltB (L.length:Int) (L.length:Int)=false:=by simp [ltB]
 have qC:ltB ((d5Y L).length:Int) ((d5Y L).length:Int)=false:=by simp [ltB]
 have hx0:saleroomlaw14_FlattenCleans_S.loop Φ (n-L.length-1+1) 0 { i:=[p,(L.length:Int),(L.length:Int),b.a,b.b,b.c,b.d,b.e,b.f],b:=[],v:=[x,oV (d5Y L),oV (d6d L p L.length)],m:=[],k:=0 } =
   saleroomlaw14_FlattenCleans_S.loop Φ (n-L.length-1) 1 { i:=[p,((d5Y L).length:Int),((0:Nat):Int),b.a,b.b,b.c,b.d,b.e,b.f],b:=[],v:=[x,oV (d5Y L),oV (d6d L p L.length),oV (d6d (d5Y L) p 0)],m:=[],k:=0 }:=by
  have hs0:oV (d6d (d5Y L) p 0)=.nilS:=rfl
  rw [hs0,Sys.loop,show saleroomlaw14_FlattenCleans_S.loops[0]?=some d6a from rfl]
  simp -implicitDefEqProofs only [Q0,d6a,↓reduceIte,eq_self,ξ1,ξ2,ξ3,ξ4,ξ5,ξ6,ξ7,ξ8,ξ9,ξa,ξb,ξc,ξd,ξe,ξf,ξg,ξh,Nat.reduceAdd,ξi,if_true,if_false,ξl,ξm,ξn,ξo,ξp,ξq,ξr,ξs,ξt,ξu,ξv,ξw,ξx,ξy,ξz,ξA,ξB,ξC,ξD,ξE,qL,k1,k2]
  rfl
 rw [show n-L.length-1+1=n-L.length by omega] at hx0
 rw [hx0,h1] at h0
 have hx1:saleroomlaw14_FlattenCleans_S.loop Φ (n-L.length-1-(d5Y L).length-1+1) 1 { i:=[p,((d5Y L).length:Int),((d5Y L).length:Int),b.a,b.b,b.c,b.d,b.e,b.f],b:=[],v:=[x,oV (d5Y L),oV (d6d L p L.length),oV (d6d (d5Y L) p (d5Y L).length)],m:=[],k:=0 }=some (.bool true,[]):=by
  generalize oV (d6d L p L.length)=A1 at *
  generalize oV (d6d (d5Y L) p (d5Y L).length)=A2 at *
  generalize d5B b (d6d L p L.length)=zz at *
  generalize oV (d5Y L)=CC at *
  clear h0 h1 st0 st1 hx0 hbest
  rw [Sys.loop,show saleroomlaw14_FlattenCleans_S.loops[1]?=some d5Z from rfl,Q0]
  have key:d5Z.ev Φ { i:=[p,((d5Y L).length:Int),((d5Y L).length:Int),b.a,b.b,b.c,b.d,b.e,b.f],b:=[],v:=[x,CC,A1,A2],m:=[],k:=0 }=some (.ret (.bool true) []):=by
   unfold d5Z
   repeat (first | rw [a0B] | rw [a0A] | rw [a0D] | rw [a0p] | rw [a0q] | rw [a0m] | rw [a0M] | rw [a3f] | rw [a0C] | rw [a0y] | rw [a0r] | rw [a0N])<;>simp -implicitDefEqProofs only [↓reduceIte,eq_self,ξ2,ξ3,ξ4,ξ5,ξ6,ξ7,ξ8,ξ9,ξa,ξb,ξc,ξd,ξe,ξf,ξg,ξh,Nat.reduceAdd,ξi,if_true,if_false,ξl,ξm,ξn,ξo,ξp,ξq,ξr,ξs,ξt,ξu,ξv,ξw,ξx,ξy,ξz,ξA,ξB,ξC,ξD,ξE,qC,k1,k2,k3,c1,c2,c3,c4,v1,v2,a2Y,ha,a0k,or_true,QK]
  rw [key]
  rfl
 rw [show n-L.length-1-(d5Y L).length-1+1=n-L.length-1-(d5Y L).length by omega] at hx1
 rw [hx1] at h0
 have key:d6b.ev Φ { i:=[p,b.a,b.b,b.c,b.d,b.e,b.f],b:=[],v:=[x],m:=[],k:=0 }=some (.jump 0 { i:=[p,(L.length:Int),((0:Nat):Int),b.a,b.b,b.c,b.d,b.e,b.f],b:=[],v:=[x,oV (d5Y L),oV (d6d L p 0)],m:=[],k:=0 }):=by
  have hs0:oV (d6d L p 0)=.nilS:=rfl
  rw [hs0]
  generalize oV (d5Y L)=CC at *
  unfold d6b
  repeat (first | rw [a0B] | rw [a0A] | rw [a0D] | rw [a0p] | rw [a0q] | rw [a0m] | rw [a0M] | rw [a3f] | rw [a0C] | rw [a0y] | rw [a0r] | rw [a0N])<;>simp -implicitDefEqProofs only [↓reduceIte,eq_self,ξ2,ξ3,ξ4,ξ5,ξ6,ξ7,ξ8,ξ9,ξa,ξb,ξc,ξd,ξe,ξf,ξg,ξh,Nat.reduceAdd,ξi,if_true,if_false,ξl,ξm,ξn,ξo,ξp,ξq,ξr,ξs,ξt,ξu,ξv,ξw,ξx,ξy,ξz,ξA,ξB,ξC,ξD,ξE,x1,x2,q,c1,k3]
  rfl
 exact (congrArg (fun r=>Option.bind r _) key).trans h0
end
end Go.Proofs.Ythmkfeiapdbojaa
