/- The chapter's examples hold. -/
import Derived.Test.YthmkfeiapdbojaaHVn
import Derived.Test.YthmkfeiapdbojaaHVq
import Derived.Test.YthmkfeiapdbojaaHGx
import Derived.Test.YthmkfeiapdbojaaHSaa
import Derived.Test.YthmkfeiapdbojaaHSab
import Derived.Test.YthmkfeiapdbojaaHVr
set_option linter.unusedSimpArgs false
set_option linter.unusedVariables false
open Go.Sx.PT renaming ev → ξ1
open Go.Sx.BE renaming safe → ξ2, pe → ξ3, all → ξz
open Go.Sx.IE renaming pe → ξ4
open Go.Sx renaming PEnv.at → ξ5
open Go.Sx.PEnv renaming push → ξt
open List renaming getD_cons_zero → ξ6, getD_cons_succ → ξ7, getElem?_cons_zero → ξ8, getElem?_cons_succ → ξ9, drop_zero → ξf, length_cons → ξg, length_nil → ξh, take_succ_cons → ξm, take_zero → ξn, cons_append → ξu, nil_append → ξv, append_nil → ξw, map_cons → ξD, map_nil → ξE
open Go.Sx renaming a0g → ξa, a0h → ξb, a0b → ξc, a0f → ξd, a0c → ξo, a0a → ξp, a0d → ξq, a0N → ξF, a0D → ξG, a0p → ξH, a0q → ξI, a0C → ξJ, a1d → ξK, a0Z → ξL, a1e → ξM, a0Y → ξN, a0A → ξO, a0n → ξP, a0B → ξQ, a0M → ξR, a0m → ξS, a0y → ξT, a0R → ξU, a0H → ξV, a0I → ξW, a0J → ξX, a0r → ξY
open Nat renaming add_zero → ξe, le_refl → ξi
open Bool renaming false_eq_true → ξl, and_self → ξA, not_true → ξB, not_false → ξC
open Option renaming map_some → ξr, bind_some → ξs
open Go.Sx.SV renaming pvs → ξx, pv → ξy
open Option renaming bind_some → Q0, map_some → Q4, bind_eq_bind → QM, pure_def → QN
open List renaming range → Q1, getD_eq_getElem?_getD → Q2, append_nil → Q3, nil_append → Q5, mem_range → Q7, cons_append → Q8, replicate → Q9, map_cons → Qa, map_nil → Qd, all_eq_true → Qe, range_succ → Qh, getElem?_eq_none → Qn, all_append → Qp, length_map → Qt, length_singleton → Qv, length_nil → Qw, countP_cons → QA, drop_of_length_le → QB, drop_eq_getElem?_toList_append → QC, drop_zero → QD, ext_getElem? → QE, take_left → QH, mapM_cons → QJ, reverse_cons → QK, reverse_nil → QL, getElem?_eq_some_iff → QP, getElem?_map → QQ
open Bool renaming false_and → Q6, true_and → Qb, eq_iff_iff → Qf, and_eq_true → Qg, and_false → Qj, not_false → Qq, and_true → Qr, not_eq_true' → Qs, and_self → Qu, not_true → Qy, or_eq_true → Qz
open Int renaming mul_pos → Qk, toNat_natCast → Qm
set_option maxRecDepth 1000000
namespace Go.Proofs.Ythmkfeiapdbojaa
open Go.Sx Go.Kv
theorem d5V:a0e a4u 2000 d3Z [] []=some (.bool true,[]):=by kernel_rfl
end Go.Proofs.Ythmkfeiapdbojaa
set_option maxRecDepth 100000
namespace Go.Proofs.Ythmkfeiapdbojaa
open Go.Sx Go.Kv Go.Bun
structure Of where
 p:Int
 w:Bd
 v:Int
 deriving DecidableEq,Inhabited
def Of.pv (o:Of):List PV:=[.int .i64 o.p,.int .i64 o.w.a,.int .i64 o.w.b,.int .i64 o.w.c,.int .i64 o.w.d,.int .i64 o.w.e,.int .i64 o.w.f,.int .i64 o.v]
def osR (L:List Of):List (List PV):=L.map Of.pv
theorem d5U (L:List Of):(osR L).length=L.length:=by simp [osR]
theorem d5z {L:List Of} {i:Nat} {o:Of} (h:L[i]?=some o):(osR L)[i]?=some o.pv:=by simp [osR,h]
def d5w (L:List Of) (x:PV):Prop:=x.rowsOf 8=some (osR L)
theorem d5h {L:List Of} {x:PV} (h:d5w L x):x.len=(L.length:Int)/\x.isKind 0=true/\x.one=true:=by
 obtain ⟨h1,h2,h3⟩:=a0T h
 exact ⟨by rw [h1,d5U],h2,h3⟩
theorem d5M:Ext Tab:=by
 intro f S h
 unfold tabW at h
 repeat' split at h
 all_goals first
  | (cases h; done)
  | (rename_i hf; subst hf; cases h; first | exact d4g | exact d5d | exact d5u | exact d5y | exact d5q)
theorem d5G (x y:Bd) (σ:List MO) (n:Nat):a0e Tab (n+2) 62 [.agg (bpv x),.agg (bpv y)] σ=some (.bool (decide (x.Le y)),σ):=by
 have:=c5Q d5M n σ (a:=x.l) (b:=y.l) rfl rfl
 rw [show leL x.l y.l=decide (x.Le y) by rw [Qf,a7e,decide_eq_true_eq]] at this
 exact this
section
variable {σ:List MO} {L:List Of} {x:PV}
theorem d5O {n:Nat} (hn:2000<=n):a0e a4u n d3Z [] []=some (.bool true,[]):=c7R hn d5V
end
end Go.Proofs.Ythmkfeiapdbojaa
set_option maxRecDepth 100000
namespace Go.Proofs.Ythmkfeiapdbojaa
open Go.Sx Go.Kv Go.Bun
def d6j (L:List Of) (i k:Nat):Bool :=
 !decide (i=k)&&decide ((L.getD i default).p=(L.getD k default).p)&&decide ((L.getD k default).w.Le (L.getD i default).w)&&decide ((L.getD i default).v<=(L.getD k default).v) &&
 (!decide ((L.getD i default).w=(L.getD k default).w)||!decide ((L.getD i default).v=(L.getD k default).v)||decide (k < i))
def d6M (L:List Of) (i:Nat):Bool:=(Q1 L.length).any (d6j L i)
def d6k (L:List Of) (i:Nat):Bool:=decide (1<=(L.getD i default).v)&&!d6M L i
theorem d6r {L:List Of} {i k:Nat}:d6j L i k=true↔i≠k/\(L.getD i default).p=(L.getD k default).p/\(L.getD k default).w.Le (L.getD i default).w/\(L.getD i default).v<=(L.getD k default).v /\
  ((L.getD i default).w≠(L.getD k default).w\/(L.getD i default).v≠(L.getD k default).v\/k < i):=by
 unfold d6j
 simp only [Qg,Qz,Qs,decide_eq_true_eq,decide_eq_false_iff_not]
 constructor
 ·rintro ⟨⟨⟨⟨h1,h2⟩,h3⟩,h4⟩,h5⟩
  refine ⟨h1,h2,h3,h4,?_⟩
  rcases h5 with (h5 | h5) | h5
  ·exact .inl h5
  ·exact .inr (.inl h5)
  ·exact .inr (.inr h5)
 ·rintro ⟨h1,h2,h3,h4,h5⟩
  refine ⟨⟨⟨⟨h1,h2⟩,h3⟩,h4⟩,?_⟩
  rcases h5 with h5 | h5 | h5
  ·exact .inl (.inl h5)
  ·exact .inl (.inr h5)
  ·exact .inr h5
theorem d7b {x y:Bd} (h:x.Le y) (k:y.Le x):x=y:=by
 obtain ⟨a,b,c,d,e,f⟩:=x
 obtain ⟨a',b',c',d',e',f'⟩:=y
 simp only [Bd.Le] at h k
 simp only [Bd.mk.injEq]
 omega
theorem d7e {x y z:Bd} (h:x.Le y) (k:y.Le z):x.Le z:=by
 simp only [Bd.Le] at *
 omega
theorem d7k {L:List Of} {i k:Nat} (h:d6j L i k=true) (g:d6j L k i=true):False:=by
 rw [d6r] at *
 obtain ⟨h1,h2,h3,h4,h5⟩:=h
 obtain ⟨g1,g2,g3,g4,g5⟩:=g
 have e3:=d7b h3 g3
 have e4:(L.getD i default).v=(L.getD k default).v:=by omega
 have h6:k < i:=by
  rcases h5 with h5 | h5 | h5
  ·exact absurd e3.symm h5
  ·exact absurd e4 h5
  ·exact h5
 have g6:i < k:=by
  rcases g5 with g5 | g5 | g5
  ·exact absurd e3 g5
  ·exact absurd e4.symm g5
  ·exact g5
 omega
theorem d7f {L:List Of} {i k m:Nat} (h:d6j L i k=true) (g:d6j L k m=true):d6j L i m=true:=by
 by_cases he:i=m
 ·subst he; exact (d7k h g).elim
 rw [d6r] at *
 obtain ⟨h1,h2,h3,h4,h5⟩:=h
 obtain ⟨g1,g2,g3,g4,g5⟩:=g
 refine ⟨he,h2.trans g2,d7e g3 h3,Int.le_trans h4 g4,?_⟩
 by_cases e1:(L.getD i default).w=(L.getD m default).w
 ·by_cases e2:(L.getD i default).v=(L.getD m default).v
  ·have e3:(L.getD k default).w=(L.getD i default).w:=d7b h3 (by rw [e1]; exact g3)
   have e4:(L.getD k default).v=(L.getD i default).v:=by omega
   have c5:m < k:=by
    rcases g5 with c4 | c4 | c4
    ·exact absurd (e3.trans e1) c4
    ·exact absurd (e4.trans e2) c4
    ·exact c4
   have h6:k < i:=by
    rcases h5 with h5 | h5 | h5
    ·exact absurd e3.symm h5
    ·exact absurd e4.symm h5
    ·exact h5
   exact .inr (.inr (by omega))
  ·exact .inr (.inl e2)
 ·exact .inl e1
theorem d6Q {α:Type} {p q:α->Bool}:∀ {l:List α},(∀ x∈l,p x=true->q x=true)->(∃ x∈l,q x=true/\p x=false)->l.countP p < l.countP q
 | [],_,h=>by obtain ⟨x,hx,_⟩:=h; simp at hx
 | a::l,h,hx=>by
  have hle:l.countP p<=l.countP q:=List.countP_mono_left fun x hx=>h x (by simp [hx])
  have ha:=h a (by simp)
  rw [QA,QA]
  obtain ⟨x,hx,h1,h2⟩:=hx
  rcases List.mem_cons.1 hx with rfl | hx
  ·rw [h1,h2]; simp; omega
  ·have:=d6Q (fun y hy=>h y (by simp [hy])) ⟨x,hx,h1,h2⟩
   cases hp:p a with
   | false=>cases q a<;>simp<;>omega
   | true=>rw [ha hp]; simp; omega
theorem kept {L:List Of}:∀ (m i:Nat),(Q1 L.length).countP (d6j L i)=m->i < L.length->1<=(L.getD i default).v->∃ j,j < L.length/\d6k L j=true/\(L.getD j default).p=(L.getD i default).p/\(L.getD j default).w.Le (L.getD i default).w/\(L.getD i default).v<=(L.getD j default).v:=by
 intro m
 induction m using Nat.strongRecOn with
 | _ m ih =>
  intro i hm hi hv
  by_cases hd:d6M L i=true
  ·obtain ⟨k,hk,hd⟩:=List.any_eq_true.1 hd
   rw [Q7] at hk
   have hdi:=d6r.1 hd
   obtain ⟨j,j1,j2,j3,j4,j5⟩:=ih _ (by
    rw [<- hm]
    exact d6Q (p:=d6j L k) (q:=d6j L i) (fun x _ hx=>d7f hd hx) ⟨k,Q7.2 hk,hd,by
     cases hkk:d6j L k k with
     | false=>rfl
     | true=>exact absurd rfl (d6r.1 hkk).1⟩) k rfl hk (by omega)
   exact ⟨j,j1,j2,j3.trans hdi.2.1.symm,d7e j4 hdi.2.2.1,by omega⟩
  ·refine ⟨i,hi,?_,rfl,by simp only [Bd.Le]; omega,Int.le_refl _⟩
   unfold d6k
   rw [decide_eq_true hv,Qb]
   simpa using hd
end Go.Proofs.Ythmkfeiapdbojaa
set_option maxRecDepth 100000
namespace Go.Proofs.Ythmkfeiapdbojaa
open Go.Sx Go.Kv Go.Bun
section
variable {σ:List MO} {L M:List Of} {x y:PV}
theorem b5I {L:List Of} {i:Nat} {o:Of} (h:L[i]?=some o):L.getD i default=o:=by rw [Q2,h]; rfl
def oV (R:List Of):PV:=match R with | []=>.nilS | _::_=>.sl 8 (osR R)
theorem d6E (R:List Of):d5w R (oV R):=by cases R<;>simp [d5w,oV,PV.rowsOf,osR]
theorem d6H (R:List Of):(oV R).rowsOf 8=some (osR R):=d6E R
theorem d6P (R:List Of) (o:Of):PV.sl 8 (osR R++[o.pv])=oV (R++[o]):=by
 cases R<;>simp [oV,osR]
theorem d8r (R:List Of):(oV R).one=true:=(d5h (d6E R)).2.2
end
end Go.Proofs.Ythmkfeiapdbojaa
set_option maxRecDepth 100000
namespace Go.Proofs.Ythmkfeiapdbojaa
open Go.Sx Go.Kv Go.Bun
section
variable {σ:List MO} {L M:List Of} {x y:PV}
theorem d6W (c:Bool) (A B:List Of):oV (if c=true then A else B)=if c=true then oV A else oV B:=by cases c<;>rfl
theorem d7l (hx:d5w L x) (hy:d5w M y) (hL:L.length<=1000000) (n:Nat) (hn:L.length+10<=n):a0e Tab n 33 [x,y] σ=some (.bool (decide (L=M)),σ):=by
 obtain ⟨q,rfl⟩:∃ q,n=q+1:=⟨n-1,by omega⟩
 obtain ⟨x1,x2,x3⟩:=d5h hx
 obtain ⟨y1,y2,y3⟩:=d5h hy
 rw [a0e,d6y]
 simp only [Q0,Sys.run]
 show ((a0i [.sh (.one _),.sh (.one _)] _).bind _)=_
 simp only [a0i,a0d,a0c,Q4,Q0,Q3,Q5,Q8,if_true,x3,y3]
 show (PT.ev _ d4F _).bind _=_
 by_cases hl:L.length=M.length
 case neg =>
  have q0:eqB (L.length:Int) (M.length:Int)=false:=eqF (by omega)
  rw [decide_eq_false (fun h=>hl (by rw [h]))]
  simp -implicitDefEqProofs only [d4F,↓reduceIte,eq_self,ξ1,ξ2,ξ3,ξ4,ξ5,ξ6,ξ7,ξ8,ξ9,ξa,ξb,ξc,ξd,ξe,ξf,ξg,ξh,Nat.reduceAdd,ξi,if_true,if_false,ξl,ξm,ξn,ξo,ξp,ξq,ξr,ξs,ξt,ξu,ξv,ξw,ξx,ξy,ξz,ξA,ξB,ξC,ξD,ξE,x1,x2,y1,y2,q0,a0k,or_true]
 have q0:eqB (L.length:Int) (M.length:Int)=true:=by rw [hl]; exact a2Y _
 have loop:∀ (d i:Nat),i+d=L.length->∀ fuel,d+1<=fuel->saleroomref14_Same_S.loop (a0e Tab q) fuel 0 { i:=[(i:Int)],b:=[],v:=[x,y],m:=σ,k:=σ.length }=some (.bool (decide (L.drop i=M.drop i)),σ):=by
  intro d
  induction d with
  | zero =>
   intro i hi fuel hf
   obtain ⟨fuel,rfl⟩:∃ j,fuel=j+1:=⟨fuel-1,by omega⟩
   have qq:ltB (i:Int) (L.length:Int)=false:=by simp [ltB]; omega
   rw [decide_eq_true (by rw [QB (by omega),QB (by omega)])]
   rw [Sys.loop,show saleroomref14_Same_S.loops[0]?=some d4B from rfl]
   simp -implicitDefEqProofs only [Q0,d4B,↓reduceIte,eq_self,ξ1,ξ2,ξ3,ξ4,ξ5,ξ6,ξ7,ξ8,ξ9,ξa,ξb,ξc,ξd,ξe,ξf,ξg,ξh,Nat.reduceAdd,ξi,if_true,if_false,ξl,ξm,ξn,ξo,ξp,ξq,ξr,ξs,ξt,ξu,ξv,ξw,ξx,ξy,ξz,ξA,ξB,ξC,ξD,ξE,x1,x2,qq,a0k,or_true]
  | succ d ih =>
   intro i hi fuel hf
   obtain ⟨fuel,rfl⟩:∃ j,fuel=j+1:=⟨fuel-1,by omega⟩
   obtain ⟨a,ha⟩:=a3n (l:=L) (i:=i) (by omega)
   obtain ⟨b,hb⟩:=a3n (l:=M) (i:=i) (by omega)
   have hnx:=ih (i+1) (by omega) fuel (by omega)
   have l1:=a4d (off:=0) hx (d5z ha)
   have l2:=a4d (off:=0) hy (d5z hb)
   have qq:ltB (i:Int) (L.length:Int)=true:=by simp [ltB]; omega
   have qm:ltB (i:Int) (M.length:Int)=true:=by simp [ltB]; omega
   have q2:=a2h (i:=i) (by omega)
   have hdr:(L.drop i=M.drop i)↔(a=b/\L.drop (i+1)=M.drop (i+1)):=by
    rw [QC (i:=i),ha,QC (i:=i) (l:=M),hb]
    simp
   have e0:(eqB a.p b.p&&(eqB a.w.a b.w.a&&(eqB a.w.b b.w.b&&(eqB a.w.c b.w.c&&(eqB a.w.d b.w.d&&(eqB a.w.e b.w.e&&(eqB a.w.f b.w.f&&eqB a.v b.v)))))))=decide (a=b):=by
    rw [Qf]
    simp only [Qg,a2p,decide_eq_true_eq]
    obtain ⟨ap,⟨a0,a1,a2,a3,a4,a5⟩,av⟩:=a
    obtain ⟨bp,⟨b0,b1,b2,b3,b4,b5⟩,bv⟩:=b
    simp only [Of.mk.injEq,Bd.mk.injEq]
    constructor
    ·rintro ⟨h1,h2,h3,h4,h5,h6,h7,h8⟩; exact ⟨h1,⟨h2,h3,h4,h5,h6,h7⟩,h8⟩
    ·rintro ⟨h1,⟨h2,h3,h4,h5,h6,h7⟩,h8⟩; exact ⟨h1,h2,h3,h4,h5,h6,h7,h8⟩
   rw [show decide (L.drop i=M.drop i)=(decide (a=b)&&decide (L.drop (i+1)=M.drop (i+1))) by rw [Qf,Qg,decide_eq_true_eq,decide_eq_true_eq,decide_eq_true_eq]; exact hdr]
   generalize decide (L.drop (i+1)=M.drop (i+1))=rr at *
   generalize decide (a=b)=ab at *
   generalize a0e Tab q=Φ at *
   clear hdr ha hb ih
   obtain ⟨ap,⟨a0,a1,a2,a3,a4,a5⟩,av⟩:=a
   obtain ⟨bp,⟨b0,b1,b2,b3,b4,b5⟩,bv⟩:=b
   simp only at e0
   rw [Sys.loop,show saleroomref14_Same_S.loops[0]?=some d4B from rfl]
   cases ab with
   | false=>simp -implicitDefEqProofs only [Q0,d4B,↓reduceIte,eq_self,ξ1,ξ2,ξ3,ξ4,ξ5,ξ6,ξ7,ξ8,ξ9,ξa,ξb,ξc,ξd,ξe,ξf,ξg,ξh,Nat.reduceAdd,ξi,if_true,if_false,ξl,ξm,ξn,ξo,ξp,ξq,ξr,ξs,ξt,ξu,ξv,ξw,ξx,ξy,ξz,ξA,ξB,ξC,ξD,ξE,x1,x2,qq,y1,qm,le0,l1,l2,Of.pv,e0,a0k,or_true,Q6]
   | true =>
    rw [Qb,<- hnx]
    simp -implicitDefEqProofs only [Q0,d4B,↓reduceIte,eq_self,ξ1,ξ2,ξ3,ξ4,ξ5,ξ6,ξ7,ξ8,ξ9,ξa,ξb,ξc,ξd,ξe,ξf,ξg,ξh,Nat.reduceAdd,ξi,if_true,if_false,ξl,ξm,ξn,ξo,ξp,ξq,ξr,ξs,ξt,ξu,ξv,ξw,ξx,ξy,ξz,ξA,ξB,ξC,ξD,ξE,x1,x2,qq,y1,qm,le0,l1,l2,Of.pv,e0,q2,a0v]
 have h0:=loop L.length 0 (by omega) q (by omega)
 rw [QD,QD] at h0
 refine Eq.trans ?_ h0
 simp -implicitDefEqProofs only [d4F,↓reduceIte,eq_self,ξ1,ξ2,ξ3,ξ4,ξ5,ξ6,ξ7,ξ8,ξ9,ξa,ξb,ξc,ξd,ξe,ξf,ξg,ξh,Nat.reduceAdd,ξi,if_true,if_false,ξl,ξm,ξn,ξo,ξp,ξq,ξr,ξs,ξt,ξu,ξv,ξw,ξx,ξy,ξz,ξA,ξB,ξC,ξD,ξE,x1,x2,y1,y2,q0]
 rfl
end
end Go.Proofs.Ythmkfeiapdbojaa
set_option maxRecDepth 100000
namespace Go.Proofs.Ythmkfeiapdbojaa
open Go.Sx Go.Kv Go.Bun
open Go.Bun (offs)
theorem d8M (s:Bd) (hc:s.cnt≠0) (x:Bd) (hx:x.Ok) (hl:x.Le s) (σ:List MO) (n:Nat):a0e Tab (n+3) 97 [.agg (bpv s),.agg (bpv x)] σ=some (.tup [.int .i64 (s.horner x),.int .i64 0],σ):=by
 have hs:=Bd.ok_of_cnt hc
 have hcn:=a7a s σ n
 have hck:=b5f x σ (n+1)
 have hw:=d5G x s σ n
 rw [decide_eq_true hl] at hw
 have hck0:x.check=0:=by unfold Bd.check; rw [if_pos hx]
 rw [hck0] at hck
 have qz:eqB s.cnt 0=false:=eqF hc
 generalize s.cnt=cz at *
 obtain ⟨a,b,c,d,e,f⟩:=s
 obtain ⟨x0,x1,x2,x3,x4,x5⟩:=x
 simp only [Bd.Ok] at hs hx
 simp only [bpv,Bd.horner] at hcn hck hw ⊢
 have ok1:∀ x:Int,0<=x/\x<=4->(leB (-9223372036854775808) (x+1)&&leB (x+1) 9223372036854775807)=true:=fun x hx=>a0u (by omega)
 have ok2:∀ x:Int,0<=x/\x<=1000000->(leB (-9223372036854775808) x&&leB x 9223372036854775807)=true:=fun x hx=>a0u (by omega)
 obtain ⟨z1,hz1⟩:∃ z,z=0*(a+1):=⟨_,rfl⟩
 have hz1':z1=0:=by rw [hz1]; omega
 have u2:=a2i (x:=z1+x0) (y:=b+1) (A:=4) (B:=5) (by omega) (by omega)
 have u3:=a2i (x:=(z1+x0)*(b+1)+x1) (y:=c+1) (A:=24) (B:=5) (by omega) (by omega)
 have u4:=a2i (x:=((z1+x0)*(b+1)+x1)*(c+1)+x2) (y:=d+1) (A:=124) (B:=5) (by omega) (by omega)
 have u5:=a2i (x:=(((z1+x0)*(b+1)+x1)*(c+1)+x2)*(d+1)+x3) (y:=e+1) (A:=624) (B:=5) (by omega) (by omega)
 have u6:=a2i (x:=((((z1+x0)*(b+1)+x1)*(c+1)+x2)*(d+1)+x3)*(e+1)+x4) (y:=f+1) (A:=3124) (B:=5) (by omega) (by omega)
 rw [<- hz1]
 have j1:=ok2 z1 (by omega)
 have j1':=ok2 (z1+x0) (by omega)
 have j2:=ok2 _ ⟨u2.1,by omega⟩
 have j2':=ok2 ((z1+x0)*(b+1)+x1) (by omega)
 have j3:=ok2 _ ⟨u3.1,by omega⟩
 have j3':=ok2 (((z1+x0)*(b+1)+x1)*(c+1)+x2) (by omega)
 have j4:=ok2 _ ⟨u4.1,by omega⟩
 have j4':=ok2 ((((z1+x0)*(b+1)+x1)*(c+1)+x2)*(d+1)+x3) (by omega)
 have j5:=ok2 _ ⟨u5.1,by omega⟩
 have j5':=ok2 (((((z1+x0)*(b+1)+x1)*(c+1)+x2)*(d+1)+x3)*(e+1)+x4) (by omega)
 have j6:=ok2 _ ⟨u6.1,by omega⟩
 have j6':=ok2 ((((((z1+x0)*(b+1)+x1)*(c+1)+x2)*(d+1)+x3)*(e+1)+x4)*(f+1)+x5) (by omega)
 rw [a0e,d7V]
 have qzz:eqB 0 0=true:=rfl
 generalize a0e Tab (n+2)=Φ at *
 simp only [Q0,Sys.run]
 show ((a0i [.sh (.agg [_,_,_,_,_,_]),.sh (.agg [_,_,_,_,_,_])] _).bind _)=_
 simp only [a0i,a0d,a0c,Q4,Q0,Q3,Q5,Q8,if_true]
 show (PT.ev _ d5A _).bind _=_
 simp -implicitDefEqProofs only [d5A,↓reduceIte,eq_self,ξ1,ξ2,ξ3,ξ4,ξ5,ξ6,ξ7,ξ8,ξ9,ξa,ξb,ξc,ξd,ξe,ξf,ξg,ξh,Nat.reduceAdd,ξi,if_true,if_false,ξl,ξm,ξn,ξo,ξp,ξq,ξr,ξs,ξt,ξu,ξv,ξw,ξx,ξy,ξz,ξA,ξB,ξC,ξD,ξE,hcn,hck,hw,qz,qzz,a0k,or_true,ok1 a hs.1,ok1 b hs.2.1,ok1 c hs.2.2.1,ok1 d hs.2.2.2.1,ok1 e hs.2.2.2.2.1,ok1 f hs.2.2.2.2.2,<- hz1,j1,j1',j2,j2',j3,j3',j4,j4',j5,j5',j6,j6']
section
variable {Φ:Fns} {σ:List MO} {h N:Nat} {M:List Int} {s0 s1 s2 s3 s4 s5 b0 b1 b2 b3 b4 b5:Int}
def fE (u q s0 s1 s2 s3 s4 s5 b0 b1 b2 b3 b4 b5:Int) (h N:Nat) (σ:List MO):PEnv:={ i:=[u,b0,b1,b2,b3,b4,b5,q,s0,s1,s2,s3,s4,s5],b:=[],v:=[.msl h 0 N N 1],m:=σ,k:=σ.length }
theorem d8C (fuel:Nat) (u:Int) (r:Nat) (hb:0<=b0/\b0<=4) (hM:M.length=N) (hm:σ[h]?=some (.cells (iPV M) 2)) (hr:0 < b0->r < N/\Φ 97 [.agg (lpv [s0,s1,s2,s3,s4,s5]),.agg (lpv [(b0-1),b1,b2,b3,b4,b5])] σ=some (.tup [.int .i64 r,.int .i64 0],σ)) :
  flatten_below_S.loop Φ (fuel+1) 0 (fE u 0 s0 s1 s2 s3 s4 s5 b0 b1 b2 b3 b4 b5 h N σ)=flatten_below_S.loop Φ fuel 0 (fE (if 0 < b0 then mxI u (M.getD r 0) else u) 1 s0 s1 s2 s3 s4 s5 b0 b1 b2 b3 b4 b5 h N σ):=by
 have q0:ltB 0 6=true:=rfl
 have q1:(leB (-9223372036854775808) (b0-1)&&leB (b0-1) 9223372036854775807)=true:=a0u (by omega)
 have qzz:eqB 0 0=true:=rfl
 have e5:eqB 0 5=decide ((0:Int)=5):=rfl
 have e4:eqB 0 4=decide ((0:Int)=4):=rfl
 have e3:eqB 0 3=decide ((0:Int)=3):=rfl
 have e2:eqB 0 2=decide ((0:Int)=2):=rfl
 have e1:eqB 0 1=decide ((0:Int)=1):=rfl
 have e0:eqB 0 0=decide ((0:Int)=0):=rfl
 have p0:leB 0 0=true:=rfl
 simp only [Int.reduceEq,decide_true,decide_false] at e5 e4 e3 e2 e1 e0
 rw [Sys.loop,show flatten_below_S.loops[0]?=some _ from rfl]
 by_cases hb0:0 < b0
 ·obtain ⟨hc1,hc2⟩:=hr hb0
  rw [if_pos hb0]
  have hz:eqB b0 0=false:=eqF (by omega)
  obtain ⟨y,hy⟩:=a3n (l:=M) (i:=r) (by omega)
  have l2:=a3p (h:=h) (c:=N) hc1
  have r2:=a7n hy
  unfold a0f at r2
  have ey:M.getD r 0=y:=by rw [Q2,hy]; rfl
  have q2:(leB 0 (r:Int)&&ltB (r:Int) (N:Int))=true:=by simp [leB,ltB]; omega
  have hone:(PV.msl h 0 N N 1).one=true:=rfl
  have hlen:(PV.msl h 0 N N 1).len=(N:Int):=rfl
  rw [ey]
  have hsh:a2O [Sh.one (.int .i64),Sh.one (.int .i64)] [.int .i64 r,.int .i64 0]=some ([(r:Int),0],[],[]):=rfl
  simp only [Q0,d5k,fE]
  simp only [lpv,Qa,Qd] at hc2
  simp -implicitDefEqProofs only [↓reduceIte,eq_self,ξ1,ξ2,ξ3,ξ4,ξ5,ξ6,ξ7,ξ8,ξ9,ξa,ξb,ξc,ξd,ξe,ξf,ξg,ξh,Nat.reduceAdd,ξi,if_true,if_false,ξl,ξm,ξn,ξo,ξp,ξq,ξr,ξs,ξt,ξu,ξv,ξw,ξx,ξy,ξz,ξA,ξB,ξC,ξD,ξE,q0,p0,e0,e1,e2,e3,e4,e5,q1,hz,qzz,hc2,hsh,hm,MO.list,hone,hlen,l2,r2,q2]
 ·rw [if_neg hb0]
  have hz:eqB b0 0=true:=by rw [show b0=0 by omega]; rfl
  simp only [Q0,d5k,fE]
  simp -implicitDefEqProofs only [↓reduceIte,eq_self,ξ1,ξ2,ξ3,ξ4,ξ5,ξ6,ξ7,ξ8,ξ9,ξa,ξb,ξc,ξd,ξe,ξf,ξg,ξh,Nat.reduceAdd,ξi,if_true,if_false,ξl,ξm,ξn,ξo,ξp,ξq,ξr,ξs,ξt,ξu,ξv,ξw,ξx,ξy,ξz,ξA,ξB,ξC,ξD,ξE,q0,p0,e0,e1,e2,e3,e4,e5,hz]
theorem d8D (fuel:Nat) (u:Int) (r:Nat) (hb:0<=b1/\b1<=4) (hM:M.length=N) (hm:σ[h]?=some (.cells (iPV M) 2)) (hr:0 < b1->r < N/\Φ 97 [.agg (lpv [s0,s1,s2,s3,s4,s5]),.agg (lpv [b0,(b1-1),b2,b3,b4,b5])] σ=some (.tup [.int .i64 r,.int .i64 0],σ)) :
  flatten_below_S.loop Φ (fuel+1) 0 (fE u 1 s0 s1 s2 s3 s4 s5 b0 b1 b2 b3 b4 b5 h N σ)=flatten_below_S.loop Φ fuel 0 (fE (if 0 < b1 then mxI u (M.getD r 0) else u) 2 s0 s1 s2 s3 s4 s5 b0 b1 b2 b3 b4 b5 h N σ):=by
 have q0:ltB 1 6=true:=rfl
 have q1:(leB (-9223372036854775808) (b1-1)&&leB (b1-1) 9223372036854775807)=true:=a0u (by omega)
 have qzz:eqB 0 0=true:=rfl
 have e5:eqB 1 5=decide ((1:Int)=5):=rfl
 have e4:eqB 1 4=decide ((1:Int)=4):=rfl
 have e3:eqB 1 3=decide ((1:Int)=3):=rfl
 have e2:eqB 1 2=decide ((1:Int)=2):=rfl
 have e1:eqB 1 1=decide ((1:Int)=1):=rfl
 have e0:eqB 1 0=decide ((1:Int)=0):=rfl
 have p0:leB 0 1=true:=rfl
 simp only [Int.reduceEq,decide_true,decide_false] at e5 e4 e3 e2 e1 e0
 rw [Sys.loop,show flatten_below_S.loops[0]?=some _ from rfl]
 by_cases hb0:0 < b1
 ·obtain ⟨hc1,hc2⟩:=hr hb0
  rw [if_pos hb0]
  have hz:eqB b1 0=false:=eqF (by omega)
  obtain ⟨y,hy⟩:=a3n (l:=M) (i:=r) (by omega)
  have l2:=a3p (h:=h) (c:=N) hc1
  have r2:=a7n hy
  unfold a0f at r2
  have ey:M.getD r 0=y:=by rw [Q2,hy]; rfl
  have q2:(leB 0 (r:Int)&&ltB (r:Int) (N:Int))=true:=by simp [leB,ltB]; omega
  have hone:(PV.msl h 0 N N 1).one=true:=rfl
  have hlen:(PV.msl h 0 N N 1).len=(N:Int):=rfl
  rw [ey]
  have hsh:a2O [Sh.one (.int .i64),Sh.one (.int .i64)] [.int .i64 r,.int .i64 0]=some ([(r:Int),0],[],[]):=rfl
  simp only [Q0,d5k,fE]
  simp only [lpv,Qa,Qd] at hc2
  simp -implicitDefEqProofs only [↓reduceIte,eq_self,ξ1,ξ2,ξ3,ξ4,ξ5,ξ6,ξ7,ξ8,ξ9,ξa,ξb,ξc,ξd,ξe,ξf,ξg,ξh,Nat.reduceAdd,ξi,if_true,if_false,ξl,ξm,ξn,ξo,ξp,ξq,ξr,ξs,ξt,ξu,ξv,ξw,ξx,ξy,ξz,ξA,ξB,ξC,ξD,ξE,q0,p0,e0,e1,e2,e3,e4,e5,q1,hz,qzz,hc2,hsh,hm,MO.list,hone,hlen,l2,r2,q2]
 ·rw [if_neg hb0]
  have hz:eqB b1 0=true:=by rw [show b1=0 by omega]; rfl
  simp only [Q0,d5k,fE]
  simp -implicitDefEqProofs only [↓reduceIte,eq_self,ξ1,ξ2,ξ3,ξ4,ξ5,ξ6,ξ7,ξ8,ξ9,ξa,ξb,ξc,ξd,ξe,ξf,ξg,ξh,Nat.reduceAdd,ξi,if_true,if_false,ξl,ξm,ξn,ξo,ξp,ξq,ξr,ξs,ξt,ξu,ξv,ξw,ξx,ξy,ξz,ξA,ξB,ξC,ξD,ξE,q0,p0,e0,e1,e2,e3,e4,e5,hz]
theorem d8B (fuel:Nat) (u:Int) (r:Nat) (hb:0<=b2/\b2<=4) (hM:M.length=N) (hm:σ[h]?=some (.cells (iPV M) 2)) (hr:0 < b2->r < N/\Φ 97 [.agg (lpv [s0,s1,s2,s3,s4,s5]),.agg (lpv [b0,b1,(b2-1),b3,b4,b5])] σ=some (.tup [.int .i64 r,.int .i64 0],σ)) :
  flatten_below_S.loop Φ (fuel+1) 0 (fE u 2 s0 s1 s2 s3 s4 s5 b0 b1 b2 b3 b4 b5 h N σ)=flatten_below_S.loop Φ fuel 0 (fE (if 0 < b2 then mxI u (M.getD r 0) else u) 3 s0 s1 s2 s3 s4 s5 b0 b1 b2 b3 b4 b5 h N σ):=by
 have q0:ltB 2 6=true:=rfl
 have q1:(leB (-9223372036854775808) (b2-1)&&leB (b2-1) 9223372036854775807)=true:=a0u (by omega)
 have qzz:eqB 0 0=true:=rfl
 have e5:eqB 2 5=decide ((2:Int)=5):=rfl
 have e4:eqB 2 4=decide ((2:Int)=4):=rfl
 have e3:eqB 2 3=decide ((2:Int)=3):=rfl
 have e2:eqB 2 2=decide ((2:Int)=2):=rfl
 have e1:eqB 2 1=decide ((2:Int)=1):=rfl
 have e0:eqB 2 0=decide ((2:Int)=0):=rfl
 have p0:leB 0 2=true:=rfl
 simp only [Int.reduceEq,decide_true,decide_false] at e5 e4 e3 e2 e1 e0
 rw [Sys.loop,show flatten_below_S.loops[0]?=some _ from rfl]
 by_cases hb0:0 < b2
 ·obtain ⟨hc1,hc2⟩:=hr hb0
  rw [if_pos hb0]
  have hz:eqB b2 0=false:=eqF (by omega)
  obtain ⟨y,hy⟩:=a3n (l:=M) (i:=r) (by omega)
  have l2:=a3p (h:=h) (c:=N) hc1
  have r2:=a7n hy
  unfold a0f at r2
  have ey:M.getD r 0=y:=by rw [Q2,hy]; rfl
  have q2:(leB 0 (r:Int)&&ltB (r:Int) (N:Int))=true:=by simp [leB,ltB]; omega
  have hone:(PV.msl h 0 N N 1).one=true:=rfl
  have hlen:(PV.msl h 0 N N 1).len=(N:Int):=rfl
  rw [ey]
  have hsh:a2O [Sh.one (.int .i64),Sh.one (.int .i64)] [.int .i64 r,.int .i64 0]=some ([(r:Int),0],[],[]):=rfl
  simp only [Q0,d5k,fE]
  simp only [lpv,Qa,Qd] at hc2
  simp -implicitDefEqProofs only [↓reduceIte,eq_self,ξ1,ξ2,ξ3,ξ4,ξ5,ξ6,ξ7,ξ8,ξ9,ξa,ξb,ξc,ξd,ξe,ξf,ξg,ξh,Nat.reduceAdd,ξi,if_true,if_false,ξl,ξm,ξn,ξo,ξp,ξq,ξr,ξs,ξt,ξu,ξv,ξw,ξx,ξy,ξz,ξA,ξB,ξC,ξD,ξE,q0,p0,e0,e1,e2,e3,e4,e5,q1,hz,qzz,hc2,hsh,hm,MO.list,hone,hlen,l2,r2,q2]
 ·rw [if_neg hb0]
  have hz:eqB b2 0=true:=by rw [show b2=0 by omega]; rfl
  simp only [Q0,d5k,fE]
  simp -implicitDefEqProofs only [↓reduceIte,eq_self,ξ1,ξ2,ξ3,ξ4,ξ5,ξ6,ξ7,ξ8,ξ9,ξa,ξb,ξc,ξd,ξe,ξf,ξg,ξh,Nat.reduceAdd,ξi,if_true,if_false,ξl,ξm,ξn,ξo,ξp,ξq,ξr,ξs,ξt,ξu,ξv,ξw,ξx,ξy,ξz,ξA,ξB,ξC,ξD,ξE,q0,p0,e0,e1,e2,e3,e4,e5,hz]
theorem d8J (fuel:Nat) (u:Int) (r:Nat) (hb:0<=b3/\b3<=4) (hM:M.length=N) (hm:σ[h]?=some (.cells (iPV M) 2)) (hr:0 < b3->r < N/\Φ 97 [.agg (lpv [s0,s1,s2,s3,s4,s5]),.agg (lpv [b0,b1,b2,(b3-1),b4,b5])] σ=some (.tup [.int .i64 r,.int .i64 0],σ)) :
  flatten_below_S.loop Φ (fuel+1) 0 (fE u 3 s0 s1 s2 s3 s4 s5 b0 b1 b2 b3 b4 b5 h N σ)=flatten_below_S.loop Φ fuel 0 (fE (if 0 < b3 then mxI u (M.getD r 0) else u) 4 s0 s1 s2 s3 s4 s5 b0 b1 b2 b3 b4 b5 h N σ):=by
 have q0:ltB 3 6=true:=rfl
 have q1:(leB (-9223372036854775808) (b3-1)&&leB (b3-1) 9223372036854775807)=true:=a0u (by omega)
 have qzz:eqB 0 0=true:=rfl
 have e5:eqB 3 5=decide ((3:Int)=5):=rfl
 have e4:eqB 3 4=decide ((3:Int)=4):=rfl
 have e3:eqB 3 3=decide ((3:Int)=3):=rfl
 have e2:eqB 3 2=decide ((3:Int)=2):=rfl
 have e1:eqB 3 1=decide ((3:Int)=1):=rfl
 have e0:eqB 3 0=decide ((3:Int)=0):=rfl
 have p0:leB 0 3=true:=rfl
 simp only [Int.reduceEq,decide_true,decide_false] at e5 e4 e3 e2 e1 e0
 rw [Sys.loop,show flatten_below_S.loops[0]?=some _ from rfl]
 by_cases hb0:0 < b3
 ·obtain ⟨hc1,hc2⟩:=hr hb0
  rw [if_pos hb0]
  have hz:eqB b3 0=false:=eqF (by omega)
  obtain ⟨y,hy⟩:=a3n (l:=M) (i:=r) (by omega)
  have l2:=a3p (h:=h) (c:=N) hc1
  have r2:=a7n hy
  unfold a0f at r2
  have ey:M.getD r 0=y:=by rw [Q2,hy]; rfl
  have q2:(leB 0 (r:Int)&&ltB (r:Int) (N:Int))=true:=by simp [leB,ltB]; omega
  have hone:(PV.msl h 0 N N 1).one=true:=rfl
  have hlen:(PV.msl h 0 N N 1).len=(N:Int):=rfl
  rw [ey]
  have hsh:a2O [Sh.one (.int .i64),Sh.one (.int .i64)] [.int .i64 r,.int .i64 0]=some ([(r:Int),0],[],[]):=rfl
  simp only [Q0,d5k,fE]
  simp only [lpv,Qa,Qd] at hc2
  simp -implicitDefEqProofs only [↓reduceIte,eq_self,ξ1,ξ2,ξ3,ξ4,ξ5,ξ6,ξ7,ξ8,ξ9,ξa,ξb,ξc,ξd,ξe,ξf,ξg,ξh,Nat.reduceAdd,ξi,if_true,if_false,ξl,ξm,ξn,ξo,ξp,ξq,ξr,ξs,ξt,ξu,ξv,ξw,ξx,ξy,ξz,ξA,ξB,ξC,ξD,ξE,q0,p0,e0,e1,e2,e3,e4,e5,q1,hz,qzz,hc2,hsh,hm,MO.list,hone,hlen,l2,r2,q2]
 ·rw [if_neg hb0]
  have hz:eqB b3 0=true:=by rw [show b3=0 by omega]; rfl
  simp only [Q0,d5k,fE]
  simp -implicitDefEqProofs only [↓reduceIte,eq_self,ξ1,ξ2,ξ3,ξ4,ξ5,ξ6,ξ7,ξ8,ξ9,ξa,ξb,ξc,ξd,ξe,ξf,ξg,ξh,Nat.reduceAdd,ξi,if_true,if_false,ξl,ξm,ξn,ξo,ξp,ξq,ξr,ξs,ξt,ξu,ξv,ξw,ξx,ξy,ξz,ξA,ξB,ξC,ξD,ξE,q0,p0,e0,e1,e2,e3,e4,e5,hz]
theorem d8G (fuel:Nat) (u:Int) (r:Nat) (hb:0<=b4/\b4<=4) (hM:M.length=N) (hm:σ[h]?=some (.cells (iPV M) 2)) (hr:0 < b4->r < N/\Φ 97 [.agg (lpv [s0,s1,s2,s3,s4,s5]),.agg (lpv [b0,b1,b2,b3,(b4-1),b5])] σ=some (.tup [.int .i64 r,.int .i64 0],σ)) :
  flatten_below_S.loop Φ (fuel+1) 0 (fE u 4 s0 s1 s2 s3 s4 s5 b0 b1 b2 b3 b4 b5 h N σ)=flatten_below_S.loop Φ fuel 0 (fE (if 0 < b4 then mxI u (M.getD r 0) else u) 5 s0 s1 s2 s3 s4 s5 b0 b1 b2 b3 b4 b5 h N σ):=by
 have q0:ltB 4 6=true:=rfl
 have q1:(leB (-9223372036854775808) (b4-1)&&leB (b4-1) 9223372036854775807)=true:=a0u (by omega)
 have qzz:eqB 0 0=true:=rfl
 have e5:eqB 4 5=decide ((4:Int)=5):=rfl
 have e4:eqB 4 4=decide ((4:Int)=4):=rfl
 have e3:eqB 4 3=decide ((4:Int)=3):=rfl
 have e2:eqB 4 2=decide ((4:Int)=2):=rfl
 have e1:eqB 4 1=decide ((4:Int)=1):=rfl
 have e0:eqB 4 0=decide ((4:Int)=0):=rfl
 have p0:leB 0 4=true:=rfl
 simp only [Int.reduceEq,decide_true,decide_false] at e5 e4 e3 e2 e1 e0
 rw [Sys.loop,show flatten_below_S.loops[0]?=some _ from rfl]
 by_cases hb0:0 < b4
 ·obtain ⟨hc1,hc2⟩:=hr hb0
  rw [if_pos hb0]
  have hz:eqB b4 0=false:=eqF (by omega)
  obtain ⟨y,hy⟩:=a3n (l:=M) (i:=r) (by omega)
  have l2:=a3p (h:=h) (c:=N) hc1
  have r2:=a7n hy
  unfold a0f at r2
  have ey:M.getD r 0=y:=by rw [Q2,hy]; rfl
  have q2:(leB 0 (r:Int)&&ltB (r:Int) (N:Int))=true:=by simp [leB,ltB]; omega
  have hone:(PV.msl h 0 N N 1).one=true:=rfl
  have hlen:(PV.msl h 0 N N 1).len=(N:Int):=rfl
  rw [ey]
  have hsh:a2O [Sh.one (.int .i64),Sh.one (.int .i64)] [.int .i64 r,.int .i64 0]=some ([(r:Int),0],[],[]):=rfl
  simp only [Q0,d5k,fE]
  simp only [lpv,Qa,Qd] at hc2
  simp -implicitDefEqProofs only [↓reduceIte,eq_self,ξ1,ξ2,ξ3,ξ4,ξ5,ξ6,ξ7,ξ8,ξ9,ξa,ξb,ξc,ξd,ξe,ξf,ξg,ξh,Nat.reduceAdd,ξi,if_true,if_false,ξl,ξm,ξn,ξo,ξp,ξq,ξr,ξs,ξt,ξu,ξv,ξw,ξx,ξy,ξz,ξA,ξB,ξC,ξD,ξE,q0,p0,e0,e1,e2,e3,e4,e5,q1,hz,qzz,hc2,hsh,hm,MO.list,hone,hlen,l2,r2,q2]
 ·rw [if_neg hb0]
  have hz:eqB b4 0=true:=by rw [show b4=0 by omega]; rfl
  simp only [Q0,d5k,fE]
  simp -implicitDefEqProofs only [↓reduceIte,eq_self,ξ1,ξ2,ξ3,ξ4,ξ5,ξ6,ξ7,ξ8,ξ9,ξa,ξb,ξc,ξd,ξe,ξf,ξg,ξh,Nat.reduceAdd,ξi,if_true,if_false,ξl,ξm,ξn,ξo,ξp,ξq,ξr,ξs,ξt,ξu,ξv,ξw,ξx,ξy,ξz,ξA,ξB,ξC,ξD,ξE,q0,p0,e0,e1,e2,e3,e4,e5,hz]
theorem d8I (fuel:Nat) (u:Int) (r:Nat) (hb:0<=b5/\b5<=4) (hM:M.length=N) (hm:σ[h]?=some (.cells (iPV M) 2)) (hr:0 < b5->r < N/\Φ 97 [.agg (lpv [s0,s1,s2,s3,s4,s5]),.agg (lpv [b0,b1,b2,b3,b4,(b5-1)])] σ=some (.tup [.int .i64 r,.int .i64 0],σ)) :
  flatten_below_S.loop Φ (fuel+1) 0 (fE u 5 s0 s1 s2 s3 s4 s5 b0 b1 b2 b3 b4 b5 h N σ)=flatten_below_S.loop Φ fuel 0 (fE (if 0 < b5 then mxI u (M.getD r 0) else u) 6 s0 s1 s2 s3 s4 s5 b0 b1 b2 b3 b4 b5 h N σ):=by
 have q0:ltB 5 6=true:=rfl
 have q1:(leB (-9223372036854775808) (b5-1)&&leB (b5-1) 9223372036854775807)=true:=a0u (by omega)
 have qzz:eqB 0 0=true:=rfl
 have e5:eqB 5 5=decide ((5:Int)=5):=rfl
 have e4:eqB 5 4=decide ((5:Int)=4):=rfl
 have e3:eqB 5 3=decide ((5:Int)=3):=rfl
 have e2:eqB 5 2=decide ((5:Int)=2):=rfl
 have e1:eqB 5 1=decide ((5:Int)=1):=rfl
 have e0:eqB 5 0=decide ((5:Int)=0):=rfl
 have p0:leB 0 5=true:=rfl
 simp only [Int.reduceEq,decide_true,decide_false] at e5 e4 e3 e2 e1 e0
 rw [Sys.loop,show flatten_below_S.loops[0]?=some _ from rfl]
 by_cases hb0:0 < b5
 ·obtain ⟨hc1,hc2⟩:=hr hb0
  rw [if_pos hb0]
  have hz:eqB b5 0=false:=eqF (by omega)
  obtain ⟨y,hy⟩:=a3n (l:=M) (i:=r) (by omega)
  have l2:=a3p (h:=h) (c:=N) hc1
  have r2:=a7n hy
  unfold a0f at r2
  have ey:M.getD r 0=y:=by rw [Q2,hy]; rfl
  have q2:(leB 0 (r:Int)&&ltB (r:Int) (N:Int))=true:=by simp [leB,ltB]; omega
  have hone:(PV.msl h 0 N N 1).one=true:=rfl
  have hlen:(PV.msl h 0 N N 1).len=(N:Int):=rfl
  rw [ey]
  have hsh:a2O [Sh.one (.int .i64),Sh.one (.int .i64)] [.int .i64 r,.int .i64 0]=some ([(r:Int),0],[],[]):=rfl
  simp only [Q0,d5k,fE]
  simp only [lpv,Qa,Qd] at hc2
  simp -implicitDefEqProofs only [↓reduceIte,eq_self,ξ1,ξ2,ξ3,ξ4,ξ5,ξ6,ξ7,ξ8,ξ9,ξa,ξb,ξc,ξd,ξe,ξf,ξg,ξh,Nat.reduceAdd,ξi,if_true,if_false,ξl,ξm,ξn,ξo,ξp,ξq,ξr,ξs,ξt,ξu,ξv,ξw,ξx,ξy,ξz,ξA,ξB,ξC,ξD,ξE,q0,p0,e0,e1,e2,e3,e4,e5,q1,hz,qzz,hc2,hsh,hm,MO.list,hone,hlen,l2,r2,q2]
 ·rw [if_neg hb0]
  have hz:eqB b5 0=true:=by rw [show b5=0 by omega]; rfl
  simp only [Q0,d5k,fE]
  simp -implicitDefEqProofs only [↓reduceIte,eq_self,ξ1,ξ2,ξ3,ξ4,ξ5,ξ6,ξ7,ξ8,ξ9,ξa,ξb,ξc,ξd,ξe,ξf,ξg,ξh,Nat.reduceAdd,ξi,if_true,if_false,ξl,ξm,ξn,ξo,ξp,ξq,ξr,ξs,ξt,ξu,ξv,ξw,ξx,ξy,ξz,ξA,ξB,ξC,ξD,ξE,q0,p0,e0,e1,e2,e3,e4,e5,hz]
end
end Go.Proofs.Ythmkfeiapdbojaa
set_option maxRecDepth 100000
namespace Go.Proofs.Ythmkfeiapdbojaa
open Go.Sx Go.Kv Go.Bun
open Go.Bun (offs)
theorem d7P {s b b':Bd} {n:Nat} {st:Int} (hn:(n:Int) < s.cnt) (hb:s.unr n=b) (hb':b'.Ok) (hle:b'.Le s) (hh:s.horner b'=s.horner b-st) (hst:0 < st) :
  ∃ m:Nat,(n:Int)-st=m/\m < n/\s.horner b'=m/\b'.Ok/\b'.Le s:=by
 obtain ⟨m,h1,h2,h3⟩:=a9b hn hb hb' hle hh hst
 refine ⟨m,h1,h2,?_,hb',hle⟩
 rw [<- h3]
 exact a8q (by omega)
theorem d8T {A B C D E F a b' c d e f:Int} {n:Nat} (hn:(n:Int) < (Bd.mk A B C D E F).cnt) (hb:(Bd.mk A B C D E F).unr n=⟨a,b',c,d,e,f⟩) :
  (0 < a->∃ m:Nat,(n:Int)-1*(F+1)*(E+1)*(D+1)*(C+1)*(B+1)=m/\m < n/\(Bd.mk A B C D E F).horner ⟨a-1,b',c,d,e,f⟩=m/\(Bd.mk (a-1) b' c d e f).Ok/\(Bd.mk (a-1) b' c d e f).Le ⟨A,B,C,D,E,F⟩) /\
  (0 < b'->∃ m:Nat,(n:Int)-1*(F+1)*(E+1)*(D+1)*(C+1)=m/\m < n/\(Bd.mk A B C D E F).horner ⟨a,b'-1,c,d,e,f⟩=m/\(Bd.mk a (b'-1) c d e f).Ok/\(Bd.mk a (b'-1) c d e f).Le ⟨A,B,C,D,E,F⟩) /\
  (0 < c->∃ m:Nat,(n:Int)-1*(F+1)*(E+1)*(D+1)=m/\m < n/\(Bd.mk A B C D E F).horner ⟨a,b',c-1,d,e,f⟩=m/\(Bd.mk a b' (c-1) d e f).Ok/\(Bd.mk a b' (c-1) d e f).Le ⟨A,B,C,D,E,F⟩) /\
  (0 < d->∃ m:Nat,(n:Int)-1*(F+1)*(E+1)=m/\m < n/\(Bd.mk A B C D E F).horner ⟨a,b',c,d-1,e,f⟩=m/\(Bd.mk a b' c (d-1) e f).Ok/\(Bd.mk a b' c (d-1) e f).Le ⟨A,B,C,D,E,F⟩) /\
  (0 < e->∃ m:Nat,(n:Int)-1*(F+1)=m/\m < n/\(Bd.mk A B C D E F).horner ⟨a,b',c,d,e-1,f⟩=m/\(Bd.mk a b' c d (e-1) f).Ok/\(Bd.mk a b' c d (e-1) f).Le ⟨A,B,C,D,E,F⟩) /\
  (0 < f->∃ m:Nat,(n:Int)-1=m/\m < n/\(Bd.mk A B C D E F).horner ⟨a,b',c,d,e,f-1⟩=m/\(Bd.mk a b' c d e (f-1)).Ok/\(Bd.mk a b' c d e (f-1)).Le ⟨A,B,C,D,E,F⟩):=by
 have h0:(Bd.mk A B C D E F).cnt≠0:=by omega
 have hs:=Bd.ok_of_cnt h0
 obtain ⟨hbo,hbl⟩:=a3m hs n
 rw [hb] at hbo hbl
 simp only [Bd.Ok,Bd.Le] at hs hbo hbl
 have pB:=c1l hs.2.1
 have pC:=c1l hs.2.2.1
 have pD:=c1l hs.2.2.2.1
 have pE:=c1l hs.2.2.2.2.1
 have pF:=c1l hs.2.2.2.2.2
 have t4:0 < 1*(F+1):=by omega
 have t3:0 < 1*(F+1)*(E+1):=Qk t4 pE
 have t2:0 < 1*(F+1)*(E+1)*(D+1):=Qk t3 pD
 have t1:0 < 1*(F+1)*(E+1)*(D+1)*(C+1):=Qk t2 pC
 have t0:0 < 1*(F+1)*(E+1)*(D+1)*(C+1)*(B+1):=Qk t1 pB
 refine ⟨fun h=>?_,fun h=>?_,fun h=>?_,fun h=>?_,fun h=>?_,fun h=>?_⟩
 ·exact d7P hn hb (by simp only [Bd.Ok]; omega) (by simp only [Bd.Le]; omega) (by
   simp only [Bd.horner]
   rw [show (1*(F+1)*(E+1)*(D+1)*(C+1)*(B+1):Int)=1*(B+1)*(C+1)*(D+1)*(E+1)*(F+1) by ac_rfl,<- dif,<- dif,<- dif,<- dif,<- dif]; congr 10; omega) t0
 ·exact d7P hn hb (by simp only [Bd.Ok]; omega) (by simp only [Bd.Le]; omega) (by
   simp only [Bd.horner]
   rw [show (1*(F+1)*(E+1)*(D+1)*(C+1):Int)=1*(C+1)*(D+1)*(E+1)*(F+1) by ac_rfl,<- dif,<- dif,<- dif,<- dif]; congr 8; omega) t1
 ·exact d7P hn hb (by simp only [Bd.Ok]; omega) (by simp only [Bd.Le]; omega) (by
   simp only [Bd.horner]
   rw [show (1*(F+1)*(E+1)*(D+1):Int)=1*(D+1)*(E+1)*(F+1) by ac_rfl,<- dif,<- dif,<- dif]; congr 6; omega) t2
 ·exact d7P hn hb (by simp only [Bd.Ok]; omega) (by simp only [Bd.Le]; omega) (by
   simp only [Bd.horner]
   rw [show (1*(F+1)*(E+1):Int)=1*(E+1)*(F+1) by ac_rfl,<- dif,<- dif]; congr 4; omega) t3
 ·exact d7P hn hb (by simp only [Bd.Ok]; omega) (by simp only [Bd.Le]; omega) (by
   simp only [Bd.horner]
   rw [<- dif]; congr 2; omega) t4
 ·exact d7P hn hb (by simp only [Bd.Ok]; omega) (by simp only [Bd.Le]; omega) (by simp only [Bd.horner]; omega) (by omega)
theorem d8d {a b c:Int}:mxI a b<=c↔a<=c/\b<=c:=by
 unfold mxI
 constructor
 ·intro h; split at h<;>omega
 ·rintro ⟨h1,h2⟩; split<;>omega
theorem d8R {p:Prop} [Decidable p] {a b c:Int}:(if p then mxI a b else a)<=c↔a<=c/\(p->b<=c):=by
 split
 ·rename_i h; rw [d8d]; exact ⟨fun h1=>⟨h1.1,fun _=>h1.2⟩,fun h1=>⟨h1.1,h1.2 h⟩⟩
 ·rename_i h; exact ⟨fun h1=>⟨h1,fun h2=>absurd h2 h⟩,fun h1=>h1.1⟩
theorem d8E {P:Int->Prop} {A B C D E F a b c d e f:Int}:(∀ st∈(Bd.mk A B C D E F).offs ⟨a,b,c,d,e,f⟩,P st) ↔
  (0 < a->P (1*(F+1)*(E+1)*(D+1)*(C+1)*(B+1)))/\(0 < b->P (1*(F+1)*(E+1)*(D+1)*(C+1)))/\(0 < c->P (1*(F+1)*(E+1)*(D+1)))/\(0 < d->P (1*(F+1)*(E+1)))/\(0 < e->P (1*(F+1)))/\(0 < f->P 1):=by
 have hi:∀ (q:Prop) [Decidable q] (x:Int) ,(∀ st∈(if q then [x] else []),P st)↔(q->P x):=by
  intro q _ x
  split
  ·rename_i h; simp [h]
  ·rename_i h; simp [h]
 simp only [Bd.offs,offs,Q3,List.forall_mem_append,hi]
 constructor
 ·rintro ⟨h5,h4,h3,h2,h1,h0⟩; exact ⟨h0,h1,h2,h3,h4,h5⟩
 ·rintro ⟨h0,h1,h2,h3,h4,h5⟩; exact ⟨h5,h4,h3,h2,h1,h0⟩
theorem d8v {s:Bd} (hc:s.cnt≠0) {i h N:Nat} (hN:(N:Int)=s.cnt) (hi:i < N) {M:List Int} (hM:M.length=N) {σ:List MO} (hm:σ[h]?=some (.cells (iPV M) 2)) (n:Nat) :
  ∃ u:Int,(∀ c,u<=c↔-1<=c/\∀ st∈s.offs (s.unr i),M.getD ((i:Int)-st).toNat 0<=c) /\
   a0e Tab (n+8) 88 [.agg (bpv s),.agg (bpv (s.unr i)),.msl h 0 N N 1] σ=some (.int .i64 u,σ):=by
 have hrk:=fun x h1 h2=>d8M s hc x h1 h2 σ (n+4)
 have hbo:=(a3m (Bd.ok_of_cnt hc) i).1
 have hp:∀ A B C D E F a b' c d e f,s=⟨A,B,C,D,E,F⟩->s.unr i=⟨a,b',c,d,e,f⟩->_:=fun A B C D E F a b' c d e f h1 h2=>d8T (n:=i) (A:=A) (B:=B) (C:=C) (D:=D) (E:=E) (F:=F) (a:=a) (b':=b') (c:=c) (d:=d) (e:=e) (f:=f) (by rw [<- h1]; omega) (by rw [<- h1]; exact h2)
 obtain ⟨A,B,C,D,E,F⟩:=s
 obtain ⟨⟨a,b,c,d,e,f⟩,hu⟩:∃ u,(Bd.mk A B C D E F).unr i=u:=⟨_,rfl⟩
 obtain ⟨p0,p1,p2,p3,p4,p5⟩:=hp _ _ _ _ _ _ _ _ _ _ _ _ rfl hu
 rw [hu] at hbo
 rw [hu]
 simp only [Bd.Ok] at hbo
 have hq:∀ (q:Prop) (st:Int) (x:Bd),(q->∃ m:Nat,(i:Int)-st=m/\m < i/\(Bd.mk A B C D E F).horner x=m/\x.Ok/\x.Le ⟨A,B,C,D,E,F⟩)->q->((i:Int)-st).toNat < N/\a0e Tab (n+7) 97 [.agg (bpv ⟨A,B,C,D,E,F⟩),.agg (bpv x)] σ=some (.tup [.int .i64 (((i:Int)-st).toNat:Nat),.int .i64 0],σ):=by
  intro q st x hx hq
  obtain ⟨m,e1,e2,e3,e4,e5⟩:=hx hq
  have:=hrk x e4 e5
  rw [e1,Qm]
  rw [e3] at this
  exact ⟨by omega,this⟩
 generalize hΦ:a0e Tab (n+7)=Φ at hq
 refine ⟨(if 0 < f then mxI (if 0 < e then mxI (if 0 < d then mxI (if 0 < c then mxI (if 0 < b then mxI (if 0 < a then mxI (-1) (M.getD ((i:Int)-1*(F+1)*(E+1)*(D+1)*(C+1)*(B+1)).toNat 0) else (-1)) (M.getD ((i:Int)-1*(F+1)*(E+1)*(D+1)*(C+1)).toNat 0) else (if 0 < a then mxI (-1) (M.getD ((i:Int)-1*(F+1)*(E+1)*(D+1)*(C+1)*(B+1)).toNat 0) else (-1))) (M.getD ((i:Int)-1*(F+1)*(E+1)*(D+1)).toNat 0) else (if 0 < b then mxI (if 0 < a then mxI (-1) (M.getD ((i:Int)-1*(F+1)*(E+1)*(D+1)*(C+1)*(B+1)).toNat 0) else (-1)) (M.getD ((i:Int)-1*(F+1)*(E+1)*(D+1)*(C+1)).toNat 0) else (if 0 < a then mxI (-1) (M.getD ((i:Int)-1*(F+1)*(E+1)*(D+1)*(C+1)*(B+1)).toNat 0) else (-1)))) (M.getD ((i:Int)-1*(F+1)*(E+1)).toNat 0) else (if 0 < c then mxI (if 0 < b then mxI (if 0 < a then mxI (-1) (M.getD ((i:Int)-1*(F+1)*(E+1)*(D+1)*(C+1)*(B+1)).toNat 0) else (-1)) (M.getD ((i:Int)-1*(F+1)*(E+1)*(D+1)*(C+1)).toNat 0) else (if 0 < a then mxI (-1) (M.getD ((i:Int)-1*(F+1)*(E+1)*(D+1)*(C+1)*(B+1)).toNat 0) else (-1))) (M.getD ((i:Int)-1*(F+1)*(E+1)*(D+1)).toNat 0) else (if 0 < b then mxI (if 0 < a then mxI (-1) (M.getD ((i:Int)-1*(F+1)*(E+1)*(D+1)*(C+1)*(B+1)).toNat 0) else (-1)) (M.getD ((i:Int)-1*(F+1)*(E+1)*(D+1)*(C+1)).toNat 0) else (if 0 < a then mxI (-1) (M.getD ((i:Int)-1*(F+1)*(E+1)*(D+1)*(C+1)*(B+1)).toNat 0) else (-1))))) (M.getD ((i:Int)-1*(F+1)).toNat 0) else (if 0 < d then mxI (if 0 < c then mxI (if 0 < b then mxI (if 0 < a then mxI (-1) (M.getD ((i:Int)-1*(F+1)*(E+1)*(D+1)*(C+1)*(B+1)).toNat 0) else (-1)) (M.getD ((i:Int)-1*(F+1)*(E+1)*(D+1)*(C+1)).toNat 0) else (if 0 < a then mxI (-1) (M.getD ((i:Int)-1*(F+1)*(E+1)*(D+1)*(C+1)*(B+1)).toNat 0) else (-1))) (M.getD ((i:Int)-1*(F+1)*(E+1)*(D+1)).toNat 0) else (if 0 < b then mxI (if 0 < a then mxI (-1) (M.getD ((i:Int)-1*(F+1)*(E+1)*(D+1)*(C+1)*(B+1)).toNat 0) else (-1)) (M.getD ((i:Int)-1*(F+1)*(E+1)*(D+1)*(C+1)).toNat 0) else (if 0 < a then mxI (-1) (M.getD ((i:Int)-1*(F+1)*(E+1)*(D+1)*(C+1)*(B+1)).toNat 0) else (-1)))) (M.getD ((i:Int)-1*(F+1)*(E+1)).toNat 0) else (if 0 < c then mxI (if 0 < b then mxI (if 0 < a then mxI (-1) (M.getD ((i:Int)-1*(F+1)*(E+1)*(D+1)*(C+1)*(B+1)).toNat 0) else (-1)) (M.getD ((i:Int)-1*(F+1)*(E+1)*(D+1)*(C+1)).toNat 0) else (if 0 < a then mxI (-1) (M.getD ((i:Int)-1*(F+1)*(E+1)*(D+1)*(C+1)*(B+1)).toNat 0) else (-1))) (M.getD ((i:Int)-1*(F+1)*(E+1)*(D+1)).toNat 0) else (if 0 < b then mxI (if 0 < a then mxI (-1) (M.getD ((i:Int)-1*(F+1)*(E+1)*(D+1)*(C+1)*(B+1)).toNat 0) else (-1)) (M.getD ((i:Int)-1*(F+1)*(E+1)*(D+1)*(C+1)).toNat 0) else (if 0 < a then mxI (-1) (M.getD ((i:Int)-1*(F+1)*(E+1)*(D+1)*(C+1)*(B+1)).toNat 0) else (-1)))))) (M.getD ((i:Int)-1).toNat 0) else (if 0 < e then mxI (if 0 < d then mxI (if 0 < c then mxI (if 0 < b then mxI (if 0 < a then mxI (-1) (M.getD ((i:Int)-1*(F+1)*(E+1)*(D+1)*(C+1)*(B+1)).toNat 0) else (-1)) (M.getD ((i:Int)-1*(F+1)*(E+1)*(D+1)*(C+1)).toNat 0) else (if 0 < a then mxI (-1) (M.getD ((i:Int)-1*(F+1)*(E+1)*(D+1)*(C+1)*(B+1)).toNat 0) else (-1))) (M.getD ((i:Int)-1*(F+1)*(E+1)*(D+1)).toNat 0) else (if 0 < b then mxI (if 0 < a then mxI (-1) (M.getD ((i:Int)-1*(F+1)*(E+1)*(D+1)*(C+1)*(B+1)).toNat 0) else (-1)) (M.getD ((i:Int)-1*(F+1)*(E+1)*(D+1)*(C+1)).toNat 0) else (if 0 < a then mxI (-1) (M.getD ((i:Int)-1*(F+1)*(E+1)*(D+1)*(C+1)*(B+1)).toNat 0) else (-1)))) (M.getD ((i:Int)-1*(F+1)*(E+1)).toNat 0) else (if 0 < c then mxI (if 0 < b then mxI (if 0 < a then mxI (-1) (M.getD ((i:Int)-1*(F+1)*(E+1)*(D+1)*(C+1)*(B+1)).toNat 0) else (-1)) (M.getD ((i:Int)-1*(F+1)*(E+1)*(D+1)*(C+1)).toNat 0) else (if 0 < a then mxI (-1) (M.getD ((i:Int)-1*(F+1)*(E+1)*(D+1)*(C+1)*(B+1)).toNat 0) else (-1))) (M.getD ((i:Int)-1*(F+1)*(E+1)*(D+1)).toNat 0) else (if 0 < b then mxI (if 0 < a then mxI (-1) (M.getD ((i:Int)-1*(F+1)*(E+1)*(D+1)*(C+1)*(B+1)).toNat 0) else (-1)) (M.getD ((i:Int)-1*(F+1)*(E+1)*(D+1)*(C+1)).toNat 0) else (if 0 < a then mxI (-1) (M.getD ((i:Int)-1*(F+1)*(E+1)*(D+1)*(C+1)*(B+1)).toNat 0) else (-1))))) (M.getD ((i:Int)-1*(F+1)).toNat 0) else (if 0 < d then mxI (if 0 < c then mxI (if 0 < b then mxI (if 0 < a then mxI (-1) (M.getD ((i:Int)-1*(F+1)*(E+1)*(D+1)*(C+1)*(B+1)).toNat 0) else (-1)) (M.getD ((i:Int)-1*(F+1)*(E+1)*(D+1)*(C+1)).toNat 0) else (if 0 < a then mxI (-1) (M.getD ((i:Int)-1*(F+1)*(E+1)*(D+1)*(C+1)*(B+1)).toNat 0) else (-1))) (M.getD ((i:Int)-1*(F+1)*(E+1)*(D+1)).toNat 0) else (if 0 < b then mxI (if 0 < a then mxI (-1) (M.getD ((i:Int)-1*(F+1)*(E+1)*(D+1)*(C+1)*(B+1)).toNat 0) else (-1)) (M.getD ((i:Int)-1*(F+1)*(E+1)*(D+1)*(C+1)).toNat 0) else (if 0 < a then mxI (-1) (M.getD ((i:Int)-1*(F+1)*(E+1)*(D+1)*(C+1)*(B+1)).toNat 0) else (-1)))) (M.getD ((i:Int)-1*(F+1)*(E+1)).toNat 0) else (if 0 < c then mxI (if 0 < b then mxI (if 0 < a then mxI (-1) (M.getD ((i:Int)-1*(F+1)*(E+1)*(D+1)*(C+1)*(B+1)).toNat 0) else (-1)) (M.getD ((i:Int)-1*(F+1)*(E+1)*(D+1)*(C+1)).toNat 0) else (if 0 < a then mxI (-1) (M.getD ((i:Int)-1*(F+1)*(E+1)*(D+1)*(C+1)*(B+1)).toNat 0) else (-1))) (M.getD ((i:Int)-1*(F+1)*(E+1)*(D+1)).toNat 0) else (if 0 < b then mxI (if 0 < a then mxI (-1) (M.getD ((i:Int)-1*(F+1)*(E+1)*(D+1)*(C+1)*(B+1)).toNat 0) else (-1)) (M.getD ((i:Int)-1*(F+1)*(E+1)*(D+1)*(C+1)).toNat 0) else (if 0 < a then mxI (-1) (M.getD ((i:Int)-1*(F+1)*(E+1)*(D+1)*(C+1)*(B+1)).toNat 0) else (-1))))))),?_,?_⟩
 rotate_left
 ·rw [a0e,d7R,hΦ]
  simp only [Q0,Sys.run]
  show ((a0i [.sh (.agg [_,_,_,_,_,_]),.sh (.agg [_,_,_,_,_,_]),.sh (.one _)] _).bind _)=_
  have hone:(PV.msl h 0 N N 1).one=true:=rfl
  simp only [bpv,a0i,a0d,a0c,Q4,Q0,Q3,Q5,Q8,if_true,hone]
  show (PT.ev _ d5r _).bind _=_
  simp -implicitDefEqProofs only [d5r,↓reduceIte,eq_self,ξ1,ξ2,ξ3,ξ4,ξ5,ξ6,ξ7,ξ8,ξ9,ξa,ξb,ξc,ξd,ξe,ξf,ξg,ξh,Nat.reduceAdd,ξi,if_true,if_false,ξl,ξm,ξn,ξo,ξp,ξq,ξr,ξs,ξt,ξu,ξv,ξw,ξx,ξy,ξz,ξA,ξB,ξC,ξD,ξE]
  show flatten_below_S.loop Φ (n+7) 0 (fE (-1) 0 A B C D E F a b c d e f h N σ)=_
  rw [d8C (n+6) _ _ hbo.1 hM hm (hq _ _ ⟨a-1,b,c,d,e,f⟩ p0),d8D (n+5) _ _ hbo.2.1 hM hm (hq _ _ ⟨a,b-1,c,d,e,f⟩ p1),d8B (n+4) _ _ hbo.2.2.1 hM hm (hq _ _ ⟨a,b,c-1,d,e,f⟩ p2),d8J (n+3) _ _ hbo.2.2.2.1 hM hm (hq _ _ ⟨a,b,c,d-1,e,f⟩ p3),d8G (n+2) _ _ hbo.2.2.2.2.1 hM hm (hq _ _ ⟨a,b,c,d,e-1,f⟩ p4),d8I (n+1) _ _ hbo.2.2.2.2.2 hM hm (hq _ _ ⟨a,b,c,d,e,f-1⟩ p5)]
  have q0:ltB 6 6=false:=rfl
  rw [Sys.loop,show flatten_below_S.loops[0]?=some d5k from rfl]
  simp -implicitDefEqProofs only [Q0,d5k,fE,↓reduceIte,eq_self,ξ1,ξ2,ξ3,ξ4,ξ5,ξ6,ξ7,ξ8,ξ9,ξa,ξb,ξc,ξd,ξe,ξf,ξg,ξh,Nat.reduceAdd,ξi,if_true,if_false,ξl,ξm,ξn,ξo,ξp,ξq,ξr,ξs,ξt,ξu,ξv,ξw,ξx,ξy,ξz,ξA,ξB,ξC,ξD,ξE,q0,a0k,or_true]
 ·intro c
  rw [d8E]
  simp only [d8R]
  constructor
  ·rintro ⟨⟨⟨⟨⟨⟨h,h0⟩,h1⟩,h2⟩,h3⟩,h4⟩,h5⟩; exact ⟨h,h0,h1,h2,h3,h4,h5⟩
  ·rintro ⟨h,h0,h1,h2,h3,h4,h5⟩; exact ⟨⟨⟨⟨⟨⟨h,h0⟩,h1⟩,h2⟩,h3⟩,h4⟩,h5⟩
end Go.Proofs.Ythmkfeiapdbojaa
set_option maxRecDepth 100000
namespace Go.Proofs.Ythmkfeiapdbojaa
open Go.Sx Go.Kv Go.Bun
section
variable {s:Bd} {t:List Int} {N:Nat}
def d7J (s:Bd) (t:List Int) (i k:Nat):Bool:=!(!decide (k=i)&&(decide (t.getD i 0<=t.getD k 0)&&decide ((s.unr k).Le (s.unr i))))
def d7H (s:Bd) (t:List Int) (N i:Nat):Bool:=(Q1 N).all (d7J s t i)
def d7Z (s:Bd) (t:List Int) (i:Nat):Of:=⟨0,s.unr i,t.getD i 0⟩
def d7s (s:Bd) (t:List Int) (N n:Nat):List Of:=((Q1 n).filter fun i=>decide (0 < i)&&d7H s t N i).map (d7Z s t)
theorem d8a (s:Bd) (t:List Int) (N n:Nat):d7s s t N (n+1)=if (decide (0 < n)&&d7H s t N n)=true then d7s s t N n++[d7Z s t n] else d7s s t N n:=by
 unfold d7s
 rw [Qh,List.filter_append,List.map_append]
 split<;>rename_i h<;>simp [h]
theorem d8g (s:Bd) (t:List Int) (N n:Nat):(d7s s t N n).length<=n:=by
 unfold d7s
 rw [Qt]
 have:=List.length_filter_le (fun i=>decide (0 < i)&&d7H s t N i) (Q1 n)
 rwa [List.length_range] at this
def d7U (s:Bd) (t:List Int) (N j:Nat):Int:=((Q1 N).filter fun (k:Nat)=>decide ((s.unr k).Le (s.unr j))).foldl (fun v k=>mxI v (t.getD k 0)) (t.getD j 0)
theorem d8f {f:Nat->Int} {c:Int}:∀ (L:List Nat) (v:Int),L.foldl (fun v k=>mxI v (f k)) v<=c↔v<=c/\∀ k∈L,f k<=c
 | [],v=>by simp
 | x::L,v=>by
  rw [List.foldl_cons,d8f L,d8d]
  simp only [List.mem_cons,forall_eq_or_imp]
  exact and_assoc
theorem d8k (x:Bd):x.Le x:=by obtain ⟨a,b,c,d,e,f⟩:=x; simp only [Bd.Le]; omega
theorem d8F {x y z:Bd} (h:x.Le y) (k:y.Le z):x.Le z:=by
 obtain ⟨a,b,c,d,e,f⟩:=x; obtain ⟨a',b',c',d',e',f'⟩:=y; obtain ⟨a2,b2,c2,d2,e2,f2⟩:=z
 simp only [Bd.Le] at *; omega
theorem d7Y {c:Int} {j:Nat} (hj:j < N):d7U s t N j<=c↔∀ k < N,(s.unr k).Le (s.unr j)->t.getD k 0<=c:=by
 unfold d7U
 rw [d8f]
 simp only [List.mem_filter,Q7,decide_eq_true_eq]
 constructor
 ·rintro ⟨_,h⟩ k hk hl; exact h k ⟨hk,hl⟩
 ·intro h; exact ⟨h j hj (d8k _),fun k hk=>h k hk.1 hk.2⟩
def d7v (s:Bd) (t:List Int) (N i:Nat):List Int:=(Q1 N).map fun j=>if j < i then d7U s t N j else t.getD j 0
theorem d7x (i:Nat):(d7v s t N i).length=N:=by simp [d7v]
theorem d7E {i j:Nat} (h:j < N):(d7v s t N i)[j]?=some (if j < i then d7U s t N j else t.getD j 0):=by simp [d7v,h]
theorem d7W {i j:Nat} (h:j < N):(d7v s t N i).getD j 0=if j < i then d7U s t N j else t.getD j 0:=by rw [Q2,d7E h]; rfl
theorem d8n (h:t.length=N):d7v s t N 0=t:=by
 apply QE
 intro j
 rcases Nat.lt_or_ge j N with hj | hj
 ·rw [d7E hj,if_neg (by omega)]
  obtain ⟨x,hx⟩:=a3n (l:=t) (i:=j) (by omega)
  rw [hx,Q2,hx]; rfl
 ·rw [Qn (by rw [d7x]; exact hj),Qn (by omega)]
theorem d8t {i:Nat} (hi:i < N):(d7v s t N i).set i (d7U s t N i)=d7v s t N (i+1):=by
 apply QE
 intro j
 rcases Nat.lt_or_ge j N with hj | hj
 ·rw [d7E hj,List.getElem?_set]
  split
  ·rename_i he; subst he
   rw [if_pos (by rw [d7x]; exact hj),if_pos (by omega)]
  ·rw [d7E hj]
   by_cases hjn:j < i
   ·rw [if_pos hjn,if_pos (by omega)]
   ·rw [if_neg hjn,if_neg (by omega)]
 ·rw [Qn (by simp [d7x]; exact hj),Qn (by simp [d7x]; exact hj)]
theorem d8O {i k:Nat} (hN:(N:Int)=s.cnt) (hi:i < N) (hk:k < N) (h:s.unr k=s.unr i):k=i:=by
 have h1:=a8q (s:=s) (n:=i) (by omega)
 have h2:=a8q (s:=s) (n:=k) (by omega)
 rw [h,h1] at h2
 omega
theorem d8h (hN:(N:Int)=s.cnt) {i:Nat} (hi:i < N) {c:Int}:(∀ st∈s.offs (s.unr i),(d7v s t N i).getD ((i:Int)-st).toNat 0<=c)↔∀ k < N,k≠i->(s.unr k).Le (s.unr i)->t.getD k 0<=c:=by
 obtain ⟨o1,o2⟩:=a7N (s:=s) (n:=i) (by omega) rfl
 constructor
 ·intro h k hk hki hl
  rcases o2 (s.unr k) (a3m (Bd.ok_of_cnt (s:=s) (by omega)) k).1 hl with he | ⟨st,hst,m,m1,m2,m3⟩
  ·exact absurd (d8O hN hi hk he) hki
  ·have:=h st hst
   rw [m1,Qm,d7W (by omega),if_pos m2,d7Y (by omega)] at this
   exact this k hk m3
 ·intro h st hst
  obtain ⟨m,m1,m2,m3,m4,_⟩:=o1 st hst
  rw [m1,Qm,d7W (by omega),if_pos m2,d7Y (by omega)]
  intro k hk hl
  refine h k hk ?_ (d8F hl m3)
  rintro rfl
  exact m4 (d7b m3 hl)
theorem d8y (hN:(N:Int)=s.cnt) {i:Nat} (hi:i < N) (ht:0<=t.getD i 0) {u:Int} (hu:∀ c,u<=c↔-1<=c/\∀ st∈s.offs (s.unr i),(d7v s t N i).getD ((i:Int)-st).toNat 0<=c):mxI (t.getD i 0) u=d7U s t N i:=by
 refine a1O fun c=>?_
 rw [d8d,hu,d8h hN hi,d7Y hi]
 constructor
 ·rintro ⟨h1,_,h2⟩ k hk hl
  by_cases hki:k=i
  ·rw [hki]; exact h1
  ·exact h2 k hk hki hl
 ·intro h
  have:=h i hi (d8k _)
  exact ⟨this,by omega,fun k hk _ hl=>h k hk hl⟩
theorem d8i (hN:(N:Int)=s.cnt) {i:Nat} (hi:i < N) (ht:0<=t.getD i 0) {u:Int} (hu:∀ c,u<=c↔-1<=c/\∀ st∈s.offs (s.unr i),(d7v s t N i).getD ((i:Int)-st).toNat 0<=c):decide (u < t.getD i 0)=d7H s t N i:=by
 have h1:u < t.getD i 0↔u<=t.getD i 0-1:=by omega
 rw [Qf,decide_eq_true_eq,h1,hu,d8h hN hi]
 unfold d7H d7J
 simp only [Qe,Q7,Qs,Bool.and_eq_false_iff,Bool.not_eq_false',decide_eq_true_eq,decide_eq_false_iff_not]
 constructor
 ·rintro ⟨_,h⟩ k hk
  by_cases hki:k=i
  ·exact .inl hki
  by_cases hl:(s.unr k).Le (s.unr i)
  ·have:=h k hk hki hl
   exact .inr (.inl (by omega))
  ·exact .inr (.inr hl)
 ·intro h
  refine ⟨by omega,fun k hk hki hl=>?_⟩
  rcases h k hk with h | h | h
  ·exact absurd h hki
  ·omega
  ·exact absurd hl h
end
end Go.Proofs.Ythmkfeiapdbojaa
set_option maxRecDepth 100000
namespace Go.Proofs.Ythmkfeiapdbojaa
open Go.Sx Go.Kv Go.Bun
def oS (g:Nat) (R:List Of):PV:=match R with | []=>.nilS | _::_=>.rsl g R.length 8
def oR (R:List Of):List MO:=match R with | []=>[] | _::_=>[.row (osR R) 8 59]
def mnM (σ:List MO) (M:List Int) (R:List Of):List MO:=σ++MO.cells (iPV M) 2::oR R
section
variable {σ:List MO} {M M':List Int} {R:List Of} {s:Bd} {t:List Int} {N:Nat}
theorem d8p:(mnM σ M R)[σ.length]?=some (.cells (iPV M) 2):=b5O _ _ _
theorem d8K:(mnM σ M R).set σ.length (.cells (iPV M') 2)=mnM σ M' R:=c8B _ _ _ _
theorem d8L {o:Of}:(mnM σ M (o::R))[σ.length+1]?=some (.row (osR (o::R)) 8 59):=d0S _ _ _ _
theorem d8Q {o:Of} {x:MO}:(mnM σ M (o::R)).set (σ.length+1) x=σ++[.cells (iPV M) 2,x]:=d0R _ _ _ _ _
theorem d7T (k:Nat):∀ L:List Of,PV.lowss k (osR L)=true
 | []=>rfl
 | o::L=>by have:=d7T k L; simp only [osR,Qa,PV.lowss,Of.pv,PV.lows,PV.low,Qu,Qb] at *; exact this
theorem d8N (h:σ.all (MO.low σ.length)=true):(mnM σ M R).all (MO.low (mnM σ M R).length)=true:=by
 refine b7j h ?_
 cases R with
 | nil=>simp only [oR,List.all_cons,List.all_nil,MO.low,b6U,Qu]
 | cons o R=>simp only [oR,List.all_cons,List.all_nil,MO.low,b6U,d7T,Qu]
theorem d8S {Φ:Fns} {ρ:PEnv} {k:PT} {n3 n4:Nat} {o:Of} (h3:ρ.v[n3]?=some (oS (σ.length+1) R)) (h4:ρ.v[n4]?=some (.sl 8 [o.pv])) (hR:R.length<=100000) (hm:ρ.m=mnM σ M R) :
  (PT.appM (.va n3) (.va n4) 8 59 k).ev Φ ρ=k.ev Φ { ρ with v:=ρ.v++[oS (σ.length+1) (R++[o])],m:=mnM σ M (R++[o]) }:=by
 have hs:a1x ρ 8 (.va n4)=some [o.pv]:=by simp only [a1x,h4,Q0,PV.rowsOf,if_true]
 have hd:(SV.va n3).pv ρ noOwn=some (oS (σ.length+1) R):=by simp only [SV.pv,h3]
 rw [a0y,hd,hs]
 cases R with
 | nil =>
  simp only [Q0,oS,Qv]
  have hl:(mnM σ M []).length=σ.length+1:=by simp [mnM,oR]
  rw [if_pos (by omega),if_neg (by omega),hm,hl]
  simp [mnM,oR,osR]
 | cons y R =>
  have h1:ρ.m[σ.length+1]?=some (.row (osR (y::R)) 8 59):=by rw [hm]; exact d8L
  have h2:ρ.m.set (σ.length+1) (.row (osR (y::R)++[o.pv]) 8 59)=mnM σ M ((y::R)++[o]):=by rw [hm,d8Q]; simp [mnM,oR,osR]
  simp only [Q0,oS,h1,Qv]
  rw [if_pos ⟨d5U _,trivial,trivial,trivial,by omega⟩,if_neg (by omega),h2]
  simp [oS]
theorem d8U {ρ:PEnv} (hlow:σ.all (MO.low σ.length)=true) (h1:ρ.m=mnM σ M R) (h2:ρ.k=σ.length) (z:Int):a0k ρ false (.tup [oS (σ.length+1) R,.int .i64 z])=some (.tup [oV R,.int .i64 z],σ):=by
 unfold a0k
 rw [h1,h2,if_neg (by simp [mnM]),show List.take σ.length (mnM σ M R)=σ from QH,if_pos hlow]
 cases R with
 | nil=>rfl
 | cons y R =>
  have hlk:a5V ρ 3 (σ.length+1)=some (.row (osR (y::R)) 8 59):=by
   have h0:ρ.m[σ.length+1]?=some (.row (osR (y::R)) 8 59):=by rw [h1]; exact d8L
   simp only [a5V,h0,Q0]
   rw [PV.frzss_low (osR (y::R)) (d7T _ _) (fun l hl=>by
    obtain ⟨z,_,rfl⟩:=List.mem_map.1 hl
    rfl)]
   rfl
  simp only [oS,PV.frz,PV.frzs]
  rw [if_neg (by omega),hlk]
  simp only [Q0,MO.elts,d5U,and_self,if_true,Q4]
  rfl
theorem d8V {ρ:PEnv} (hlow:σ.all (MO.low σ.length)=true) (h1:ρ.m=mnM σ M R) (h2:ρ.k=σ.length) (z:Int):a0k ρ false (.tup [.nilS,.int .i64 z])=some (.tup [.nilS,.int .i64 z],σ):=by
 unfold a0k
 rw [h1,h2,if_neg (by simp [mnM]),show List.take σ.length (mnM σ M R)=σ from QH,if_pos hlow]
 rfl
end
section
variable {σ:List MO} {s:Bd} {t:List Int} {N:Nat}
def mnE (σ:List MO) (s:Bd) (t:List Int) (N:Nat) (i:Nat):PEnv:={ i:=[s.a,s.b,s.c,s.d,s.e,s.f,(i:Int)],b:=[],v:=[.fn 95 [.cell (bpv s) 0],.sl 1 (a0P t),.msl σ.length 0 N N 1,oS (σ.length+1) (d7s s t N i)],m:=mnM σ (d7v s t N i) (d7s s t N i),k:=σ.length }
theorem d8x {Φ:Fns} (hN:(N:Int)=s.cnt) (htl:t.length=N) {i:Nat} (hi:i < N) (ht:0<=t.getD i 0) {u:Int} (hu:∀ c,u<=c↔-1<=c/\∀ st∈s.offs (s.unr i),(d7v s t N i).getD ((i:Int)-st).toNat 0<=c)
  (hcall:Φ 88 [.agg (bpv s),.agg (bpv (s.unr i)),.msl σ.length 0 N N 1] (mnM σ (d7v s t N i) (d7s s t N i))=some (.int .i64 u,mnM σ (d7v s t N i) (d7s s t N i))) :
  d4P.ev Φ ((mnE σ s t N i).push ((s.unr i).l,[],[]))=some (.jump 0 (mnE σ s t N (i+1))):=by
 have hcl:=a6p (s:=s) (by omega)
 have htop:=d8y hN hi ht hu
 have habv:=d8i hN hi ht hu
 have hol:=d8g s t N i
 obtain ⟨x,hx⟩:=a3n (l:=t) (i:=i) (by omega)
 have ex:t.getD i 0=x:=by rw [Q2,hx]; rfl
 have hM:(d7v s t N i)[i]?=some x:=by rw [d7E hi,if_neg (by omega),ex]
 have hset:=d8t (s:=s) (t:=t) hi
 rw [ex] at htop habv
 rw [<- htop] at hset
 have hml:=d7x (s:=s) (t:=t) (N:=N) i
 have ho:d7Z s t i=⟨0,s.unr i,x⟩:=by unfold d7Z; rw [ex]
 have hE:mnE σ s t N (i+1)={ i:=[s.a,s.b,s.c,s.d,s.e,s.f,((i+1:Nat):Int)],b:=[],v:=[.fn 95 [.cell (bpv s) 0],.sl 1 (a0P t),.msl σ.length 0 N N 1,oS (σ.length+1) (if (decide (0 < i)&&decide (u < x))=true then d7s s t N i++[⟨0,s.unr i,x⟩] else d7s s t N i)],m:=mnM σ ((d7v s t N i).set i (mxI x u)) (if (decide (0 < i)&&decide (u < x))=true then d7s s t N i++[⟨0,s.unr i,x⟩] else d7s s t N i),k:=σ.length }:=by
  unfold mnE
  rw [d8a,<- habv,ho,hset]
 rw [hE]
 unfold mnE
 clear hE hu htop habv hset ho
 generalize d7s s t N i=R at *
 generalize d7v s t N i=M at *
 have l1:=b4y hx
 have l2:=a3p (h:=σ.length) (c:=N) hi
 have r2:=a7n hM
 have hst:i+1<=(iPV M).length:=d8q M i (mxI x u) (by omega)
 have hsv:=b5Q (t:=M) (i:=i) (x:=mxI x u) (by omega)
 unfold a0f at r2
 have q0:ltB 0 (i:Int)=decide (0 < i):=by simp [ltB]
 have qu:ltB u x=decide (u < x):=rfl
 have qN:ltB (i:Int) (N:Int)=true:=by simp [ltB]; omega
 have q2:=a2h (i:=i) (by omega)
 have hone:(PV.msl σ.length 0 N N 1).one=true:=rfl
 have hlen:(PV.msl σ.length 0 N N 1).len=(N:Int):=rfl
 have hone1:(PV.sl 1 (a0P t)).one=true:=rfl
 have hlen1:(PV.sl 1 (a0P t)).len=(N:Int):=by simp [PV.len,b5n,htl]
 have g0:=fun R=>d8p (σ:=σ) (M:=M) (R:=R)
 have gs:=fun R=>d8K (σ:=σ) (M:=M) (M':=M.set i (mxI x u)) (R:=R)
 have hR:R.length<=100000:=by omega
 have hap:∀ (v5:List PV) (ii:List Int) (k:PT),(PT.appM (.va 3) (.va 4) 8 59 k).ev Φ { i:=ii,b:=[],v:=[.fn 95 [.cell (bpv s) 0],.sl 1 (a0P t),.msl σ.length 0 N N 1,oS (σ.length+1) R,.sl 8 [Of.pv ⟨0,s.unr i,x⟩]],m:=mnM σ M R,k:=σ.length }=k.ev Φ { i:=ii,b:=[],v:=[.fn 95 [.cell (bpv s) 0],.sl 1 (a0P t),.msl σ.length 0 N N 1,oS (σ.length+1) R,.sl 8 [Of.pv ⟨0,s.unr i,x⟩],oS (σ.length+1) (R++[⟨0,s.unr i,x⟩])],m:=mnM σ M (R++[⟨0,s.unr i,x⟩]),k:=σ.length }:=fun v5 ii k=>d8S (M:=M) rfl rfl hR rfl
 have hoS:∀ R,(oS (σ.length+1) R).one=true:=fun R=>by cases R<;>rfl
 generalize hO:(⟨0,s.unr i,x⟩:Of)=o at *
 have hpv:o.pv=[.int .i64 0,.int .i64 (s.unr i).a,.int .i64 (s.unr i).b,.int .i64 (s.unr i).c,.int .i64 (s.unr i).d,.int .i64 (s.unr i).e,.int .i64 (s.unr i).f,.int .i64 x]:=by rw [<- hO]; rfl
 generalize s.unr i=u' at *
 obtain ⟨a,b,c,d,e,f⟩:=s
 obtain ⟨u0,u1,u2,u3,u4,u5⟩:=u'
 simp only [bpv] at hcall hap ⊢
 simp only [hpv] at hap
 simp only [Bd.l,PEnv.push,Q8,Q5,Q3]
 have hsz:([]:List (List PV)).length+1<=1000000:=by decide
 have b1:d3Y.ev Φ { i:=[a,b,c,d,e,f,(i:Int),u0,u1,u2,u3,u4,u5,u,x,x],b:=[],v:=[.fn 95 [.cell [.int .i64 a,.int .i64 b,.int .i64 c,.int .i64 d,.int .i64 e,.int .i64 f] 0],.sl 1 (a0P t),.msl σ.length 0 N N 1,oS (σ.length+1) R],m:=mnM σ M R,k:=σ.length }=some (.jump 0 { i:=[a,b,c,d,e,f,((i+1:Nat):Int)],b:=[],v:=[.fn 95 [.cell [.int .i64 a,.int .i64 b,.int .i64 c,.int .i64 d,.int .i64 e,.int .i64 f] 0],.sl 1 (a0P t),.msl σ.length 0 N N 1,oS (σ.length+1) (R++[o])],m:=mnM σ (M.set i (mxI x u)) (R++[o]),k:=σ.length }):=by
  unfold d3Y
  simp -implicitDefEqProofs only [a0C,a1x,QJ,List.mapM_nil,QK,QL,QM,QN,Qw,Qv,List.length_cons,↓reduceIte,eq_self,ξ2,ξ3,ξ4,ξ5,ξ6,ξ7,ξ8,ξ9,ξa,ξb,ξc,ξd,ξe,ξf,ξg,ξh,Nat.reduceAdd,ξi,if_true,if_false,ξl,ξm,ξn,ξo,ξp,ξq,ξr,ξs,ξt,ξu,ξv,ξw,ξx,ξy,ξz,ξA,ξB,ξC,ξD,ξE]
  rw [hap []]
  repeat (first | rw [a0B] | rw [a0A] | rw [a0D] | rw [a0p] | rw [a0q] | rw [a0m] | rw [a0M] | rw [a3f] | rw [a0C] | rw [a0y] | rw [a0r] | rw [a0N])<;>simp -implicitDefEqProofs only [↓reduceIte,eq_self,ξ2,ξ3,ξ4,ξ5,ξ6,ξ7,ξ8,ξ9,ξa,ξb,ξc,ξd,ξe,ξf,ξg,ξh,Nat.reduceAdd,ξi,if_true,if_false,ξl,ξm,ξn,ξo,ξp,ξq,ξr,ξs,ξt,ξu,ξv,ξw,ξx,ξy,ξz,ξA,ξB,ξC,ξD,ξE,hone,hlen,le0,qN,l2,g0,MO.list,r2,hst,hsv,gs,q2,a0v,hoS,d6O]
 have hwh:MO.list (.cells (iPV M) 2)=some (iPV M):=rfl
 by_cases h0:0 < i
 case neg =>
  have e0:decide (0 < i)=false:=by simp [h0]
  rw [e0] at q0 ⊢
  unfold d4P
  repeat (first | rw [a0B] | rw [a0A] | rw [a0D] | rw [a0p] | rw [a0q] | rw [a0m] | rw [a0M] | rw [a3f] | rw [a0C] | rw [a0y] | rw [a0r] | rw [a0N])<;>simp -implicitDefEqProofs only [↓reduceIte,eq_self,ξ2,ξ3,ξ4,ξ5,ξ6,ξ7,ξ8,ξ9,ξa,ξb,ξc,ξd,ξe,ξf,ξg,ξh,Nat.reduceAdd,ξi,if_true,if_false,ξl,ξm,ξn,ξo,ξp,ξq,ξr,ξs,ξt,ξu,ξv,ξw,ξx,ξy,ξz,ξA,ξB,ξC,ξD,ξE,hcall,q0,hone,hlen,le0,qN,l2,g0,hwh,r2,hst,hsv,gs,q2,a0v,hoS,Q6]
 have e0:decide (0 < i)=true:=by simp [h0]
 rw [e0] at q0 ⊢
 rw [Qb]
 by_cases h1:u < x
 case neg =>
  have e1:decide (u < x)=false:=by simp [h1]
  rw [e1] at qu ⊢
  unfold d4P
  repeat (first | rw [a0B] | rw [a0A] | rw [a0D] | rw [a0p] | rw [a0q] | rw [a0m] | rw [a0M] | rw [a3f] | rw [a0C] | rw [a0y] | rw [a0r] | rw [a0N])<;>simp -implicitDefEqProofs only [↓reduceIte,eq_self,ξ2,ξ3,ξ4,ξ5,ξ6,ξ7,ξ8,ξ9,ξa,ξb,ξc,ξd,ξe,ξf,ξg,ξh,Nat.reduceAdd,ξi,if_true,if_false,ξl,ξm,ξn,ξo,ξp,ξq,ξr,ξs,ξt,ξu,ξv,ξw,ξx,ξy,ξz,ξA,ξB,ξC,ξD,ξE,hcall,q0,qu,hone,hlen,hone1,hlen1,le0,qN,l1,l2,g0,hwh,r2,hst,hsv,gs,q2,a0v,hoS]
 have e1:decide (u < x)=true:=by simp [h1]
 rw [e1] at qu ⊢
 have b2:=c3o b1 b1
 simp only [a0v] at b2
 unfold d4P
 repeat (first | rw [a0B] | rw [a0A] | rw [a0D] | rw [a0p] | rw [a0q] | rw [a0m] | rw [a0M] | rw [a3f] | rw [a0C] | rw [a0y] | rw [a0r] | rw [a0N])<;>simp -implicitDefEqProofs only [↓reduceIte,eq_self,ξ2,ξ3,ξ4,ξ5,ξ6,ξ7,ξ8,ξ9,ξa,ξb,ξc,ξd,ξe,ξf,ξg,ξh,Nat.reduceAdd,ξi,if_true,if_false,ξl,ξm,ξn,ξo,ξp,ξq,ξr,ξs,ξt,ξu,ξv,ξw,ξx,ξy,ξz,ξA,ξB,ξC,ξD,ξE,hcall,q0,qu,hone,hlen,hone1,hlen1,le0,qN,l1,l2,g0,hwh,r2,hst,hsv,gs,q2,a0v,hoS,b2]
end
end Go.Proofs.Ythmkfeiapdbojaa
set_option maxRecDepth 100000
namespace Go.Proofs.Ythmkfeiapdbojaa
open Go.Sx Go.Kv Go.Bun
section
variable {σ:List MO} {s:Bd} {t:List Int}
def d7A (s:Bd) (t:List Int) (N:Nat):PV:=if 40 < (d7s s t N N).length then .tup [.nilS,.int .i64 3] else .tup [oV (d7s s t N N),.int .i64 0]
theorem d8m (s:Bd) (hc:s.cnt≠0) (htl:(t.length:Int)=s.cnt) (ht:∀ x∈t,0<=x) {tp:PV} (htp:tp=.sl 1 (a0P t)) (hlow:σ.all (MO.low σ.length)=true) (n:Nat) (hn:20<=n) :
  a0e Tab n 60 [tp,.agg (bpv s)] σ=some (d7A s t t.length,σ):=by
 subst htp
 obtain ⟨q,rfl⟩:∃ q,n=q+9:=⟨n-9,by omega⟩
 have hs:=Bd.ok_of_cnt hc
 have hcl:=a6p hc
 have hone:(PV.sl 1 (a0P t)).one=true:=rfl
 have hkind:(PV.sl 1 (a0P t)).isKind 0=true:=rfl
 have hlen:(PV.sl 1 (a0P t)).len=(t.length:Int):=by simp [PV.len,b5n]
 rw [a0e,d7N]
 have hrun:Sys.run (a0e Tab (q+8)) flatten_minimal_S (q+8) [.sl 1 (a0P t),.agg (bpv s)] σ=c2g (a0e Tab (q+8)) flatten_minimal_S flatten_minimal_G [.sl 1 (a0P t),.agg (bpv s)] σ:=rfl
 rw [Q0,hrun]
 unfold c2g
 have hps:a0i flatten_minimal_S.ps [.sl 1 (a0P t),.agg (bpv s)]=some ([s.a,s.b,s.c,s.d,s.e,s.f],[],[.sl 1 (a0P t)]):=by
  show a0i [.sh (.one _),.sh (.agg [_,_,_,_,_,_])] _=_
  simp only [bpv,a0i,a0d,a0c,Q4,Q0,Q3,Q5,Q8,if_true,hone]
 rw [hps,Q0]
 have hall:∀ M:List Int,a0e Tab (q+8) 53 [.agg (bpv s)] (mnM σ M [])=some (.fn 95 [.cell (bpv s) 0],mnM σ M []):=fun M=>c6M s hc (mnM σ M []) (d8N hlow) (q+5)
 have hstart:d4Z.ev (a0e Tab (q+8)) { i:=[s.a,s.b,s.c,s.d,s.e,s.f],b:=[],v:=[.sl 1 (a0P t)],m:=σ,k:=σ.length }=some (.jump 0 (mnE σ s t t.length 0)):=by
  have hz:d7v s t t.length 0=t:=d8n rfl
  have hrep:(Q9 t.length [PV.int .i64 0]).flatten=iPV (Q9 t.length 0):=b5C _ _
  have hm1:σ++[MO.cells (iPV (Q9 t.length 0)) 2]=mnM σ (Q9 t.length 0) []:=rfl
  have hg:=d8p (σ:=σ) (M:=Q9 t.length 0) (R:=[])
  have hrl:(a0P t).length=t.length:=b5n t
  have hfl:=d7X t
  have hpl:=a9f t
  have hpl2:(iPV (Q9 t.length 0)).length=t.length:=by rw [a9f,List.length_replicate]
  have hset:(mnM σ (Q9 t.length 0) []).set σ.length (.cells (iPV t) 2)=mnM σ t []:=d8K
  have hsp:a1A (iPV (Q9 t.length 0)) 0 (iPV t)=iPV t:=by
   unfold a1A
   rw [List.take_zero,Q5,hpl,List.drop_eq_nil_of_le (by rw [hpl2]; omega),Q3]
  have htk:(iPV t).take t.length=iPV t:=List.take_of_length_le (by rw [hpl]; omega)
  have honeP:(iPV t).all PV.one=true:=Qe.2 fun p hp=>by obtain ⟨w,_,rfl⟩:=List.mem_map.1 hp; rfl
  have hone2:(PV.fn 95 [.cell (bpv s) 0]).one=true:=rfl
  have hN:(t.length:Int)<=1000000:=by omega
  have h0N:(0:Int)<=t.length:=by omega
  have hall':=hall t
  have h8:(8:Nat)<=100000000:=by decide
  have nat_0:((0:Nat):Int)=0:=rfl
  have hl0:((t.length:Int)).toNat=t.length:=Qm _
  unfold mnE
  rw [hz]
  generalize a0e Tab (q+8)=Φ at *
  obtain ⟨a,b,c,d,e,f⟩:=s
  simp only [bpv] at hall' hone2 ⊢
  have hone3:(PV.msl σ.length 0 t.length t.length 1).one=true:=rfl
  have ho0:d7s ⟨a,b,c,d,e,f⟩ t t.length 0=[]:=rfl
  rw [ho0]
  unfold d4Z
  repeat (first | rw [a0B] | rw [a0A] | rw [a0D] | rw [a0p] | rw [a0q] | rw [a0m] | rw [a0M] | rw [a3f] | rw [a0C] | rw [a0y] | rw [a0r] | rw [a0N])<;>simp -implicitDefEqProofs only [↓reduceIte,eq_self,ξ2,ξ3,ξ4,ξ5,ξ6,ξ7,ξ8,ξ9,ξa,ξb,ξc,ξd,ξe,ξf,ξg,ξh,Nat.reduceAdd,ξi,if_true,if_false,ξl,ξm,ξn,ξo,ξp,ξq,ξr,ξs,ξt,ξu,ξv,ξw,ξx,ξy,ξz,ξA,ξB,ξC,ξD,ξE,hkind,hlen,PV.on,h0N,hN,hl0,hrep,hm1,hg,a9B,hrl,hfl,hpl,hpl2,Nat.min_self,Nat.mul_one,Nat.zero_add,Nat.le_refl,honeP,hsp,htk,hset,hall',hone,hone2,hone3,oS,and_self,and_true,h8,nat_0]
 show ((d4Z.ev _ _).bind _)=_
 rw [hstart]
 simp only [Q0]
 have hv3:(mnE σ s t t.length 0).v[flatten_minimal_G.n]?=some (.fn 95 [.cell (bpv s) 0]):=rfl
 rw [hv3]
 show ((flatten_minimal_G.it _ _).bind _)=_
 have hit:flatten_minimal_G.it 95 [.cell (bpv s) 0]=some ((Lk s 6).map fun x=>[.agg (lpv x)]):=c1e hs
 rw [hit]
 simp only [Q0]
 have hNl:(Lk s 6).length=t.length:=by have:=c1Z hc; omega
 have hrng:=b8x (Φ:=a0e Tab (q+8)) (G:=flatten_minimal_G) (ys:=(Lk s 6).map fun x=>[.agg (lpv x)]) (mnE σ s t t.length) (fun i y hy=>by
  have hil:i < t.length:=by
   have:=(QP.1 hy).1
   rw [Qt] at this; omega
  rw [QQ,c2i hc (by omega)] at hy
  simp only [Q4,Option.some.injEq] at hy
  subst hy
  refine ⟨((s.unr i).l,[],[]),rfl,?_⟩
  have htd:0<=t.getD i 0:=by
   obtain ⟨x,hx⟩:=a3n hil
   rw [Q2,hx]
   exact ht x (List.mem_of_getElem? hx)
  obtain ⟨u,hu,hcall⟩:=d8v hc htl hil (d7x (s:=s) (t:=t) i) (d8p (σ:=σ) (M:=d7v s t t.length i) (R:=d7s s t t.length i)) q
  exact d8x htl rfl hil htd hu hcall)
 rw [Qt,hNl] at hrng
 rw [hrng]
 simp only [Q0]
 have hr2:∀ (ρ:PEnv) (z:Int),ρ.m=(mnE σ s t t.length t.length).m->ρ.k=σ.length->a0k ρ false (.tup [oS (σ.length+1) (d7s s t t.length t.length),.int .i64 z])=some (.tup [oV (d7s s t t.length t.length),.int .i64 z],σ):=fun ρ z e1 e2=>d8U hlow e1 e2 z
 have hr3:∀ (ρ:PEnv) (z:Int),ρ.m=(mnE σ s t t.length t.length).m->ρ.k=σ.length->a0k ρ false (.tup [.nilS,.int .i64 z])=some (.tup [.nilS,.int .i64 z],σ):=fun ρ z e1 e2=>d8V hlow e1 e2 z
 have hafter:∀ Φ:Fns,d4U.ev Φ (mnE σ s t t.length t.length)=some (.ret (d7A s t t.length) σ):=by
  intro Φ
  unfold d7A
  have hol:(oS (σ.length+1) (d7s s t t.length t.length)).len=((d7s s t t.length t.length).length:Int)/\(oS (σ.length+1) (d7s s t t.length t.length)).isKind 0=true:=by
   cases d7s s t t.length t.length<;>exact ⟨rfl,rfl⟩
  obtain ⟨o1,o2⟩:=hol
  unfold mnE at *
  generalize oS (σ.length+1) (d7s s t t.length t.length)=V at *
  generalize oV (d7s s t t.length t.length)=W at *
  generalize d7s s t t.length t.length=R at *
  by_cases h40:40 < R.length
  ·have qq:ltB 40 (R.length:Int)=true:=by simp [ltB]; omega
   rw [if_pos h40]
   simp -implicitDefEqProofs only [d4U,↓reduceIte,eq_self,ξ1,ξ2,ξ3,ξ4,ξ5,ξ6,ξ7,ξ8,ξ9,ξa,ξb,ξc,ξd,ξe,ξf,ξg,ξh,Nat.reduceAdd,ξi,if_true,if_false,ξl,ξm,ξn,ξo,ξp,ξq,ξr,ξs,ξt,ξu,ξv,ξw,ξx,ξy,ξz,ξA,ξB,ξC,ξD,ξE,PV.on,o1,o2,qq,hr3]
  ·have qq:ltB 40 (R.length:Int)=false:=by simp [ltB]; omega
   rw [if_neg h40]
   simp -implicitDefEqProofs only [d4U,↓reduceIte,eq_self,ξ1,ξ2,ξ3,ξ4,ξ5,ξ6,ξ7,ξ8,ξ9,ξa,ξb,ξc,ξd,ξe,ξf,ξg,ξh,Nat.reduceAdd,ξi,if_true,if_false,ξl,ξm,ξn,ξo,ξp,ξq,ξr,ξs,ξt,ξu,ξv,ξw,ξx,ξy,ξz,ξA,ξB,ξC,ξD,ξE,PV.on,o1,o2,qq,hr2]
 show ((d4U.ev _ _).bind _)=_
 rw [hafter]
 rfl
end
end Go.Proofs.Ythmkfeiapdbojaa
set_option maxRecDepth 100000
namespace Go.Proofs.Ythmkfeiapdbojaa
open Go.Sx Go.Kv Go.Bun
section
variable {σ:List MO} {s:Bd} {t:List Int}
def okV (t:List Int) (i:Nat):Bool:=decide (0<=t.getD i 0)&&decide (t.getD i 0<=1000000)
def err (z:Int):PV:=.tup [.nilS,.int .i64 z]
def d7Q (s:Bd) (t:List Int):PV:=if s.cnt=0 then err 4 else if (t.length:Int) < s.cnt then err 1 else if s.cnt < (t.length:Int) then err 3 else
 if (decide (t.getD 0 0=0)&&(Q1 t.length).all (okV t))=true then d7A s t t.length else err 4
theorem d8u (s:Bd) (t:List Int) (N:Nat):∃ R z,(d7A s t N=.tup [oV R,.int .i64 z]):=by
 unfold d7A
 split
 ·exact ⟨[],3,rfl⟩
 ·exact ⟨_,0,rfl⟩
theorem d8w {Φ:Fns} (hcl:t.length<=1024) {V:PV} {z:Int} (hV:V.one=true) (hmin:(Q1 t.length).all (okV t)=true->Φ 60 [.sl 1 (a0P t),.agg (bpv s)] σ=some (.tup [V,.int .i64 z],σ)):∀ (d i:Nat),i+d=t.length->(Q1 i).all (okV t)=true->∀ fuel,d+1<=fuel ->
  flatten_FromTable_S.loop Φ fuel 0 { i:=[(t.length:Int),(i:Int),s.a,s.b,s.c,s.d,s.e,s.f],b:=[],v:=[.sl 1 (a0P t)],m:=σ,k:=σ.length } =
  if (Q1 t.length).all (okV t)=true then some (.tup [V,.int .i64 z],σ) else some (err 4,σ):=by
 have hlen:(PV.sl 1 (a0P t)).len=(t.length:Int):=by simp [PV.len,b5n]
 have hone:(PV.sl 1 (a0P t)).one=true:=rfl
 intro d
 induction d with
 | zero =>
  intro i hi hok fuel hf
  obtain ⟨fuel,rfl⟩:∃ j,fuel=j+1:=⟨fuel-1,by omega⟩
  obtain rfl:i=t.length:=by omega
  have q0:ltB (t.length:Int) (t.length:Int)=false:=by simp [ltB]
  have hm:=hmin hok
  rw [if_pos hok]
  obtain ⟨a,b,c,d,e,f⟩:=s
  simp only [bpv] at hm
  have hsh:a2O [Sh.one .val,Sh.one (.int .i64)] [V,.int .i64 z]=some ([z],[],[V]):=by simp [a2O,a0d,a0c,hV]
  rw [Sys.loop,show flatten_FromTable_S.loops[0]?=some d4D from rfl]
  simp -implicitDefEqProofs only [Q0,d4D,↓reduceIte,eq_self,ξ1,ξ2,ξ3,ξ4,ξ5,ξ6,ξ7,ξ8,ξ9,ξa,ξb,ξc,ξd,ξe,ξf,ξg,ξh,Nat.reduceAdd,ξi,if_true,if_false,ξl,ξm,ξn,ξo,ξp,ξq,ξr,ξs,ξt,ξu,ξv,ξw,ξx,ξy,ξz,ξA,ξB,ξC,ξD,ξE,hlen,hone,q0,hm,hsh,hV,a0k,or_true]
 | succ d ih =>
  intro i hi hok fuel hf
  obtain ⟨fuel,rfl⟩:∃ j,fuel=j+1:=⟨fuel-1,by omega⟩
  have hil:i < t.length:=by omega
  obtain ⟨x,hx⟩:=a3n hil
  have ex:t.getD i 0=x:=by rw [Q2,hx]; rfl
  have l1:=b4y hx
  have q0:ltB (i:Int) (t.length:Int)=true:=by simp [ltB]; omega
  have q2:=a2h (i:=i) (by omega)
  have hoki:okV t i=(decide (0<=x)&&decide (x<=1000000)):=by unfold okV; rw [ex]
  have hbad:okV t i=false->¬ (Q1 t.length).all (okV t)=true:=fun h1 h2=>by
   have:=Qe.1 h2 i (Q7.2 hil)
   rw [h1] at this; cases this
  rw [Sys.loop,show flatten_FromTable_S.loops[0]?=some d4D from rfl]
  by_cases h1:x < 0
  ·have e1:ltB x 0=true:=by simp [ltB,h1]
   rw [if_neg (hbad (by rw [hoki,decide_eq_false (by omega),Q6]))]
   simp -implicitDefEqProofs only [Q0,d4D,↓reduceIte,eq_self,ξ1,ξ2,ξ3,ξ4,ξ5,ξ6,ξ7,ξ8,ξ9,ξa,ξb,ξc,ξd,ξe,ξf,ξg,ξh,Nat.reduceAdd,ξi,if_true,if_false,ξl,ξm,ξn,ξo,ξp,ξq,ξr,ξs,ξt,ξu,ξv,ξw,ξx,ξy,ξz,ξA,ξB,ξC,ξD,ξE,hlen,hone,q0,le0,l1,e1,a0k,or_true]
   rfl
  have e1:ltB x 0=false:=by simp [ltB]; omega
  by_cases h2:1000000 < x
  ·have e2:ltB 1000000 x=true:=by simp [ltB,h2]
   rw [if_neg (hbad (by rw [hoki,decide_eq_false (p:=x<=1000000) (by omega),Qj]))]
   simp -implicitDefEqProofs only [Q0,d4D,↓reduceIte,eq_self,ξ1,ξ2,ξ3,ξ4,ξ5,ξ6,ξ7,ξ8,ξ9,ξa,ξb,ξc,ξd,ξe,ξf,ξg,ξh,Nat.reduceAdd,ξi,if_true,if_false,ξl,ξm,ξn,ξo,ξp,ξq,ξr,ξs,ξt,ξu,ξv,ξw,ξx,ξy,ξz,ξA,ξB,ξC,ξD,ξE,hlen,hone,q0,le0,l1,e1,e2,a0k,or_true]
   rfl
  have e2:ltB 1000000 x=false:=by simp [ltB]; omega
  have hnx:=ih (i+1) (by omega) (by rw [Qh,Qp,hok]; simp [hoki]; omega) fuel (by omega)
  rw [<- hnx]
  simp -implicitDefEqProofs only [Q0,d4D,↓reduceIte,eq_self,ξ1,ξ2,ξ3,ξ4,ξ5,ξ6,ξ7,ξ8,ξ9,ξa,ξb,ξc,ξd,ξe,ξf,ξg,ξh,Nat.reduceAdd,ξi,if_true,if_false,ξl,ξm,ξn,ξo,ξp,ξq,ξr,ξs,ξt,ξu,ξv,ξw,ξx,ξy,ξz,ξA,ξB,ξC,ξD,ξE,hlen,hone,q0,le0,l1,e1,e2,q2,a0v]
theorem d8P (s:Bd) (hlow:σ.all (MO.low σ.length)=true) {tp:PV} (htp:tp=.sl 1 (a0P t)) (n:Nat) (hn:10000<=n):a0e Tab n 34 [tp,.agg (bpv s)] σ=some (d7Q s t,σ):=by
 subst htp
 obtain ⟨q,rfl⟩:∃ q,n=q+3:=⟨n-3,by omega⟩
 have hcn:=a7a s σ q
 have hone:(PV.sl 1 (a0P t)).one=true:=rfl
 have hkind:(PV.sl 1 (a0P t)).isKind 0=true:=rfl
 have hlen:(PV.sl 1 (a0P t)).len=(t.length:Int):=by simp [PV.len,b5n]
 have hlp:s.cnt≠0->(t.length:Int)=s.cnt->flatten_FromTable_S.loop (a0e Tab (q+2)) (q+2) 0 { i:=[(t.length:Int),((0:Nat):Int),s.a,s.b,s.c,s.d,s.e,s.f],b:=[],v:=[.sl 1 (a0P t)],m:=σ,k:=σ.length }=if (Q1 t.length).all (okV t)=true then some (d7A s t t.length,σ) else some (err 4,σ):=by
  intro h1 h2
  have hcl:=a6p h1
  obtain ⟨R,z,hR⟩:=d8u s t t.length
  rw [hR]
  refine d8w (by omega) (d8r R) (fun hok=>?_) t.length 0 (by omega) rfl (q+2) (by omega)
  rw [<- hR]
  refine d8m s h1 h2 (fun x hx=>?_) rfl hlow (q+2) (by omega)
  obtain ⟨i,hi⟩:=List.mem_iff_getElem?.1 hx
  have hil:=(QP.1 hi).1
  have:=Qe.1 hok i (Q7.2 hil)
  unfold okV at this
  rw [Q2,hi] at this
  simp only [Option.getD_some,Qg,decide_eq_true_eq] at this
  exact this.1
 rw [a0e,d7K]
 simp only [Q0,Sys.run]
 show ((a0i [.sh (.one _),.sh (.agg [_,_,_,_,_,_])] _).bind _)=_
 unfold d7Q
 simp only [bpv] at hcn ⊢
 simp only [a0i,a0d,a0c,Q4,Q0,Q3,Q5,Q8,if_true,hone]
 show (PT.ev _ d4O _).bind _=_
 by_cases hc:s.cnt=0
 ·have qz:eqB s.cnt 0=true:=by rw [hc]; rfl
  rw [if_pos hc]
  simp -implicitDefEqProofs only [d4O,↓reduceIte,eq_self,ξ1,ξ2,ξ3,ξ4,ξ5,ξ6,ξ7,ξ8,ξ9,ξa,ξb,ξc,ξd,ξe,ξf,ξg,ξh,Nat.reduceAdd,ξi,if_true,if_false,ξl,ξm,ξn,ξo,ξp,ξq,ξr,ξs,ξt,ξu,ξv,ξw,ξx,ξy,ξz,ξA,ξB,ξC,ξD,ξE,hcn,qz,a0k,or_true]
  rfl
 have qz:eqB s.cnt 0=false:=eqF hc
 rw [if_neg hc]
 by_cases h1:(t.length:Int) < s.cnt
 ·have q1:ltB (t.length:Int) s.cnt=true:=by simp [ltB,h1]
  rw [if_pos h1]
  simp -implicitDefEqProofs only [d4O,↓reduceIte,eq_self,ξ1,ξ2,ξ3,ξ4,ξ5,ξ6,ξ7,ξ8,ξ9,ξa,ξb,ξc,ξd,ξe,ξf,ξg,ξh,Nat.reduceAdd,ξi,if_true,if_false,ξl,ξm,ξn,ξo,ξp,ξq,ξr,ξs,ξt,ξu,ξv,ξw,ξx,ξy,ξz,ξA,ξB,ξC,ξD,ξE,hcn,qz,hkind,hlen,q1,a0k,or_true]
  rfl
 have q1:ltB (t.length:Int) s.cnt=false:=by simp [ltB]; omega
 rw [if_neg h1]
 by_cases h2:s.cnt < (t.length:Int)
 ·have q2:ltB s.cnt (t.length:Int)=true:=by simp [ltB,h2]
  rw [if_pos h2]
  simp -implicitDefEqProofs only [d4O,↓reduceIte,eq_self,ξ1,ξ2,ξ3,ξ4,ξ5,ξ6,ξ7,ξ8,ξ9,ξa,ξb,ξc,ξd,ξe,ξf,ξg,ξh,Nat.reduceAdd,ξi,if_true,if_false,ξl,ξm,ξn,ξo,ξp,ξq,ξr,ξs,ξt,ξu,ξv,ξw,ξx,ξy,ξz,ξA,ξB,ξC,ξD,ξE,hcn,qz,hkind,hlen,q1,q2,a0k,or_true]
  rfl
 have q2:ltB s.cnt (t.length:Int)=false:=by simp [ltB]; omega
 rw [if_neg h2]
 have hcl:=a6p hc
 obtain ⟨x,hx⟩:=a3n (l:=t) (i:=0) (by omega)
 have ex:t.getD 0 0=x:=by rw [Q2,hx]; rfl
 have l1:a3N 0 1 0 (.sl 1 (a0P t))=some (.row [.int .i64 x] 0):=b4y (i:=0) hx
 have q3:ltB 0 (t.length:Int)=true:=by simp [ltB]; omega
 have hl:=hlp hc (by omega)
 rw [ex]
 by_cases h3:x=0
 ·have q4:eqB x 0=true:=by rw [h3]; rfl
  rw [decide_eq_true h3,Qb]
  rw [show (if (Q1 t.length).all (okV t)=true then d7A s t t.length else err 4)=if (Q1 t.length).all (okV t)=true then d7A s t t.length else err 4 from rfl]
  refine Eq.trans ?_ (hl.trans ?_)
  ·simp -implicitDefEqProofs only [d4O,↓reduceIte,eq_self,ξ1,ξ2,ξ3,ξ4,ξ5,ξ6,ξ7,ξ8,ξ9,ξa,ξb,ξc,ξd,ξe,ξf,ξg,ξh,Nat.reduceAdd,ξi,if_true,if_false,ξl,ξm,ξn,ξo,ξp,ξq,ξr,ξs,ξt,ξu,ξv,ξw,ξx,ξy,ξz,ξA,ξB,ξC,ξD,ξE,hcn,qz,hkind,hlen,q1,q2,q3,l1,q4]
   rfl
  ·split<;>rfl
 ·have q4:eqB x 0=false:=eqF h3
  rw [decide_eq_false h3,Q6,if_neg (by decide)]
  simp -implicitDefEqProofs only [d4O,↓reduceIte,eq_self,ξ1,ξ2,ξ3,ξ4,ξ5,ξ6,ξ7,ξ8,ξ9,ξa,ξb,ξc,ξd,ξe,ξf,ξg,ξh,Nat.reduceAdd,ξi,if_true,if_false,ξl,ξm,ξn,ξo,ξp,ξq,ξr,ξs,ξt,ξu,ξv,ξw,ξx,ξy,ξz,ξA,ξB,ξC,ξD,ξE,hcn,qz,hkind,hlen,q1,q2,q3,l1,q4,a0k,or_true]
  rfl
end
end Go.Proofs.Ythmkfeiapdbojaa
set_option maxRecDepth 100000
namespace Go.Proofs.Ythmkfeiapdbojaa
open Go.Sx Go.Kv Go.Bun
section
variable {σ:List MO} {s:Bd} {t:List Int}
def d7z (s:Bd) (t:List Int) (i k:Nat):Bool:=(Q1 k).all (d7J s t i)
theorem d8j (s:Bd) (t:List Int) (i k:Nat):d7z s t i (k+1)=(d7z s t i k&&d7J s t i k):=by
 unfold d7z; rw [Qh,Qp]; simp
def frE (σ:List MO) (s:Bd) (t:List Int) (V:PV) (i k:Nat) (w:Bool):PEnv:={ i:=[(t.length:Int),(i:Int),(k:Int)],b:=[w],v:=[.sl 1 (a0P t),V,.sl 6 (a2b (Lk s 6))],m:=σ,k:=σ.length }
theorem d8c (hc:s.cnt≠0) (htl:(t.length:Int)=s.cnt) {k:Nat} (hk:k < t.length):(a2b (Lk s 6))[k]?=some (bpv (s.unr k)):=by
 have:=c2i hc (i:=k) (by omega)
 unfold a2b
 rw [QQ,this]
 rfl
theorem d8H (hc:s.cnt≠0) (htl:(t.length:Int)=s.cnt) {i:Nat} (hi:i < t.length) {V:PV} (q:Nat):∀ k,k < t.length->∀ fuel,
  saleroomref14_FromTable_S.loop (a0e Tab (q+1)) (fuel+1) 2 (frE σ s t V i k (d7z s t i k))=saleroomref14_FromTable_S.loop (a0e Tab (q+1)) fuel 2 (frE σ s t V i (k+1) (d7z s t i (k+1))):=by
 intro k hk fuel
 have hcl:=a6p hc
 have hlen:(PV.sl 1 (a0P t)).len=(t.length:Int):=by simp [PV.len,b5n]
 have hlenB:(PV.sl 6 (a2b (Lk s 6))).len=(t.length:Int):=by
  have:=c1Z hc
  simp only [PV.len,a8p]; omega
 obtain ⟨x,hx⟩:=a3n hi
 obtain ⟨y,hy⟩:=a3n hk
 have ex:t.getD i 0=x:=by rw [Q2,hx]; rfl
 have ey:t.getD k 0=y:=by rw [Q2,hy]; rfl
 have l1:=b4y hx
 have l2:=b4y hy
 have l3:=a4d (off:=0) (d6I 6 (a2b (Lk s 6))) (d8c hc htl hi)
 have l4:=a4d (off:=0) (d6I 6 (a2b (Lk s 6))) (d8c hc htl hk)
 have hw:=d4r (s.unr k) (s.unr i) σ q
 have q0:ltB (k:Int) (t.length:Int)=true:=by simp [ltB]; exact hk
 have q1:ltB (i:Int) (t.length:Int)=true:=by simp [ltB]; exact hi
 have q2:=a2h (i:=k) (by omega)
 have hak:d7J s t i k=!(!decide (k=i)&&(decide (x<=y)&&decide ((s.unr k).Le (s.unr i)))):=by unfold d7J; rw [ex,ey]
 rw [d8j,hak]
 have e1:leB x y=decide (x<=y):=rfl
 rw [Sys.loop,show saleroomref14_FromTable_S.loops[2]?=some d7p from rfl,Q0]
 generalize d7z s t i k=w at *
 generalize a0e Tab (q+1)=Φ at *
 have key:d7p.ev Φ (frE σ s t V i k w)=some (.jump 2 (frE σ s t V i (k+1) (w&&!(!decide (k=i)&&(decide (x<=y)&&decide ((s.unr k).Le (s.unr i))))))):=by
  unfold d7p frE
  generalize a2b (Lk s 6)=RB at *
  by_cases hki:k=i
  ·have e2:eqB (k:Int) (i:Int)=true:=by rw [hki]; exact a2Y _
   rw [decide_eq_true hki]
   simp -implicitDefEqProofs only [↓reduceIte,eq_self,ξ1,ξ2,ξ3,ξ4,ξ5,ξ6,ξ7,ξ8,ξ9,ξa,ξb,ξc,ξd,ξe,ξf,ξg,ξh,Nat.reduceAdd,ξi,if_true,if_false,ξl,ξm,ξn,ξo,ξp,ξq,ξr,ξs,ξt,ξu,ξv,ξw,ξx,ξy,ξz,ξA,ξB,ξC,ξD,ξE,q0,e2,q2,a0v,Qy,Q6,Qq,Qr]
  have e2:eqB (k:Int) (i:Int)=false:=eqF (by omega)
  rw [decide_eq_false hki]
  generalize decide ((s.unr k).Le (s.unr i))=le at *
  by_cases hxy:x<=y
  ·rw [decide_eq_true hxy] at e1 ⊢
   generalize s.unr i=u at *
   generalize s.unr k=v at *
   obtain ⟨u0,u1,u2,u3,u4,u5⟩:=u
   obtain ⟨v0,v1,v2,v3,v4,v5⟩:=v
   simp only [bpv] at hw l3 l4
   cases le with
   | true=>simp -implicitDefEqProofs only [↓reduceIte,eq_self,ξ1,ξ2,ξ3,ξ4,ξ5,ξ6,ξ7,ξ8,ξ9,ξa,ξb,ξc,ξd,ξe,ξf,ξg,ξh,Nat.reduceAdd,ξi,if_true,if_false,ξl,ξm,ξn,ξo,ξp,ξq,ξr,ξs,ξt,ξu,ξv,ξw,ξx,ξy,ξz,ξA,ξB,ξC,ξD,ξE,q0,q1,e1,e2,q2,a0v,hlen,hlenB,le0,l1,l2,l3,l4,hw,Qy,Qq,Qr,Qj]
   | false=>simp -implicitDefEqProofs only [↓reduceIte,eq_self,ξ1,ξ2,ξ3,ξ4,ξ5,ξ6,ξ7,ξ8,ξ9,ξa,ξb,ξc,ξd,ξe,ξf,ξg,ξh,Nat.reduceAdd,ξi,if_true,if_false,ξl,ξm,ξn,ξo,ξp,ξq,ξr,ξs,ξt,ξu,ξv,ξw,ξx,ξy,ξz,ξA,ξB,ξC,ξD,ξE,q0,q1,e1,e2,q2,a0v,hlen,hlenB,le0,l1,l2,l3,l4,hw,Qy,Qq,Qr,Qj]
  ·rw [decide_eq_false hxy] at e1 ⊢
   simp -implicitDefEqProofs only [↓reduceIte,eq_self,ξ1,ξ2,ξ3,ξ4,ξ5,ξ6,ξ7,ξ8,ξ9,ξa,ξb,ξc,ξd,ξe,ξf,ξg,ξh,Nat.reduceAdd,ξi,if_true,if_false,ξl,ξm,ξn,ξo,ξp,ξq,ξr,ξs,ξt,ξu,ξv,ξw,ξx,ξy,ξz,ξA,ξB,ξC,ξD,ξE,q0,q1,e1,e2,q2,a0v,hlen,hlenB,le0,l1,l2,Q6,Qj,Qq,Qr]
 rw [key]
 rfl
theorem d8s (hc:s.cnt≠0) (htl:(t.length:Int)=s.cnt) (q:Nat):∀ (d i:Nat),i+d=t.length->0 < i->∀ fuel,d*(t.length+2)+1<=fuel ->
  saleroomref14_FromTable_S.loop (a0e Tab (q+1)) fuel 1 { i:=[(t.length:Int),(i:Int)],b:=[],v:=[.sl 1 (a0P t),oV (d7s s t t.length i),.sl 6 (a2b (Lk s 6))],m:=σ,k:=σ.length }=some (d7A s t t.length,σ):=by
 have hcl:=a6p hc
 intro d
 induction d with
 | zero =>
  intro i hi h0 fuel hf
  obtain ⟨fuel,rfl⟩:∃ j,fuel=j+1:=⟨fuel-1,by omega⟩
  obtain rfl:i=t.length:=by omega
  have q0:ltB (t.length:Int) (t.length:Int)=false:=by simp [ltB]
  obtain ⟨o1,o2,o3⟩:=d5h (d6E (d7s s t t.length t.length))
  rw [Sys.loop,show saleroomref14_FromTable_S.loops[1]?=some d7r from rfl]
  unfold d7A
  by_cases h40:40 < (d7s s t t.length t.length).length
  ·have q4:ltB 40 ((d7s s t t.length t.length).length:Int)=true:=by simp [ltB]; omega
   rw [if_pos h40]
   simp -implicitDefEqProofs only [Q0,d7r,↓reduceIte,eq_self,ξ1,ξ2,ξ3,ξ4,ξ5,ξ6,ξ7,ξ8,ξ9,ξa,ξb,ξc,ξd,ξe,ξf,ξg,ξh,Nat.reduceAdd,ξi,if_true,if_false,ξl,ξm,ξn,ξo,ξp,ξq,ξr,ξs,ξt,ξu,ξv,ξw,ξx,ξy,ξz,ξA,ξB,ξC,ξD,ξE,q0,o1,o2,o3,q4,a0k,or_true]
  ·have q4:ltB 40 ((d7s s t t.length t.length).length:Int)=false:=by simp [ltB]; omega
   rw [if_neg h40]
   simp -implicitDefEqProofs only [Q0,d7r,↓reduceIte,eq_self,ξ1,ξ2,ξ3,ξ4,ξ5,ξ6,ξ7,ξ8,ξ9,ξa,ξb,ξc,ξd,ξe,ξf,ξg,ξh,Nat.reduceAdd,ξi,if_true,if_false,ξl,ξm,ξn,ξo,ξp,ξq,ξr,ξs,ξt,ξu,ξv,ξw,ξx,ξy,ξz,ξA,ξB,ξC,ξD,ξE,q0,o1,o2,o3,q4,a0k,or_true]
 | succ d ih =>
  intro i hi h0 fuel hf
  rw [Nat.add_mul] at hf
  obtain ⟨fuel,rfl⟩:∃ j,fuel=j+1+t.length+1:=⟨fuel-(t.length+2),by omega⟩
  have hil:i < t.length:=by omega
  obtain ⟨x,hx⟩:=a3n hil
  have ex:t.getD i 0=x:=by rw [Q2,hx]; rfl
  have hnx:=ih (i+1) (by omega) (by omega) fuel (by omega)
  have hin:=a3R (fun k=>frE σ s t (oV (d7s s t t.length i)) i k (d7z s t i k)) (d8H (σ:=σ) (V:=oV (d7s s t t.length i)) hc htl hil q) t.length 0 (by omega) (fuel+1)
  have hlen:(PV.sl 1 (a0P t)).len=(t.length:Int):=by simp [PV.len,b5n]
  have hlenB:(PV.sl 6 (a2b (Lk s 6))).len=(t.length:Int):=by
   have:=c1Z hc
   simp only [PV.len,a8p]; omega
  have l1:=b4y hx
  have l3:=a4d (off:=0) (d6I 6 (a2b (Lk s 6))) (d8c hc htl hil)
  have q0:ltB (i:Int) (t.length:Int)=true:=by simp [ltB]; exact hil
  have qL:ltB (t.length:Int) (t.length:Int)=false:=by simp [ltB]
  have q2:=a2h (i:=i) (by omega)
  have ho:d7Z s t i=⟨0,s.unr i,x⟩:=by unfold d7Z; rw [ex]
  have hR:=d6H (d7s s t t.length i)
  have hA:=d6P (d7s s t t.length i) ⟨0,s.unr i,x⟩
  have hl:=d8g s t t.length i
  have hsz:(osR (d7s s t t.length i)).length+1<=1000000:=by rw [d5U]; omega
  have hab:d7z s t i t.length=d7H s t t.length i:=rfl
  have ha0:d7z s t i 0=true:=rfl
  rw [hab,ha0] at hin
  rw [d8a,ho,d6W,decide_eq_true h0,Qb] at hnx
  have hend:saleroomref14_FromTable_S.loop (a0e Tab (q+1)) (fuel+1) 2 (frE σ s t (oV (d7s s t t.length i)) i t.length (d7H s t t.length i))=some (d7A s t t.length,σ):=by
   rw [<- hnx]
   clear hin hnx ih
   unfold frE
   generalize oV (d7s s t t.length i++[⟨0,s.unr i,x⟩])=V2 at *
   generalize oV (d7s s t t.length i)=V1 at *
   generalize osR (d7s s t t.length i)=RR at *
   generalize d7H s t t.length i=kp at *
   generalize a0e Tab (q+1)=Φ at *
   generalize a2b (Lk s 6)=RB at *
   generalize s.unr i=u at *
   obtain ⟨u0,u1,u2,u3,u4,u5⟩:=u
   simp only [Of.pv] at hA
   simp only [bpv] at l3
   rw [Sys.loop,show saleroomref14_FromTable_S.loops[2]?=some d7p from rfl,Q0]
   have key:d7p.ev Φ { i:=[(t.length:Int),(i:Int),(t.length:Int)],b:=[kp],v:=[.sl 1 (a0P t),V1,.sl 6 RB],m:=σ,k:=σ.length }=some (.jump 1 { i:=[(t.length:Int),((i+1:Nat):Int)],b:=[],v:=[.sl 1 (a0P t),if kp=true then V2 else V1,.sl 6 RB],m:=σ,k:=σ.length }):=by
    unfold d7p
    cases kp with
    | true =>
     repeat (first | rw [a0B] | rw [a0A] | rw [a0D] | rw [a0p] | rw [a0q] | rw [a0m] | rw [a0M] | rw [a3f] | rw [a0C] | rw [a0y] | rw [a0r] | rw [a0N])<;>simp -implicitDefEqProofs only [↓reduceIte,eq_self,ξ2,ξ3,ξ4,ξ5,ξ6,ξ7,ξ8,ξ9,ξa,ξb,ξc,ξd,ξe,ξf,ξg,ξh,Nat.reduceAdd,ξi,if_true,if_false,ξl,ξm,ξn,ξo,ξp,ξq,ξr,ξs,ξt,ξu,ξv,ξw,ξx,ξy,ξz,ξA,ξB,ξC,ξD,ξE,hlen,hlenB,qL,q0,le0,l1,l3,a1x,QJ,List.mapM_nil,QK,QL,QM,QN,d6I,hR,hsz,hA,Nat.zero_add,d6O,q2,a0v]
    | false =>
     repeat (first | rw [a0B] | rw [a0A] | rw [a0D] | rw [a0p] | rw [a0q] | rw [a0m] | rw [a0M] | rw [a3f] | rw [a0C] | rw [a0y] | rw [a0r] | rw [a0N])<;>simp -implicitDefEqProofs only [↓reduceIte,eq_self,ξ2,ξ3,ξ4,ξ5,ξ6,ξ7,ξ8,ξ9,ξa,ξb,ξc,ξd,ξe,ξf,ξg,ξh,Nat.reduceAdd,ξi,if_true,if_false,ξl,ξm,ξn,ξo,ξp,ξq,ξr,ξs,ξt,ξu,ξv,ξw,ξx,ξy,ξz,ξA,ξB,ξC,ξD,ξE,hlen,hlenB,qL,q2,a0v]
   rw [key]
   rfl
  rw [hend] at hin
  rw [<- hin]
  rw [Sys.loop,show saleroomref14_FromTable_S.loops[1]?=some d7r from rfl]
  simp -implicitDefEqProofs only [Q0,d7r,↓reduceIte,eq_self,ξ1,ξ2,ξ3,ξ4,ξ5,ξ6,ξ7,ξ8,ξ9,ξa,ξb,ξc,ξd,ξe,ξf,ξg,ξh,Nat.reduceAdd,ξi,if_true,if_false,ξl,ξm,ξn,ξo,ξp,ξq,ξr,ξs,ξt,ξu,ξv,ξw,ξx,ξy,ξz,ξA,ξB,ξC,ξD,ξE,q0]
  rfl
end
end Go.Proofs.Ythmkfeiapdbojaa
set_option maxRecDepth 100000
namespace Go.Proofs.Ythmkfeiapdbojaa
open Go.Sx Go.Kv Go.Bun
section
variable {σ:List MO} {s:Bd} {t:List Int}
def d7L (t:List Int) (i:Nat):Bool:=okV t i&&(!decide (i=0)||decide (t.getD 0 0=0))
theorem d8z {N:Nat} (hN:0 < N) (t:List Int):(Q1 N).all (d7L t)=(decide (t.getD 0 0=0)&&(Q1 N).all (okV t)):=by
 rw [Qf]
 unfold d7L
 simp only [Qg,Qe,Q7,Qz,Qs,decide_eq_true_eq,decide_eq_false_iff_not]
 constructor
 ·intro h
  refine ⟨?_,fun i hi=>(h i hi).1⟩
  rcases (h 0 hN).2 with h1 | h1
  ·exact absurd rfl h1
  ·exact h1
 ·rintro ⟨h1,h2⟩ i hi
  exact ⟨h2 i hi,.inr h1⟩
theorem d8o {Φ:Fns} (hc:s.cnt≠0) (htl:(t.length:Int)=s.cnt) (F:Nat) {r:Option (PV × List MO)} (hlist:Φ 36 [.agg (bpv s)] σ=some (.sl 6 (a2b (Lk s 6)),σ))
  (hend:∀ fuel,F<=fuel->saleroomref14_FromTable_S.loop Φ fuel 1 { i:=[(t.length:Int),((1:Nat):Int)],b:=[],v:=[.sl 1 (a0P t),.nilS,.sl 6 (a2b (Lk s 6))],m:=σ,k:=σ.length }=r):∀ (d i:Nat),i+d=t.length->(Q1 i).all (d7L t)=true->∀ fuel,d+1+F<=fuel ->
  saleroomref14_FromTable_S.loop Φ fuel 0 { i:=[(t.length:Int),(i:Int),s.a,s.b,s.c,s.d,s.e,s.f],b:=[],v:=[.sl 1 (a0P t)],m:=σ,k:=σ.length } =
  if (Q1 t.length).all (d7L t)=true then r else some (err 4,σ):=by
 have hcl:=a6p hc
 have hlen:(PV.sl 1 (a0P t)).len=(t.length:Int):=by simp [PV.len,b5n]
 have hone:(PV.sl 1 (a0P t)).one=true:=rfl
 intro d
 induction d with
 | zero =>
  intro i hi hok fuel hf
  obtain ⟨fuel,rfl⟩:∃ j,fuel=j+1:=⟨fuel-1,by omega⟩
  obtain rfl:i=t.length:=by omega
  have q0:ltB (t.length:Int) (t.length:Int)=false:=by simp [ltB]
  have hE:=hend fuel (by omega)
  rw [if_pos hok,<- hE]
  obtain ⟨a,b,c,d,e,f⟩:=s
  simp only [bpv] at hlist
  have hone2:(PV.sl 6 (a2b (Lk ⟨a,b,c,d,e,f⟩ 6))).one=true:=rfl
  generalize a2b (Lk ⟨a,b,c,d,e,f⟩ 6)=RB at *
  rw [Sys.loop,show saleroomref14_FromTable_S.loops[0]?=some d7o from rfl]
  simp -implicitDefEqProofs only [Q0,d7o,↓reduceIte,eq_self,ξ1,ξ2,ξ3,ξ4,ξ5,ξ6,ξ7,ξ8,ξ9,ξa,ξb,ξc,ξd,ξe,ξf,ξg,ξh,Nat.reduceAdd,ξi,if_true,if_false,ξl,ξm,ξn,ξo,ξp,ξq,ξr,ξs,ξt,ξu,ξv,ξw,ξx,ξy,ξz,ξA,ξB,ξC,ξD,ξE,hlen,hone,hone2,q0,hlist]
  rfl
 | succ d ih =>
  intro i hi hok fuel hf
  obtain ⟨fuel,rfl⟩:∃ j,fuel=j+1:=⟨fuel-1,by omega⟩
  have hil:i < t.length:=by omega
  obtain ⟨x,hx⟩:=a3n hil
  have ex:t.getD i 0=x:=by rw [Q2,hx]; rfl
  have l1:=b4y hx
  have q0:ltB (i:Int) (t.length:Int)=true:=by simp [ltB]; omega
  have q2:=a2h (i:=i) (by omega)
  have hoki:d7L t i=(decide (0<=x)&&decide (x<=1000000)&&(!decide (i=0)||decide (t.getD 0 0=0))):=by unfold d7L okV; rw [ex]
  have hbad:d7L t i=false->¬ (Q1 t.length).all (d7L t)=true:=fun h1 h2=>by
   have:=Qe.1 h2 i (Q7.2 hil)
   rw [h1] at this; cases this
  rw [Sys.loop,show saleroomref14_FromTable_S.loops[0]?=some d7o from rfl]
  by_cases h1:x < 0
  ·have e1:ltB x 0=true:=by simp [ltB,h1]
   rw [if_neg (hbad (by rw [hoki,decide_eq_false (by omega),Q6,Q6]))]
   simp -implicitDefEqProofs only [Q0,d7o,↓reduceIte,eq_self,ξ1,ξ2,ξ3,ξ4,ξ5,ξ6,ξ7,ξ8,ξ9,ξa,ξb,ξc,ξd,ξe,ξf,ξg,ξh,Nat.reduceAdd,ξi,if_true,if_false,ξl,ξm,ξn,ξo,ξp,ξq,ξr,ξs,ξt,ξu,ξv,ξw,ξx,ξy,ξz,ξA,ξB,ξC,ξD,ξE,hlen,hone,q0,le0,l1,e1,a0k,or_true]
   rfl
  have e1:ltB x 0=false:=by simp [ltB]; omega
  by_cases h2:1000000 < x
  ·have e2:ltB 1000000 x=true:=by simp [ltB,h2]
   rw [if_neg (hbad (by rw [hoki,decide_eq_false (p:=x<=1000000) (by omega),Qj,Q6]))]
   simp -implicitDefEqProofs only [Q0,d7o,↓reduceIte,eq_self,ξ1,ξ2,ξ3,ξ4,ξ5,ξ6,ξ7,ξ8,ξ9,ξa,ξb,ξc,ξd,ξe,ξf,ξg,ξh,Nat.reduceAdd,ξi,if_true,if_false,ξl,ξm,ξn,ξo,ξp,ξq,ξr,ξs,ξt,ξu,ξv,ξw,ξx,ξy,ξz,ξA,ξB,ξC,ξD,ξE,hlen,hone,q0,le0,l1,e1,e2,a0k,or_true]
   rfl
  have e2:ltB 1000000 x=false:=by simp [ltB]; omega
  rw [decide_eq_true (p:=0<=x) (by omega),decide_eq_true (p:=x<=1000000) (by omega)] at hoki
  by_cases h3:i=0
  ·have e3:eqB (i:Int) 0=true:=by rw [h3]; rfl
   have ex0:t.getD 0 0=x:=by rw [<- ex,h3]
   rw [ex0,decide_eq_true h3] at hoki
   by_cases h4:x=0
   ·have e4:eqB x 0=true:=by rw [h4]; rfl
    have hnx:=ih (i+1) (by omega) (by rw [Qh,Qp,hok]; simp [hoki,h4]) fuel (by omega)
    rw [<- hnx]
    simp -implicitDefEqProofs only [Q0,d7o,↓reduceIte,eq_self,ξ1,ξ2,ξ3,ξ4,ξ5,ξ6,ξ7,ξ8,ξ9,ξa,ξb,ξc,ξd,ξe,ξf,ξg,ξh,Nat.reduceAdd,ξi,if_true,if_false,ξl,ξm,ξn,ξo,ξp,ξq,ξr,ξs,ξt,ξu,ξv,ξw,ξx,ξy,ξz,ξA,ξB,ξC,ξD,ξE,hlen,hone,q0,le0,l1,e1,e2,e3,e4,q2,a0v]
   ·have e4:eqB x 0=false:=eqF h4
    rw [if_neg (hbad (by rw [hoki,decide_eq_false h4]; rfl))]
    simp -implicitDefEqProofs only [Q0,d7o,↓reduceIte,eq_self,ξ1,ξ2,ξ3,ξ4,ξ5,ξ6,ξ7,ξ8,ξ9,ξa,ξb,ξc,ξd,ξe,ξf,ξg,ξh,Nat.reduceAdd,ξi,if_true,if_false,ξl,ξm,ξn,ξo,ξp,ξq,ξr,ξs,ξt,ξu,ξv,ξw,ξx,ξy,ξz,ξA,ξB,ξC,ξD,ξE,hlen,hone,q0,le0,l1,e1,e2,e3,e4,a0k,or_true]
    rfl
  ·have e3:eqB (i:Int) 0=false:=eqF (by omega)
   rw [decide_eq_false h3] at hoki
   have hnx:=ih (i+1) (by omega) (by rw [Qh,Qp,hok]; simp [hoki]) fuel (by omega)
   rw [<- hnx]
   simp -implicitDefEqProofs only [Q0,d7o,↓reduceIte,eq_self,ξ1,ξ2,ξ3,ξ4,ξ5,ξ6,ξ7,ξ8,ξ9,ξa,ξb,ξc,ξd,ξe,ξf,ξg,ξh,Nat.reduceAdd,ξi,if_true,if_false,ξl,ξm,ξn,ξo,ξp,ξq,ξr,ξs,ξt,ξu,ξv,ξw,ξx,ξy,ξz,ξA,ξB,ξC,ξD,ξE,hlen,hone,q0,le0,l1,e1,e2,e3,q2,a0v]
theorem d8A (s:Bd) (hlow:σ.all (MO.low σ.length)=true) {tp:PV} (htp:tp=.sl 1 (a0P t)) (n:Nat) (hn:3000000<=n):a0e Tab n 35 [tp,.agg (bpv s)] σ=some (d7Q s t,σ):=by
 subst htp
 obtain ⟨q,rfl⟩:∃ q,n=q+3:=⟨n-3,by omega⟩
 have hcn:=a4a s σ q
 have hone:(PV.sl 1 (a0P t)).one=true:=rfl
 have hkind:(PV.sl 1 (a0P t)).isKind 0=true:=rfl
 have hlen:(PV.sl 1 (a0P t)).len=(t.length:Int):=by simp [PV.len,b5n]
 have hlp:s.cnt≠0->(t.length:Int)=s.cnt->saleroomref14_FromTable_S.loop (a0e Tab (q+2)) (q+2) 0 { i:=[(t.length:Int),((0:Nat):Int),s.a,s.b,s.c,s.d,s.e,s.f],b:=[],v:=[.sl 1 (a0P t)],m:=σ,k:=σ.length }=if (Q1 t.length).all (d7L t)=true then some (d7A s t t.length,σ) else some (err 4,σ):=by
  intro h1 h2
  have hcl:=a6p h1
  have hm:t.length*(t.length+2)<=1024*1026:=Nat.mul_le_mul (by omega) (by omega)
  have hm2:(t.length-1)*(t.length+2)<=t.length*(t.length+2):=Nat.mul_le_mul_right _ (by omega)
  refine d8o h1 h2 ((t.length-1)*(t.length+2)+1) (c9P s h1 hlow (q+2) (by omega)) (fun fuel hf=>?_) t.length 0 (by omega) rfl (q+2) (by omega)
  have h0:=d8s (σ:=σ) h1 h2 (q+1) (t.length-1) 1 (by omega) (by omega) fuel hf
  have hz:d7s s t t.length 1=[]:=rfl
  rw [hz] at h0
  exact h0
 rw [a0e,d7G]
 simp only [Q0,Sys.run]
 show ((a0i [.sh (.one _),.sh (.agg [_,_,_,_,_,_])] _).bind _)=_
 unfold d7Q
 simp only [bpv] at hcn ⊢
 simp only [a0i,a0d,a0c,Q4,Q0,Q3,Q5,Q8,if_true,hone]
 show (PT.ev _ d7t _).bind _=_
 by_cases hc:s.cnt=0
 ·have qz:eqB s.cnt 0=true:=by rw [hc]; rfl
  rw [if_pos hc]
  simp -implicitDefEqProofs only [d7t,↓reduceIte,eq_self,ξ1,ξ2,ξ3,ξ4,ξ5,ξ6,ξ7,ξ8,ξ9,ξa,ξb,ξc,ξd,ξe,ξf,ξg,ξh,Nat.reduceAdd,ξi,if_true,if_false,ξl,ξm,ξn,ξo,ξp,ξq,ξr,ξs,ξt,ξu,ξv,ξw,ξx,ξy,ξz,ξA,ξB,ξC,ξD,ξE,hcn,qz,a0k,or_true]
  rfl
 have qz:eqB s.cnt 0=false:=eqF hc
 rw [if_neg hc]
 by_cases h1:(t.length:Int) < s.cnt
 ·have q1:ltB (t.length:Int) s.cnt=true:=by simp [ltB,h1]
  rw [if_pos h1]
  simp -implicitDefEqProofs only [d7t,↓reduceIte,eq_self,ξ1,ξ2,ξ3,ξ4,ξ5,ξ6,ξ7,ξ8,ξ9,ξa,ξb,ξc,ξd,ξe,ξf,ξg,ξh,Nat.reduceAdd,ξi,if_true,if_false,ξl,ξm,ξn,ξo,ξp,ξq,ξr,ξs,ξt,ξu,ξv,ξw,ξx,ξy,ξz,ξA,ξB,ξC,ξD,ξE,hcn,qz,hkind,hlen,q1,a0k,or_true]
  rfl
 have q1:ltB (t.length:Int) s.cnt=false:=by simp [ltB]; omega
 rw [if_neg h1]
 by_cases h2:s.cnt < (t.length:Int)
 ·have q2:ltB s.cnt (t.length:Int)=true:=by simp [ltB,h2]
  rw [if_pos h2]
  simp -implicitDefEqProofs only [d7t,↓reduceIte,eq_self,ξ1,ξ2,ξ3,ξ4,ξ5,ξ6,ξ7,ξ8,ξ9,ξa,ξb,ξc,ξd,ξe,ξf,ξg,ξh,Nat.reduceAdd,ξi,if_true,if_false,ξl,ξm,ξn,ξo,ξp,ξq,ξr,ξs,ξt,ξu,ξv,ξw,ξx,ξy,ξz,ξA,ξB,ξC,ξD,ξE,hcn,qz,hkind,hlen,q1,q2,a0k,or_true]
  rfl
 have q2:ltB s.cnt (t.length:Int)=false:=by simp [ltB]; omega
 rw [if_neg h2]
 have hcl:=a6p hc
 have hce:(t.length:Int)=s.cnt:=by omega
 have hl:=hlp hc hce
 rw [d8z (by omega)] at hl
 refine Eq.trans ?_ (hl.trans ?_)
 ·rw [<- hce] at hcn qz q1 q2
  simp -implicitDefEqProofs only [d7t,↓reduceIte,eq_self,ξ1,ξ2,ξ3,ξ4,ξ5,ξ6,ξ7,ξ8,ξ9,ξa,ξb,ξc,ξd,ξe,ξf,ξg,ξh,Nat.reduceAdd,ξi,if_true,if_false,ξl,ξm,ξn,ξo,ξp,ξq,ξr,ξs,ξt,ξu,ξv,ξw,ξx,ξy,ξz,ξA,ξB,ξC,ξD,ξE,hcn,qz,hkind,hlen,q1,q2]
  rfl
 ·generalize (decide (t.getD 0 0=0)&&(Q1 t.length).all (okV t))=w
  cases w<;>rfl
theorem d8l (s:Bd) (t:List Int):∃ R z,d7Q s t=.tup [oV R,.int .i64 z]/\R.length<=100000:=by
 unfold d7Q
 split
 ·exact ⟨[],4,rfl,by decide⟩
 split
 ·exact ⟨[],1,rfl,by decide⟩
 split
 ·exact ⟨[],3,rfl,by decide⟩
 split
 ·unfold d7A
  split
  ·exact ⟨[],3,rfl,by decide⟩
  ·exact ⟨_,0,rfl,by omega⟩
 ·exact ⟨[],4,rfl,by decide⟩
theorem d8e (s:Bd) (t:List Int) (n:Nat) (hn:3000000<=n):a0e a4u (n+1) d7u [.sl 1 (a0P t),.agg (bpv s)] []=some (.bool true,[]):=by
 have ha:=d5O (n:=n) (by omega)
 have hT:a4u d7u=some saleroomlaw14_FlattenTables_S:=c3c _ _ d7y
 obtain ⟨R,z,hR,hRl⟩:=d8l s t
 have h1:=evH (d8P (σ:=[]) s rfl (t:=t) rfl n (by omega))
 have h2:=evH (d8A (σ:=[]) s rfl (t:=t) rfl n (by omega))
 have h3:=evH (d7l (σ:=[]) (d6E R) (d6E R) (by omega) n (by omega))
 rw [hR] at h1 h2
 rw [decide_eq_true rfl] at h3
 obtain ⟨n,rfl⟩:∃ m,n=m+2:=⟨n-2,by omega⟩
 have h4:=evH (a4a s [] n)
 have hone:=d8r R
 have hone1:(PV.sl 1 (a0P t)).one=true:=rfl
 have hzz:eqB z z=true:=a2Y z
 have hsh:a2O [Sh.one .val,Sh.one (.int .i64)] [oV R,.int .i64 z]=some ([z],[],[oV R]):=by simp [a2O,a0d,a0c,hone]
 rw [a0e,hT]
 generalize a0e a4u (n+2)=Φ at *
 simp only [Q0,Sys.run]
 show ((a0i [.sh (.one _),.sh (.agg [_,_,_,_,_,_])] _).bind _)=_
 simp only [bpv] at h1 h2 h4 ⊢
 simp only [a0i,a0d,a0c,Q4,Q0,Q3,Q5,Q8,if_true,hone1]
 show (PT.ev _ d7q _).bind _=_
 generalize oV R=V at *
 by_cases h100:100 < s.cnt
 ·have q:ltB 100 s.cnt=true:=by simp [ltB,h100]
  have key:d7q.ev Φ { i:=[s.a,s.b,s.c,s.d,s.e,s.f],b:=[],v:=[.sl 1 (a0P t)],m:=[],k:=0 }=some (.ret (.bool true) []):=by
   unfold d7q
   repeat (first | rw [a0B] | rw [a0A] | rw [a0D] | rw [a0p] | rw [a0q] | rw [a0m] | rw [a0M] | rw [a3f] | rw [a0C] | rw [a0y] | rw [a0r] | rw [a0N])<;>simp -implicitDefEqProofs only [↓reduceIte,eq_self,ξ2,ξ3,ξ4,ξ5,ξ6,ξ7,ξ8,ξ9,ξa,ξb,ξc,ξd,ξe,ξf,ξg,ξh,Nat.reduceAdd,ξi,if_true,if_false,ξl,ξm,ξn,ξo,ξp,ξq,ξr,ξs,ξt,ξu,ξv,ξw,ξx,ξy,ξz,ξA,ξB,ξC,ξD,ξE,h4,q,ha,a0k,or_true,Qw]
  exact (congrArg (fun r=>Option.bind r _) key)
 ·have q:ltB 100 s.cnt=false:=by simp [ltB]; omega
  have key:d7q.ev Φ { i:=[s.a,s.b,s.c,s.d,s.e,s.f],b:=[],v:=[.sl 1 (a0P t)],m:=[],k:=0 }=some (.ret (.bool true) []):=by
   unfold d7q
   repeat (first | rw [a0B] | rw [a0A] | rw [a0D] | rw [a0p] | rw [a0q] | rw [a0m] | rw [a0M] | rw [a3f] | rw [a0C] | rw [a0y] | rw [a0r] | rw [a0N])<;>simp -implicitDefEqProofs only [↓reduceIte,eq_self,ξ2,ξ3,ξ4,ξ5,ξ6,ξ7,ξ8,ξ9,ξa,ξb,ξc,ξd,ξe,ξf,ξg,ξh,Nat.reduceAdd,ξi,if_true,if_false,ξl,ξm,ξn,ξo,ξp,ξq,ξr,ξs,ξt,ξu,ξv,ξw,ξx,ξy,ξz,ξA,ξB,ξC,ξD,ξE,h4,q,ha,hone1,hone,h1,h2,h3,hsh,hzz,a0k,or_true,Qw]
  exact (congrArg (fun r=>Option.bind r _) key)
end
end Go.Proofs.Ythmkfeiapdbojaa
