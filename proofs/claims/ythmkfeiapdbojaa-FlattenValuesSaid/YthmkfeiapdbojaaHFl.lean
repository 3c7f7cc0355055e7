/- The chapter's examples hold. -/
import Derived.Test.YthmkfeiapdbojaaHVn
import Derived.Test.YthmkfeiapdbojaaHVq
import Derived.Test.YthmkfeiapdbojaaHGx
set_option linter.unusedSimpArgs false
set_option linter.unusedVariables false
open Go.Sx.PT renaming ev → ξ1
open Go.Sx.BE renaming safe → ξ2, pe → ξ3, all → ξz
open Go.Sx.IE renaming pe → ξ4
open Go.Sx renaming PEnv.at → ξ5
open Go.Sx.PEnv renaming push → ξt
open List renaming getD_cons_zero → ξ6, getD_cons_succ → ξ7, getElem?_cons_zero → ξ8, getElem?_cons_succ → ξ9, drop_zero → ξf, length_cons → ξg, length_nil → ξh, take_succ_cons → ξm, take_zero → ξn, cons_append → ξu, nil_append → ξv, append_nil → ξw, map_cons → ξD, map_nil → ξE
open Go.Sx renaming a0g → ξa, a0h → ξb, a0b → ξc, a0f → ξd, a0c → ξo, a0a → ξp, a0d → ξq, a0N → ξF, a0D → ξG, a0p → ξH, a0q → ξI, a0C → ξJ, a1d → ξK, a0Z → ξL, a1e → ξM, a0Y → ξN, a0A → ξO, a0n → ξP, a0B → ξQ, a0M → ξR, a0m → ξS, a0y → ξT, a0R → ξU, a0H → ξV, a0I → ξW, a0J → ξX, a0r → ξY
open Nat renaming add_zero → ξe, le_refl → ξi
open Bool renaming false_eq_true → ξl, and_self → ξA, not_true → ξB, not_false → ξC
open Option renaming map_some → ξr, bind_some → ξs
open Go.Sx.SV renaming pvs → ξx, pv → ξy
open Option renaming bind_some → Q0, map_some → Q1
open List renaming append_nil → Q2, nil_append → Q3, cons_append → Q4, take_length → Q5, drop_succ_cons → Q6, length_nil → Q7
set_option maxRecDepth 1000000
namespace Go.Proofs.Ythmkfeiapdbojaa
open Go.Sx Go.Kv
theorem d5V:a0e a4u 2000 d3Z [] []=some (.bool true,[]):=by kernel_rfl
end Go.Proofs.Ythmkfeiapdbojaa
set_option maxRecDepth 100000
namespace Go.Proofs.Ythmkfeiapdbojaa
open Go.Sx Go.Kv Go.Bun
structure Of where
 p:Int
 w:Bd
 v:Int
 deriving DecidableEq,Inhabited
def Of.pv (o:Of):List PV:=[.int .i64 o.p,.int .i64 o.w.a,.int .i64 o.w.b,.int .i64 o.w.c,.int .i64 o.w.d,.int .i64 o.w.e,.int .i64 o.w.f,.int .i64 o.v]
def osR (L:List Of):List (List PV):=L.map Of.pv
theorem d5U (L:List Of):(osR L).length=L.length:=by simp [osR]
theorem d5z {L:List Of} {i:Nat} {o:Of} (h:L[i]?=some o):(osR L)[i]?=some o.pv:=by simp [osR,h]
def d5w (L:List Of) (x:PV):Prop:=x.rowsOf 8=some (osR L)
theorem d5h {L:List Of} {x:PV} (h:d5w L x):x.len=(L.length:Int)/\x.isKind 0=true/\x.one=true:=by
 obtain ⟨h1,h2,h3⟩:=a0T h
 exact ⟨by rw [h1,d5U],h2,h3⟩
def d3W (b:Bd) (m:Int) (o:Of):Int:=if o.w.Le b then mxI m o.v else m
def d5B (b:Bd) (L:List Of):Int:=L.foldl (d3W b) 0
theorem d5M:Ext Tab:=by
 intro f S h
 unfold tabW at h
 repeat' split at h
 all_goals first
  | (cases h; done)
  | (rename_i hf; subst hf; cases h; first | exact d4g | exact d5d | exact d5u | exact d5y | exact d5q)
theorem d5G (x y:Bd) (σ:List MO) (n:Nat):a0e Tab (n+2) 62 [.agg (bpv x),.agg (bpv y)] σ=some (.bool (decide (x.Le y)),σ):=by
 have:=c5Q d5M n σ (a:=x.l) (b:=y.l) rfl rfl
 rw [show leL x.l y.l=decide (x.Le y) by rw [Bool.eq_iff_iff,a7e,decide_eq_true_eq]] at this
 exact this
section
variable {σ:List MO} {L:List Of} {x:PV}
theorem d5K (hx:d5w L x) (hL:L.length<=1000000) (b:Bd) (n:Nat) (hn:L.length+10<=n):a0e Tab n 37 [x,.agg (bpv b)] σ=some (.int .i64 (d5B b L),σ):=by
 obtain ⟨q,rfl⟩:∃ q,n=q+3:=⟨n-3,by omega⟩
 obtain ⟨x1,x2,x3⟩:=d5h hx
 have step:∀ i:Nat,i < L.length->∀ fuel,flatten_Value_S.loop (a0e Tab (q+2)) (fuel+1) 0 { i:=[(L.take i).foldl (d3W b) 0,(L.length:Int),(i:Int),b.a,b.b,b.c,b.d,b.e,b.f],b:=[],v:=[x],m:=σ,k:=σ.length } =
   flatten_Value_S.loop (a0e Tab (q+2)) fuel 0 { i:=[(L.take (i+1)).foldl (d3W b) 0,(L.length:Int),((i+1:Nat):Int),b.a,b.b,b.c,b.d,b.e,b.f],b:=[],v:=[x],m:=σ,k:=σ.length }:=by
  intro i hi fuel
  obtain ⟨o,ho⟩:=a3n hi
  rw [d5v (d3W b) 0 ho]
  generalize (L.take i).foldl (d3W b) 0=z at *
  have hw:=d5G o.w b σ q
  have hloc:=a4d (off:=0) hx (d5z ho)
  have q0:ltB (i:Int) (L.length:Int)=true:=by simp [ltB]; exact hi
  have q2:=a2h (i:=i) (by omega)
  obtain ⟨p,w,v⟩:=o
  unfold d3W
  simp only at hw ⊢
  rw [Sys.loop,show flatten_Value_S.loops[0]?=some d3S from rfl]
  by_cases hle:w.Le b
  ·rw [decide_eq_true hle] at hw
   rw [if_pos hle]
   obtain ⟨w0,w1,w2,w3,w4,w5⟩:=w
   simp only [bpv] at hw
   by_cases hv:z < v
   ·have qv:ltB z v=true:=by simp [ltB]; exact hv
    rw [show mxI z v=v by unfold mxI; rw [if_pos hv]]
    simp -implicitDefEqProofs only [Q0,d3S,↓reduceIte,eq_self,ξ1,ξ2,ξ3,ξ4,ξ5,ξ6,ξ7,ξ8,ξ9,ξa,ξb,ξc,ξd,ξe,ξf,ξg,ξh,Nat.reduceAdd,ξi,if_true,if_false,ξl,ξm,ξn,ξo,ξp,ξq,ξr,ξs,ξt,ξu,ξv,ξw,ξx,ξy,ξz,ξA,ξB,ξC,ξD,ξE,q0,x1,le0,hloc,Of.pv,qv,hw,q2,a0v]
   ·have qv:ltB z v=false:=by simp [ltB]; omega
    rw [show mxI z v=z by unfold mxI; rw [if_neg hv]]
    simp -implicitDefEqProofs only [Q0,d3S,↓reduceIte,eq_self,ξ1,ξ2,ξ3,ξ4,ξ5,ξ6,ξ7,ξ8,ξ9,ξa,ξb,ξc,ξd,ξe,ξf,ξg,ξh,Nat.reduceAdd,ξi,if_true,if_false,ξl,ξm,ξn,ξo,ξp,ξq,ξr,ξs,ξt,ξu,ξv,ξw,ξx,ξy,ξz,ξA,ξB,ξC,ξD,ξE,q0,x1,le0,hloc,Of.pv,qv,hw,q2,a0v]
  ·rw [decide_eq_false hle] at hw
   rw [if_neg hle]
   obtain ⟨w0,w1,w2,w3,w4,w5⟩:=w
   simp only [bpv] at hw
   cases qv:ltB z v<;>simp -implicitDefEqProofs only [Q0,d3S,↓reduceIte,eq_self,ξ1,ξ2,ξ3,ξ4,ξ5,ξ6,ξ7,ξ8,ξ9,ξa,ξb,ξc,ξd,ξe,ξf,ξg,ξh,Nat.reduceAdd,ξi,if_true,if_false,ξl,ξm,ξn,ξo,ξp,ξq,ξr,ξs,ξt,ξu,ξv,ξw,ξx,ξy,ξz,ξA,ξB,ξC,ξD,ξE,q0,x1,le0,hloc,Of.pv,qv,hw,q2,a0v]
 have h0:=d5C (fun i=>{ i:=[(L.take i).foldl (d3W b) 0,(L.length:Int),(i:Int),b.a,b.b,b.c,b.d,b.e,b.f],b:=[],v:=[x],m:=σ,k:=σ.length }) step (q+2) (by omega)
 rw [a0e,d5b]
 simp only [Q0,Sys.run]
 show ((a0i [.sh (.one _),.sh (.agg [_,_,_,_,_,_])] _).bind _)=_
 simp only [bpv,a0i,a0d,a0c,Q1,Q0,Q2,Q3,Q4,if_true,x3]
 show (PT.ev _ d4b _).bind _=_
 refine Eq.trans (b:=flatten_Value_S.loop (a0e Tab (q+2)) (q+2) 0 { i:=[(L.take 0).foldl (d3W b) 0,(L.length:Int),((0:Nat):Int),b.a,b.b,b.c,b.d,b.e,b.f],b:=[],v:=[x],m:=σ,k:=σ.length }) ?_ ?_
 ·simp -implicitDefEqProofs only [d4b,↓reduceIte,eq_self,ξ1,ξ2,ξ3,ξ4,ξ5,ξ6,ξ7,ξ8,ξ9,ξa,ξb,ξc,ξd,ξe,ξf,ξg,ξh,Nat.reduceAdd,ξi,if_true,if_false,ξl,ξm,ξn,ξo,ξp,ξq,ξr,ξs,ξt,ξu,ξv,ξw,ξx,ξy,ξz,ξA,ξB,ξC,ξD,ξE,x1,x2]
  rfl
 rw [h0,Q5]
 obtain ⟨fu,hfu⟩:∃ k,q+2-L.length=k+1:=⟨q+1-L.length,by omega⟩
 have q0:ltB (L.length:Int) (L.length:Int)=false:=by simp [ltB]
 rw [hfu,Sys.loop,show flatten_Value_S.loops[0]?=some d3S from rfl]
 unfold d5B
 simp -implicitDefEqProofs only [Q0,d3S,↓reduceIte,eq_self,ξ1,ξ2,ξ3,ξ4,ξ5,ξ6,ξ7,ξ8,ξ9,ξa,ξb,ξc,ξd,ξe,ξf,ξg,ξh,Nat.reduceAdd,ξi,if_true,if_false,ξl,ξm,ξn,ξo,ξp,ξq,ξr,ξs,ξt,ξu,ξv,ξw,ξx,ξy,ξz,ξA,ξB,ξC,ξD,ξE,q0,a0k,or_true]
theorem d5F (hx:d5w L x) (hL:L.length<=1000000) (b:Bd) (n:Nat) (hn:L.length+10<=n):a0e Tab n 38 [x,.agg (bpv b)] σ=some (.int .i64 (d5B b L),σ):=by
 obtain ⟨q,rfl⟩:∃ q,n=q+2:=⟨n-2,by omega⟩
 obtain ⟨x1,x2,x3⟩:=d5h hx
 have step:∀ i:Nat,i < L.length->∀ fuel,saleroomref14_Value_S.loop (a0e Tab (q+1)) (fuel+1) 0 { i:=[(L.take i).foldl (d3W b) 0,(i:Int),b.a,b.b,b.c,b.d,b.e,b.f],b:=[],v:=[x],m:=σ,k:=σ.length } =
   saleroomref14_Value_S.loop (a0e Tab (q+1)) fuel 0 { i:=[(L.take (i+1)).foldl (d3W b) 0,((i+1:Nat):Int),b.a,b.b,b.c,b.d,b.e,b.f],b:=[],v:=[x],m:=σ,k:=σ.length }:=by
  intro i hi fuel
  obtain ⟨o,ho⟩:=a3n hi
  rw [d5v (d3W b) 0 ho]
  generalize (L.take i).foldl (d3W b) 0=z at *
  have hw:=d4r o.w b σ q
  have hloc1:=a4d (off:=1) hx (d5z ho)
  have hloc7:=a4d (off:=7) hx (d5z ho)
  have q0:ltB (i:Int) (L.length:Int)=true:=by simp [ltB]; exact hi
  have q2:=a2h (i:=i) (by omega)
  obtain ⟨p,w,v⟩:=o
  unfold d3W
  simp only at hw ⊢
  rw [Sys.loop,show saleroomref14_Value_S.loops[0]?=some d3Q from rfl]
  by_cases hle:w.Le b
  ·rw [decide_eq_true hle] at hw
   rw [if_pos hle]
   obtain ⟨w0,w1,w2,w3,w4,w5⟩:=w
   simp only [bpv] at hw
   simp -implicitDefEqProofs only [Q0,d3Q,↓reduceIte,eq_self,ξ1,ξ2,ξ3,ξ4,ξ5,ξ6,ξ7,ξ8,ξ9,ξa,ξb,ξc,ξd,ξe,ξf,ξg,ξh,Nat.reduceAdd,ξi,if_true,if_false,ξl,ξm,ξn,ξo,ξp,ξq,ξr,ξs,ξt,ξu,ξv,ξw,ξx,ξy,ξz,ξA,ξB,ξC,ξD,ξE,q0,x1,x2,le0,hloc1,hloc7,Of.pv,Q6,Nat.reduceLeDiff,hw,q2,a0v]
  ·rw [decide_eq_false hle] at hw
   rw [if_neg hle]
   obtain ⟨w0,w1,w2,w3,w4,w5⟩:=w
   simp only [bpv] at hw
   simp -implicitDefEqProofs only [Q0,d3Q,↓reduceIte,eq_self,ξ1,ξ2,ξ3,ξ4,ξ5,ξ6,ξ7,ξ8,ξ9,ξa,ξb,ξc,ξd,ξe,ξf,ξg,ξh,Nat.reduceAdd,ξi,if_true,if_false,ξl,ξm,ξn,ξo,ξp,ξq,ξr,ξs,ξt,ξu,ξv,ξw,ξx,ξy,ξz,ξA,ξB,ξC,ξD,ξE,q0,x1,x2,le0,hloc1,hloc7,Of.pv,Q6,Nat.reduceLeDiff,hw,q2,a0v]
 have h0:=d5C (fun i=>{ i:=[(L.take i).foldl (d3W b) 0,(i:Int),b.a,b.b,b.c,b.d,b.e,b.f],b:=[],v:=[x],m:=σ,k:=σ.length }) step (q+1) (by omega)
 rw [a0e,d4s]
 simp only [Q0,Sys.run]
 show ((a0i [.sh (.one _),.sh (.agg [_,_,_,_,_,_])] _).bind _)=_
 simp only [bpv,a0i,a0d,a0c,Q1,Q0,Q2,Q3,Q4,if_true,x3]
 show (PT.ev _ d3X _).bind _=_
 refine Eq.trans (b:=saleroomref14_Value_S.loop (a0e Tab (q+1)) (q+1) 0 { i:=[(L.take 0).foldl (d3W b) 0,((0:Nat):Int),b.a,b.b,b.c,b.d,b.e,b.f],b:=[],v:=[x],m:=σ,k:=σ.length }) rfl ?_
 rw [h0,Q5]
 obtain ⟨fu,hfu⟩:∃ k,q+1-L.length=k+1:=⟨q-L.length,by omega⟩
 have q0:ltB (L.length:Int) (L.length:Int)=false:=by simp [ltB]
 rw [hfu,Sys.loop,show saleroomref14_Value_S.loops[0]?=some d3Q from rfl]
 unfold d5B
 simp -implicitDefEqProofs only [Q0,d3Q,↓reduceIte,eq_self,ξ1,ξ2,ξ3,ξ4,ξ5,ξ6,ξ7,ξ8,ξ9,ξa,ξb,ξc,ξd,ξe,ξf,ξg,ξh,Nat.reduceAdd,ξi,if_true,if_false,ξl,ξm,ξn,ξo,ξp,ξq,ξr,ξs,ξt,ξu,ξv,ξw,ξx,ξy,ξz,ξA,ξB,ξC,ξD,ξE,q0,x1,x2,a0k,or_true]
theorem d5O {n:Nat} (hn:2000<=n):a0e a4u n d3Z [] []=some (.bool true,[]):=c7R hn d5V
theorem d5D (hx:d5w L x) (b:Bd) (n:Nat) (hn:10000<=n):a0e a4u (n+1) d3T [x,.agg (bpv b)] []=some (.bool true,[]):=by
 have ha:=d5O (n:=n) (by omega)
 have hT:a4u d3T=some saleroomlaw14_FlattenValues_S:=c3c _ _ d4a
 obtain ⟨x1,x2,x3⟩:=d5h hx
 have hv:=fun h1 h2=>evH (d5K (σ:=[]) hx h1 b n h2)
 have hr:=fun h1 h2=>evH (d5F (σ:=[]) hx h1 b n h2)
 rw [a0e,hT]
 generalize a0e a4u n=Φ at *
 simp only [Q0,Sys.run]
 show ((a0i [.sh (.one _),.sh (.agg [_,_,_,_,_,_])] _).bind _)=_
 simp only [bpv] at hv hr ⊢
 simp only [a0i,a0d,a0c,Q1,Q0,Q2,Q3,Q4,if_true,x3]
 show (PT.ev _ d3R _).bind _=_
 have key:d3R.ev Φ { i:=[b.a,b.b,b.c,b.d,b.e,b.f],b:=[],v:=[x],m:=[],k:=0 }=some (.ret (.bool true) []):=by
  unfold d3R
  by_cases h:300 < L.length
  ·have q:ltB 300 (L.length:Int)=true:=by simp [ltB]; omega
   repeat (first | rw [a0B] | rw [a0A] | rw [a0D] | rw [a0p] | rw [a0q] | rw [a0m] | rw [a0M] | rw [a3f] | rw [a0C] | rw [a0y] | rw [a0r] | rw [a0N])<;>simp -implicitDefEqProofs only [↓reduceIte,eq_self,ξ2,ξ3,ξ4,ξ5,ξ6,ξ7,ξ8,ξ9,ξa,ξb,ξc,ξd,ξe,ξf,ξg,ξh,Nat.reduceAdd,ξi,if_true,if_false,ξl,ξm,ξn,ξo,ξp,ξq,ξr,ξs,ξt,ξu,ξv,ξw,ξx,ξy,ξz,ξA,ξB,ξC,ξD,ξE,x1,x2,q,a0k,or_true,Q7]
  ·have q:ltB 300 (L.length:Int)=false:=by simp [ltB]; omega
   have hv:=hv (by omega) (by omega)
   have hr:=hr (by omega) (by omega)
   repeat (first | rw [a0B] | rw [a0A] | rw [a0D] | rw [a0p] | rw [a0q] | rw [a0m] | rw [a0M] | rw [a3f] | rw [a0C] | rw [a0y] | rw [a0r] | rw [a0N])<;>simp -implicitDefEqProofs only [↓reduceIte,eq_self,ξ2,ξ3,ξ4,ξ5,ξ6,ξ7,ξ8,ξ9,ξa,ξb,ξc,ξd,ξe,ξf,ξg,ξh,Nat.reduceAdd,ξi,if_true,if_false,ξl,ξm,ξn,ξo,ξp,ξq,ξr,ξs,ξt,ξu,ξv,ξw,ξx,ξy,ξz,ξA,ξB,ξC,ξD,ξE,x1,x2,q,hv,hr,a2Y,ha,a0k,or_true,Q7]
 exact (congrArg (fun r=>Option.bind r _) key)
end
end Go.Proofs.Ythmkfeiapdbojaa
