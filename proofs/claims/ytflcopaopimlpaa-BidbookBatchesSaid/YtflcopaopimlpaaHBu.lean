/- Any setup, offer, call. -/
import Derived.Test.YtflcopaopimlpaaHBs
import Derived.Test.YtflcopaopimlpaaRows
import Derived.WalkKit
import Derived.ProofKit
import Derived.OpenShut
import Derived.JoinedCond
import Derived.ShutString
import Derived.Test.YtflcopaopimlpaaHBq
set_option linter.unusedSimpArgs false
set_option linter.unusedVariables false
open Go.Sx.BE renaming safe → ξ2, pe → ξ3, all → ξz
open Go.Sx.IE renaming pe → ξ4
open Go.Sx renaming PEnv.at → ξ5
open Go.Sx.PEnv renaming push → ξt
open List renaming getD_cons_zero → ξ6, getD_cons_succ → ξ7, getElem?_cons_zero → ξ8, getElem?_cons_succ → ξ9, drop_zero → ξf, length_cons → ξg, length_nil → ξh, take_succ_cons → ξm, take_zero → ξn, cons_append → ξu, nil_append → ξv, append_nil → ξw, map_cons → ξD, map_nil → ξE
open Go.Sx renaming a0y → ξa, a0A → ξb, a0o → ξc, a0z → ξd, a0w → ξo, a0p → ξp, a0x → ξq, a0r → ξF, a0t → ξG, a0n → ξH, a0j → ξI, a0s → ξJ, a0q → ξK, a0g → ξL, a0v → ξM, a0i → ξN, a0m → ξO, a0e → ξP, a0h → ξQ, a0u → ξR, a0a → ξS, a0k → ξT, a0f → ξU, a0b → ξV, a0c → ξW, a0d → ξX, a0l → ξY
open Nat renaming add_zero → ξe, le_refl → ξi
open Bool renaming false_eq_true → ξl, and_self → ξA, not_true → ξB, not_false → ξC
open Option renaming map_some → ξr, bind_some → ξs
open Go.Sx.SV renaming pvs → ξx, pv → ξy
open Option renaming bind_some → Q0
open List renaming replicate → Q1, length_nil → Q2, length_map → Q3, drop_zero → Q5
open Bool renaming not_eq_true' → Q4
set_option maxRecDepth 100000
namespace Go.Proofs.Ytflcopaopimlpaa
open Go.ChangeShapes Go.WideShapes Go.ChangeAt Go.RowKit Go.Sx
theorem c3z {n:Nat} {r:List PV} (h:a1m Try.prog n 52 r):∃ x:O8,r=x.row:=by
 obtain ⟨m,hm,hr⟩:=a3V Try.underlying52 h
 simp only [List.map_cons,List.map_nil,a3x] at hr
 obtain ⟨_,_,rfl,h1,_,_,rfl,h2,_,_,rfl,h3,rfl⟩:=hr
 obtain ⟨p,rfl,_⟩:=a1u (k:=.i64) (by kernel_rfl) h1
 obtain ⟨m',_,h⟩:=b9H Try.underlying40 h2
 simp only [Q1,a3x] at h
 obtain ⟨_,_,rfl,w1,_,_,rfl,w2,_,_,rfl,w3,_,_,rfl,w4,_,_,rfl,w5,_,_,rfl,w6,rfl⟩:=h
 obtain ⟨a,rfl,_⟩:=a1u (k:=.i64) (by kernel_rfl) w1
 obtain ⟨b,rfl,_⟩:=a1u (k:=.i64) (by kernel_rfl) w2
 obtain ⟨c,rfl,_⟩:=a1u (k:=.i64) (by kernel_rfl) w3
 obtain ⟨d,rfl,_⟩:=a1u (k:=.i64) (by kernel_rfl) w4
 obtain ⟨e,rfl,_⟩:=a1u (k:=.i64) (by kernel_rfl) w5
 obtain ⟨f,rfl,_⟩:=a1u (k:=.i64) (by kernel_rfl) w6
 obtain ⟨v,rfl,_⟩:=a1u (k:=.i64) (by kernel_rfl) h3
 exact ⟨⟨p,a,b,c,d,e,f,v⟩,rfl⟩
theorem d1M {n:Nat} {r:List PV} (h:a1m Try.prog n 43 r):∃ x:Sp,r=x.row:=by
 obtain ⟨m,hm,hr⟩:=a3V Try.underlying43 h
 simp only [List.map_cons,List.map_nil,a3x] at hr
 obtain ⟨_,_,rfl,h0,_,_,rfl,h1,_,_,rfl,h2,_,_,rfl,h3,_,_,rfl,h4,rfl⟩:=hr
 obtain ⟨k,rfl,_⟩:=a1u (k:=.i64) (by kernel_rfl) h0
 obtain ⟨p,rfl,_⟩:=a1u (k:=.i64) (by kernel_rfl) h1
 obtain ⟨m',_,h⟩:=b9H Try.underlying40 h2
 simp only [Q1,a3x] at h
 obtain ⟨_,_,rfl,w1,_,_,rfl,w2,_,_,rfl,w3,_,_,rfl,w4,_,_,rfl,w5,_,_,rfl,w6,rfl⟩:=h
 obtain ⟨a,rfl,_⟩:=a1u (k:=.i64) (by kernel_rfl) w1
 obtain ⟨b,rfl,_⟩:=a1u (k:=.i64) (by kernel_rfl) w2
 obtain ⟨c,rfl,_⟩:=a1u (k:=.i64) (by kernel_rfl) w3
 obtain ⟨d,rfl,_⟩:=a1u (k:=.i64) (by kernel_rfl) w4
 obtain ⟨e,rfl,_⟩:=a1u (k:=.i64) (by kernel_rfl) w5
 obtain ⟨f,rfl,_⟩:=a1u (k:=.i64) (by kernel_rfl) w6
 obtain ⟨v,rfl,_⟩:=a1u (k:=.i64) (by kernel_rfl) h3
 obtain ⟨_,rows,_,rfl,hrows⟩:=a6G Try.underlying41 h4
 have hc:Try.prog.cellsOf 52=8:=by kernel_rfl
 rw [hc]
 obtain ⟨l,rfl⟩:=a5c (row:=O8.row) (fun ps h=>c3z h) rows hrows
 exact ⟨⟨k,⟨p,a,b,c,d,e,f,v⟩,l⟩,rfl⟩
end Go.Proofs.Ytflcopaopimlpaa
set_option maxRecDepth 100000
namespace Go.Proofs.Ytflcopaopimlpaa
open Go.Sx Go.Kv
theorem d1R (P B C A:PV) (hp:∀ k,P.low k=true) (hb:∀ k,B.low k=true) (hc:∀ k,C.low k=true) (ha:∀ k,A.low k=true) (j TR:Nat) (σ1 σ2:List MO) (h1:σ1=[]++nbO 0 P B C A (j+1)) (h2:σ2=σ1++[MO.cells (Q1 (j+1) .nilS) 41,.cells [P,B,C,A,.msl σ1.length 0 (j+1) (j+1) 1] TR]) :
  Pair P B C A σ2 0 (σ1.length+1) (fun i=>i < σ2.length) (Q1 (j+1) [])/\σ2.all (MO.low σ2.length)=true:=by
 have l1:σ1.all (MO.low σ1.length)=true:=by rw [h1]; exact c0l (σ:=[]) rfl hp hb hc ha j
 have a1:BInv σ1 P B C A 0 2 ((List.range (j+1)).map (nh 0)) (Q1 (j+1) []):=by rw [h1]; exact c0k [] P B C A j
 have x1:=c4A σ1 P B C A (j+1) TR
 have l2:=c5c l1 hp hb hc ha (j+1) TR
 rw [<- h2] at x1 l2
 have hlen:σ2.length=σ1.length+2:=by rw [h2]; simp
 have a2:BInv σ2 P B C A 0 2 ((List.range (j+1)).map (nh 0)) (Q1 (j+1) []):=by rw [h2]; exact a1.app _
 have lt:∀ {i:Nat} {o:MO},σ1[i]?=some o->i < σ1.length:=fun h=>(List.getElem?_eq_some_iff.1 h).1
 refine ⟨⟨⟨fun i=>i < σ1.length,fun i=>σ1.length<=i/\i < σ2.length,⟨⟨2,_,a2,lt a1.row,fun x hx=>?_⟩,lt a1.book,fun i hi=>by omega⟩,⟨⟨_,_,_,_,_,x1,by omega,by omega⟩,⟨by omega,by omega⟩,fun i hi=>hi.2⟩,fun i hi hr=>by omega,fun i hi=>by show i < _; omega,fun i hi=>hi.2⟩,fun i hi=>hi⟩,l2⟩
 obtain ⟨_,_,hm⟩:=a1.mq hx
 exact lt hm
theorem d2l {l:List Sp} (h:d0Z l=true):∀ s∈l,s.l.length<=60:=by
 intro s hs
 have:=List.all_eq_true.1 h s hs
 simp only [Q4,a0I] at this
 omega
theorem d1p {kvs:List KV} {m:Nat} (h:kvs.length=m) (hm:1<=m):kvs≠[]:=by rintro rfl; simp at h; omega
section
variable (TW:Nat->Option Sx.Sys) (n:Nat) (up:∀ {f:Nat} {a:List PV} {m:List MO} {r:PV × List MO},a0B Tab n f a m=some r->a0B TW n f a m=some r) (aw:∀ σ,a0B TW n a0V [] σ=some (.bool true,σ))
variable (ps:List Pr) (bs:List Bd) (cs ad:List Tri) (P B C A:PV) (hP:P.rowsOf 5=some (ps.map Pr.row)) (hB:B.rowsOf 4=some (bs.map Bd.row)) (hC:C.rowsOf 3=some (cs.map Tri.row)) (hA:A.rowsOf 3=some (ad.map Tri.row)) (hv:a5j ps bs cs ad=0) (hn:1400<=n)
variable (hN:bs.length<=10) (hN1:1<=bs.length) (u1:clB 5 P=true) (u2:clB 4 B=true) (u3:clB 3 C=true) (u4:clB 3 A=true) (wP:∀ k,P.low k=true) (wB:∀ k,B.low k=true) (wC:∀ k,C.low k=true) (wA:∀ k,A.low k=true)
variable (l:List Sp) (hl:d0Z l=true) (hl60:l.length<=60)
end
end Go.Proofs.Ytflcopaopimlpaa
set_option maxRecDepth 100000
namespace Go.Proofs.Ytflcopaopimlpaa
open Go.Sx Go.Kv
theorem d2c (n:Nat) (hn:1500<=n) (ps:List Pr) (bs:List Bd) (cs ad:List Tri) (hv:a5j ps bs cs ad=0) (hN:bs.length<=10) :
  1<=bs.length/\clB 5 (.sl 5 (ps.map Pr.row))=true/\clB 4 (.sl 4 (bs.map Bd.row))=true/\clB 3 (.sl 3 (cs.map Tri.row))=true/\clB 3 (.sl 3 (ad.map Tri.row))=true /\
  ∃ σ1 σ2 y D kvs,a0B Tab n b2I [.agg [.sl 5 (ps.map Pr.row),.sl 4 (bs.map Bd.row),.sl 3 (cs.map Tri.row),.sl 3 (ad.map Tri.row)]] []=some (.tup [.ref 0 0,.int .i64 0],σ1) /\
   a0B Tab n a7f [.agg [.sl 5 (ps.map Pr.row),.sl 4 (bs.map Bd.row),.sl 3 (cs.map Tri.row),.sl 3 (ad.map Tri.row)]] σ1=some (.tup [.ref y 0,.int .i64 0],σ2) /\
   Pair (.sl 5 (ps.map Pr.row)) (.sl 4 (bs.map Bd.row)) (.sl 3 (cs.map Tri.row)) (.sl 3 (ad.map Tri.row)) σ2 0 y D kvs/\kvs.length=bs.length/\σ2.all (MO.low σ2.length)=true:=by
 obtain ⟨v1,v2,v3,v4⟩:=b3k hv
 obtain ⟨hl6,hr6⟩:=a7M v1
 obtain ⟨h6,_⟩:=b8A hl6 hr6 v4
 have hb1:1<=bs.length:=by
  rcases Nat.eq_zero_or_pos bs.length with h | h
  ·unfold a8D at v2; rw [h,if_pos (show eqB ((0:Nat):Int) 0=true from rfl)] at v2; cases v2
  ·exact h
 obtain ⟨j,hj⟩:∃ j,bs.length=j+1:=⟨bs.length-1,by omega⟩
 have u1:=b6E 5 Pr.row ps (by omega)
 have u2:=b6E 4 Bd.row bs (by omega)
 have u3:=b6E 3 Tri.row cs (by omega)
 have u4:=b6E 3 Tri.row ad (by omega)
 have n1:=c0n [] ps bs cs ad _ _ _ _ (a1v 5 (ps.map Pr.row)) (a1v 4 (bs.map Bd.row)) (a1v 3 (cs.map Tri.row)) (a1v 3 (ad.map Tri.row)) n hv (by omega) u1 u2 u3 u4 (by omega)
 generalize hs1:([]:List MO)++nbO ([]:List MO).length (.sl 5 (ps.map Pr.row)) (.sl 4 (bs.map Bd.row)) (.sl 3 (cs.map Tri.row)) (.sl 3 (ad.map Tri.row)) bs.length=σ1 at n1
 have n2:=c3N σ1 ps bs cs ad _ _ _ _ (a1v 5 (ps.map Pr.row)) (a1v 4 (bs.map Bd.row)) (a1v 3 (cs.map Tri.row)) (a1v 3 (ad.map Tri.row)) n hv (by omega) (by omega)
 obtain ⟨pr,lw⟩:=d1R _ _ _ _ (fun k=>b6o (fun _ _=>rfl) 5 ps k) (fun k=>b6o (fun _ _=>rfl) 4 bs k) (fun k=>b6o (fun _ _=>rfl) 3 cs k) (fun k=>b6o (fun _ _=>rfl) 3 ad k) j 72 σ1 _ (by rw [<- hs1,hj]; rfl) rfl
 rw [<- hj] at pr lw
 exact ⟨hb1,u1,u2,u3,u4,σ1,_,_,_,_,n1,n2,pr,by simp,lw⟩
theorem Pair.copies {P B C A:PV} {σ σ1 σ2:List MO} {hb xb c y:Nat} {D:Nat->Prop} {kvs:List KV} (h:Pair P B C A σ hb xb D kvs) (c1:CB P B C A σ1 c (fun x=>σ.length<=x/\x < σ1.length) kvs) (s1:∀ D,Stp σ σ1 D)
  (c2:RB P B C A σ2 y (fun x=>σ1.length<=x/\x < σ2.length) kvs) (s2:∀ D,Stp σ1 σ2 D):Pair P B C A σ2 hb xb D kvs/\Pair P B C A σ2 c y (fun x=>σ.length<=x/\x < σ2.length) kvs/\∀ i,D i->¬ (σ.length<=i/\i < σ2.length):=by
 have l1:=(s1 fun _=>False).len
 have l2:=(s2 fun _=>False).len
 refine ⟨(h.st (s1 fun _=>False) fun _ _ h=>h).st (s2 fun _=>False) fun _ _ h=>h,⟨⟨_,_,c1.st (s2 fun _=>False) fun _ _ h=>h,c2,fun i hi hr=>?_,fun i hi=>⟨hi.1,?_⟩,fun i hi=>⟨?_,hi.2⟩⟩,fun i hi=>hi.2⟩,fun i hi hc=>?_⟩
 ·exact absurd hi.2 (by omega)
 ·exact Nat.lt_of_lt_of_le hi.2 l2
 ·exact Nat.le_trans l1 hi.1
 ·have:=h.inn i hi; omega
section
variable (TW:Nat->Option Sx.Sys) (n:Nat) (up:∀ {f:Nat} {a:List PV} {m:List MO} {r:PV × List MO},a0B Tab n f a m=some r->a0B TW n f a m=some r) (aw:∀ σ,a0B TW n a0V [] σ=some (.bool true,σ))
variable (ps:List Pr) (bs:List Bd) (cs ad:List Tri) (P B C A:PV) (hP:P.rowsOf 5=some (ps.map Pr.row)) (hB:B.rowsOf 4=some (bs.map Bd.row)) (hC:C.rowsOf 3=some (cs.map Tri.row)) (hA:A.rowsOf 3=some (ad.map Tri.row)) (hv:a5j ps bs cs ad=0) (hn:1400<=n)
variable (hN:bs.length<=10) (hN1:1<=bs.length) (u1:clB 5 P=true) (u2:clB 4 B=true) (u3:clB 3 C=true) (u4:clB 3 A=true) (wP:∀ k,P.low k=true) (wB:∀ k,B.low k=true) (wC:∀ k,C.low k=true) (wA:∀ k,A.low k=true)
variable (l m:List Sp) (hl:d0Z l=true) (hl60:l.length<=60) (hm:d0Z m=true) (hm60:m.length<=60)
end
end Go.Proofs.Ytflcopaopimlpaa
set_option maxRecDepth 100000
namespace Go.Proofs.Ytflcopaopimlpaa
open Go.Sx Go.Kv
section
variable (TW:Nat->Option Sx.Sys) (n:Nat) (up:∀ {f:Nat} {a:List PV} {m:List MO} {r:PV × List MO},a0B Tab n f a m=some r->a0B TW n f a m=some r) (aw:∀ σ,a0B TW n a0V [] σ=some (.bool true,σ))
variable (ps:List Pr) (bs:List Bd) (cs ad:List Tri) (P B C A:PV) (hP:P.rowsOf 5=some (ps.map Pr.row)) (hB:B.rowsOf 4=some (bs.map Bd.row)) (hC:C.rowsOf 3=some (cs.map Tri.row)) (hA:A.rowsOf 3=some (ad.map Tri.row)) (hv:a5j ps bs cs ad=0) (hn:1400<=n)
variable (hN:bs.length<=10) (hN1:1<=bs.length) (u1:clB 5 P=true) (u2:clB 4 B=true) (u3:clB 3 C=true) (u4:clB 3 A=true) (wP:∀ k,P.low k=true) (wB:∀ k,B.low k=true) (wC:∀ k,C.low k=true) (wA:∀ k,A.low k=true)
variable (l:List Sp) (m:List O8) (hl:d0Z l=true) (hl60:l.length<=60) (hm30:m.length<=30) (bi:Int)
def ba0 (σ:List MO) (l:List Sp) (m:List O8) (hb xb:Nat) (bi i:Int):PEnv:={ i:=[bi,i],b:=[],v:=[.sl 10 (l.map Sp.row),.sl 8 (m.map O8.row),.ref hb 0,.ref xb 0],m:=σ,k:=0 }
def ba1 (σ:List MO) (m:List O8) (hb c:Nat) (X:PV) (bi w j:Int):PEnv:={ i:=[bi,w,j],b:=[],v:=[.sl 8 (m.map O8.row),.ref hb 0,.ref c 0,X],m:=σ,k:=0 }
include up hP hB hC hA hv hn hN hN1 u1 u2 u3 u4 wP wB wC wA hl hl60 in
theorem d1U {hb xb:Nat}:∀ d i,i+d=l.length->∀ (σ:List MO) (D:Nat->Prop) (kvs:List KV),Pair P B C A σ hb xb D kvs->kvs.length=bs.length->σ.all (MO.low σ.length)=true->∀ fuel,
  ∃ σ' D' kvs',Pair P B C A σ' hb xb D' kvs'/\kvs'.length=bs.length/\σ'.all (MO.low σ'.length)=true/\saleroomlaw16_BidbookBatches_S.loop (a0B TW n) (fuel+d) 0 (ba0 σ l m hb xb bi (i:Int))=saleroomlaw16_BidbookBatches_S.loop (a0B TW n) fuel 0 (ba0 σ' l m hb xb bi (l.length:Int)):=by
 have hE:=a1v 10 (l.map Sp.row)
 obtain ⟨p1,p2,p3⟩:=a0C hE
 rw [Q3] at p1
 intro d
 induction d with
 | zero =>
  intro i hi σ D kvs h hsl hlow fuel
  rw [Nat.add_zero] at hi; subst hi
  exact ⟨σ,D,kvs,h,hsl,hlow,rfl⟩
 | succ d ih =>
  intro i hi σ D kvs h hsl hlow fuel
  obtain ⟨s,hs⟩:=a0W (show i < l.length by omega)
  have hd:decide (i < l.length)=true:=decide_eq_true (by omega)
  have q0:=a0G (off:=0) hE (d1D hs)
  have hup:=a1y (show i<=1000000000 by omega)
  have s60:=d2l hl s (List.mem_of_getElem? hs)
  obtain ⟨σ',k1,m1,t1⟩:=d2p ps bs cs ad P B C A hP hB hC hA hv n (by omega) (by omega) u1 u2 u3 u4 wP wB wC wA h hsl (d1p hsl hN1) hlow s (by omega)
  have hsl':(d1b ps bs cs ad kvs s).length=bs.length:=by rw [d1N]; exact hsl
  have k1:=up k1
  simp only [d0L,Sp.row] at k1
  have os:PV.one (.sl 8 (s.l.map O8.row))=true:=rfl
  obtain ⟨σ2,D2,kvs2,g1,g2,g3,ih⟩:=ih (i+1) (by omega) σ' _ _ m1 hsl' t1.low fuel
  rw [a0Q] at ih
  refine ⟨σ2,D2,kvs2,g1,g2,g3,?_⟩
  rw [<- ih,show fuel+(d+1)=(fuel+d)+1 from rfl,Sys.loop,show saleroomlaw16_BidbookBatches_S.loops[0]?=some c9T from rfl]
  simp -implicitDefEqProofs only [Q0,ba0,c9T,↓reduceIte,eq_self,ξF,ξG,ξH,ξI,ξJ,ξK,ξL,ξM,ξN,ξO,ξP,ξQ,ξR,ξS,ξT,ξU,ξV,ξW,ξX,ξY,ξ2,ξ3,ξ4,ξ5,ξ6,ξ7,ξ8,ξ9,ξa,ξb,ξc,ξd,ξe,ξf,ξg,ξh,Nat.reduceAdd,ξi,if_true,if_false,ξl,ξm,ξn,ξo,ξp,ξq,ξr,ξs,ξt,ξu,ξv,ξw,ξx,ξy,ξz,ξA,ξB,ξC,ξD,ξE,p1,p2,a0F,hd,le0,q0,d1x,os,Nat.reduceLeDiff,k1,if_pos hup]
include up aw hP hB hC hA hv hn hN hm30 in
theorem d1S {hb c:Nat} {Ob:Nat->Prop} {kvsK:List KV} (hslK:kvsK.length=bs.length) (w:Int) (X:PV) (hX:¬ w=0->X.rowsOf 8=some ((a6h 0 kvsK).map O8.row)):∀ d j,j+d=m.length->∀ (σ:List MO) (Oc:Nat->Prop) (kvs:List KV),CB P B C A σ hb Ob kvsK->CB P B C A σ c Oc kvs->(∀ i,Ob i->¬ Oc i)->kvs.length=bs.length->σ.all (MO.low σ.length)=true ->
  w=d0H ps bs cs ad kvs ((m.map (c9P bi)).drop j)->(w=0->kvsK=((m.map (c9P bi)).drop j).foldl a3D kvs)->∀ fuel,
  saleroomlaw16_BidbookBatches_S.loop (a0B TW n) (fuel+d+1) 1 (ba1 σ m hb c X bi w (j:Int))=some (.bool true,[]):=by
 have hE:=a1v 8 (m.map O8.row)
 obtain ⟨p1,p2,p3⟩:=a0C hE
 rw [Q3] at p1
 intro d
 induction d with
 | zero =>
  intro j hj σ Oc kvs h h2 _ hsl hlow hw hk fuel
  rw [Nat.add_zero] at hj; subst hj
  have hd:decide (m.length < m.length)=false:=by simp
  have hdr:(m.map (c9P bi)).drop m.length=[]:=by rw [show m.length=(m.map (c9P bi)).length by simp,List.drop_length]
  rw [hdr] at hw hk
  simp only [d0H,List.foldl_nil] at hw hk
  subst hw
  have hk:=hk rfl
  subst hk
  obtain ⟨X1,x1,x2⟩:=d1G hlow n bs h hslK hN (by omega)
  obtain ⟨X2,y1,y2⟩:=d1G hlow n bs h2 hslK hN (by omega)
  have c1:=b9k σ (a6h 0 kvsK) X1 X2 x1 y1 (d1l h.all (by omega)) n (by omega)
  obtain ⟨_,_,o1⟩:=a0C x1
  obtain ⟨_,_,o2⟩:=a0C y1
  have x2:=up x2
  have y2:=up y2
  have c1:=up c1
  have aw1:=aw σ
  have hr:=c3O σ
  have e0:eqB 0 0=true:=rfl
  simp only [a0V,a7K,a6P] at aw1 x2 y2 c1
  rw [Sys.loop,show saleroomlaw16_BidbookBatches_S.loops[1]?=some c9O from rfl]
  simp -implicitDefEqProofs only [Q0,ba1,c9O,↓reduceIte,eq_self,ξF,ξG,ξH,ξI,ξJ,ξK,ξL,ξM,ξN,ξO,ξP,ξQ,ξR,ξS,ξT,ξU,ξV,ξW,ξX,ξY,ξ2,ξ3,ξ4,ξ5,ξ6,ξ7,ξ8,ξ9,ξa,ξb,ξc,ξd,ξe,ξf,ξg,ξh,Nat.reduceAdd,ξi,if_true,if_false,ξl,ξm,ξn,ξo,ξp,ξq,ξr,ξs,ξt,ξu,ξv,ξw,ξx,ξy,ξz,ξA,ξB,ξC,ξD,ξE,p1,p2,a0F,hd,x2,y2,c1,o1,o2,e0,aw1,hr]
 | succ d ih =>
  intro j hj σ Oc kvs h h2 hdj hsl hlow hw hk fuel
  obtain ⟨o,ho⟩:=a0W (show j < m.length by omega)
  have ho':(m.map (c9P bi))[j]?=some (c9P bi o):=by rw [List.getElem?_map,ho]; rfl
  have hd:decide (j < m.length)=true:=decide_eq_true (by omega)
  have q1:=a0G (off:=1) hE (a2T ho)
  have q7:=a0G (off:=7) hE (a2T ho)
  obtain ⟨d1,d7⟩:=dr8 (.int .i64 o.b) (.int .i64 o.w0) (.int .i64 o.w1) (.int .i64 o.w2) (.int .i64 o.w3) (.int .i64 o.w4) (.int .i64 o.w5) (.int .i64 o.v)
  have hup:=a1y (show j<=1000000000 by omega)
  obtain ⟨σ1,k1,c1,t1,w1⟩:=d1Y σ ps bs cs ad P B C A hP hB hC hA hlow hv n (by omega) h2 hsl (c9P bi o)
  have k1:=up k1
  simp only [a5t,W6.pv,oW,c9P] at k1
  rw [a3v ho',d0H] at hw
  rw [a3v ho',List.foldl_cons] at hk
  have h1:=h.st t1 hdj
  rw [show fuel+(d+1)+1=(fuel+d+1)+1 from rfl]
  by_cases he:d0B ps bs cs ad kvs (c9P bi o)=0
  case neg =>
   have e1:eqB (d0B ps bs cs ad kvs (c9P bi o)) 0=false:=decide_eq_false he
   rw [if_neg he] at hw
   subst hw
   have hX:=hX he
   obtain ⟨X1,x1,x2⟩:=d1G t1.low n bs h1 hslK hN (by omega)
   have c1:=b9k σ1 (a6h 0 kvsK) X1 X x1 hX (d1l h1.all (by omega)) n (by omega)
   obtain ⟨_,_,o1⟩:=a0C x1
   obtain ⟨_,_,o2⟩:=a0C hX
   have x2:=up x2
   have c1:=up c1
   have aw1:=aw σ1
   have hr:=c3O σ1
   simp only [a0V,a7K,a6P] at aw1 x2 c1
   simp only [c9P] at e1 ⊢
   rw [Sys.loop,show saleroomlaw16_BidbookBatches_S.loops[1]?=some c9O from rfl]
   simp -implicitDefEqProofs only [Q0,ba1,c9O,↓reduceIte,eq_self,ξF,ξG,ξH,ξI,ξJ,ξK,ξL,ξM,ξN,ξO,ξP,ξQ,ξR,ξS,ξT,ξU,ξV,ξW,ξX,ξY,ξ2,ξ3,ξ4,ξ5,ξ6,ξ7,ξ8,ξ9,ξa,ξb,ξc,ξd,ξe,ξf,ξg,ξh,Nat.reduceAdd,ξi,if_true,if_false,ξl,ξm,ξn,ξo,ξp,ξq,ξr,ξs,ξt,ξu,ξv,ξw,ξx,ξy,ξz,ξA,ξB,ξC,ξD,ξE,p1,p2,a0F,hd,le0,q1,q7,a4z,d1,d7,Nat.reduceLeDiff,k1,e1,a7s,x2,c1,o1,o2,aw1,hr]
  rw [if_pos he] at hw
  have hks:d0I ps bs cs ad kvs (c9P bi o)=a3D kvs (c9P bi o):=by unfold d0I; rw [if_pos he]
  rw [hks] at c1
  have e1:eqB (d0B ps bs cs ad kvs (c9P bi o)) 0=true:=decide_eq_true he
  have ih:=ih (j+1) (by omega) σ1 Oc _ h1 c1 hdj (by rw [b7C]; exact hsl) t1.low hw hk fuel
  rw [a0Q] at ih
  simp only [c9P] at e1
  rw [<- ih,Sys.loop,show saleroomlaw16_BidbookBatches_S.loops[1]?=some c9O from rfl]
  simp -implicitDefEqProofs only [Q0,ba1,c9O,↓reduceIte,eq_self,ξF,ξG,ξH,ξI,ξJ,ξK,ξL,ξM,ξN,ξO,ξP,ξQ,ξR,ξS,ξT,ξU,ξV,ξW,ξX,ξY,ξ2,ξ3,ξ4,ξ5,ξ6,ξ7,ξ8,ξ9,ξa,ξb,ξc,ξd,ξe,ξf,ξg,ξh,Nat.reduceAdd,ξi,if_true,if_false,ξl,ξm,ξn,ξo,ξp,ξq,ξr,ξs,ξt,ξu,ξv,ξw,ξx,ξy,ξz,ξA,ξB,ξC,ξD,ξE,p1,p2,a0F,hd,le0,q1,q7,a4z,d1,d7,Nat.reduceLeDiff,k1,e1,if_pos hup]
include up aw hP hB hC hA hv hn hN hN1 u1 u2 u3 u4 wP wB wC wA hm30 in
theorem d2s {hb xb:Nat} {σ:List MO} {D:Nat->Prop} {kvs:List KV} (h:Pair P B C A σ hb xb D kvs) (hsl:kvs.length=bs.length) (hlow:σ.all (MO.low σ.length)=true) (fuel:Nat) :
  saleroomlaw16_BidbookBatches_S.loop (a0B TW n) (fuel+m.length+1+1) 0 (ba0 σ l m hb xb bi (l.length:Int))=some (.bool true,[]):=by
 obtain ⟨n',rfl⟩:∃ k,n=k+1:=⟨n-1,by omega⟩
 obtain ⟨p1,p2,p3⟩:=a0C (a1v 10 (l.map Sp.row))
 rw [Q3] at p1
 obtain ⟨Ob,_,c1,r1,_⟩:=h.ex
 obtain ⟨σ1,c,k1,c2,s1⟩:=d2v (n'+1) (by omega) u1 u2 u3 u4 wP wB wC wA hlow c1 (by omega) (d1p hsl hN1)
 have s1:=s1 fun _=>False
 have c3:=c1.st s1 fun _ _ h=>h
 obtain ⟨X,x1,k2⟩:=d1G s1.low (n'+1) bs c3 hsl hN (by omega)
 obtain ⟨σ2,k3,c4,t2⟩:=d1A ps bs cs ad P B C A hP hB hC hA hv n' (by omega) m _ (a1v 8 (m.map O8.row)) (by omega) (by omega) u1 u2 u3 u4 wP wB wC wA c3 hsl (d1p hsl hN1) s1.low bi
 have hin:=c1.inn
 have l1:=s1.len
 have c5:=c2.st t2 fun i hi hb=>by have:=hin i hb; exact absurd hi.1 (by omega)
 have fin:=d1S TW (n'+1) up aw ps bs cs ad P B C A hP hB hC hA hv hn hN m hm30 bi (hb:=hb) (c:=c) (by rw [d1w]; exact hsl) _ X (fun hw=>by unfold d1h; rw [if_neg hw]; exact x1) m.length 0 (by omega) σ2 _ kvs c4 c5 (fun i hi hc=>by
   rcases hi with hi | hi
   ·have:=hin i hi; exact absurd hc.1 (by omega)
   ·exact absurd hc.2 (by omega)) hsl t2.low (by rw [Q5]) (fun hw=>by unfold d1h; rw [if_pos hw,Q5]) fuel
 have k1:=up k1
 have k2:=up k2
 have k3:=up k3
 obtain ⟨_,_,o1⟩:=a0C x1
 simp only [c2g,a7K,c0B] at k1 k2 k3
 have hd:decide (l.length < l.length)=false:=by simp
 have i1:∀ h,PV.isKind 4 (.ref h 0)=true:=fun _=>rfl
 have i3:∀ h,PV.isNil (.ref h 0)=false:=fun _=>rfl
 have i4:∀ h,PV.nilOk (.ref h 0)=true:=fun _=>rfl
 have i5:∀ h,PV.one (.ref h 0)=true:=fun _=>rfl
 rw [<- fin,Sys.loop,show saleroomlaw16_BidbookBatches_S.loops[0]?=some c9T from rfl]
 simp -implicitDefEqProofs only [Q0,ba0,ba1,c9T,↓reduceIte,eq_self,ξF,ξG,ξH,ξI,ξJ,ξK,ξL,ξM,ξN,ξO,ξP,ξQ,ξR,ξS,ξT,ξU,ξV,ξW,ξX,ξY,ξ2,ξ3,ξ4,ξ5,ξ6,ξ7,ξ8,ξ9,ξa,ξb,ξc,ξd,ξe,ξf,ξg,ξh,Nat.reduceAdd,ξi,if_true,if_false,ξl,ξm,ξn,ξo,ξp,ξq,ξr,ξs,ξt,ξu,ξv,ξw,ξx,ξy,ξz,ξA,ξB,ξC,ξD,ξE,p1,p2,a0F,hd,k1,k2,k3,o1,i1,i3,i4,i5]
 rfl
end
theorem d1y (TW:Nat->Option Sx.Sys) (n:Nat) (up:∀ {f:Nat} {a:List PV} {m:List MO} {r:PV × List MO},a0B Tab n f a m=some r->a0B TW n f a m=some r) (aw:∀ σ,a0B TW n a0V [] σ=some (.bool true,σ))
  (hT:TW c9Z=some saleroomlaw16_BidbookBatches_S) (hn:1500<=n) (ps:List Pr) (bs:List Bd) (cs ad:List Tri) (l:List Sp) (bi:Int) (m:List O8) :
  a0B TW (n+1) c9Z [.agg [.sl 5 (ps.map Pr.row),.sl 4 (bs.map Bd.row),.sl 3 (cs.map Tri.row),.sl 3 (ad.map Tri.row)],.sl 10 (l.map Sp.row),.int .i64 bi,.sl 8 (m.map O8.row)] []=some (.bool true,[]):=by
 have kf:=up (d2f [] l n (by omega))
 have hL3:∀ l:List Sp,PV.one (.sl 10 (l.map Sp.row))=true:=fun _=>rfl
 obtain ⟨m1,m2,m3⟩:=a0C (a1v 8 (m.map O8.row))
 obtain ⟨p1,p2,p3⟩:=a0C (a1v 5 (ps.map Pr.row))
 obtain ⟨b1,b2,b3⟩:=a0C (a1v 4 (bs.map Bd.row))
 obtain ⟨c1,c2,c3⟩:=a0C (a1v 3 (cs.map Tri.row))
 obtain ⟨a1,a2,a3⟩:=a0C (a1v 3 (ad.map Tri.row))
 rw [Q3] at p1 b1 m1
 have k0:=up (a5m [] ps bs cs ad _ _ _ _ (a1v 5 (ps.map Pr.row)) (a1v 4 (bs.map Bd.row)) (a1v 3 (cs.map Tri.row)) (a1v 3 (ad.map Tri.row)) n (by omega))
 have aw0:=aw []
 have hr:∀ is b vs z,a0D { i:=is,b:=b,v:=vs,m:=[],k:=0 } false (.bool z)=some (.bool z,[]):=fun is b vs z=>c3O [] is b vs z
 have oi:∀ k x,PV.one (.int k x)=true:=fun _ _=>rfl
 simp only [a0V,d0S,a2B] at aw0 kf k0
 rw [a0B,hT]
 simp only [Q0,Sys.run]
 show ((a0E [.sh (.agg [_,_,_,_]),.sh (.one _),.sh (.one _),.sh (.one _)] _).bind _)=_
 simp -implicitDefEqProofs only [a0E,a0x,a0w,Option.map_some,Q0,List.append_nil,List.nil_append,List.cons_append,if_true,p3,b3,c3,a3,hL3,m3,oi]
 show (PT.ev _ c9N _).bind _=_
 have dich:∀ x:Bool,x=true\/x=false:=fun x=>by cases x<;>simp
 rcases dich (d1r l) with e1 | e1
 case inr=>simp -implicitDefEqProofs only [c9N,↓reduceIte,eq_self,ξF,ξG,ξH,ξI,ξJ,ξK,ξL,ξM,ξN,ξO,ξP,ξQ,ξR,ξS,ξT,ξU,ξV,ξW,ξX,ξY,ξ2,ξ3,ξ4,ξ5,ξ6,ξ7,ξ8,ξ9,ξa,ξb,ξc,ξd,ξe,ξf,ξg,ξh,Nat.reduceAdd,ξi,if_true,if_false,ξl,ξm,ξn,ξo,ξp,ξq,ξr,ξs,ξt,ξu,ξv,ξw,ξx,ξy,ξz,ξA,ξB,ξC,ξD,ξE,kf,e1,aw0,hr,Q2]
 rcases dich (ltB 30 (m.length:Int)) with e0 | e0
 ·simp -implicitDefEqProofs only [c9N,↓reduceIte,eq_self,ξF,ξG,ξH,ξI,ξJ,ξK,ξL,ξM,ξN,ξO,ξP,ξQ,ξR,ξS,ξT,ξU,ξV,ξW,ξX,ξY,ξ2,ξ3,ξ4,ξ5,ξ6,ξ7,ξ8,ξ9,ξa,ξb,ξc,ξd,ξe,ξf,ξg,ξh,Nat.reduceAdd,ξi,if_true,if_false,ξl,ξm,ξn,ξo,ξp,ξq,ξr,ξs,ξt,ξu,ξv,ξw,ξx,ξy,ξz,ξA,ξB,ξC,ξD,ξE,kf,m1,m2,e1,e0,aw0,hr,Q2]
 rcases dich (ltB 10 (bs.length:Int)) with e2 | e2
 ·simp -implicitDefEqProofs only [c9N,↓reduceIte,eq_self,ξF,ξG,ξH,ξI,ξJ,ξK,ξL,ξM,ξN,ξO,ξP,ξQ,ξR,ξS,ξT,ξU,ξV,ξW,ξX,ξY,ξ2,ξ3,ξ4,ξ5,ξ6,ξ7,ξ8,ξ9,ξa,ξb,ξc,ξd,ξe,ξf,ξg,ξh,Nat.reduceAdd,ξi,if_true,if_false,ξl,ξm,ξn,ξo,ξp,ξq,ξr,ξs,ξt,ξu,ξv,ξw,ξx,ξy,ξz,ξA,ξB,ξC,ξD,ξE,kf,m1,m2,b1,b2,e0,e1,e2,aw0,hr,Q2]
 rcases dich (ltB 8 (ps.length:Int)) with e3 | e3
 ·simp -implicitDefEqProofs only [c9N,↓reduceIte,eq_self,ξF,ξG,ξH,ξI,ξJ,ξK,ξL,ξM,ξN,ξO,ξP,ξQ,ξR,ξS,ξT,ξU,ξV,ξW,ξX,ξY,ξ2,ξ3,ξ4,ξ5,ξ6,ξ7,ξ8,ξ9,ξa,ξb,ξc,ξd,ξe,ξf,ξg,ξh,Nat.reduceAdd,ξi,if_true,if_false,ξl,ξm,ξn,ξo,ξp,ξq,ξr,ξs,ξt,ξu,ξv,ξw,ξx,ξy,ξz,ξA,ξB,ξC,ξD,ξE,kf,m1,m2,b1,b2,p1,p2,e0,e1,e2,e3,aw0,hr,Q2]
 by_cases hv:a5j ps bs cs ad=0
 case neg =>
  have e4:eqB (a5j ps bs cs ad) 0=false:=decide_eq_false hv
  simp -implicitDefEqProofs only [c9N,↓reduceIte,eq_self,ξF,ξG,ξH,ξI,ξJ,ξK,ξL,ξM,ξN,ξO,ξP,ξQ,ξR,ξS,ξT,ξU,ξV,ξW,ξX,ξY,ξ2,ξ3,ξ4,ξ5,ξ6,ξ7,ξ8,ξ9,ξa,ξb,ξc,ξd,ξe,ξf,ξg,ξh,Nat.reduceAdd,ξi,if_true,if_false,ξl,ξm,ξn,ξo,ξp,ξq,ξr,ξs,ξt,ξu,ξv,ξw,ξx,ξy,ξz,ξA,ξB,ξC,ξD,ξE,kf,m1,m2,b1,b2,p1,p2,e0,e1,e2,e3,k0,e4,aw0,hr,Q2]
 have hf:l.length<=60/\d0Z l=true:=by
  have h:=e1
  unfold d1r at h
  rw [Bool.and_eq_true,Q4,a0I] at h
  exact ⟨by omega,h.2⟩
 have e2n:=e2
 have e0n:=e0
 rw [a0I] at e2n e0n
 obtain ⟨hb1,u1,u2,u3,u4,σ1,σ2,y,D,kvs,n1,n2,pr,hk,lw⟩:=d2c n hn ps bs cs ad hv (by omega)
 have n1:=up n1
 have n2:=up n2
 simp only [b2I,a7f] at n1 n2
 obtain ⟨f,hf'⟩:∃ f,n=(f+m.length+1+1)+l.length:=⟨n-l.length-m.length-2,by have:=hf.1; omega⟩
 have w1:∀ k,(PV.sl 5 (ps.map Pr.row)).low k=true:=fun k=>b6o (fun _ _=>rfl) 5 ps k
 have w2:∀ k,(PV.sl 4 (bs.map Bd.row)).low k=true:=fun k=>b6o (fun _ _=>rfl) 4 bs k
 have w3:∀ k,(PV.sl 3 (cs.map Tri.row)).low k=true:=fun k=>b6o (fun _ _=>rfl) 3 cs k
 have w4:∀ k,(PV.sl 3 (ad.map Tri.row)).low k=true:=fun k=>b6o (fun _ _=>rfl) 3 ad k
 obtain ⟨σ',D',kvs',g1,g2,g3,L0⟩:=d1U TW n up ps bs cs ad _ _ _ _ (a1v 5 (ps.map Pr.row)) (a1v 4 (bs.map Bd.row)) (a1v 3 (cs.map Tri.row)) (a1v 3 (ad.map Tri.row)) hv (by omega) (by omega) hb1 u1 u2 u3 u4 w1 w2 w3 w4 l m hf.2 hf.1 bi l.length 0 (by omega) σ2 D kvs pr hk lw (f+m.length+1+1)
 have fin:=d2s TW n up aw ps bs cs ad _ _ _ _ (a1v 5 (ps.map Pr.row)) (a1v 4 (bs.map Bd.row)) (a1v 3 (cs.map Tri.row)) (a1v 3 (ad.map Tri.row)) hv (by omega) (by omega) hb1 u1 u2 u3 u4 w1 w2 w3 w4 l m (by omega) bi g1 g2 g3 f
 rw [<- L0,<- hf'] at fin
 have i1:∀ h,PV.isKind 4 (.ref h 0)=true:=fun _=>rfl
 have i3:∀ h,PV.isNil (.ref h 0)=false:=fun _=>rfl
 have i4:∀ h,PV.nilOk (.ref h 0)=true:=fun _=>rfl
 have i5:∀ h,PV.one (.ref h 0)=true:=fun _=>rfl
 rw [hv] at k0
 simp -implicitDefEqProofs only [c9N,↓reduceIte,eq_self,ξF,ξG,ξH,ξI,ξJ,ξK,ξL,ξM,ξN,ξO,ξP,ξQ,ξR,ξS,ξT,ξU,ξV,ξW,ξX,ξY,ξ2,ξ3,ξ4,ξ5,ξ6,ξ7,ξ8,ξ9,ξa,ξb,ξc,ξd,ξe,ξf,ξg,ξh,Nat.reduceAdd,ξi,if_true,if_false,ξl,ξm,ξn,ξo,ξp,ξq,ξr,ξs,ξt,ξu,ξv,ξw,ξx,ξy,ξz,ξA,ξB,ξC,ξD,ξE,kf,m1,m2,b1,b2,p1,p2,e0,e1,e2,e3,k0,n1,n2,a1w,a7s,i1,i3,i4,i5,Q2]
 exact fin
end Go.Proofs.Ytflcopaopimlpaa
