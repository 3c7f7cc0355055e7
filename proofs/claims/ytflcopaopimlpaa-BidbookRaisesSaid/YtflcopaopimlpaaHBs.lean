/- Books of offers and what they own among the objects. -/
import Derived.Test.YtflcopaopimlpaaHBr
set_option linter.unusedSimpArgs false
set_option linter.unusedVariables false
open Go.Sx.BE renaming safe → Z2, pe → Z3, all → Zz
open Go.Sx.IE renaming pe → Z4
open Go.Sx renaming PEnv.at → Z5
open Go.Sx.PEnv renaming push → Zt
open List renaming getD_cons_zero → Z6, getD_cons_succ → Z7, getElem?_cons_zero → Z8, getElem?_cons_succ → Z9, drop_zero → Zf, length_cons → Zg, length_nil → Zh, take_succ_cons → Zm, take_zero → Zn, cons_append → Zu, nil_append → Zv, append_nil → Zw, map_cons → ZD, map_nil → ZE
open Go.Sx renaming a0y → Za, a0A → Zb, a0o → Zc, a0z → Zd, a0w → Zo, a0p → Zp, a0x → Zq, a0r → ZF, a0t → ZG, a0n → ZH, a0j → ZI, a0s → ZJ, a0q → ZK, a0g → ZL, a0v → ZM, a0i → ZN, a0m → ZO, a0e → ZP, a0h → ZQ, a0u → ZR, a0a → ZS, a0k → ZT, a0f → ZU, a0b → ZV, a0c → ZW, a0d → ZX, a0l → ZY
open Nat renaming add_zero → Ze, le_refl → Zi
open Bool renaming false_eq_true → Zl, and_self → ZA, not_true → ZB, not_false → ZC
open Option renaming map_some → Zr, bind_some → Zs
open Go.Sx.SV renaming pvs → Zx, pv → Zy
open Option renaming bind_some → Q0, map_some → Q9
open List renaming length_set → Q1, getElem?_eq_some_iff → Q2, getElem?_set_ne → Q4, length_map → Q5, mem_of_getElem? → Q6, append_nil → Qa, nil_append → Qb, cons_append → Qd, getD → Qf, all_eq_true → Qg, getElem?_of_mem → Qh, drop_length → Qk, drop_zero → Qm, drop_succ_cons → Qn, getElem?_set_self → Qp, getElem?_map → Qq, foldl_cons → Qr, length_append → Qs, getElem?_append_left → Qt
open Nat renaming le_refl → Q3, add_zero → Q8, lt_of_lt_of_le → Qe
open Bool renaming and_eq_true → Q7, false_and → Qv
open Option.some renaming injEq → Qj
open Int renaming toNat_natCast → Qu
set_option maxRecDepth 100000
namespace Go.Proofs.Ytflcopaopimlpaa
open Go.Sx Go.Kv
def gr (σ σ':List MO) (O:Nat->Prop):Nat->Prop:=fun i=>O i\/(σ.length<=i/\i < σ'.length)
structure Stp (σ σ':List MO) (O:Nat->Prop):Prop where
 len:σ.length<=σ'.length
 fr:∀ i,i < σ.length->¬ O i->σ'[i]?=σ[i]?
 low:σ'.all (MO.low σ'.length)=true
structure CB (P B C A:PV) (σ:List MO) (hb:Nat) (O:Nat->Prop) (kvs:List KV):Prop where
 ex:∃ hl hs,BInv σ P B C A hb hl hs kvs/\O hl/\∀ x∈hs,O x
 own:O hb
 inn:∀ i,O i->i < σ.length
structure RB (P B C A:PV) (σ:List MO) (xb:Nat) (O:Nat->Prop) (kvs:List KV):Prop where
 ex:∃ hx k T TR els,RInv σ P B C A xb hx k T TR els kvs/\O hx
 own:O xb
 inn:∀ i,O i->i < σ.length
theorem d0W {σ σ':List MO} {O:Nat->Prop} (h:∀ i,O i->i < σ.length) (hl:σ.length<=σ'.length):∀ i,gr σ σ' O i->i < σ'.length:=by
 intro i hi
 rcases hi with hi | hi
 ·have:=h i hi; omega
 ·exact hi.2
theorem Stp.refl {σ:List MO} (h:σ.all (MO.low σ.length)=true) (O:Nat->Prop):Stp σ σ O:=⟨Q3 _,fun _ _ _=>rfl,h⟩
theorem Stp.mono {σ σ':List MO} {O O':Nat->Prop} (h:Stp σ σ' O) (hi:∀ i,O i->O' i):Stp σ σ' O':=⟨h.len,fun i a b=>h.fr i a fun hc=>b (hi i hc),h.low⟩
theorem Stp.trans {σ σ' σ'':List MO} {O:Nat->Prop} (h:Stp σ σ' O) (h':Stp σ' σ'' (gr σ σ' O)):Stp σ σ'' O :=
 ⟨Nat.le_trans h.len h'.len,fun i a b=>(h'.fr i (Qe a h.len) fun hc=>hc.elim b fun hc=>by omega).trans (h.fr i a b),h'.low⟩
section
variable {P B C A:PV}
theorem CB.frame {σ σ':List MO} {hb:Nat} {O:Nat->Prop} {kvs:List KV} (h:CB P B C A σ hb O kvs) (hl:σ.length<=σ'.length) (he:∀ i,O i->σ'[i]?=σ[i]?):CB P B C A σ' hb O kvs:=by
 obtain ⟨hl',hs,h1,h2,h3⟩:=h.ex
 exact ⟨⟨hl',hs,h1.frame (he _ h.own) (he _ h2) fun x hx=>he _ (h3 x hx),h2,h3⟩,h.own,fun i hi=>Qe (h.inn i hi) hl⟩
theorem RB.frame {σ σ':List MO} {xb:Nat} {O:Nat->Prop} {kvs:List KV} (h:RB P B C A σ xb O kvs) (hl:σ.length<=σ'.length) (he:∀ i,O i->σ'[i]?=σ[i]?):RB P B C A σ' xb O kvs:=by
 obtain ⟨hx,k,T,TR,els,h1,h2⟩:=h.ex
 exact ⟨⟨hx,k,T,TR,els,h1.frame (he _ h.own) (he _ h2),h2⟩,h.own,fun i hi=>Qe (h.inn i hi) hl⟩
theorem CB.st {σ σ':List MO} {hb:Nat} {O D:Nat->Prop} {kvs:List KV} (h:CB P B C A σ hb O kvs) (s:Stp σ σ' D) (hd:∀ i,O i->¬ D i):CB P B C A σ' hb O kvs:=h.frame s.len fun i hi=>s.fr i (h.inn i hi) (hd i hi)
theorem RB.st {σ σ':List MO} {xb:Nat} {O D:Nat->Prop} {kvs:List KV} (h:RB P B C A σ xb O kvs) (s:Stp σ σ' D) (hd:∀ i,O i->¬ D i):RB P B C A σ' xb O kvs:=h.frame s.len fun i hi=>s.fr i (h.inn i hi) (hd i hi)
theorem CB.mono {σ:List MO} {hb:Nat} {O O':Nat->Prop} {kvs:List KV} (h:CB P B C A σ hb O kvs) (hi:∀ i,O i->O' i) (hn:∀ i,O' i->i < σ.length):CB P B C A σ hb O' kvs:=by
 obtain ⟨hl',hs,h1,h2,h3⟩:=h.ex
 exact ⟨⟨hl',hs,h1,hi _ h2,fun x hx=>hi _ (h3 x hx)⟩,hi _ h.own,hn⟩
theorem RB.mono {σ:List MO} {xb:Nat} {O O':Nat->Prop} {kvs:List KV} (h:RB P B C A σ xb O kvs) (hi:∀ i,O i->O' i) (hn:∀ i,O' i->i < σ.length):RB P B C A σ xb O' kvs:=by
 obtain ⟨hx,k,T,TR,els,h1,h2⟩:=h.ex
 exact ⟨⟨hx,k,T,TR,els,h1,hi _ h2⟩,hi _ h.own,hn⟩
theorem CB.all {σ:List MO} {hb:Nat} {O:Nat->Prop} {kvs:List KV} (h:CB P B C A σ hb O kvs):∀ kv∈kvs,Asc kv/\kv.length<=40:=by
 obtain ⟨hl',hs,h1,_,_⟩:=h.ex
 intro kv hk
 obtain ⟨i,hi⟩:=Qh hk
 have hil:=(Q2.1 hi).1
 obtain ⟨x,hx⟩:=a0W (show i < hs.length by rw [<- h1.len]; exact hil)
 obtain ⟨kv',ver,g1,_,g3,g4⟩:=h1.maps i x hx
 rw [hi] at g1
 simp only [Qj] at g1; subst g1
 exact ⟨g3,g4⟩
theorem RB.all {σ:List MO} {xb:Nat} {O:Nat->Prop} {kvs:List KV} (h:RB P B C A σ xb O kvs):∀ kv∈kvs,Asc kv/\kv.length<=40:=by
 obtain ⟨hx,k,T,TR,els,h1,h2⟩:=h.ex
 intro kv hk
 obtain ⟨i,hi⟩:=Qh hk
 have hil:=(Q2.1 hi).1
 obtain ⟨E,hE⟩:=a0W (show i < els.length by rw [<- h1.len]; exact hil)
 obtain ⟨kv',g1,_,g3,g4⟩:=h1.el i E hE
 rw [hi] at g1
 simp only [Qj] at g1; subst g1
 exact ⟨g3,g4⟩
def d0B (ps:List Pr) (bs:List Bd) (cs ad:List Tri) (kvs:List KV) (o:O8):Int:=if (leB 0 o.b&&ltB o.b (kvs.length:Int))=true then a6g ps bs cs ad (kvs.getD o.b.toNat []) o.b (oW o) o.v else 6
def d0I (ps:List Pr) (bs:List Bd) (cs ad:List Tri) (kvs:List KV) (o:O8):List KV:=if d0B ps bs cs ad kvs o=0 then a3D kvs o else kvs
theorem d1L (ps:List Pr) (bs:List Bd) (cs ad:List Tri) (kvs:List KV) (o:O8):(d0I ps bs cs ad kvs o).length=kvs.length:=by
 unfold d0I; split
 ·exact b7C _ _
 ·rfl
end
section
variable (σ:List MO) (ps:List Pr) (bs:List Bd) (cs ad:List Tri) (P B C A:PV) (hP:P.rowsOf 5=some (ps.map Pr.row)) (hB:B.rowsOf 4=some (bs.map Bd.row)) (hC:C.rowsOf 3=some (cs.map Tri.row)) (hA:A.rowsOf 3=some (ad.map Tri.row)) (hlow:σ.all (MO.low σ.length)=true) (hv:a5j ps bs cs ad=0) (n:Nat) (hn:1300<=n)
include hP hB hC hA hlow hv hn in
theorem d1Y {hb:Nat} {O:Nat->Prop} {kvs:List KV} (h:CB P B C A σ hb O kvs) (hsl:kvs.length=bs.length) (o:O8) :
  ∃ σ',a0B Tab n a5t [.ref hb 0,.int .i64 o.b,.agg (oW o).pv,.int .i64 o.v] σ=some (.int .i64 (d0B ps bs cs ad kvs o),σ')/\CB P B C A σ' hb O (d0I ps bs cs ad kvs o)/\Stp σ σ' O/\σ'.length=σ.length:=by
 obtain ⟨hl,hs,h1,h2,h3⟩:=h.ex
 by_cases hi:(leB 0 o.b&&ltB o.b (kvs.length:Int))=true
 case neg =>
  have hi':(leB 0 o.b&&ltB o.b (hs.length:Int))=false:=by rw [<- h1.len]; simpa using hi
  have h6:d0B ps bs cs ad kvs o=6:=by unfold d0B; rw [if_neg hi]
  refine ⟨σ,by rw [h6]; exact d2t σ ps bs cs ad P B C A hP hB hC hA n h1.bkL hi' (oW o) o.v (by omega),?_,Stp.refl hlow O,rfl⟩
  rw [d0I,h6,if_neg (by decide)]; exact h
 have hi0:=hi
 rw [Q7,a2n,a0U] at hi
 obtain ⟨j,hj⟩:∃ j:Nat,o.b=(j:Int):=⟨o.b.toNat,by omega⟩
 obtain ⟨x,hx⟩:=a0W (show j < hs.length by have:=h1.len; omega)
 obtain ⟨kv,ver,g1,g2,g3,g4⟩:=h1.maps j x hx
 have hjt:o.b.toNat=j:=by omega
 have hg:kvs.getD o.b.toNat []=kv:=by rw [hjt]; simp [Qf,g1]
 have hR:d0B ps bs cs ad kvs o=a6g ps bs cs ad kv (j:Int) (oW o) o.v:=by unfold d0B; rw [if_pos hi0,hg,hj]
 have k:=c6m σ ps bs cs ad P B C A hP hB hC hA n hlow hv h1.bkL (by rw [<- h1.len]; exact hsl) hx g2 g3.wide (oW o) o.v hn
 rw [<- hj,hj,<- hR,<- hj] at k
 refine ⟨_,k,?_⟩
 unfold d0I
 by_cases he:d0B ps bs cs ad kvs o=0
 ·rw [if_pos he,if_pos he]
  have hst:(σ.set x (.mq (a7l kv (oW o) o.v) (ver+1))).all (MO.low (σ.set x (.mq (a7l kv (oW o) o.v) (ver+1))).length)=true:=c0Q hlow rfl
  refine ⟨⟨⟨hl,hs,?_,h2,h3⟩,h.own,fun i hi=>by rw [Q1]; exact h.inn i hi⟩,⟨by rw [Q1]; exact Q3 _,fun i _ hni=>Q4 fun (hxi:x=i)=>hni (hxi▸h3 x (Q6 hx)),hst⟩,Q1⟩
  unfold a3D
  rw [hg,hjt]
  rw [hR] at he
  exact h1.put hx (g3.put rfl _) (b7z g3 g4 he) _
 ·rw [if_neg he,if_neg he]
  exact ⟨h,Stp.refl hlow O,rfl⟩
include hP hB hC hA hlow hv hn in
theorem d2u {xb:Nat} {O:Nat->Prop} {kvs:List KV} (h:RB P B C A σ xb O kvs) (hsl:kvs.length=bs.length) (o:O8) :
  ∃ σ',a0B Tab n a1N [.ref xb 0,.int .i64 o.b,.agg (oW o).pv,.int .i64 o.v] σ=some (.int .i64 (d0B ps bs cs ad kvs o),σ')/\RB P B C A σ' xb O (d0I ps bs cs ad kvs o)/\Stp σ σ' O/\σ'.length=σ.length:=by
 obtain ⟨hx,k,T,TR,els,h1,h2⟩:=h.ex
 by_cases hi:(leB 0 o.b&&ltB o.b (kvs.length:Int))=true
 case neg =>
  have hi':(leB 0 o.b&&ltB o.b (els.length:Int))=false:=by rw [<- h1.len]; simpa using hi
  have h6:d0B ps bs cs ad kvs o=6:=by unfold d0B; rw [if_neg hi]
  refine ⟨σ,by rw [h6]; exact c6x σ k xb hx TR P B C A els h1.book n hi' (oW o) o.v (by omega),?_,Stp.refl hlow O,rfl⟩
  rw [d0I,h6,if_neg (by decide)]; exact h
 have hi0:=hi
 rw [Q7,a2n,a0U] at hi
 obtain ⟨j,hj⟩:∃ j:Nat,o.b=(j:Int):=⟨o.b.toNat,by omega⟩
 obtain ⟨E,hE⟩:=a0W (show j < els.length by have:=h1.len; omega)
 obtain ⟨kv,g1,g2,g3,g4⟩:=h1.el j E hE
 have hjt:o.b.toNat=j:=by omega
 have hg:kvs.getD o.b.toNat []=kv:=by rw [hjt]; simp [Qf,g1]
 have hR:d0B ps bs cs ad kvs o=a6g ps bs cs ad kv (j:Int) (oW o) o.v:=by unfold d0B; rw [if_pos hi0,hg,hj]
 obtain ⟨E',r1,r2⟩:=c4Z σ k xb hx T TR ps bs cs ad P B C A hP hB hC hA els h1.book h1.lst n hv (by rw [<- h1.len]; exact hsl) hE g2 g3 g4 (oW o) o.v hn
 rw [<- hR,<- hj] at r2
 refine ⟨_,r2,?_⟩
 unfold d0I
 by_cases he:d0B ps bs cs ad kvs o=0
 ·rw [if_pos he,if_pos he]
  have hst:(σ.set hx (a2K k T (els.set j E'))).all (MO.low (σ.set hx (a2K k T (els.set j E'))).length)=true:=by
   refine c0Q hlow ?_
   rw [c0w]
   have hl:=Qg.1 hlow _ (Q6 h1.lst)
   rw [c0w] at hl
   exact b8R (c4e r1 _) hl
  refine ⟨⟨⟨hx,k,T,TR,els.set j E',?_,h2⟩,h.own,fun i hi=>by rw [Q1]; exact h.inn i hi⟩,⟨by rw [Q1]; exact Q3 _,fun i _ hni=>Q4 fun (hxi:hx=i)=>hni (hxi▸h2),hst⟩,Q1⟩
  unfold a3D
  rw [hg,hjt]
  rw [hR] at he
  exact h1.put (by have:=h1.len; omega) r1 (g3.put rfl _) (b7z g3 g4 he)
 ·rw [if_neg he,if_neg he]
  exact ⟨h,Stp.refl hlow O,rfl⟩
end
end Go.Proofs.Ytflcopaopimlpaa
set_option maxRecDepth 100000
namespace Go.Proofs.Ytflcopaopimlpaa
open Go.Sx Go.Kv
def d0H (ps:List Pr) (bs:List Bd) (cs ad:List Tri):List KV->List O8->Int
 | _,[]=>0
 | kvs,o::l=>if d0B ps bs cs ad kvs o=0 then d0H ps bs cs ad (a3D kvs o) l else d0B ps bs cs ad kvs o
def d1h (ps:List Pr) (bs:List Bd) (cs ad:List Tri) (kvs:List KV) (l:List O8):List KV:=if d0H ps bs cs ad kvs l=0 then l.foldl a3D kvs else kvs
theorem d1w (ps:List Pr) (bs:List Bd) (cs ad:List Tri) (kvs:List KV) (l:List O8):(d1h ps bs cs ad kvs l).length=kvs.length:=by
 unfold d1h; split
 ·exact b7V _ _
 ·rfl
def c9P (i:Int) (o:O8):O8:={ o with b:=i }
section
variable (ps:List Pr) (bs:List Bd) (cs ad:List Tri) (P B C A:PV) (hP:P.rowsOf 5=some (ps.map Pr.row)) (hB:B.rowsOf 4=some (bs.map Bd.row)) (hC:C.rowsOf 3=some (cs.map Tri.row)) (hA:A.rowsOf 3=some (ad.map Tri.row)) (hv:a5j ps bs cs ad=0) (n:Nat) (hn:1300<=n)
variable (l:List O8) (E:PV) (hE:E.rowsOf 8=some (l.map O8.row)) (hl:l.length<=1000)
def d1I (σ:List MO) (hb c k:Nat) (E:PV) (i N j:Int):PEnv:={ i:=[i,N,j],b:=[],v:=[.ref hb 0,.ref c 0,E],m:=σ,k:=k }
include hP hB hC hA hv hn hE hl in
theorem d2j {hb c:Nat} (Oc:Nat->Prop) (hnb:¬ Oc hb) (L0:PV) (i:Int) (k:Nat):∀ d j,j+d=l.length->∀ (σ:List MO) (kvs:List KV),CB P B C A σ c Oc kvs->kvs.length=bs.length->σ.all (MO.low σ.length)=true->σ[hb]?=some (.cells [P,B,C,A,L0] 68)->∀ fuel,
  ∃ σ',bidbook_Book_PutAll_S.loop (a0B Tab n) (fuel+d+1) 0 (d1I σ hb c k E i (l.length:Int) (j:Int))=some (.int .i64 (d0H ps bs cs ad kvs ((l.map (c9P i)).drop j)),σ')/\Stp σ σ' (fun i=>Oc i\/i=hb)/\σ'.length=σ.length /\
   (d0H ps bs cs ad kvs ((l.map (c9P i)).drop j)=0->CB P B C A σ' hb (fun i=>Oc i\/i=hb) (((l.map (c9P i)).drop j).foldl a3D kvs))/\(¬ d0H ps bs cs ad kvs ((l.map (c9P i)).drop j)=0->σ'[hb]?=σ[hb]?):=by
 obtain ⟨p1,p2,p3⟩:=a0C hE
 rw [Q5] at p1
 intro d
 induction d with
 | zero =>
  intro j hj σ kvs h hsl hlow h0 fuel
  rw [Q8] at hj; subst hj
  have hd:decide (l.length < l.length)=false:=by simp
  have hdr:(l.map (c9P i)).drop l.length=[]:=by rw [show l.length=(l.map (c9P i)).length by simp,Qk]
  obtain ⟨hl',hs,h1,h2,h3⟩:=h.ex
  have g1:∀ h,PV.isKind 1 (.ref h 0)=true:=fun _=>rfl
  have hc:=h1.book
  have on:PV.one (.rsl hl' hs.length 1)=true:=rfl
  have s1:∀ x y,a3T [P,B,C,A,y] 4 [x]=[P,B,C,A,x]:=fun _ _=>rfl
  have hbl:=(Q2.1 h0).1
  have hne:∀ {i},Oc i->hb≠i:=fun ho hh=>hnb (hh▸ho)
  refine ⟨σ.set hb (.cells [P,B,C,A,.rsl hl' hs.length 1] 68),?_,⟨by rw [Q1]; exact Q3 _,fun x _ hx=>Q4 fun hh=>hx (.inr hh.symm),c0Q hlow ?_⟩,Q1,fun _=>?_,fun h=>?_⟩
  ·rw [hdr,Sys.loop,show bidbook_Book_PutAll_S.loops[0]?=some b0A from rfl]
   simp -implicitDefEqProofs only [Q0,d1I,b0A,↓reduceIte,eq_self,ZF,ZG,ZH,ZI,ZJ,ZK,ZL,ZM,ZN,ZO,ZP,ZQ,ZR,ZS,ZT,ZU,ZV,ZW,ZX,ZY,Z2,Z3,Z4,Z5,Z6,Z7,Z8,Z9,Za,Zb,Zc,Zd,Ze,Zf,Zg,Zh,Nat.reduceAdd,Zi,if_true,if_false,Zl,Zm,Zn,Zo,Zp,Zq,Zr,Zs,Zt,Zu,Zv,Zw,Zx,Zy,Zz,ZA,ZB,ZC,ZD,ZE,a0F,hd,g1,hc,h0,MO.list,Nat.reduceLeDiff,Nat.zero_add,Qn,on,s1,a0D,true_or,if_true,d0H]
  ·have hlo:=Qg.1 hlow _ (Q6 h1.book)
   exact hlo
  ·rw [hdr]
   refine ⟨⟨hl',hs,⟨Qp hbl,by rw [Q4 (hne h2)]; exact h1.row,fun a b hab=>?_,h1.len,h1.nd⟩,.inl h2,fun x hx=>.inl (h3 x hx)⟩,.inr rfl,fun a ha=>?_⟩
   ·rw [Q4 (hne (h3 b (Q6 hab)))]; exact h1.maps a b hab
   ·rw [Q1]
    rcases ha with ha | rfl
    ·exact h.inn a ha
    ·exact hbl
  ·rw [hdr] at h; exact absurd rfl h
 | succ d ih =>
  intro j hj σ kvs h hsl hlow h0 fuel
  obtain ⟨o,ho⟩:=a0W (show j < l.length by omega)
  have ho':(l.map (c9P i))[j]?=some (c9P i o):=by rw [Qq,ho]; rfl
  have hd:decide (j < l.length)=true:=decide_eq_true (by omega)
  have q0:=a0G (off:=0) hE (a2T ho)
  have hup:=a1y (show j<=1000000000 by omega)
  obtain ⟨σ1,k1,c1,t1,w1⟩:=d1Y σ ps bs cs ad P B C A hP hB hC hA hlow hv n hn h hsl (c9P i o)
  simp only [a5t,W6.pv,oW,c9P] at k1
  have e0:eqB 0 0=true:=rfl
  rw [a3v ho',d0H]
  by_cases he:d0B ps bs cs ad kvs (c9P i o)=0
  case neg =>
   have e1:eqB (d0B ps bs cs ad kvs (c9P i o)) 0=false:=decide_eq_false he
   rw [if_neg he]
   refine ⟨σ1,?_,t1.mono fun _ h=>.inl h,w1,fun h=>absurd h he,fun _=>t1.fr hb (Q2.1 h0).1 hnb⟩
   simp only [c9P] at e1 ⊢
   rw [show fuel+(d+1)+1=(fuel+d+1)+1 from rfl,Sys.loop,show bidbook_Book_PutAll_S.loops[0]?=some b0A from rfl]
   simp -implicitDefEqProofs only [Q0,d1I,b0A,↓reduceIte,eq_self,ZF,ZG,ZH,ZI,ZJ,ZK,ZL,ZM,ZN,ZO,ZP,ZQ,ZR,ZS,ZT,ZU,ZV,ZW,ZX,ZY,Z2,Z3,Z4,Z5,Z6,Z7,Z8,Z9,Za,Zb,Zc,Zd,Ze,Zf,Zg,Zh,Nat.reduceAdd,Zi,if_true,if_false,Zl,Zm,Zn,Zo,Zp,Zq,Zr,Zs,Zt,Zu,Zv,Zw,Zx,Zy,Zz,ZA,ZB,ZC,ZD,ZE,p1,p2,a0F,hd,le0,q0,a4z,Nat.reduceLeDiff,k1,e1,a0D,true_or,if_true]
  rw [if_pos he]
  have hks:d0I ps bs cs ad kvs (c9P i o)=a3D kvs (c9P i o):=by unfold d0I; rw [if_pos he]
  rw [hks] at c1
  have hb1:σ1[hb]?=some (.cells [P,B,C,A,L0] 68):=by rw [t1.fr hb (Q2.1 h0).1 hnb]; exact h0
  obtain ⟨σ2,k2,t2,w2,c2,n2⟩:=ih (j+1) (by omega) σ1 _ c1 (by rw [b7C]; exact hsl) t1.low hb1 fuel
  rw [a0Q] at k2
  refine ⟨σ2,?_,?_,by omega,fun h=>?_,fun h=>?_⟩
  ·have e1:eqB (d0B ps bs cs ad kvs (c9P i o)) 0=true:=decide_eq_true he
   simp only [c9P] at e1 k2 ⊢
   rw [<- k2,show fuel+(d+1)+1=(fuel+d+1)+1 from rfl,Sys.loop,show bidbook_Book_PutAll_S.loops[0]?=some b0A from rfl]
   simp -implicitDefEqProofs only [Q0,d1I,b0A,↓reduceIte,eq_self,ZF,ZG,ZH,ZI,ZJ,ZK,ZL,ZM,ZN,ZO,ZP,ZQ,ZR,ZS,ZT,ZU,ZV,ZW,ZX,ZY,Z2,Z3,Z4,Z5,Z6,Z7,Z8,Z9,Za,Zb,Zc,Zd,Ze,Zf,Zg,Zh,Nat.reduceAdd,Zi,if_true,if_false,Zl,Zm,Zn,Zo,Zp,Zq,Zr,Zs,Zt,Zu,Zv,Zw,Zx,Zy,Zz,ZA,ZB,ZC,ZD,ZE,p1,p2,a0F,hd,le0,q0,a4z,Nat.reduceLeDiff,k1,e1,if_pos hup]
  ·exact ⟨by omega,fun x hx hnx=>(t2.fr x (by omega) hnx).trans (t1.fr x hx fun hh=>hnx (.inl hh)),t2.low⟩
  ·rw [Qr]; exact c2 h
  ·rw [n2 h,hb1,h0]
include hP hB hC hA hv hn hE hl in
theorem d1A (hN:bs.length<=100) (u1:clB 5 P=true) (u2:clB 4 B=true) (u3:clB 3 C=true) (u4:clB 3 A=true) (wP:∀ k,P.low k=true) (wB:∀ k,B.low k=true) (wC:∀ k,C.low k=true) (wA:∀ k,A.low k=true)
  {σ:List MO} {hb:Nat} {O:Nat->Prop} {kvs:List KV} (h:CB P B C A σ hb O kvs) (hsl:kvs.length=bs.length) (hne:kvs≠[]) (hlow:σ.all (MO.low σ.length)=true) (i:Int) :
  ∃ σ',a0B Tab (n+1) c0B [.ref hb 0,.int .i64 i,E] σ=some (.int .i64 (d0H ps bs cs ad kvs (l.map (c9P i))),σ')/\CB P B C A σ' hb (gr σ σ' O) (d1h ps bs cs ad kvs (l.map (c9P i)))/\Stp σ σ' O:=by
 obtain ⟨hl',hs,h1,h2,h3⟩:=h.ex
 obtain ⟨p1,p2,p3⟩:=a0C hE
 rw [Q5] at p1
 have k1:=d1z σ h1 n u1 u2 u3 u4 (by rw [<- h1.len]; omega) (by omega)
 have hI:=d1B σ P B C A hne h.all
 have hL:=d1E hlow wP wB wC wA hne
 generalize hM:σ++cpO σ.length [P,B,C,A] kvs=M at k1 hI hL
 have hle:σ.length<=M.length:=by rw [<- hM,Qs]; omega
 have hfr:∀ x,x < σ.length->M[x]?=σ[x]?:=fun x hx=>by rw [<- hM]; exact Qt hx
 have hbl:=h.inn hb h.own
 have c0:CB P B C A M σ.length (fun x=>σ.length<=x/\x < M.length) kvs:=by
  refine ⟨⟨_,_,hI,⟨by omega,(Q2.1 hI.row).1⟩,fun x hx=>?_⟩,⟨Q3 _,(Q2.1 hI.book).1⟩,fun x hx=>hx.2⟩
  obtain ⟨a,ha⟩:=Qh hx
  obtain ⟨_,_,_,g2,_⟩:=hI.maps a x ha
  refine ⟨?_,(Q2.1 g2).1⟩
  obtain ⟨q,_,rfl⟩:=List.mem_map.1 hx
  unfold hnd; split<;>omega
 obtain ⟨f,hf⟩:∃ f,n=f+l.length+1:=⟨n-l.length-1,by omega⟩
 obtain ⟨σ',k2,t2,w2,c2,n2⟩:=d2j ps bs cs ad P B C A hP hB hC hA hv n hn l E hE hl (hb:=hb) (c:=σ.length) _ (by intro hh; omega) (.rsl hl' hs.length 1) i σ.length l.length 0 (by omega) M kvs c0 hsl hL (by rw [hfr hb hbl]; exact h1.book) f
 rw [<- hf] at k2
 rw [Qm] at k2 c2 n2
 have g3:PV.isKind 4 (.ref hb 0)=true:=rfl
 have g4:PV.isNil (.ref hb 0)=false:=rfl
 have g5:PV.nilOk (.ref hb 0)=true:=rfl
 have on:∀ x,PV.one (.ref x 0)=true:=fun _=>rfl
 have oi:∀ k x,PV.one (.int k x)=true:=fun _ _=>rfl
 simp only [c2g] at k1
 refine ⟨σ',?_,?_,⟨by omega,fun x hx hnx=>(t2.fr x (by omega) ?_).trans (hfr x hx),t2.low⟩⟩
 ·rw [a0B]
  simp only [d1a,Q0,Sys.run]
  show ((a0E [.sh (.one _),.sh (.one _),.sh (.one _)] _).bind _)=_
  simp -implicitDefEqProofs only [a0E,a0x,a0w,Q9,Q0,Qa,Qb,Qd,if_true,on,oi,p3]
  show (PT.ev _ b0S _).bind _=_
  simp -implicitDefEqProofs only [b0S,↓reduceIte,eq_self,ZF,ZG,ZH,ZI,ZJ,ZK,ZL,ZM,ZN,ZO,ZP,ZQ,ZR,ZS,ZT,ZU,ZV,ZW,ZX,ZY,Z2,Z3,Z4,Z5,Z6,Z7,Z8,Z9,Za,Zb,Zc,Zd,Ze,Zf,Zg,Zh,Nat.reduceAdd,Zi,if_true,if_false,Zl,Zm,Zn,Zo,Zp,Zq,Zr,Zs,Zt,Zu,Zv,Zw,Zx,Zy,Zz,ZA,ZB,ZC,ZD,ZE,g3,g4,g5,k1,on,p1,p2]
  exact k2
 ·unfold d1h
  by_cases he:d0H ps bs cs ad kvs (l.map (c9P i))=0
  ·rw [if_pos he]
   refine (c2 he).mono (fun x hx=>?_) (d0W h.inn (by omega))
   rcases hx with hx | rfl
   ·exact .inr ⟨hx.1,by omega⟩
   ·exact .inl h.own
  ·rw [if_neg he]
   refine (h.frame (σ':=σ') (by omega) fun x hx=>?_).mono (fun x hx=>.inl hx) (d0W h.inn (by omega))
   have hxl:=h.inn x hx
   by_cases hxb:x=hb
   ·subst hxb; rw [n2 he,hfr x hxl]
   ·rw [t2.fr x (by omega) (by rintro (hh | hh); omega; exact hxb hh),hfr x hxl]
 ·rintro (hh | hh)
  ·omega
  ·subst hh; exact hnx h.own
end
end Go.Proofs.Ytflcopaopimlpaa
set_option maxRecDepth 100000
namespace Go.Proofs.Ytflcopaopimlpaa
open Go.Sx Go.Kv
section
variable (ps:List Pr) (bs:List Bd) (cs ad:List Tri) (P B C A:PV) (hP:P.rowsOf 5=some (ps.map Pr.row)) (hB:B.rowsOf 4=some (bs.map Bd.row)) (hC:C.rowsOf 3=some (cs.map Tri.row)) (hA:A.rowsOf 3=some (ad.map Tri.row)) (hv:a5j ps bs cs ad=0) (n:Nat) (hn:1300<=n)
variable (l:List O8) (E:PV) (hE:E.rowsOf 8=some (l.map O8.row)) (hl:l.length<=1000)
def d1o (σ:List MO) (xb y k:Nat) (E:PV) (i j:Int):PEnv:={ i:=[i,j],b:=[],v:=[.ref xb 0,E,.ref y 0],m:=σ,k:=k }
include hP hB hC hA hv hn hE hl in
theorem d1Q {xb y:Nat} (Oc:Nat->Prop) (hnb:¬ Oc xb) (L0:PV) (TR:Nat) (i:Int) (k:Nat):∀ d j,j+d=l.length->∀ (σ:List MO) (kvs:List KV),RB P B C A σ y Oc kvs->kvs.length=bs.length->σ.all (MO.low σ.length)=true->σ[xb]?=some (.cells [P,B,C,A,L0] TR)->∀ fuel,
  ∃ σ',saleroomref16_Book_PutAll_S.loop (a0B Tab n) (fuel+d+1) 0 (d1o σ xb y k E i (j:Int))=some (.int .i64 (d0H ps bs cs ad kvs ((l.map (c9P i)).drop j)),σ')/\Stp σ σ' (fun i=>Oc i\/i=xb)/\σ'.length=σ.length /\
   (d0H ps bs cs ad kvs ((l.map (c9P i)).drop j)=0->RB P B C A σ' xb (fun i=>Oc i\/i=xb) (((l.map (c9P i)).drop j).foldl a3D kvs))/\(¬ d0H ps bs cs ad kvs ((l.map (c9P i)).drop j)=0->σ'[xb]?=σ[xb]?):=by
 obtain ⟨p1,p2,p3⟩:=a0C hE
 rw [Q5] at p1
 intro d
 induction d with
 | zero =>
  intro j hj σ kvs h hsl hlow h0 fuel
  rw [Q8] at hj; subst hj
  have hd:decide (l.length < l.length)=false:=by simp
  have hdr:(l.map (c9P i)).drop l.length=[]:=by rw [show l.length=(l.map (c9P i)).length by simp,Qk]
  obtain ⟨hx,kk,T,TY,els,h1,h2⟩:=h.ex
  have g1:∀ h,PV.isKind 1 (.ref h 0)=true:=fun _=>rfl
  have hc:=h1.book
  obtain ⟨_,_,on⟩:=b4W kk hx els
  have s1:∀ x y,a3T [P,B,C,A,y] 4 [x]=[P,B,C,A,x]:=fun _ _=>rfl
  have hbl:=(Q2.1 h0).1
  have hne:∀ {i},Oc i->xb≠i:=fun ho hh=>hnb (hh▸ho)
  refine ⟨σ.set xb (.cells [P,B,C,A,a6k kk hx els.length] TR),?_,⟨by rw [Q1]; exact Q3 _,fun x _ hx=>Q4 fun hh=>hx (.inr hh.symm),c0Q hlow ?_⟩,Q1,fun _=>?_,fun h=>?_⟩
  ·rw [hdr,Sys.loop,show saleroomref16_Book_PutAll_S.loops[0]?=some c9Q from rfl]
   simp -implicitDefEqProofs only [Q0,d1o,c9Q,↓reduceIte,eq_self,ZF,ZG,ZH,ZI,ZJ,ZK,ZL,ZM,ZN,ZO,ZP,ZQ,ZR,ZS,ZT,ZU,ZV,ZW,ZX,ZY,Z2,Z3,Z4,Z5,Z6,Z7,Z8,Z9,Za,Zb,Zc,Zd,Ze,Zf,Zg,Zh,Nat.reduceAdd,Zi,if_true,if_false,Zl,Zm,Zn,Zo,Zp,Zq,Zr,Zs,Zt,Zu,Zv,Zw,Zx,Zy,Zz,ZA,ZB,ZC,ZD,ZE,p1,p2,a0F,hd,g1,hc,h0,MO.list,Nat.reduceLeDiff,Nat.zero_add,Qn,on,s1,a0D,true_or,if_true,d0H]
  ·have hlo:=Qg.1 hlow _ (Q6 h1.book)
   exact hlo
  ·rw [hdr]
   refine ⟨⟨hx,kk,T,TR,els,⟨Qp hbl,by rw [Q4 (hne h2)]; exact h1.lst,h1.el,h1.len,hne h2⟩,.inl h2⟩,.inr rfl,fun a ha=>?_⟩
   rw [Q1]
   rcases ha with ha | rfl
   ·exact h.inn a ha
   ·exact hbl
  ·rw [hdr] at h; exact absurd rfl h
 | succ d ih =>
  intro j hj σ kvs h hsl hlow h0 fuel
  obtain ⟨o,ho⟩:=a0W (show j < l.length by omega)
  have ho':(l.map (c9P i))[j]?=some (c9P i o):=by rw [Qq,ho]; rfl
  have hd:decide (j < l.length)=true:=decide_eq_true (by omega)
  have q1:=a0G (off:=1) hE (a2T ho)
  have q7:=a0G (off:=7) hE (a2T ho)
  obtain ⟨d1,d7⟩:=dr8 (.int .i64 o.b) (.int .i64 o.w0) (.int .i64 o.w1) (.int .i64 o.w2) (.int .i64 o.w3) (.int .i64 o.w4) (.int .i64 o.w5) (.int .i64 o.v)
  have hup:=a1y (show j<=1000000000 by omega)
  obtain ⟨σ1,k1,c1,t1,w1⟩:=d2u σ ps bs cs ad P B C A hP hB hC hA hlow hv n hn h hsl (c9P i o)
  simp only [a1N,W6.pv,oW,c9P] at k1
  rw [a3v ho',d0H]
  by_cases he:d0B ps bs cs ad kvs (c9P i o)=0
  case neg =>
   have e1:eqB (d0B ps bs cs ad kvs (c9P i o)) 0=false:=decide_eq_false he
   rw [if_neg he]
   refine ⟨σ1,?_,t1.mono fun _ h=>.inl h,w1,fun h=>absurd h he,fun _=>t1.fr xb (Q2.1 h0).1 hnb⟩
   simp only [c9P] at e1 ⊢
   rw [show fuel+(d+1)+1=(fuel+d+1)+1 from rfl,Sys.loop,show saleroomref16_Book_PutAll_S.loops[0]?=some c9Q from rfl]
   simp -implicitDefEqProofs only [Q0,d1o,c9Q,↓reduceIte,eq_self,ZF,ZG,ZH,ZI,ZJ,ZK,ZL,ZM,ZN,ZO,ZP,ZQ,ZR,ZS,ZT,ZU,ZV,ZW,ZX,ZY,Z2,Z3,Z4,Z5,Z6,Z7,Z8,Z9,Za,Zb,Zc,Zd,Ze,Zf,Zg,Zh,Nat.reduceAdd,Zi,if_true,if_false,Zl,Zm,Zn,Zo,Zp,Zq,Zr,Zs,Zt,Zu,Zv,Zw,Zx,Zy,Zz,ZA,ZB,ZC,ZD,ZE,p1,p2,a0F,hd,le0,q1,q7,a4z,d1,d7,Nat.reduceLeDiff,k1,e1,a0D,true_or,if_true]
  rw [if_pos he]
  have hks:d0I ps bs cs ad kvs (c9P i o)=a3D kvs (c9P i o):=by unfold d0I; rw [if_pos he]
  rw [hks] at c1
  have hb1:σ1[xb]?=some (.cells [P,B,C,A,L0] TR):=by rw [t1.fr xb (Q2.1 h0).1 hnb]; exact h0
  obtain ⟨σ2,k2,t2,w2,c2,n2⟩:=ih (j+1) (by omega) σ1 _ c1 (by rw [b7C]; exact hsl) t1.low hb1 fuel
  rw [a0Q] at k2
  refine ⟨σ2,?_,?_,by omega,fun h=>?_,fun h=>?_⟩
  ·have e1:eqB (d0B ps bs cs ad kvs (c9P i o)) 0=true:=decide_eq_true he
   simp only [c9P] at e1 k2 ⊢
   rw [<- k2,show fuel+(d+1)+1=(fuel+d+1)+1 from rfl,Sys.loop,show saleroomref16_Book_PutAll_S.loops[0]?=some c9Q from rfl]
   simp -implicitDefEqProofs only [Q0,d1o,c9Q,↓reduceIte,eq_self,ZF,ZG,ZH,ZI,ZJ,ZK,ZL,ZM,ZN,ZO,ZP,ZQ,ZR,ZS,ZT,ZU,ZV,ZW,ZX,ZY,Z2,Z3,Z4,Z5,Z6,Z7,Z8,Z9,Za,Zb,Zc,Zd,Ze,Zf,Zg,Zh,Nat.reduceAdd,Zi,if_true,if_false,Zl,Zm,Zn,Zo,Zp,Zq,Zr,Zs,Zt,Zu,Zv,Zw,Zx,Zy,Zz,ZA,ZB,ZC,ZD,ZE,p1,p2,a0F,hd,le0,q1,q7,a4z,d1,d7,Nat.reduceLeDiff,k1,e1,if_pos hup]
  ·exact ⟨by omega,fun x hx hnx=>(t2.fr x (by omega) hnx).trans (t1.fr x hx fun hh=>hnx (.inl hh)),t2.low⟩
  ·rw [Qr]; exact c2 h
  ·rw [n2 h,hb1,h0]
include hP hB hC hA hv hn hE hl in
theorem d1Z (hN:bs.length<=100) (wP:∀ k,P.low k=true) (wB:∀ k,B.low k=true) (wC:∀ k,C.low k=true) (wA:∀ k,A.low k=true)
  {σ:List MO} {xb:Nat} {O:Nat->Prop} {kvs:List KV} (h:RB P B C A σ xb O kvs) (hsl:kvs.length=bs.length) (hne:kvs≠[]) (hlow:σ.all (MO.low σ.length)=true) (i:Int) :
  ∃ σ',a0B Tab (n+1) d0G [.ref xb 0,.int .i64 i,E] σ=some (.int .i64 (d0H ps bs cs ad kvs (l.map (c9P i))),σ')/\RB P B C A σ' xb (gr σ σ' O) (d1h ps bs cs ad kvs (l.map (c9P i)))/\Stp σ σ' O:=by
 obtain ⟨hx,kk,T,TR,els,h1,h2⟩:=h.ex
 obtain ⟨p1,p2,p3⟩:=a0C hE
 obtain ⟨_,_,oP⟩:=a0C hP
 obtain ⟨_,_,oB⟩:=a0C hB
 obtain ⟨_,_,oC⟩:=a0C hC
 obtain ⟨_,_,oA⟩:=a0C hA
 have hel:=h1.len
 have hne2:els≠[]:=by rintro rfl; exact hne (List.length_eq_zero_iff.1 hel)
 have k1:=d1W σ h1 n (by omega) oP oB oC oA (by omega)
 have hI:=d2b h1 hne2
 have hL:=d2n hlow h1 wP wB wC wA hne2
 generalize hM:σ++rcO σ.length 72 [P,B,C,A] (els.map cpE)=M at k1 hI hL
 have hle:σ.length<=M.length:=by rw [<- hM,Qs]; omega
 have hfr:∀ x,x < σ.length->M[x]?=σ[x]?:=fun x hx=>by rw [<- hM]; exact Qt hx
 have hbl:=h.inn xb h.own
 have c0:RB P B C A M σ.length (fun x=>σ.length<=x/\x < M.length) kvs :=
  ⟨⟨_,_,_,_,_,hI,⟨by omega,(Q2.1 hI.lst).1⟩⟩,⟨Q3 _,(Q2.1 hI.book).1⟩,fun x hx=>hx.2⟩
 obtain ⟨f,hf⟩:∃ f,n=f+l.length+1:=⟨n-l.length-1,by omega⟩
 obtain ⟨σ',k2,t2,w2,c2,n2⟩:=d1Q ps bs cs ad P B C A hP hB hC hA hv n hn l E hE hl (xb:=xb) (y:=σ.length) _ (by intro hh; omega) (a6k kk hx els.length) TR i σ.length l.length 0 (by omega) M kvs c0 hsl hL (by rw [hfr xb hbl]; exact h1.book) f
 rw [<- hf] at k2
 rw [Qm] at k2 c2 n2
 have on:∀ x,PV.one (.ref x 0)=true:=fun _=>rfl
 have oi:∀ k x,PV.one (.int k x)=true:=fun _ _=>rfl
 simp only [d0K] at k1
 refine ⟨σ',?_,?_,⟨by omega,fun x hx hnx=>(t2.fr x (by omega) ?_).trans (hfr x hx),t2.low⟩⟩
 ·rw [a0B]
  simp only [d0R,Q0,Sys.run]
  show ((a0E [.sh (.one _),.sh (.one _),.sh (.one _)] _).bind _)=_
  simp -implicitDefEqProofs only [a0E,a0x,a0w,Q9,Q0,Qa,Qb,Qd,if_true,on,oi,p3]
  show (PT.ev _ d0A _).bind _=_
  simp -implicitDefEqProofs only [d0A,↓reduceIte,eq_self,ZF,ZG,ZH,ZI,ZJ,ZK,ZL,ZM,ZN,ZO,ZP,ZQ,ZR,ZS,ZT,ZU,ZV,ZW,ZX,ZY,Z2,Z3,Z4,Z5,Z6,Z7,Z8,Z9,Za,Zb,Zc,Zd,Ze,Zf,Zg,Zh,Nat.reduceAdd,Zi,if_true,if_false,Zl,Zm,Zn,Zo,Zp,Zq,Zr,Zs,Zt,Zu,Zv,Zw,Zx,Zy,Zz,ZA,ZB,ZC,ZD,ZE,k1,on]
  exact k2
 ·unfold d1h
  by_cases he:d0H ps bs cs ad kvs (l.map (c9P i))=0
  ·rw [if_pos he]
   refine (c2 he).mono (fun x hx=>?_) (d0W h.inn (by omega))
   rcases hx with hx | rfl
   ·exact .inr ⟨hx.1,by omega⟩
   ·exact .inl h.own
  ·rw [if_neg he]
   refine (h.frame (σ':=σ') (by omega) fun x hx=>?_).mono (fun x hx=>.inl hx) (d0W h.inn (by omega))
   have hxl:=h.inn x hx
   by_cases hxb:x=xb
   ·subst hxb; rw [n2 he,hfr x hxl]
   ·rw [t2.fr x (by omega) (by rintro (hh | hh); omega; exact hxb hh),hfr x hxl]
 ·rintro (hh | hh)
  ·omega
  ·subst hh; exact hnx h.own
end
end Go.Proofs.Ytflcopaopimlpaa
set_option maxRecDepth 100000
namespace Go.Proofs.Ytflcopaopimlpaa
open Go.Sx Go.Kv
def inR (kvs:List KV) (i:Int):Bool:=leB 0 i&&ltB i (kvs.length:Int)
def rmN (kvs:List KV) (i:Int):Int:=if inR kvs i=true then ((kvs.getD i.toNat []).length:Int) else 0
def rmE (kvs:List KV) (i:Int):Int:=if inR kvs i=true then 0 else 6
def rmK (kvs:List KV) (i:Int):List KV:=if inR kvs i=true then kvs.set i.toNat [] else kvs
theorem d2k (kvs:List KV) (i:Int):(rmK kvs i).length=kvs.length:=by unfold rmK; split<;>simp
section
variable {P B C A:PV} {σ:List MO} (hlow:σ.all (MO.low σ.length)=true) (n:Nat) (hn:1300<=n)
include hlow hn in
theorem d2g {hb:Nat} {O:Nat->Prop} {kvs:List KV} (h:CB P B C A σ hb O kvs) (i:Int) :
  ∃ σ',a0B Tab n c0p [.ref hb 0,.int .i64 i] σ=some (.tup [.int .i64 (rmN kvs i),.int .i64 (rmE kvs i)],σ')/\CB P B C A σ' hb O (rmK kvs i)/\Stp σ σ' O:=by
 obtain ⟨hl,hs,h1,h2,h3⟩:=h.ex
 unfold rmN rmE rmK
 by_cases hi:inR kvs i=true
 case neg =>
  rw [if_neg hi,if_neg hi,if_neg hi]
  exact ⟨σ,d1O σ h1 n (by unfold inR at hi; rw [<- h1.len]; simpa using hi) (by omega),h,Stp.refl hlow O⟩
 rw [if_pos hi,if_pos hi,if_pos hi]
 unfold inR at hi
 rw [Q7,a2n,a0U] at hi
 obtain ⟨j,hj⟩:∃ j:Nat,i=(j:Int):=⟨i.toNat,by omega⟩
 subst hj
 obtain ⟨x,hx⟩:=a0W (show j < hs.length by have:=h1.len; omega)
 obtain ⟨kv,ver,g1,g2,g3,g4⟩:=h1.maps j x hx
 have hg:kvs.getD j []=kv:=by simp [Qf,g1]
 rw [Qu,hg]
 refine ⟨_,d1P σ h1 n hx g2 g3 g4 hlow (by omega),⟨⟨hl,hs,h1.put hx Asc.nil (by simp) _,h2,h3⟩,h.own,fun i hi=>by rw [Q1]; exact h.inn i hi⟩,⟨by rw [Q1]; exact Q3 _,fun i _ hni=>Q4 fun (hxi:x=i)=>hni (hxi▸h3 x (Q6 hx)),c0Q hlow rfl⟩⟩
include hlow hn in
theorem d2d {xb:Nat} {O:Nat->Prop} {kvs:List KV} (h:RB P B C A σ xb O kvs) (i:Int) :
  ∃ σ',a0B Tab n c9W [.ref xb 0,.int .i64 i] σ=some (.tup [.int .i64 (rmN kvs i),.int .i64 (rmE kvs i)],σ')/\RB P B C A σ' xb O (rmK kvs i)/\Stp σ σ' O:=by
 obtain ⟨hx,k,T,TR,els,h1,h2⟩:=h.ex
 unfold rmN rmE rmK
 by_cases hi:inR kvs i=true
 case neg =>
  rw [if_neg hi,if_neg hi,if_neg hi]
  exact ⟨σ,d1H σ h1 n (by unfold inR at hi; rw [<- h1.len]; simpa using hi) (by omega),h,Stp.refl hlow O⟩
 rw [if_pos hi,if_pos hi,if_pos hi]
 unfold inR at hi
 rw [Q7,a2n,a0U] at hi
 obtain ⟨j,hj⟩:∃ j:Nat,i=(j:Int):=⟨i.toNat,by omega⟩
 subst hj
 have hlen:=h1.len
 obtain ⟨E,hE⟩:=a0W (show j < els.length by omega)
 obtain ⟨kv,g1,g2,g3,g4⟩:=h1.el j E hE
 have hg:kvs.getD j []=kv:=by simp [Qf,g1]
 have hr:=d1J σ h1 n hE g2 (by omega)
 rw [Q5] at hr
 rw [Qu,hg]
 refine ⟨_,hr,⟨⟨hx,k,T,TR,els.set j .nilS,h1.put (by omega) rfl Asc.nil (by simp),h2⟩,h.own,fun i hi=>by rw [Q1]; exact h.inn i hi⟩,⟨by rw [Q1]; exact Q3 _,fun i _ hni=>Q4 fun (hxi:hx=i)=>hni (hxi▸h2),c0Q hlow ?_⟩⟩
 rw [c0w]
 have hl:=Qg.1 hlow _ (Q6 h1.lst)
 rw [c0w] at hl
 exact b8R rfl hl
end
structure Sp where
 kd:Int
 o:O8
 l:List O8
def Sp.row (s:Sp):List PV:=[.int .i64 s.kd,.int .i64 s.o.b,.int .i64 s.o.w0,.int .i64 s.o.w1,.int .i64 s.o.w2,.int .i64 s.o.w3,.int .i64 s.o.w4,.int .i64 s.o.w5,.int .i64 s.o.v,.sl 8 (s.l.map O8.row)]
def d1b (ps:List Pr) (bs:List Bd) (cs ad:List Tri) (kvs:List KV) (s:Sp):List KV :=
 if s.kd=0 then d0I ps bs cs ad kvs s.o else if s.kd=1 then d1h ps bs cs ad kvs (s.l.map (c9P s.o.b)) else if s.kd=2 then rmK kvs s.o.b else kvs
theorem d1N (ps:List Pr) (bs:List Bd) (cs ad:List Tri) (kvs:List KV) (s:Sp):(d1b ps bs cs ad kvs s).length=kvs.length:=by
 unfold d1b
 repeat' split
 ·exact d1L ..
 ·exact d1w ..
 ·exact d2k ..
 ·rfl
structure Pair (P B C A:PV) (σ:List MO) (hb xb:Nat) (D:Nat->Prop) (kvs:List KV):Prop where
 ex:∃ Oc Or:Nat->Prop,CB P B C A σ hb Oc kvs/\RB P B C A σ xb Or kvs/\(∀ i,Oc i->¬ Or i)/\(∀ i,Oc i->D i)/\(∀ i,Or i->D i)
 inn:∀ i,D i->i < σ.length
theorem Pair.st {P B C A:PV} {σ σ':List MO} {hb xb:Nat} {D D':Nat->Prop} {kvs:List KV} (h:Pair P B C A σ hb xb D kvs) (s:Stp σ σ' D') (hd:∀ i,D i->¬ D' i):Pair P B C A σ' hb xb D kvs:=by
 obtain ⟨Oc,Or,h1,h2,h3,h4,h5⟩:=h.ex
 exact ⟨⟨Oc,Or,h1.st s fun i hi=>hd i (h4 i hi),h2.st s fun i hi=>hd i (h5 i hi),h3,h4,h5⟩,fun i hi=>Qe (h.inn i hi) s.len⟩
theorem Pair.move {P B C A:PV} {σ σ1 σ2:List MO} {hb xb:Nat} {D Oc Or:Nat->Prop} {kvs kvs':List KV} (h1:CB P B C A σ hb Oc kvs) (h2:RB P B C A σ xb Or kvs) (h3:∀ i,Oc i->¬ Or i) (h4:∀ i,Oc i->D i) (h5:∀ i,Or i->D i) (hD:∀ i,D i->i < σ.length)
  (c1:CB P B C A σ1 hb (gr σ σ1 Oc) kvs') (s1:Stp σ σ1 Oc) (c2:RB P B C A σ2 xb (gr σ1 σ2 Or) kvs') (s2:Stp σ1 σ2 Or):Pair P B C A σ2 hb xb (gr σ σ2 D) kvs'/\Stp σ σ2 D:=by
 have l1:=s1.len
 have l2:=s2.len
 refine ⟨⟨⟨gr σ σ1 Oc,gr σ1 σ2 Or,c1.st s2 ?_,c2,?_,?_,?_⟩,d0W hD (by omega)⟩,⟨by omega,fun i hi hn=>(s2.fr i (by omega) fun hc=>hn (h5 i hc)).trans (s1.fr i hi fun hc=>hn (h4 i hc)),s2.low⟩⟩
 ·rintro i (hi | hi) hr
  ·exact h3 i hi hr
  ·have:=h2.inn i hr; omega
 ·rintro i (hi | hi) (hr | hr)
  ·exact h3 i hi hr
  ·have:=h1.inn i hi; omega
  ·have:=h2.inn i hr; omega
  ·omega
 ·rintro i (hi | hi)
  ·exact .inl (h4 i hi)
  ·exact .inr ⟨hi.1,by omega⟩
 ·rintro i (hi | hi)
  ·exact .inl (h5 i hi)
  ·exact .inr ⟨by omega,hi.2⟩
section
variable (ps:List Pr) (bs:List Bd) (cs ad:List Tri) (P B C A:PV) (hP:P.rowsOf 5=some (ps.map Pr.row)) (hB:B.rowsOf 4=some (bs.map Bd.row)) (hC:C.rowsOf 3=some (cs.map Tri.row)) (hA:A.rowsOf 3=some (ad.map Tri.row)) (hv:a5j ps bs cs ad=0) (n:Nat) (hn:1310<=n)
include hP hB hC hA hv hn in
theorem d2p (hN:bs.length<=100) (u1:clB 5 P=true) (u2:clB 4 B=true) (u3:clB 3 C=true) (u4:clB 3 A=true) (wP:∀ k,P.low k=true) (wB:∀ k,B.low k=true) (wC:∀ k,C.low k=true) (wA:∀ k,A.low k=true)
  {σ:List MO} {hb xb:Nat} {D:Nat->Prop} {kvs:List KV} (h:Pair P B C A σ hb xb D kvs) (hsl:kvs.length=bs.length) (hne:kvs≠[]) (hlow:σ.all (MO.low σ.length)=true) (s:Sp) (hs:s.l.length<=1000) :
  ∃ σ',a0B Tab n d0L [.ref hb 0,.ref xb 0,.agg s.row] σ=some (.bool true,σ')/\Pair P B C A σ' hb xb (gr σ σ' D) (d1b ps bs cs ad kvs s)/\Stp σ σ' D:=by
 obtain ⟨n,rfl⟩:∃ k,n=k+1+1:=⟨n-2,by omega⟩
 obtain ⟨Oc,Or,h1,h2,h3,h4,h5⟩:=h.ex
 have dich:∀ x:Bool,x=true\/x=false:=fun x=>by cases x<;>simp
 have st:∀ (r:PV × List MO),(PT.ev (a0B Tab (n+1)) c9U { i:=[s.kd,s.o.b,s.o.w0,s.o.w1,s.o.w2,s.o.w3,s.o.w4,s.o.w5,s.o.v],b:=[],v:=[.ref hb 0,.ref xb 0,.sl 8 (s.l.map O8.row)],m:=σ,k:=σ.length })=some (.ret r.1 r.2) ->
   a0B Tab (n+1+1) d0L [.ref hb 0,.ref xb 0,.agg s.row] σ=some r:=by
  intro r hr
  rw [a0B]
  simp only [d1i,Q0,Sys.run,Sp.row]
  show ((a0E [.sh (.one _),.sh (.one _),.sh (.agg [_,_,_,_,_,_,_,_,_,_])] _).bind _)=_
  simp -implicitDefEqProofs only [a0E,a0x,a0w,Q9,Q0,Qa,Qb,Qd,if_true,PV.one]
  show (PT.ev _ c9U _).bind _=_
  rw [hr]; rfl
 have e5:∀ a b:Int,eqB a b=decide (a=b):=fun _ _=>rfl
 by_cases d0:s.kd=0
 ·obtain ⟨σ1,k1,c1,t1,w1⟩:=d1Y σ ps bs cs ad P B C A hP hB hC hA hlow hv (n+1) (by omega) h1 hsl s.o
  have r1:=h2.st t1 fun i hr hc=>h3 i hc hr
  obtain ⟨σ2,k2,c2,t2,w2⟩:=d2u σ1 ps bs cs ad P B C A hP hB hC hA t1.low hv (n+1) (by omega) r1 hsl s.o
  obtain ⟨m1,m2⟩:=Pair.move (D:=D) h1 h2 h3 h4 h5 h.inn (c1.mono (fun _ h=>.inl h) (d0W h1.inn t1.len)) t1 (c2.mono (fun _ h=>.inl h) (d0W r1.inn t2.len)) t2
  refine ⟨σ2,st (.bool true,σ2) ?_,by unfold d1b; rw [if_pos d0]; exact m1,m2⟩
  simp only [a5t,a1N,W6.pv,oW] at k1 k2
  have e1:eqB s.kd 0=true:=decide_eq_true d0
  simp -implicitDefEqProofs only [c9U,↓reduceIte,eq_self,ZF,ZG,ZH,ZI,ZJ,ZK,ZL,ZM,ZN,ZO,ZP,ZQ,ZR,ZS,ZT,ZU,ZV,ZW,ZX,ZY,Z2,Z3,Z4,Z5,Z6,Z7,Z8,Z9,Za,Zb,Zc,Zd,Ze,Zf,Zg,Zh,Nat.reduceAdd,Zi,if_true,if_false,Zl,Zm,Zn,Zo,Zp,Zq,Zr,Zs,Zt,Zu,Zv,Zw,Zx,Zy,Zz,ZA,ZB,ZC,ZD,ZE,e1,k1,k2,a7s,a0D,true_or,if_true]
 have e1:eqB s.kd 0=false:=decide_eq_false d0
 by_cases d1:s.kd=1
 ·obtain ⟨σ1,k1,c1,t1⟩:=d1A ps bs cs ad P B C A hP hB hC hA hv n (by omega) s.l _ (a1v 8 (s.l.map O8.row)) hs hN u1 u2 u3 u4 wP wB wC wA h1 hsl hne hlow s.o.b
  have r1:=h2.st t1 fun i hr hc=>h3 i hc hr
  obtain ⟨σ2,k2,c2,t2⟩:=d1Z ps bs cs ad P B C A hP hB hC hA hv n (by omega) s.l _ (a1v 8 (s.l.map O8.row)) hs hN wP wB wC wA r1 hsl hne t1.low s.o.b
  obtain ⟨m1,m2⟩:=Pair.move (D:=D) h1 h2 h3 h4 h5 h.inn c1 t1 c2 t2
  refine ⟨σ2,st (.bool true,σ2) ?_,by unfold d1b; rw [if_neg d0,if_pos d1]; exact m1,m2⟩
  simp only [c0B,d0G] at k1 k2
  have e2:eqB s.kd 1=true:=decide_eq_true d1
  simp -implicitDefEqProofs only [c9U,↓reduceIte,eq_self,ZF,ZG,ZH,ZI,ZJ,ZK,ZL,ZM,ZN,ZO,ZP,ZQ,ZR,ZS,ZT,ZU,ZV,ZW,ZX,ZY,Z2,Z3,Z4,Z5,Z6,Z7,Z8,Z9,Za,Zb,Zc,Zd,Ze,Zf,Zg,Zh,Nat.reduceAdd,Zi,if_true,if_false,Zl,Zm,Zn,Zo,Zp,Zq,Zr,Zs,Zt,Zu,Zv,Zw,Zx,Zy,Zz,ZA,ZB,ZC,ZD,ZE,e1,e2,k1,k2,a7s,a0D,true_or,if_true]
 have e2:eqB s.kd 1=false:=decide_eq_false d1
 by_cases d2:s.kd=2
 ·obtain ⟨σ1,k1,c1,t1⟩:=d2g hlow (n+1) (by omega) h1 s.o.b
  have r1:=h2.st t1 fun i hr hc=>h3 i hc hr
  obtain ⟨σ2,k2,c2,t2⟩:=d2d t1.low (n+1) (by omega) r1 s.o.b
  obtain ⟨m1,m2⟩:=Pair.move (D:=D) h1 h2 h3 h4 h5 h.inn (c1.mono (fun _ h=>.inl h) (d0W h1.inn t1.len)) t1 (c2.mono (fun _ h=>.inl h) (d0W r1.inn t2.len)) t2
  refine ⟨σ2,st (.bool true,σ2) ?_,by unfold d1b; rw [if_neg d0,if_neg d1,if_pos d2]; exact m1,m2⟩
  simp only [c0p,c9W] at k1 k2
  have e3:eqB s.kd 2=true:=decide_eq_true d2
  simp -implicitDefEqProofs only [c9U,↓reduceIte,eq_self,ZF,ZG,ZH,ZI,ZJ,ZK,ZL,ZM,ZN,ZO,ZP,ZQ,ZR,ZS,ZT,ZU,ZV,ZW,ZX,ZY,Z2,Z3,Z4,Z5,Z6,Z7,Z8,Z9,Za,Zb,Zc,Zd,Ze,Zf,Zg,Zh,Nat.reduceAdd,Zi,if_true,if_false,Zl,Zm,Zn,Zo,Zp,Zq,Zr,Zs,Zt,Zu,Zv,Zw,Zx,Zy,Zz,ZA,ZB,ZC,ZD,ZE,e1,e2,e3,k1,k2,a1w,a7s,a0D,true_or,if_true]
 have e3:eqB s.kd 2=false:=decide_eq_false d2
 refine ⟨σ,st (.bool true,σ) ?_,?_,Stp.refl hlow D⟩
 ·simp -implicitDefEqProofs only [c9U,↓reduceIte,eq_self,ZF,ZG,ZH,ZI,ZJ,ZK,ZL,ZM,ZN,ZO,ZP,ZQ,ZR,ZS,ZT,ZU,ZV,ZW,ZX,ZY,Z2,Z3,Z4,Z5,Z6,Z7,Z8,Z9,Za,Zb,Zc,Zd,Ze,Zf,Zg,Zh,Nat.reduceAdd,Zi,if_true,if_false,Zl,Zm,Zn,Zo,Zp,Zq,Zr,Zs,Zt,Zu,Zv,Zw,Zx,Zy,Zz,ZA,ZB,ZC,ZD,ZE,e1,e2,e3,a0D,true_or,if_true]
 ·unfold d1b
  rw [if_neg d0,if_neg d1,if_neg d2]
  exact ⟨⟨Oc,Or,h1,h2,h3,fun i hi=>.inl (h4 i hi),fun i hi=>.inl (h5 i hi)⟩,d0W h.inn (Q3 _)⟩
end
end Go.Proofs.Ytflcopaopimlpaa
set_option maxRecDepth 100000
namespace Go.Proofs.Ytflcopaopimlpaa
open Go.Sx Go.Kv
section
variable (σ:List MO) (l:List Sp) (n:Nat)
def d0Z (l:List Sp):Bool:=l.all fun s=>!(ltB 60 (s.l.length:Int))
def d1r (l:List Sp):Bool:=!(ltB 60 (l.length:Int))&&d0Z l
theorem d1x (s:Sp):s.row=[.int .i64 s.kd,.int .i64 s.o.b,.int .i64 s.o.w0,.int .i64 s.o.w1,.int .i64 s.o.w2,.int .i64 s.o.w3,.int .i64 s.o.w4,.int .i64 s.o.w5,.int .i64 s.o.v,.sl 8 (s.l.map O8.row)]:=rfl
theorem d2r (a b c d e f g h i j:PV):List.drop 9 [a,b,c,d,e,f,g,h,i,j]=[j]:=rfl
theorem d1D {l:List Sp} {i:Nat} {x:Sp} (h:l[i]?=some x):(l.map Sp.row)[i]?=some x.row:=by simp [h]
def d1F (σ:List MO) (l:List Sp) (i:Int):PEnv:={ i:=[i],b:=[],v:=[.sl 10 (l.map Sp.row)],m:=σ,k:=σ.length }
theorem d1X (hl:l.length<=1000):∀ d i,i+d=l.length->∀ fuel,saleroomlaw16_few_S.loop (a0B Tab n) (fuel+d+1) 0 (d1F σ l (i:Int))=some (.bool (d0Z (l.drop i)),σ):=by
 have hE:=a1v 10 (l.map Sp.row)
 obtain ⟨p1,p2,p3⟩:=a0C hE
 rw [Q5] at p1
 intro d
 induction d with
 | zero =>
  intro i hi fuel
  rw [Q8] at hi; subst hi
  have hd:decide (l.length < l.length)=false:=by simp
  rw [Sys.loop,show saleroomlaw16_few_S.loops[0]?=some c9V from rfl,Qk]
  simp -implicitDefEqProofs only [Q0,d1F,c9V,↓reduceIte,eq_self,ZF,ZG,ZH,ZI,ZJ,ZK,ZL,ZM,ZN,ZO,ZP,ZQ,ZR,ZS,ZT,ZU,ZV,ZW,ZX,ZY,Z2,Z3,Z4,Z5,Z6,Z7,Z8,Z9,Za,Zb,Zc,Zd,Ze,Zf,Zg,Zh,Nat.reduceAdd,Zi,if_true,if_false,Zl,Zm,Zn,Zo,Zp,Zq,Zr,Zs,Zt,Zu,Zv,Zw,Zx,Zy,Zz,ZA,ZB,ZC,ZD,ZE,p1,p2,a0F,hd,a0D,or_true,d0Z,List.all_nil]
 | succ d ih =>
  intro i hi fuel
  obtain ⟨s,hs⟩:=a0W (show i < l.length by omega)
  have hd:decide (i < l.length)=true:=decide_eq_true (by omega)
  have q9:=a0G (off:=9) hE (d1D hs)
  obtain ⟨e1,e2,e3⟩:=a0C (a1v 8 (s.l.map O8.row))
  rw [Q5] at e1
  have hup:=a1y (show i<=1000000000 by omega)
  rw [show d0Z (l.drop i)=(!(ltB 60 (s.l.length:Int))&&d0Z (l.drop (i+1))) by rw [a3v hs]; rfl]
  have ih:=ih (i+1) (by omega) fuel
  rw [a0Q] at ih
  have dich:∀ x:Bool,x=true\/x=false:=fun x=>by cases x<;>simp
  rw [show fuel+(d+1)+1=(fuel+d+1)+1 from rfl,Sys.loop,show saleroomlaw16_few_S.loops[0]?=some c9V from rfl]
  rcases dich (ltB 60 (s.l.length:Int)) with h6 | h6
  ·simp -implicitDefEqProofs only [Q0,d1F,c9V,↓reduceIte,eq_self,ZF,ZG,ZH,ZI,ZJ,ZK,ZL,ZM,ZN,ZO,ZP,ZQ,ZR,ZS,ZT,ZU,ZV,ZW,ZX,ZY,Z2,Z3,Z4,Z5,Z6,Z7,Z8,Z9,Za,Zb,Zc,Zd,Ze,Zf,Zg,Zh,Nat.reduceAdd,Zi,if_true,if_false,Zl,Zm,Zn,Zo,Zp,Zq,Zr,Zs,Zt,Zu,Zv,Zw,Zx,Zy,Zz,ZA,ZB,ZC,ZD,ZE,p1,p2,a0F,hd,le0,q9,d1x,d2r,Nat.reduceLeDiff,e1,e2,e3,h6,a0D,or_true,Qv]
  ·rw [h6,Bool.not_false,Bool.true_and,<- ih]
   simp -implicitDefEqProofs only [Q0,d1F,c9V,↓reduceIte,eq_self,ZF,ZG,ZH,ZI,ZJ,ZK,ZL,ZM,ZN,ZO,ZP,ZQ,ZR,ZS,ZT,ZU,ZV,ZW,ZX,ZY,Z2,Z3,Z4,Z5,Z6,Z7,Z8,Z9,Za,Zb,Zc,Zd,Ze,Zf,Zg,Zh,Nat.reduceAdd,Zi,if_true,if_false,Zl,Zm,Zn,Zo,Zp,Zq,Zr,Zs,Zt,Zu,Zv,Zw,Zx,Zy,Zz,ZA,ZB,ZC,ZD,ZE,p1,p2,a0F,hd,le0,q9,d1x,d2r,Nat.reduceLeDiff,e1,e2,e3,h6,if_pos hup]
theorem d2f (hn:1010<=n):a0B Tab n d0S [.sl 10 (l.map Sp.row)] σ=some (.bool (d1r l),σ):=by
 obtain ⟨n,rfl⟩:∃ k,n=k+1:=⟨n-1,by omega⟩
 obtain ⟨p1,p2,p3⟩:=a0C (a1v 10 (l.map Sp.row))
 rw [Q5] at p1
 have dich:∀ x:Bool,x=true\/x=false:=fun x=>by cases x<;>simp
 rw [a0B]
 simp only [d1f,Q0,Sys.run]
 show ((a0E [.sh (.one _)] _).bind _)=_
 simp -implicitDefEqProofs only [a0E,a0x,a0w,Q9,Q0,Qa,Qb,Qd,if_true,p3]
 show (PT.ev _ d0D _).bind _=_
 rcases dich (ltB 60 (l.length:Int)) with h6 | h6
 ·simp -implicitDefEqProofs only [d0D,↓reduceIte,eq_self,ZF,ZG,ZH,ZI,ZJ,ZK,ZL,ZM,ZN,ZO,ZP,ZQ,ZR,ZS,ZT,ZU,ZV,ZW,ZX,ZY,Z2,Z3,Z4,Z5,Z6,Z7,Z8,Z9,Za,Zb,Zc,Zd,Ze,Zf,Zg,Zh,Nat.reduceAdd,Zi,if_true,if_false,Zl,Zm,Zn,Zo,Zp,Zq,Zr,Zs,Zt,Zu,Zv,Zw,Zx,Zy,Zz,ZA,ZB,ZC,ZD,ZE,p1,p2,h6,a0D,or_true,d1r,Qv]
 ·rw [a0I] at h6
  obtain ⟨f,hf⟩:∃ f,n=f+l.length+1:=⟨n-l.length-1,by omega⟩
  have k:=d1X σ l n (by omega) l.length 0 (by omega) f
  rw [<- hf,Qm] at k
  have h6:ltB 60 (l.length:Int)=false:=by rw [a0I]; exact h6
  simp -implicitDefEqProofs only [d0D,↓reduceIte,eq_self,ZF,ZG,ZH,ZI,ZJ,ZK,ZL,ZM,ZN,ZO,ZP,ZQ,ZR,ZS,ZT,ZU,ZV,ZW,ZX,ZY,Z2,Z3,Z4,Z5,Z6,Z7,Z8,Z9,Za,Zb,Zc,Zd,Ze,Zf,Zg,Zh,Nat.reduceAdd,Zi,if_true,if_false,Zl,Zm,Zn,Zo,Zp,Zq,Zr,Zs,Zt,Zu,Zv,Zw,Zx,Zy,Zz,ZA,ZB,ZC,ZD,ZE,p1,p2,h6,d1r,Bool.true_and]
  exact k
end
section
variable {P B C A:PV} {σ:List MO} (hlow:σ.all (MO.low σ.length)=true) (n:Nat) (hn:1310<=n)
variable (bs:List Bd) (hB:B.rowsOf 4=some (bs.map Bd.row)) (oP:P.one=true) (oC:C.one=true) (oA:A.one=true)
variable {hb xb:Nat} {Oc Or:Nat->Prop} {kvs:List KV} (h:CB P B C A σ hb Oc kvs) (g:RB P B C A σ xb Or kvs) (hsl:kvs.length=bs.length) (hN:bs.length<=10)
include hlow h hN hsl in
theorem d1G (hn:1010<=n):∃ X:PV,X.rowsOf 8=some ((a6h 0 kvs).map O8.row)/\a0B Tab n a7K [.ref hb 0] σ=some (X,σ):=by
 obtain ⟨hl,hs,h1,_,_⟩:=h.ex
 exact c0z σ hlow hb hs h1.bkMs kvs h1.len (fun i y hi=>by
  obtain ⟨kv,ver,g1,g2,g3,g4⟩:=h1.maps i y hi
  exact ⟨kv,ver,g1,g2,g3,by omega⟩) (by rw [<- h1.len]; omega) n hn
include g hN hsl in
theorem d3g (hn:1010<=n):∃ X:PV,X.rowsOf 8=some ((a6h 0 kvs).map O8.row)/\a0B Tab n a5p [.ref xb 0] σ=some (X,σ):=by
 obtain ⟨hx,k,T,TR,els,h1,_⟩:=g.ex
 exact c4g σ k xb hx T TR P B C A els h1.book h1.lst kvs h1.len (fun i E hi=>by
  obtain ⟨kv,m1,m2,m3,m4⟩:=h1.el i E hi
  exact ⟨kv,m1,m2,by omega⟩) (by rw [<- h1.len]; omega) n hn
theorem d1l {kvs:List KV} (h:∀ kv∈kvs,Asc kv/\kv.length<=40) (hN:kvs.length<=10):(a6h 0 kvs).length<=1000:=by
 have:=b9a (m:=40) kvs 0 fun kv hk=>(h kv hk).2
 have h2:kvs.length*40<=10*40:=Nat.mul_le_mul hN (Q3 _)
 omega
def sa1 (σ:List MO) (hb xb:Nat) (P B C A:PV) (i:Int):PEnv:={ i:=[i],b:=[],v:=[.ref hb 0,.ref xb 0,P,B,C,A],m:=σ,k:=σ.length }
def sa2 (σ:List MO) (hb xb:Nat) (E P B C A:PV) (i j:Int):PEnv:={ i:=[i,j],b:=[],v:=[.ref hb 0,.ref xb 0,E,P,B,C,A],m:=σ,k:=σ.length }
theorem d3f (i:Int) (hi:-5<=i/\i<=100) (l:List O8) (E:PV) (hE:E.rowsOf 8=some (l.map O8.row)) (hl:l.length<=1000)
  (hval:∀ o∈l,a0B Tab n c1g [.ref hb 0,.int .i64 i,.agg (oW o).pv] σ=some (.tup [.int .i64 o.v,.bool true],σ)) :
  ∀ d j,j+d=l.length->∀ fuel,saleroomlaw16_same_S.loop (a0B Tab n) (fuel+d+1) 1 (sa2 σ hb xb E P B C A i (j:Int))=saleroomlaw16_same_S.loop (a0B Tab n) fuel 0 (sa1 σ hb xb P B C A (i+1)):=by
 obtain ⟨p1,p2,p3⟩:=a0C hE
 rw [Q5] at p1
 intro d
 induction d with
 | zero =>
  intro j hj fuel
  rw [Q8] at hj; subst hj
  have hd:decide (l.length < l.length)=false:=by simp
  have hup:=a1q (z:=i+1) (by omega)
  rw [Q8,Sys.loop,show saleroomlaw16_same_S.loops[1]?=some d2B from rfl]
  simp -implicitDefEqProofs only [Q0,sa1,sa2,d2B,↓reduceIte,eq_self,ZF,ZG,ZH,ZI,ZJ,ZK,ZL,ZM,ZN,ZO,ZP,ZQ,ZR,ZS,ZT,ZU,ZV,ZW,ZX,ZY,Z2,Z3,Z4,Z5,Z6,Z7,Z8,Z9,Za,Zb,Zc,Zd,Ze,Zf,Zg,Zh,Nat.reduceAdd,Zi,if_true,if_false,Zl,Zm,Zn,Zo,Zp,Zq,Zr,Zs,Zt,Zu,Zv,Zw,Zx,Zy,Zz,ZA,ZB,ZC,ZD,ZE,p1,p2,a0F,hd,if_pos hup]
 | succ d ih =>
  intro j hj fuel
  obtain ⟨o,ho⟩:=a0W (show j < l.length by omega)
  have hd:decide (j < l.length)=true:=decide_eq_true (by omega)
  have q1:=a0G (off:=1) hE (a2T ho)
  have q7:=a0G (off:=7) hE (a2T ho)
  obtain ⟨d1,d7⟩:=dr8 (.int .i64 o.b) (.int .i64 o.w0) (.int .i64 o.w1) (.int .i64 o.w2) (.int .i64 o.w3) (.int .i64 o.w4) (.int .i64 o.w5) (.int .i64 o.v)
  have hv:=hval o (Q6 ho)
  simp only [c1g,W6.pv,oW] at hv
  have hup:=a1y (show j<=1000000000 by omega)
  have ih:=ih (j+1) (by omega) fuel
  rw [a0Q] at ih
  rw [<- ih,show fuel+(d+1)+1=(fuel+d+1)+1 from rfl,Sys.loop,show saleroomlaw16_same_S.loops[1]?=some d2B from rfl]
  simp -implicitDefEqProofs only [Q0,sa2,d2B,↓reduceIte,eq_self,ZF,ZG,ZH,ZI,ZJ,ZK,ZL,ZM,ZN,ZO,ZP,ZQ,ZR,ZS,ZT,ZU,ZV,ZW,ZX,ZY,Z2,Z3,Z4,Z5,Z6,Z7,Z8,Z9,Za,Zb,Zc,Zd,Ze,Zf,Zg,Zh,Nat.reduceAdd,Zi,if_true,if_false,Zl,Zm,Zn,Zo,Zp,Zq,Zr,Zs,Zt,Zu,Zv,Zw,Zx,Zy,Zz,ZA,ZB,ZC,ZD,ZE,p1,p2,a0F,hd,le0,q1,q7,a4z,d1,d7,Nat.reduceLeDiff,hv,a1w,a7s,if_pos hup]
include hlow h g hsl hN hn in
theorem d2W (i:Int):∃ (l:List O8) (X Y:PV),X.rowsOf 8=some (l.map O8.row)/\Y.rowsOf 8=some (l.map O8.row)/\l.length<=40/\a0B Tab n a6v [.ref hb 0,.int .i64 i] σ=some (X,σ)/\a0B Tab n d2z [.ref xb 0,.int .i64 i] σ=some (Y,σ) /\
  ∀ o∈l,a0B Tab n c1g [.ref hb 0,.int .i64 i,.agg (oW o).pv] σ=some (.tup [.int .i64 o.v,.bool true],σ):=by
 have _:=hN
 obtain ⟨hl,hs,h1,_,_⟩:=h.ex
 obtain ⟨hx,k,T,TR,els,g1,_⟩:=g.ex
 by_cases hi:inR kvs i=true
 case neg =>
  have hi:inR kvs i=false:=by simpa using hi
  refine ⟨[],.nilS,.nilS,rfl,rfl,by simp,d2X σ h1 n hlow (by unfold inR at hi; rw [<- h1.len]; exact hi) (by omega),d2T σ g1 n (by unfold inR at hi; rw [<- g1.len]; exact hi) (by omega),by simp⟩
 unfold inR at hi
 rw [Q7,a2n,a0U] at hi
 obtain ⟨j,hj⟩:∃ j:Nat,i=(j:Int):=⟨i.toNat,by omega⟩
 subst hj
 have l1:=h1.len
 have l2:=g1.len
 obtain ⟨kv,hkv⟩:=a0W (show j < kvs.length by omega)
 obtain ⟨x,hx'⟩:=a0W (show j < hs.length by omega)
 obtain ⟨E,hE⟩:=a0W (show j < els.length by omega)
 obtain ⟨kv1,ver,m1,m2,m3,m4⟩:=h1.maps j x hx'
 obtain ⟨kv2,n1,n2,n3,n4⟩:=g1.el j E hE
 rw [hkv] at m1 n1
 simp only [Qj] at m1 n1
 subst m1 n1
 refine ⟨kv.map (kvO j),b2l (j:Int) kv,_,(c2h (j:Int) kv).1,a1v _ _,by simpa using m4,?_,d2U σ g1 n hE n2 (by simp; omega) (by omega),?_⟩
 ·exact c2D σ hlow hb hs h1.bkMs kvs (fun i y hi=>by
   obtain ⟨kv,ver,q1,q2,q3,q4⟩:=h1.maps i y hi
   exact ⟨kv,ver,q1,q2,q3,by omega⟩) n hkv (by omega) (by omega)
 ·intro o ho
  obtain ⟨p,hp,rfl⟩:=List.mem_map.1 ho
  have hw:wl (oW (kvO j p))=p.1:=by rw [c7g]; exact b1I (m3.six p hp)
  have hlk:a0K kv (wl (oW (kvO j p)))=some p.2:=by rw [hw]; exact (Kv.lookQ_some m3.nd).2 hp
  have:=d2Y σ h1 n hx' m2 m3.wide (oW (kvO j p)) (by omega)
  rw [hlk] at this
  exact this
include hlow h g hsl hN hn hB in
theorem d3c:∀ (d:Nat) (i:Int),i+d=(bs.length:Int)+1->-1<=i->∀ fuel,saleroomlaw16_same_S.loop (a0B Tab n) (fuel+42*d+1) 0 (sa1 σ hb xb P B C A i)=some (.bool true,σ):=by
 obtain ⟨b1,b2,b3⟩:=a0C hB
 rw [Q5] at b1
 intro d
 induction d with
 | zero =>
  intro i hi _ fuel
  have hd:leB i (bs.length:Int)=false:=by rw [a3H]; omega
  rw [Sys.loop,show saleroomlaw16_same_S.loops[0]?=some d2A from rfl]
  simp -implicitDefEqProofs only [Q0,sa1,d2A,↓reduceIte,eq_self,ZF,ZG,ZH,ZI,ZJ,ZK,ZL,ZM,ZN,ZO,ZP,ZQ,ZR,ZS,ZT,ZU,ZV,ZW,ZX,ZY,Z2,Z3,Z4,Z5,Z6,Z7,Z8,Z9,Za,Zb,Zc,Zd,Ze,Zf,Zg,Zh,Nat.reduceAdd,Zi,if_true,if_false,Zl,Zm,Zn,Zo,Zp,Zq,Zr,Zs,Zt,Zu,Zv,Zw,Zx,Zy,Zz,ZA,ZB,ZC,ZD,ZE,b1,b2,hd,a0D,or_true]
 | succ d ih =>
  intro i hi hi1 fuel
  obtain ⟨l,X,Y,x1,y1,hl,kx,ky,kv⟩:=d2W hlow n hn bs h g hsl hN i
  have hd:leB i (bs.length:Int)=true:=by rw [a2n]; omega
  have c1:=b9k σ l X Y x1 y1 (by omega) n (by omega)
  obtain ⟨_,_,o1⟩:=a0C x1
  obtain ⟨_,_,o2⟩:=a0C y1
  have k2:=d3f (P:=P) (B:=B) (C:=C) (A:=A) (xb:=xb) n i (by omega) l Y y1 (by omega) kv l.length 0 (by omega) (fuel+(40-l.length)+42*d+1)
  have ih:=ih (i+1) (by omega) (by omega) (fuel+(40-l.length))
  rw [ih] at k2
  simp only [a6v,d2z,a6P] at kx ky c1
  rw [<- k2,show fuel+42*(d+1)+1=(fuel+(40-l.length)+42*d+1+l.length+1)+1 by omega,Sys.loop,show saleroomlaw16_same_S.loops[0]?=some d2A from rfl]
  simp -implicitDefEqProofs only [Q0,sa1,sa2,d2A,↓reduceIte,eq_self,ZF,ZG,ZH,ZI,ZJ,ZK,ZL,ZM,ZN,ZO,ZP,ZQ,ZR,ZS,ZT,ZU,ZV,ZW,ZX,ZY,Z2,Z3,Z4,Z5,Z6,Z7,Z8,Z9,Za,Zb,Zc,Zd,Ze,Zf,Zg,Zh,Nat.reduceAdd,Zi,if_true,if_false,Zl,Zm,Zn,Zo,Zp,Zq,Zr,Zs,Zt,Zu,Zv,Zw,Zx,Zy,Zz,ZA,ZB,ZC,ZD,ZE,b1,b2,hd,kx,ky,c1,o1,o2]
  rfl
include hlow h g hsl hN hn hB oP oC oA in
theorem d3e (hn2:1400<=n):a0B Tab n d2G [.ref hb 0,.ref xb 0,.agg [P,B,C,A]] σ=some (.bool true,σ):=by
 obtain ⟨n,rfl⟩:∃ k,n=k+1:=⟨n-1,by omega⟩
 obtain ⟨b1,b2,b3⟩:=a0C hB
 obtain ⟨X,x1,x2⟩:=d1G hlow n bs h hsl hN (by omega)
 obtain ⟨Y,y1,y2⟩:=d3g n bs g hsl hN (by omega)
 have c1:=b9k σ (a6h 0 kvs) X Y x1 y1 (d1l h.all (by omega)) n (by omega)
 obtain ⟨_,_,o1⟩:=a0C x1
 obtain ⟨_,_,o2⟩:=a0C y1
 obtain ⟨f,hf⟩:∃ f,n=f+42*(bs.length+2)+1:=⟨n-42*(bs.length+2)-1,by omega⟩
 have k:=d3c hlow n (by omega) bs hB h g hsl hN (bs.length+2) (-1) (by omega) (by omega) f
 rw [<- hf] at k
 simp only [a7K,a5p,a6P] at x2 y2 c1
 rw [a0B]
 simp only [d2N,Q0,Sys.run]
 show ((a0E [.sh (.one _),.sh (.one _),.sh (.agg [_,_,_,_])] _).bind _)=_
 have on:∀ x,PV.one (.ref x 0)=true:=fun _=>rfl
 simp -implicitDefEqProofs only [a0E,a0x,a0w,Q9,Q0,Qa,Qb,Qd,if_true,on,oP,b3,oC,oA]
 show (PT.ev _ d2E _).bind _=_
 simp -implicitDefEqProofs only [d2E,↓reduceIte,eq_self,ZF,ZG,ZH,ZI,ZJ,ZK,ZL,ZM,ZN,ZO,ZP,ZQ,ZR,ZS,ZT,ZU,ZV,ZW,ZX,ZY,Z2,Z3,Z4,Z5,Z6,Z7,Z8,Z9,Za,Zb,Zc,Zd,Ze,Zf,Zg,Zh,Nat.reduceAdd,Zi,if_true,if_false,Zl,Zm,Zn,Zo,Zp,Zq,Zr,Zs,Zt,Zu,Zv,Zw,Zx,Zy,Zz,ZA,ZB,ZC,ZD,ZE,x2,y2,c1,o1,o2]
 exact k
end
end Go.Proofs.Ytflcopaopimlpaa
