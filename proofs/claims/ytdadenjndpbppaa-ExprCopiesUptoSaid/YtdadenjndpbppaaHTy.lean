/- TX: a call that only reads: rows under way may be handed to it as slices that nobody writes. -/
import Derived.Test.YtdadenjndpbppaaHTxe
set_option linter.unusedSimpArgs false
set_option linter.unusedVariables false
open Option.some renaming injEq → Q0
open Option renaming bind_eq_some_iff → Q1
open Prod.mk renaming injEq → Q2
open List renaming take_zero → Q3, mem_of_mem_take → Q4, length_take → Q5
namespace Go.Sx
open Go.RowKit
mutual
def PV.plain:PV->Bool
 | .int .. | .bool .. | .str .. | .undef | .nilS | .nilF | .nilP | .nilI | .nilM=>true
 | .agg l=>PV.plains l
 | .tup l=>PV.plains l
 | _=>false
def PV.plains:List PV->Bool
 | []=>true
 | p::l=>p.plain&&PV.plains l
end
mutual
theorem b0B {s t:Hp} {B C:Inf}:∀ (p:PV) (v:Value),p.plain=true->Rep s B p v->Rep t C p v
 | .int ..,_,_,h=>h
 | .bool ..,_,_,h=>h
 | .str ..,_,_,h=>h
 | .undef,_,_,h=>h
 | .nilS,_,_,h=>h
 | .nilF,_,_,h=>h
 | .nilP,_,_,h=>h
 | .nilI,_,_,h=>h
 | .nilM,_,_,h=>h
 | .agg l,v,hp,h=>by
  simp only [PV.plain] at hp
  simp only [Rep] at h ⊢
  obtain ⟨vs,h1,h2⟩:=h
  exact ⟨vs,h1,a6K l vs hp h2⟩
 | .tup l,v,hp,h=>by
  simp only [PV.plain] at hp
  simp only [Rep] at h ⊢
  obtain ⟨vs,h1,h2⟩:=h
  exact ⟨vs,h1,a6K l vs hp h2⟩
theorem a6K {s t:Hp} {B C:Inf}:∀ (l:List PV) (vs:List Value),PV.plains l=true->Reps s B l vs->Reps t C l vs
 | [],_,_,h=>h
 | p::l,vs,hp,h=>by
  simp only [PV.plains,Bool.and_eq_true] at hp
  simp only [Reps] at h ⊢
  obtain ⟨v,r,h1,h2,h3⟩:=h
  exact ⟨v,r,h1,b0B p v hp.1 h2,a6K l r hp.2 h3⟩
end
def b3N (σ:List MO):PV->Option PV
 | .rsl h len sz=>(σ[h]?).bind fun o=>(o.elts len sz).bind fun rows=>if PV.lowss 0 rows then some (.sl sz rows) else none
 | .rpl h len r sz=>(σ[h]?).bind fun o=>(o.elts r sz).bind fun rows=>if PV.lowss 0 rows then some (.sl sz (rows.take len)) else none
 | p=>if p.low 0 then some p else none
def a6n (σ:List MO):List PV->Option (List PV)
 | []=>some []
 | p::l=>(b3N σ p).bind fun q=>(a6n σ l).map (q::·)
theorem b0x {s:Hp} {B:Inf} {σ:List MO} {m:MS} {w:World} (hm:a0G s B σ m) (hok:MOk s m w) {h len sz:Nat} {o:MO} {rows:List (List PV)} (ho:σ[h]?=some o) (he:o.elts len sz=some rows) :
  ∃ b cur T xs,m[h]?=some (b,.cells cur T (0,0))/\rows.length=len/\a1m o (b,.cells cur T (0,0))=(b,cur.size,len)/\a0F s B rows xs/\(∀ r∈rows,∀ p∈r,p.one=true)/\(∀ x∈xs,x.length=sz)/\(∀ (i:Nat) x,xs[i]?=some x->∀ (j:Nat) u,x[j]?=some u->hpOf w b (0+i*sz+j)=some u):=by
 cases o<;>simp only [MO.elts,reduceCtorEq] at he
 rename_i rows' sz' T
 split at he
 case isFalse=>cases he
 rename_i hc
 obtain ⟨rfl,rfl⟩:=hc
 simp only [Q0] at he; subst he
 obtain ⟨⟨b,ob⟩,h1,cur,h2,a1,a2,a3,a4,xs,a5,a6,a7⟩:=hm.obj ho
 simp only at h2; subst h2
 refine ⟨b,cur,T,xs,h1,rfl,rfl,a5,a4,a6,fun i x hi j u hj=>?_⟩
 have hcell:=hok.is _ (List.mem_of_getElem? h1)
 simp only at hcell
 have:=a7 _ u (a3O _ xs a6 i x j u hi hj)
 simp only [hpOf,World.cell?,hcell,Nat.zero_add,Option.isSome_none,Bool.false_eq_true,if_false]
 exact this
theorem b5b {s:Hp} {B:Inf} {w:World} (hs:Sub s w) {p:PV} {v:Value} (h:Rep s B p v) (hl:p.low 0=true):Rep (hpOf w) [] p v:=by
 have:=PV.low_rep (k:=0) p v h hl
 rw [Q3] at this
 exact Rep.mono (fun b o u hu=>hs b o u hu) (BLe.refl _) p v this
theorem a8T {s:Hp} {B:Inf} {w:World} (hs:Sub s w) {rows:List (List PV)} {xs:List (List Value)} (h:a0F s B rows xs) (hl:PV.lowss 0 rows=true):a0F (hpOf w) [] rows xs:=by
 have:=PV.lowss_rep (k:=0) rows xs h hl
 rw [Q3] at this
 exact a0F.mono (fun b o u hu=>hs b o u hu) (BLe.refl _) rows xs this
theorem b4m {s:Hp} {σ:List MO} {m:MS} {w:World} (hs:Sub s w) (hok:MOk s m w) (hm:a0G s (inf σ m) σ m) {p q:PV} {v:Value} (h:Rep s (inf σ m) p v) (hq:b3N σ p=some q):Rep (hpOf w) [] q v:=by
 have other:(if p.low 0 then some p else none)=some q->Rep (hpOf w) [] q v:=fun hq=>by
  split at hq
  ·rename_i hl
   simp only [Q0] at hq; subst hq
   exact b5b hs h hl
  ·cases hq
 cases p<;>simp only [b3N] at hq
 case rsl hd len sz =>
  simp only [Q1] at hq
  obtain ⟨o,ho,rows,he,hq⟩:=hq
  split at hq
  case isFalse=>cases hq
  rename_i hl
  simp only [Q0] at hq; subst hq
  obtain ⟨b,cur,T,xs,h1,h2,h3,h4,h5,h6,h7⟩:=b0x hm hok ho he
  have hI:=a1e ho h1
  simp only [Rep] at h ⊢
  obtain ⟨h0,b1,cap,rfl,b',n,r,k1,k2,k3⟩:=h
  rw [hI,h3] at k1
  simp only [Q0,Q2] at k1
  obtain ⟨rfl,rfl,rfl⟩:=k1
  obtain ⟨rfl,_,hcap⟩:=k3 rfl
  have hlx:=h4.length
  exact ⟨xs,⟨h6,some ⟨b,0,none⟩,cap,by rw [hlx,h2],by rw [hlx,h2]; exact hcap,fun _=>⟨b,0,rfl,h7⟩⟩,a8T hs h4 hl,h5⟩
 case rpl hd len r0 sz =>
  simp only [Q1] at hq
  obtain ⟨o,ho,rows,he,hq⟩:=hq
  split at hq
  case isFalse=>cases hq
  rename_i hl
  simp only [Q0] at hq; subst hq
  obtain ⟨b,cur,T,xs,h1,h2,h3,h4,h5,h6,h7⟩:=b0x hm hok ho he
  have hI:=a1e ho h1
  simp only [Rep] at h ⊢
  obtain ⟨h0,hlr,b1,cap,rfl,b',n,r,k1,k2,k3⟩:=h
  rw [hI,h3] at k1
  simp only [Q0,Q2] at k1
  obtain ⟨rfl,rfl,rfl⟩:=k1
  obtain ⟨rfl,_,hcap⟩:=k3 rfl
  have hlx:=h4.length
  refine ⟨xs.take len,⟨fun x hx=>h6 x (Q4 hx),some ⟨b,0,none⟩,cap,by rw [Q5,hlx,h2,Nat.min_eq_left hlr],by rw [Q5,hlx]; omega,fun _=>⟨b,0,rfl,fun i x hi j u hj=>?_⟩⟩,(a8T hs h4 hl).take len,fun r hr=>h5 r (Q4 hr)⟩
  have hi':xs[i]?=some x:=by
   rw [List.getElem?_take] at hi
   split at hi
   ·exact hi
   ·cases hi
  exact h7 i x hi' j u hj
 all_goals exact other hq
theorem a9b {s:Hp} {σ:List MO} {m:MS} {w:World} (hs:Sub s w) (hok:MOk s m w) (hm:a0G s (inf σ m) σ m):∀ {l q:List PV} {vs:List Value},Reps s (inf σ m) l vs->a6n σ l=some q->Reps (hpOf w) [] q vs
 | [],q,vs,h,hq=>by simp only [a6n,Q0] at hq; subst hq; exact h
 | p::l,q,vs,h,hq=>by
  simp only [a6n,Q1,Option.map_eq_some_iff] at hq
  obtain ⟨p',h1,l',h2,rfl⟩:=hq
  simp only [Reps] at h ⊢
  obtain ⟨v,r,h3,h4,h5⟩:=h
  exact ⟨v,r,h3,b4m hs hok hm h4 h1,a9b hs hok hm h5 h2⟩
def b1p (F:List PV->List MO->Option (PV × List MO)) (aa:List PV) (σ:List MO):Option (PV × List MO) :=
 (a6n σ aa).bind fun aa'=>match F aa' [] with
  | some (r,[])=>if r.plain=true then some (r,σ) else none
  | _=>none
theorem b5O {P:Program} {f:Nat} {F:List PV->List MO->Option (PV × List MO)} (hF:CtP P f F):CtP P f (b1p F):=by
 intro aa σ r σ' h
 unfold b1p at h
 rw [Q1] at h
 obtain ⟨aa',ha,h⟩:=h
 split at h
 case h_2=>cases h
 rename_i r0 hr
 split at h
 case isFalse=>cases h
 rename_i hp
 simp only [Q0,Q2] at h
 obtain ⟨rfl,rfl⟩:=h
 refine ⟨(hF _ _ _ _ hr).1,fun s m vs hm hcoh hv w hs hok=>?_⟩
 have hrep:=a9b hs hok hm hv ha
 have hc:=(hF _ _ _ _ hr).2 (hpOf w) [] vs rfl (Coh.of_none (by simp)) hrep w (b1E w) ⟨by simp [a0J],by simp,by simp⟩
 refine hc.mono ?_
 rintro e w' ⟨v,s',m',he,hg,hle,hsub,hnew,hpos,hmok,hq⟩
 refine ⟨v,s,m,he,⟨hg.os,hg.tape,hg.output,hg.size,fun k hk _=>hg.block k hk (by simp [a0J])⟩,Hp.le_refl s,fun b o u hu=>hsub b o u (hle b o u (hs b o u hu)),(fun b o u h1 h2=>by rw [h1] at h2; cases h2),⟨Nat.le_refl _,fun i x hx=>.inl ⟨x,hx,rfl⟩⟩,⟨hok.nd,fun x hx=>?_,hok.un⟩,Le2.refl _ _,?_,hm,hcoh⟩
 ·have h1:=hok.is x hx
  rw [hg.block x.1 (Array.getElem?_eq_some_iff.1 h1).1 (by simp [a0J])]
  exact h1
 ·exact b0B r0 v hp hq.2.1
end Go.Sx
