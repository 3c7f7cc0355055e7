/- TX: records of eight int64s in the order of their bundles; sorted, plain. -/
import Derived.Test.YtggjcdnailppoaaHTxe
import Derived.Shelf.SlSortCmp.NoneTotal
import Derived.Lib.SliceRun
import Derived.Deep.RegionLaw
set_option linter.unusedSimpArgs false
set_option linter.unusedVariables false
open Option.some renaming injEq → Q0
open List renaming mem_map → Q1, mem_of_getElem? → Q4, getElem?_append_left → Q5, length_cons → Q6, getElem?_eq_some_iff → Q7, getElem?_append_right → Q9, map_cons → Qa, getElem?_set → Qb, length_take → Qd, length_map → Qe, mem_append → Qf, flatten_append → Qh, mem_singleton → Qk, length_append → Qp, not_mem_nil → Qq, length_nil → Qr, ext_getElem? → Qt, length_drop → Qu, take_append_drop → Qv, map_append → Qw, mem_of_mem_drop → Qy, getElem?_eq_getElem → QA, getElem?_take → QB, take_zero → QC, mem_of_mem_take → QD
open Option renaming bind_eq_some_iff → Q2, map_some → Qm, map_eq_some_iff → Qn
open Prod.mk renaming injEq → Q3
open Array renaming getElem?_eq_some_iff → Q8, getElem?_modify → Qs
open Nat renaming min_eq_left → Qg, le_refl → Qj
open Int renaming toNat_natCast → Qz
namespace Go.Sx
structure O8 where
 (b w0 w1 w2 w3 w4 w5 v:Int)
 deriving DecidableEq,Inhabited
def O8.w (x:O8):List Int:=[x.w0,x.w1,x.w2,x.w3,x.w4,x.w5]
def O8.row (x:O8):List PV:=[.int .i64 x.b,.int .i64 x.w0,.int .i64 x.w1,.int .i64 x.w2,.int .i64 x.w3,.int .i64 x.w4,.int .i64 x.w5,.int .i64 x.v]
def O8.enc (x:O8):List Value:=[.int .i64 x.b,.int .i64 x.w0,.int .i64 x.w1,.int .i64 x.w2,.int .i64 x.w3,.int .i64 x.w4,.int .i64 x.w5,.int .i64 x.v]
def b6p:List PV->Option O8
 | [.int .i64 b,.int .i64 w0,.int .i64 w1,.int .i64 w2,.int .i64 w3,.int .i64 w4,.int .i64 w5,.int .i64 v]=>some ⟨b,w0,w1,w2,w3,w4,w5,v⟩
 | _=>none
theorem b8b (x:O8):b6p x.row=some x:=rfl
theorem b7w {r:List PV} {x:O8} (h:b6p r=some x):r=x.row:=by
 unfold b6p at h
 split at h
 ·simp only [Q0] at h; subst h; rfl
 ·cases h
def a5g:List (List PV)->Option (List O8)
 | []=>some []
 | r::l=>(b6p r).bind fun x=>(a5g l).map (x::·)
theorem b3P:∀ l:List O8,a5g (l.map O8.row)=some l
 | []=>rfl
 | x::l=>by simp only [Qa,a5g,b8b,b3P l,Option.bind_some,Qm]
theorem a8Y:∀ {rows:List (List PV)} {l:List O8},a5g rows=some l->rows=l.map O8.row
 | [],l,h=>by simp only [a5g,Q0] at h; subst h; rfl
 | r::rows,l,h=>by
  simp only [a5g,Q2,Qn] at h
  obtain ⟨x,h1,l',h2,rfl⟩:=h
  rw [b7w h1,a8Y h2]; rfl
end Go.Sx
namespace Go.Sx
open Go.RowKit Go.Shelf
theorem b8F {s:Hp} {B:Inf} {x:O8} {vs:List Value} (h:Reps s B x.row vs):vs=x.enc:=by
 simp only [O8.row,Reps,Rep] at h
 obtain ⟨v0,_,rfl,rfl,v1,_,rfl,rfl,v2,_,rfl,rfl,v3,_,rfl,rfl,v4,_,rfl,rfl,v5,_,rfl,rfl,v6,_,rfl,rfl,v7,_,rfl,rfl,rfl⟩:=h
 rfl
theorem b8e {s:Hp} {B:Inf} (x:O8):Reps s B x.row x.enc:=by
 simp only [O8.row,O8.enc,Reps,Rep]
 exact ⟨_,_,rfl,rfl,_,_,rfl,rfl,_,_,rfl,rfl,_,_,rfl,rfl,_,_,rfl,rfl,_,_,rfl,rfl,_,_,rfl,rfl,_,_,rfl,rfl,rfl⟩
theorem a9v {s:Hp} {B:Inf}:∀ {l:List O8} {xs:List (List Value)},a0F s B (l.map O8.row) xs->xs=l.map O8.enc
 | [],xs,h=>h
 | x::l,xs,h=>by
  simp only [Qa,a0F] at h
  obtain ⟨y,r,rfl,h1,h2⟩:=h
  rw [b8F h1,a9v h2]; rfl
theorem a9l {s:Hp} {B:Inf}:∀ (l:List O8),a0F s B (l.map O8.row) (l.map O8.enc)
 | []=>rfl
 | x::l=>⟨_,_,rfl,b8e x,a9l l⟩
theorem a8l (x:O8):(O8.enc x).length=8:=rfl
theorem a1I (l:List O8):(l.map O8.enc).flatten.length=l.length*8:=by
 induction l with
 | nil=>rfl
 | cons x l ih=>simp only [Qa,List.flatten_cons,Qp,ih,a8l,Q6]; omega
theorem b3h:∀ x:O8,∀ v∈O8.enc x,v.oneCell'=true:=by
 intro x v hv
 simp only [O8.enc,List.mem_cons,Qq,or_false] at hv
 rcases hv with rfl | rfl | rfl | rfl | rfl | rfl | rfl | rfl<;>rfl
theorem b5K:∀ (l:List O8),∀ r∈l.map O8.row,∀ p∈r,p.one=true:=by
 intro l r hr p hp
 obtain ⟨x,_,rfl⟩:=Q1.1 hr
 simp only [O8.row,List.mem_cons,Qq,or_false] at hp
 rcases hp with rfl | rfl | rfl | rfl | rfl | rfl | rfl | rfl<;>rfl
section
variable {P:Program} {ρ:Ren}
end
end Go.Sx
namespace Go.Sx
open Go.RowKit Go.Shelf
def a6N (cur:Array Value):Nat->List Value->Array Value
 | _,[]=>cur
 | o,v::r=>a6N (cur.setIfInBounds o v) (o+1) r
theorem a5b:∀ (vs:List Value) (o:Nat) (cur:Array Value),(a6N cur o vs).size=cur.size
 | [],_,_=>rfl
 | v::r,o,cur=>by rw [a6N,a5b r]; simp
theorem b1q:∀ (vs:List Value) (o:Nat) (cur:Array Value) (j:Nat),o+vs.length<=cur.size->(a6N cur o vs)[j]?=if o<=j/\j < o+vs.length then vs[j-o]? else cur[j]?
 | [],o,cur,j,_=>by rw [a6N,if_neg (by rw [Qr]; omega)]
 | v::r,o,cur,j,h=>by
  rw [Q6] at h
  rw [a6N,b1q r (o+1) _ j (by simp; omega)]
  by_cases h1:o+1<=j/\j < o+1+r.length
  ·rw [if_pos h1,if_pos (by rw [Q6]; omega),show j-o=(j-(o+1))+1 by omega,List.getElem?_cons_succ]
  ·rw [if_neg h1]
   by_cases h2:j=o
   ·subst h2
    rw [if_pos (by rw [Q6]; omega),Nat.sub_self,List.getElem?_cons_zero,Array.getElem?_setIfInBounds_self_of_lt (by omega)]
   ·rw [if_neg (by rw [Q6]; omega),Array.getElem?_setIfInBounds_ne (fun h=>h2 h.symm)]
theorem a5E (b:Nat):∀ (vs:List Value) (o T:Nat) (r:Nat × Nat) (cur:Array Value) (w:World),w.heap[b]?=some (.cells cur T r)->(w.setCells b o vs).heap[b]?=some (.cells (a6N cur o vs) T r)
 | [],_,_,_,_,_,h=>h
 | v::l,o,T,r,cur,w,h=>by
  rw [World.setCells,a6N]
  refine a5E b l (o+1) T r _ _ ?_
  simp only [World.setCell,Qs,if_true,h,Qm]
  rfl
theorem a5F (b:Nat):∀ (vs:List Value) (o:Nat) (w:World) (k:Nat),k≠b->(w.setCells b o vs).heap[k]?=w.heap[k]?
 | [],_,_,_,_=>rfl
 | v::l,o,w,k,h=>by
  rw [World.setCells,a5F b l (o+1) _ k h]
  simp only [World.setCell,Qs]
  rw [if_neg (Ne.symm h)]
theorem a6e (b:Nat):∀ (vs:List Value) (o:Nat) (w:World),(w.setCells b o vs).heap.size=w.heap.size
 | [],_,_=>rfl
 | v::l,o,w=>by rw [World.setCells,a6e b l (o+1)]; simp [World.setCell]
theorem a6f (b:Nat):∀ (vs:List Value) (o:Nat) (w:World),(w.setCells b o vs).os=w.os/\(w.setCells b o vs).tape=w.tape/\(w.setCells b o vs).output=w.output
 | [],_,_=>⟨rfl,rfl,rfl⟩
 | v::l,o,w=>by rw [World.setCells]; exact a6f b l (o+1) _
theorem b5z {P:Program} (w:World) (t e ty:TypeId) (z:Value) (zs:List Value) (ht:P.underlying t=some (.slice e)) (hv:∀ w,(zeroValue e).run P w=.ok z w) (hz:z.cells=zs.toArray) (h1:∀ v∈zs,v.oneCell'=true) (b o n c:Nat) (hn:0 < n)
  (hc:∀ j,j < n*zs.length->(w.cell? ⟨b,o+j,none⟩).isSome=true) (hf:∀ j,j < n*zs.length->w.frozen? ⟨b,o+j,none⟩=false) :
  (Builtin.clear_ #[t] ty #[.slice (some ⟨b,o,none⟩) n c]).run P w=.ok (.tuple #[]) (w.setCells b o (Builtin.zeroCells z.cells n).toList):=by
 have hlen:(Builtin.zeroCells z.cells n).toList.length=n*zs.length:=by simp [Builtin.zeroCells,hz]
 have hmem:∀ v∈(Builtin.zeroCells z.cells n).toList,v.oneCell'=true:=by
  intro v hm
  simp only [Builtin.zeroCells,Array.toList_map,Q1,Array.mem_toList_iff,Array.mem_range] at hm
  obtain ⟨i,hi,rfl⟩:=hm
  rw [hz] at hi ⊢
  have hpos:0 < zs.length:=by
   rcases Nat.eq_zero_or_pos zs.length with h | h
   ·simp [h] at hi
   ·exact h
  have hlt:i % zs.length < zs.length:=Nat.mod_lt _ hpos
  rw [List.size_toArray,getElem!_pos zs.toArray _ (by simpa using hlt)]
  exact h1 _ (by simp)
 have hst:=run_storeCells_cells (P:=P) b o (Builtin.zeroCells z.cells n).toList 0 w (by rw [hlen]; simpa using hc) (by rw [hlen]; simpa using hf) hmem
 simp only [Nat.add_zero] at hst
 obtain ⟨m,rfl⟩:∃ m,n=m+1:=⟨n-1,by omega⟩
 simp [Builtin.clear_,run_underlying ht,hv,hst]
theorem b8d {P:Program} {f:FuncId} {args:Array Value} {s:Hp} {σ:List MO} {m:MS} {w:World} (hm:a0G s (inf σ m) σ m) (hcoh:Coh σ m) (hs:Sub s w) (hok:MOk s m w) {h T b sz:Nat} {rows rows':List (List PV)} {cur cur':Array Value}
  (h0:σ[h]?=some (.row rows sz T)) (h1:m[h]?=some (b,.cells cur T (0,0))) (hlen:rows'.length=rows.length) (hsz:cur'.size=cur.size) (hone:∀ r∈rows',∀ p∈r,p.one=true)
  {xs:List (List Value)} (hx:a0F s (inf σ m) rows' xs) (hx8:∀ x∈xs,x.length=sz) (hxc:∀ (j:Nat) (u:Value),xs.flatten[j]?=some u->cur'[j]?=some u) {r:PV} {v:Value} (hr:Rep s (inf σ m) r v)
  (hcall:Calls P f args w fun e w'=>e=.returned v/\w'.os=w.os/\w'.tape=w.tape/\w'.output=w.output/\w.heap.size<=w'.heap.size/\w'.heap[b]?=some (.cells cur' T (0,0))/\∀ k,k < w.heap.size->k≠b->w'.heap[k]?=w.heap[k]?) :
  Calls P f args w (Ret (QF σ m r (σ.set h (.row rows' sz T))) s m w):=by
 obtain ⟨x0,g1,cur0,g2,a1,a2,⟨cap0,a31,a32,a33⟩,a4,xs0,a5,a6,a7⟩:=hm.obj h0
 rw [h1] at g1
 simp only [Q0] at g1; subst g1
 simp only [Obj.cells.injEq] at g2
 obtain ⟨rfl,_⟩:=g2
 have hb:=hok.is _ (Q4 h1)
 simp only at hb
 refine hcall.mono ?_
 rintro e w' ⟨rfl,w1,w2,w3,w4,w5,w6⟩
 have hhl:=(Q7.1 h0).1
 have hml:=hm.length
 have hbl:a0I (m.set h (b,Obj.cells cur' T (0,0)))=a0I m:=by
  unfold a0I
  rw [List.map_set]
  apply Qt
  intro i
  rw [Qb]
  split
  ·rename_i he; subst he
   rw [if_pos (by simpa using (by omega:h < m.length)),List.getElem?_map,h1]; rfl
  ·rfl
 have hrep:EnvRep s { i:=[],b:=[],v:=[],m:=σ,k:=0 } { i:=[],b:=[],v:=[],j:=[],m:=m,k:=0 }:=⟨rfl,rfl,rfl,hm,rfl,by simp,hcoh⟩
 have hobj:a2a s (inf σ m) (.row rows' sz T) (b,.cells cur' T (0,0)):=by
  refine ⟨_,rfl,?_,by omega,⟨cap0,by rw [hsz]; exact a31,by omega,a33⟩,hone,xs,hx,hx8,hxc⟩
  intro he
  rw [he,Qr] at hlen
  exact a1 (List.length_eq_zero_iff.1 hlen.symm)
 have hI:a1i (.row rows' sz T) (b,Obj.cells cur' T (0,0))=a1i (.row rows sz T) (b,Obj.cells cur T (0,0)):=by
  simp only [a1i,a1D,hsz,hlen]
 obtain ⟨hle,he⟩:=hrep.setM h0 h1 hobj (.inl hI)
 have hinf:inf (σ.set h (.row rows' sz T)) (m.set h (b,.cells cur' T (0,0)))=inf σ m:=by
  apply Qt
  intro i
  simp only [inf,List.getElem?_zipWith,Qb]
  by_cases hi:h=i
  ·subst hi
   simp only [if_true]
   rw [if_pos hhl,if_pos (by omega:h < m.length),h0,h1]
   simp only [hI]
  ·simp only [if_neg hi]
 refine ⟨v,s,_,rfl,⟨w1,w2,w3,w4,fun k hk hn=>w6 k hk (fun hkb=>hn (by rw [hkb]; exact Q1.2 ⟨_,Q4 h1,rfl⟩))⟩,Hp.le_refl s,?_,(fun b o u h1 h2=>by rw [h1] at h2; cases h2),⟨by simp,?_⟩,⟨by rw [hbl]; exact hok.nd,?_,?_⟩,hle,?_,he.m,he.coh⟩
 ·intro b2 o u hu
  have hc:=hs b2 o u hu
  have hne:b2≠b:=by
   rintro rfl
   rw [hok.un _ (Q4 h1) o] at hu; cases hu
  have hlt2:b2 < w.heap.size:=by
   simp only [World.cell?] at hc
   cases hh:w.heap[b2]? with
   | none=>rw [hh] at hc; cases hc
   | some _=>exact (Q8.1 hh).1
  have hk:=w6 b2 hlt2 hne
  simp only [World.cell?,hk]
  exact hc
 ·intro i x hx
  rw [Qb] at hx
  split at hx
  ·rename_i he; subst he
   split at hx
   ·simp only [Q0] at hx; subst hx
    exact .inl ⟨_,h1,rfl⟩
   ·cases hx
  ·exact .inl ⟨x,hx,rfl⟩
 ·intro x hx
  obtain ⟨i,hi⟩:=List.mem_iff_getElem?.1 hx
  rw [Qb] at hi
  split at hi
  ·split at hi
   ·simp only [Q0] at hi; subst hi
    exact w5
   ·cases hi
  ·rename_i hne
   have hin:=hok.is x (Q4 hi)
   rw [w6 _ (Q8.1 hin).1 (fun hxb=>hne ?_)]
   ·exact hin
   ·have e1:(a0I m)[i]?=some b:=by simp [a0I,hi,hxb]
    have e2:(a0I m)[h]?=some b:=by simp [a0I,h1]
    exact (List.getElem?_inj (Q7.1 e2).1 hok.nd).1 (e2.trans e1.symm)
 ·intro x hx o
  have:x.1∈a0I m:=by rw [<- hbl]; exact Q1.2 ⟨x,hx,rfl⟩
  obtain ⟨y,hy,he⟩:=Q1.1 this
  rw [<- he]; exact hok.un y hy o
 ·have:Rep s (inf (σ.set h (.row rows' sz T)) (m.set h (b,.cells cur' T (0,0)))) r v:=by rw [hinf]; exact hr
  exact this
def O8.zero:O8:=⟨0,0,0,0,0,0,0,0⟩
def a4C (l:List O8) (i:Nat):List O8:=l.take i++l.drop (i+1)++[O8.zero]
def delF:List PV->List MO->Option (PV × List MO)
 | [.rsl h len sz,.int .i64 i,.int .i64 j],σ=>match σ[h]? with
  | some (.row rows sz' T)=>(a5g rows).bind fun l=>if rows.length=len/\sz=8/\sz'=8/\0<=i/\i < (len:Int)/\j=i+1/\len<=1000000 then some (.rpl h (len-1) len 8,σ.set h (.row ((a4C l i.toNat).map O8.row) 8 T)) else none
  | _=>none
 | [.rpl h len r sz,.int .i64 i,.int .i64 j],σ=>match σ[h]? with
  | some (.row rows sz' T)=>(a5g (rows.take len)).bind fun l=>if rows.length=r/\len<=r/\sz=8/\sz'=8/\0<=i/\i < (len:Int)/\j=i+1/\len<=1000000 then some (.rpl h (len-1) r 8,σ.set h (.row ((a4C l i.toNat).map O8.row++rows.drop len) 8 T)) else none
  | _=>none
 | _,_=>none
def b3d (cur:Array Value) (l:List O8) (i:Nat):Array Value:=a6N (a6N cur (i*8) ((l.drop (i+1)).map O8.enc).flatten) ((l.length-1)*8) (O8.enc O8.zero)
theorem b4v {l:List O8} {i:Nat} (h:i < l.length):(a4C l i).length=l.length:=by simp [a4C]; omega
theorem b7k (cur:Array Value) (l:List O8) (i:Nat):(b3d cur l i).size=cur.size:=by rw [b3d,a5b,a5b]
theorem b8k {cur:Array Value} {l:List O8} {i:Nat} (hi:i < l.length) (hsz:l.length*8<=cur.size) {R:List Value} (hcur:∀ (j:Nat) (u:Value),((l.map O8.enc).flatten++R)[j]?=some u->cur[j]?=some u) :
  ∀ (j:Nat) (u:Value),(((a4C l i).map O8.enc).flatten++R)[j]?=some u->(b3d cur l i)[j]?=some u:=by
 intro j u hj
 have lb:((l.drop (i+1)).map O8.enc).flatten.length=(l.length-1-i)*8:=by rw [a1I,Qu,show l.length-(i+1)=l.length-1-i by omega]
 have la:((l.take i).map O8.enc).flatten.length=i*8:=by rw [a1I,Qd,Qg (by omega)]
 have lz:(O8.enc O8.zero).length=8:=rfl
 have e1:((a4C l i).map O8.enc).flatten++R=((l.take i).map O8.enc).flatten++(((l.drop (i+1)).map O8.enc).flatten++(O8.enc O8.zero++R)):=by simp [a4C]
 rw [e1] at hj
 rw [b3d,b1q _ _ _ _ (by rw [a5b,lz]; omega),b1q _ _ _ _ (by rw [lb]; omega),lb,lz]
 by_cases j1:j < i*8
 ·rw [Q5 (by omega)] at hj
  rw [if_neg (by omega),if_neg (by omega)]
  apply hcur
  rw [show l=l.take i++l.drop i from (Qv i l).symm,Qw,Qh,List.append_assoc,Q5 (by rw [la]; exact j1)]
  exact hj
 rw [Q9 (by omega),la] at hj
 by_cases j2:j < (l.length-1)*8
 ·rw [Q5 (by rw [lb]; omega)] at hj
  rw [if_neg (by omega),if_pos (by omega)]
  exact hj
 rw [Q9 (by rw [lb]; omega),lb] at hj
 by_cases j3:j < l.length*8
 ·rw [Q5 (by rw [lz]; omega)] at hj
  rw [if_pos (by omega),show j-(l.length-1)*8=j-i*8-(l.length-1-i)*8 by omega]
  exact hj
 ·rw [Q9 (by rw [lz]; omega),lz] at hj
  rw [if_neg (by omega),if_neg (by omega)]
  apply hcur
  rw [Q9 (by rw [a1I]; omega),a1I,show j-l.length*8=j-i*8-(l.length-1-i)*8-8 by omega]
  exact hj
def b1N (P:Program) (f:FuncId):Prop :=
 ∀ (w:World) (b T cap:Nat) (cur:Array Value) (l:List O8) (i:Nat),w.heap[b]?=some (.cells cur T (0,0))->(∀ (j:Nat) (u:Value),(l.map O8.enc).flatten[j]?=some u->cur[j]?=some u)->cur.size=cap*8->i < l.length->l.length<=cap->cap<=maxLen->l.length<=1000000 ->
  Calls P f #[.slice (some ⟨b,0,none⟩) l.length cap,.int .i64 i,.int .i64 ((i:Int)+1)] w fun e w'=>e=.returned (.slice (some ⟨b,0,none⟩) (l.length-1) cap)/\w'.os=w.os/\w'.tape=w.tape/\w'.output=w.output/\w.heap.size<=w'.heap.size/\w'.heap[b]?=some (.cells (b3d cur l i) T (0,0))/\∀ k,k < w.heap.size->k≠b->w'.heap[k]?=w.heap[k]?
theorem b4M {P:Program} {f:FuncId} (hD:b1N P f) {s:Hp} {σ:List MO} {m:MS} {w:World} (hm:a0G s (inf σ m) σ m) (hcoh:Coh σ m) (hs:Sub s w) (hok:MOk s m w) {h T len b cap:Nat} {rows:List (List PV)} {cur:Array Value} {l:List O8} {i:Nat}
  (h0:σ[h]?=some (.row rows 8 T)) (h1:m[h]?=some (b,.cells cur T (0,0))) (hlen:len<=rows.length) (hl:a5g (rows.take len)=some l) (hi:i < len) (hsz:len<=1000000) (hcap:cur.size=cap*8) (hlc:rows.length<=cap) :
  Calls P f #[.slice (some ⟨b,0,none⟩) len cap,.int .i64 i,.int .i64 ((i:Int)+1)] w (Ret (QF σ m (.rpl h (len-1) rows.length 8) (σ.set h (.row ((a4C l i).map O8.row++rows.drop len) 8 T))) s m w):=by
 have hrows:=a8Y hl
 have hll:l.length=len:=by
  have:=congrArg List.length hrows
  rw [Qd,Qe,Qg hlen] at this
  exact this.symm
 obtain ⟨x0,g1,cur0,g2,a1,a2,⟨cap0,a31,a32,a33⟩,a4,xs,a5,a6,a7⟩:=hm.obj h0
 rw [h1] at g1
 simp only [Q0] at g1; subst g1
 simp only [Obj.cells.injEq] at g2
 obtain ⟨rfl,_⟩:=g2
 have hcc:cap=cap0:=by omega
 subst hcc
 have hxl:xs.length=rows.length:=a5.length
 have hx1:xs.take len=l.map O8.enc:=by
  have:=a5.take len
  rw [hrows] at this
  exact a9v this
 have hb:=hok.is _ (Q4 h1)
 simp only at hb
 have hsplit:xs.flatten=(l.map O8.enc).flatten++(xs.drop len).flatten:=by
  rw [<- hx1,<- Qh,Qv]
 have hdl:=b4v (l:=l) (i:=i) (by omega)
 have hI:=a1b h0 h1
 have hcall:=hD w b T cap cur l i hb (fun j u hj=>by
  apply a7 j u
  rw [hsplit,Q5 (Q7.1 hj).1]
  exact hj) hcap (by omega) (by omega) a33 (by omega)
 rw [hll] at hcall
 refine b8d hm hcoh hs hok h0 h1 ?_ (b7k cur l i) ?_ (xs:=(a4C l i).map O8.enc++xs.drop len) ((a9l _).append (a5.drop len)) ?_ ?_ ?_ hcall
 ·rw [Qp,Qe,Qu]; omega
 ·intro r hr
  rcases Qf.1 hr with hr | hr
  ·exact b5K _ r hr
  ·exact a4 r (Qy hr)
 ·intro x hx
  rcases Qf.1 hx with hx | hx
  ·obtain ⟨y,_,rfl⟩:=Q1.1 hx; rfl
  ·exact a6 x (Qy hx)
 ·intro j u hj
  rw [Qh] at hj
  exact b8k (by omega) (by rw [hcap]; exact Nat.mul_le_mul_right _ (by omega)) (fun j u hj=>by apply a7 j u; rw [hsplit]; exact hj) j u hj
 ·simp only [Rep]
  exact ⟨by omega,by omega,b,cap,rfl,_,_,_,hI,Qj _,fun _=>⟨rfl,by simp only [a1D]; exact hcap,hlc⟩⟩
theorem b9U {P:Program} {f:FuncId} (hD:b1N P f) (ef:∀ args w,(callFunc f args).run P w=.ok (.enter f args) w):CtP P f delF:=by
 intro aa σ r σ' h
 refine ⟨ef,fun s m vs hm hcoh hv w hs hok=>?_⟩
 unfold delF at h
 split at h
 ·rename_i σ0 hd len sz i j
  split at h
  case h_2=>cases h
  rename_i rows sz' T h0
  rw [Q2] at h
  obtain ⟨l,hl,h⟩:=h
  split at h
  case isFalse=>cases h
  rename_i hc
  obtain ⟨hc1,rfl,rfl,hi0,hi1,rfl,hc3⟩:=hc
  simp only [Q0,Q3] at h
  obtain ⟨rfl,rfl⟩:=h
  obtain ⟨x0,h1,cur,g2,_,_,⟨cap0,a31,a32,a33⟩,_⟩:=hm.obj h0
  obtain ⟨b,o⟩:=x0
  simp only at g2; subst g2
  have hI:=a1b h0 h1
  simp only [Reps,Rep] at hv
  obtain ⟨v1,_,rfl,⟨hpos,b1,cap,rfl,b',n',r',k1,k2,k3⟩,v2,_,rfl,rfl,v3,_,rfl,rfl,rfl⟩:=hv
  rw [hI] at k1
  simp only [a1i,a1D,Q0,Q3] at k1
  obtain ⟨rfl,rfl,rfl⟩:=k1
  obtain ⟨rfl,q1,q2⟩:=k3 hc1
  obtain ⟨i',rfl⟩:∃ i':Nat,i=(i':Int):=⟨i.toNat,by omega⟩
  have:=b4M (cap:=cap) (len:=len) (i:=i') hD hm hcoh hs hok h0 h1 (by omega) (by rw [List.take_of_length_le (by omega)]; exact hl) (by omega) hc3 q1 (by omega)
  rw [List.drop_eq_nil_of_le (by omega),List.append_nil,hc1] at this
  rw [Qz]
  exact this
 ·rename_i σ0 hd len r0 sz i j
  split at h
  case h_2=>cases h
  rename_i rows sz' T h0
  rw [Q2] at h
  obtain ⟨l,hl,h⟩:=h
  split at h
  case isFalse=>cases h
  rename_i hc
  obtain ⟨hc1,hc0,rfl,rfl,hi0,hi1,rfl,hc3⟩:=hc
  simp only [Q0,Q3] at h
  obtain ⟨rfl,rfl⟩:=h
  obtain ⟨x0,h1,cur,g2,_,_,⟨cap0,a31,a32,a33⟩,_⟩:=hm.obj h0
  obtain ⟨b,o⟩:=x0
  simp only at g2; subst g2
  have hI:=a1b h0 h1
  simp only [Reps,Rep] at hv
  obtain ⟨v1,_,rfl,⟨hpos,_,b1,cap,rfl,b',n',r',k1,k2,k3⟩,v2,_,rfl,rfl,v3,_,rfl,rfl,rfl⟩:=hv
  rw [hI] at k1
  simp only [a1i,a1D,Q0,Q3] at k1
  obtain ⟨rfl,rfl,rfl⟩:=k1
  obtain ⟨rfl,q1,q2⟩:=k3 hc1
  obtain ⟨i',rfl⟩:∃ i':Nat,i=(i':Int):=⟨i.toNat,by omega⟩
  have:=b4M (cap:=cap) (len:=len) (i:=i') hD hm hcoh hs hok h0 h1 (by omega) hl (by omega) hc3 q1 (by omega)
  rw [hc1] at this
  rw [Qz]
  exact this
 ·cases h
def b2f (P:Program) (f:FuncId) (T:TypeId):Prop :=
 ∀ (w:World) (b off n c:Nat) (news:List Value),0 < n->n<=1000000->news.length=n*8->(∀ (j:Nat) (u:Value),news[j]?=some u->w.cell? ⟨b,off+j,none⟩=some u)->(∀ u∈news,u.oneCell'=true) ->
  Calls P f #[.slice (some ⟨b,off,none⟩) n c] w fun e w'=>∃ v',e=.returned v'/\w'.ownsRow w.heap.size T 8 v' n news/\Below w.heap.size w w'
def b2z (T:TypeId):List PV->List MO->Option (PV × List MO)
 | [.sl n rows],σ=>(a5g rows).bind fun l=>if n=8/\l≠[]/\l.length<=1000000 then some (.rsl σ.length l.length 8,σ++[.row (l.map O8.row) 8 T]) else none
 | _,_=>none
theorem b7J {P:Program} {f:FuncId} {T:TypeId} (hD:b2f P f T) (ef:∀ args w,(callFunc f args).run P w=.ok (.enter f args) w):CtP P f (b2z T):=by
 intro aa σ r σ' h
 refine ⟨ef,fun s m vs hm hcoh hv w hs hok=>?_⟩
 unfold b2z at h
 split at h
 case h_2=>cases h
 rename_i σ0 n rows
 rw [Q2] at h
 obtain ⟨l,hl,h⟩:=h
 split at h
 case isFalse=>cases h
 rename_i hc
 obtain ⟨rfl,hne,hl6⟩:=hc
 simp only [Q0,Q3] at h
 obtain ⟨rfl,rfl⟩:=h
 have hrows:=a8Y hl
 subst hrows
 simp only [Reps,Rep] at hv
 obtain ⟨v1,_,rfl,⟨xs,⟨hx8,ao,cap,rfl,hcap,hsrc⟩,hxs,_⟩,rfl⟩:=hv
 have hx:=a9v hxs
 subst hx
 have hpos:0 < l.length:=List.length_pos_iff.2 hne
 obtain ⟨b,off,rfl,hsr⟩:=hsrc (by simpa using hne)
 have hcell:∀ (j:Nat) (u:Value),(l.map O8.enc).flatten[j]?=some u->w.cell? ⟨b,off+j,none⟩=some u:=by
  intro j u hj
  have hjl:j < l.length*8:=by rw [<- a1I]; exact (Q7.1 hj).1
  have hd:j / 8 < l.length:=by omega
  have hx:(l.map O8.enc)[j / 8]?=some (O8.enc l[j / 8]):=by simp [hd]
  have hm8:j % 8 < 8:=Nat.mod_lt _ (by omega)
  have hy:(O8.enc l[j / 8])[j % 8]?=some u:=by
   have:=a3J 8 (l.map O8.enc) (fun e he=>by obtain ⟨x,_,rfl⟩:=Q1.1 he; rfl) (j / 8) (O8.enc l[j / 8]) (j % 8) ((O8.enc l[j / 8])[j % 8]'(by rw [a8l]; exact hm8)) hx (QA _)
   rw [show j / 8*8+j % 8=j by omega,hj] at this
   rw [QA (by rw [a8l]; exact hm8)]
   exact this.symm
  have:=hs _ _ _ (hsr (j / 8) _ hx (j % 8) u hy)
  rw [show off+j / 8*8+j % 8=off+j by omega] at this
  exact this
 have hcall:=hD w b off l.length cap _ hpos hl6 (a1I l) hcell (by
  intro u hu
  obtain ⟨x,hx,hu⟩:=List.mem_flatten.1 hu
  obtain ⟨y,_,rfl⟩:=Q1.1 hx
  exact b3h y u hu)
 simp only [Qe]
 refine hcall.mono ?_
 rintro e w' ⟨v',rfl,⟨hnl,hown⟩,hbel⟩
 rcases hown with ⟨_,h0⟩ | ⟨g,cap',cur,rfl,hg,hblk,hc1,hc2,hc3,hc4⟩
 ·omega
 have hrep:EnvRep s { i:=[],b:=[],v:=[],m:=σ,k:=0 } { i:=[],b:=[],v:=[],j:=[],m:=m,k:=0 }:=⟨rfl,rfl,rfl,hm,rfl,by simp,hcoh⟩
 have hobj:a2a s (inf σ m) (.row (l.map O8.row) 8 T) (g,.cells cur T (0,0)):=by
  refine ⟨cur,rfl,by simpa using hne,by omega,⟨cap',hc3,by simpa using hc1,hc2⟩,b5K l,l.map O8.enc,a9l l,fun x hx=>by obtain ⟨y,_,rfl⟩:=Q1.1 hx; rfl,fun j u hj=>?_⟩
  have hjl:j < l.length*8:=by rw [<- a1I]; exact (Q7.1 hj).1
  rw [<- hc4,QB,if_pos hjl] at hj
  simpa using hj
 obtain ⟨hle,he⟩:=hrep.newM hobj
 have hml:=hm.length
 have hlt:∀ b2 o u,s b2 o=some u->b2 < w.heap.size:=by
  intro b2 o u hu
  have hc:=hs b2 o u hu
  simp only [World.cell?] at hc
  cases hh:w.heap[b2]? with
  | none=>rw [hh] at hc; cases hc
  | some _=>exact (Q8.1 hh).1
 have hold:∀ x∈m,x.1 < w.heap.size:=fun x hx=>(Q8.1 (hok.is x hx)).1
 refine ⟨_,s,m++[(g,.cells cur T (0,0))],rfl,⟨hbel.os,hbel.tape,hbel.output,hbel.size,fun k hk _=>hbel.block k hk⟩,Hp.le_refl s,?_,(fun b o u h1 h2=>by rw [h1] at h2; cases h2),⟨by simp,?_⟩,⟨?_,?_,?_⟩,hle,?_,he.m,he.coh⟩
 ·intro b2 o u hu
  have hc:=hs b2 o u hu
  simp only [World.cell?,hbel.block b2 (hlt b2 o u hu)]
  exact hc
 ·intro i x hx
  by_cases hi:i < m.length
  ·rw [Q5 hi] at hx
   exact .inl ⟨x,hx,rfl⟩
  ·rw [Q9 (by omega)] at hx
   have:x=(g,.cells cur T (0,0)):=by
    cases hk:i-m.length with
    | zero=>rw [hk] at hx; simpa using hx.symm
    | succ k=>rw [hk] at hx; simp at hx
   subst this
   exact .inr hg
 ·unfold a0I
  rw [Qw,List.nodup_append]
  refine ⟨hok.nd,by simp,fun a ha b hb=>?_⟩
  obtain ⟨x,hx,rfl⟩:=Q1.1 ha
  have:=hold x hx
  simp only [Qa,List.map_nil,Qk] at hb
  omega
 ·intro x hx
  rcases Qf.1 hx with hx | hx
  ·rw [hbel.block _ (hold x hx)]; exact hok.is x hx
  ·rw [Qk.1 hx]; exact hblk
 ·intro x hx o
  rcases Qf.1 hx with hx | hx
  ·exact hok.un x hx o
  ·rw [Qk.1 hx]
   cases hu:s g o with
   | none=>rfl
   | some u=>have:=hlt g o u hu; omega
 ·have hget:(inf (σ++[.row (l.map O8.row) 8 T]) (m++[(g,.cells cur T (0,0))]))[σ.length]?=some (g,cur.size,l.length):=by
   have hA:(σ++[MO.row (l.map O8.row) 8 T])[σ.length]?=some (.row (l.map O8.row) 8 T):=by simp
   have hB:(m++[(g,Obj.cells cur T (0,0))])[σ.length]?=some (g,.cells cur T (0,0)):=by rw [<- hml]; simp
   rw [a1b hA hB]
   simp only [a1i,a1D,Qe]
  simp only [Rep]
  exact ⟨hpos,g,cap',rfl,g,cur.size,l.length,hget,Qj _,fun _=>⟨rfl,hc3,hc1⟩⟩
end Go.Sx
namespace Go.Sx
open Go.RowKit
mutual
def PV.plain:PV->Bool
 | .int .. | .bool .. | .str .. | .undef | .nilS | .nilF | .nilP | .nilI | .nilM=>true
 | .agg l=>PV.plains l
 | .tup l=>PV.plains l
 | _=>false
def PV.plains:List PV->Bool
 | []=>true
 | p::l=>p.plain&&PV.plains l
end
mutual
theorem b3M {s t:Hp} {B C:Inf}:∀ (p:PV) (v:Value),p.plain=true->Rep s B p v->Rep t C p v
 | .int ..,_,_,h=>h
 | .bool ..,_,_,h=>h
 | .str ..,_,_,h=>h
 | .undef,_,_,h=>h
 | .nilS,_,_,h=>h
 | .nilF,_,_,h=>h
 | .nilP,_,_,h=>h
 | .nilI,_,_,h=>h
 | .nilM,_,_,h=>h
 | .agg l,v,hp,h=>by
  simp only [PV.plain] at hp
  simp only [Rep] at h ⊢
  obtain ⟨vs,h1,h2⟩:=h
  exact ⟨vs,h1,a8L l vs hp h2⟩
 | .tup l,v,hp,h=>by
  simp only [PV.plain] at hp
  simp only [Rep] at h ⊢
  obtain ⟨vs,h1,h2⟩:=h
  exact ⟨vs,h1,a8L l vs hp h2⟩
theorem a8L {s t:Hp} {B C:Inf}:∀ (l:List PV) (vs:List Value),PV.plains l=true->Reps s B l vs->Reps t C l vs
 | [],_,_,h=>h
 | p::l,vs,hp,h=>by
  simp only [PV.plains,Bool.and_eq_true] at hp
  simp only [Reps] at h ⊢
  obtain ⟨v,r,h1,h2,h3⟩:=h
  exact ⟨v,r,h1,b3M p v hp.1 h2,a8L l r hp.2 h3⟩
end
def a4w (σ:List MO):PV->Option PV
 | .rsl h len sz=>(σ[h]?).bind fun o=>(o.elts len sz).bind fun rows=>if PV.lowss 0 rows then some (.sl sz rows) else none
 | .rpl h len r sz=>(σ[h]?).bind fun o=>(o.elts r sz).bind fun rows=>if PV.lowss 0 rows then some (.sl sz (rows.take len)) else none
 | p=>if p.low 0 then some p else none
def a8v (σ:List MO):List PV->Option (List PV)
 | []=>some []
 | p::l=>(a4w σ p).bind fun q=>(a8v σ l).map (q::·)
theorem b3z {s:Hp} {B:Inf} {σ:List MO} {m:MS} {w:World} (hm:a0G s B σ m) (hok:MOk s m w) {h len sz:Nat} {o:MO} {rows:List (List PV)} (ho:σ[h]?=some o) (he:o.elts len sz=some rows) :
  ∃ b cur T xs,m[h]?=some (b,.cells cur T (0,0))/\rows.length=len/\a1i o (b,.cells cur T (0,0))=(b,cur.size,len)/\a0F s B rows xs/\(∀ r∈rows,∀ p∈r,p.one=true)/\(∀ x∈xs,x.length=sz)/\(∀ (i:Nat) x,xs[i]?=some x->∀ (j:Nat) u,x[j]?=some u->hpOf w b (0+i*sz+j)=some u):=by
 cases o<;>simp only [MO.elts,reduceCtorEq] at he
 rename_i rows' sz' T
 split at he
 case isFalse=>cases he
 rename_i hc
 obtain ⟨rfl,rfl⟩:=hc
 simp only [Q0] at he; subst he
 obtain ⟨⟨b,ob⟩,h1,cur,h2,a1,a2,a3,a4,xs,a5,a6,a7⟩:=hm.obj ho
 simp only at h2; subst h2
 refine ⟨b,cur,T,xs,h1,rfl,rfl,a5,a4,a6,fun i x hi j u hj=>?_⟩
 have hcell:=hok.is _ (Q4 h1)
 simp only at hcell
 have:=a7 _ u (a3J _ xs a6 i x j u hi hj)
 simp only [hpOf,World.cell?,hcell,Nat.zero_add,Option.isSome_none,Bool.false_eq_true,if_false]
 exact this
theorem b8C {s:Hp} {B:Inf} {w:World} (hs:Sub s w) {p:PV} {v:Value} (h:Rep s B p v) (hl:p.low 0=true):Rep (hpOf w) [] p v:=by
 have:=PV.low_rep (k:=0) p v h hl
 rw [QC] at this
 exact Rep.mono (fun b o u hu=>hs b o u hu) (BLe.refl _) p v this
theorem b2D {s:Hp} {B:Inf} {w:World} (hs:Sub s w) {rows:List (List PV)} {xs:List (List Value)} (h:a0F s B rows xs) (hl:PV.lowss 0 rows=true):a0F (hpOf w) [] rows xs:=by
 have:=PV.lowss_rep (k:=0) rows xs h hl
 rw [QC] at this
 exact a0F.mono (fun b o u hu=>hs b o u hu) (BLe.refl _) rows xs this
theorem b6X {s:Hp} {σ:List MO} {m:MS} {w:World} (hs:Sub s w) (hok:MOk s m w) (hm:a0G s (inf σ m) σ m) {p q:PV} {v:Value} (h:Rep s (inf σ m) p v) (hq:a4w σ p=some q):Rep (hpOf w) [] q v:=by
 have other:(if p.low 0 then some p else none)=some q->Rep (hpOf w) [] q v:=fun hq=>by
  split at hq
  ·rename_i hl
   simp only [Q0] at hq; subst hq
   exact b8C hs h hl
  ·cases hq
 cases p<;>simp only [a4w] at hq
 case rsl hd len sz =>
  simp only [Q2] at hq
  obtain ⟨o,ho,rows,he,hq⟩:=hq
  split at hq
  case isFalse=>cases hq
  rename_i hl
  simp only [Q0] at hq; subst hq
  obtain ⟨b,cur,T,xs,h1,h2,h3,h4,h5,h6,h7⟩:=b3z hm hok ho he
  have hI:=a1b ho h1
  simp only [Rep] at h ⊢
  obtain ⟨h0,b1,cap,rfl,b',n,r,k1,k2,k3⟩:=h
  rw [hI,h3] at k1
  simp only [Q0,Q3] at k1
  obtain ⟨rfl,rfl,rfl⟩:=k1
  obtain ⟨rfl,_,hcap⟩:=k3 rfl
  have hlx:=h4.length
  exact ⟨xs,⟨h6,some ⟨b,0,none⟩,cap,by rw [hlx,h2],by rw [hlx,h2]; exact hcap,fun _=>⟨b,0,rfl,h7⟩⟩,b2D hs h4 hl,h5⟩
 case rpl hd len r0 sz =>
  simp only [Q2] at hq
  obtain ⟨o,ho,rows,he,hq⟩:=hq
  split at hq
  case isFalse=>cases hq
  rename_i hl
  simp only [Q0] at hq; subst hq
  obtain ⟨b,cur,T,xs,h1,h2,h3,h4,h5,h6,h7⟩:=b3z hm hok ho he
  have hI:=a1b ho h1
  simp only [Rep] at h ⊢
  obtain ⟨h0,hlr,b1,cap,rfl,b',n,r,k1,k2,k3⟩:=h
  rw [hI,h3] at k1
  simp only [Q0,Q3] at k1
  obtain ⟨rfl,rfl,rfl⟩:=k1
  obtain ⟨rfl,_,hcap⟩:=k3 rfl
  have hlx:=h4.length
  refine ⟨xs.take len,⟨fun x hx=>h6 x (QD hx),some ⟨b,0,none⟩,cap,by rw [Qd,hlx,h2,Qg hlr],by rw [Qd,hlx]; omega,fun _=>⟨b,0,rfl,fun i x hi j u hj=>?_⟩⟩,(b2D hs h4 hl).take len,fun r hr=>h5 r (QD hr)⟩
  have hi':xs[i]?=some x:=by
   rw [QB] at hi
   split at hi
   ·exact hi
   ·cases hi
  exact h7 i x hi' j u hj
 all_goals exact other hq
theorem b2P {s:Hp} {σ:List MO} {m:MS} {w:World} (hs:Sub s w) (hok:MOk s m w) (hm:a0G s (inf σ m) σ m):∀ {l q:List PV} {vs:List Value},Reps s (inf σ m) l vs->a8v σ l=some q->Reps (hpOf w) [] q vs
 | [],q,vs,h,hq=>by simp only [a8v,Q0] at hq; subst hq; exact h
 | p::l,q,vs,h,hq=>by
  simp only [a8v,Q2,Qn] at hq
  obtain ⟨p',h1,l',h2,rfl⟩:=hq
  simp only [Reps] at h ⊢
  obtain ⟨v,r,h3,h4,h5⟩:=h
  exact ⟨v,r,h3,b6X hs hok hm h4 h1,b2P hs hok hm h5 h2⟩
def b4i (F:List PV->List MO->Option (PV × List MO)) (aa:List PV) (σ:List MO):Option (PV × List MO) :=
 (a8v σ aa).bind fun aa'=>match F aa' [] with
  | some (r,[])=>if r.plain=true then some (r,σ) else none
  | _=>none
theorem b9A {P:Program} {f:Nat} {F:List PV->List MO->Option (PV × List MO)} (hF:CtP P f F):CtP P f (b4i F):=by
 intro aa σ r σ' h
 unfold b4i at h
 rw [Q2] at h
 obtain ⟨aa',ha,h⟩:=h
 split at h
 case h_2=>cases h
 rename_i r0 hr
 split at h
 case isFalse=>cases h
 rename_i hp
 simp only [Q0,Q3] at h
 obtain ⟨rfl,rfl⟩:=h
 refine ⟨(hF _ _ _ _ hr).1,fun s m vs hm hcoh hv w hs hok=>?_⟩
 have hrep:=b2P hs hok hm hv ha
 have hc:=(hF _ _ _ _ hr).2 (hpOf w) [] vs rfl (Coh.of_none (by simp)) hrep w (b4K w) ⟨by simp [a0I],by simp,by simp⟩
 refine hc.mono ?_
 rintro e w' ⟨v,s',m',he,hg,hle,hsub,hnew,hpos,hmok,hq⟩
 refine ⟨v,s,m,he,⟨hg.os,hg.tape,hg.output,hg.size,fun k hk _=>hg.block k hk (by simp [a0I])⟩,Hp.le_refl s,fun b o u hu=>hsub b o u (hle b o u (hs b o u hu)),(fun b o u h1 h2=>by rw [h1] at h2; cases h2),⟨Qj _,fun i x hx=>.inl ⟨x,hx,rfl⟩⟩,⟨hok.nd,fun x hx=>?_,hok.un⟩,Le2.refl _ _,?_,hm,hcoh⟩
 ·have h1:=hok.is x hx
  rw [hg.block x.1 (Q8.1 h1).1 (by simp [a0I])]
  exact h1
 ·exact b3M r0 v hp hq.2.1
end Go.Sx
