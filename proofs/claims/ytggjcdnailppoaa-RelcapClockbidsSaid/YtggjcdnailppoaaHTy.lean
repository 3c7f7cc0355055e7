/- TX: records of eight int64s in the order of their bundles; sorted, plain. -/
import Derived.Test.YtggjcdnailppoaaHTxe
import Derived.Shelf.SlSortCmp.NoneTotal
import Derived.Lib.SliceRun
import Derived.Deep.RegionLaw
set_option linter.unusedSimpArgs false
set_option linter.unusedVariables false
open Option.some renaming injEq → Q0
open List renaming mem_map → Q1, mem_cons → Q2, mem_of_getElem? → Q3, getElem?_set → Q5, map_cons → Q6, pairwise_cons → Q8, length_cons → Q9, getElem?_eq_some_iff → Qa, length_append → Qe, size_toArray → Qf, length_map → Qh, nodup_cons → Qk, ext_getElem? → Qm, length_drop → Qn, length_nil → Qp, length_eq_zero_iff → Qq, mem_cons_of_mem → Qr, any_eq_false → Qt, not_mem_nil → Qu, flatten_append → Qv, getElem?_append_left → Qw, getElem?_map → Qy, mem_append → Qz, mem_of_mem_drop → QA, getElem?_append_right → QB, mem_iff_getElem? → QC, getElem?_inj → QD
open Array renaming getElem?_eq_some_iff → Q4, getElem?_modify → Qg
open Prod.mk renaming injEq → Q7
open Option renaming map_some → Qb, bind_eq_some_iff → Qj
open Bool renaming and_eq_true → Qd, not_eq_true' → Qs
namespace Go.Sx
structure O8 where
 (b w0 w1 w2 w3 w4 w5 v:Int)
 deriving DecidableEq,Inhabited
def O8.w (x:O8):List Int:=[x.w0,x.w1,x.w2,x.w3,x.w4,x.w5]
def O8.row (x:O8):List PV:=[.int .i64 x.b,.int .i64 x.w0,.int .i64 x.w1,.int .i64 x.w2,.int .i64 x.w3,.int .i64 x.w4,.int .i64 x.w5,.int .i64 x.v]
def O8.enc (x:O8):List Value:=[.int .i64 x.b,.int .i64 x.w0,.int .i64 x.w1,.int .i64 x.w2,.int .i64 x.w3,.int .i64 x.w4,.int .i64 x.w5,.int .i64 x.v]
def b6p:List PV->Option O8
 | [.int .i64 b,.int .i64 w0,.int .i64 w1,.int .i64 w2,.int .i64 w3,.int .i64 w4,.int .i64 w5,.int .i64 v]=>some ⟨b,w0,w1,w2,w3,w4,w5,v⟩
 | _=>none
theorem b8b (x:O8):b6p x.row=some x:=rfl
theorem b7w {r:List PV} {x:O8} (h:b6p r=some x):r=x.row:=by
 unfold b6p at h
 split at h
 ·simp only [Q0] at h; subst h; rfl
 ·cases h
def a5g:List (List PV)->Option (List O8)
 | []=>some []
 | r::l=>(b6p r).bind fun x=>(a5g l).map (x::·)
theorem b3P:∀ l:List O8,a5g (l.map O8.row)=some l
 | []=>rfl
 | x::l=>by simp only [Q6,a5g,b8b,b3P l,Option.bind_some,Qb]
theorem a8Y:∀ {rows:List (List PV)} {l:List O8},a5g rows=some l->rows=l.map O8.row
 | [],l,h=>by simp only [a5g,Q0] at h; subst h; rfl
 | r::rows,l,h=>by
  simp only [a5g,Qj,Option.map_eq_some_iff] at h
  obtain ⟨x,h1,l',h2,rfl⟩:=h
  rw [b7w h1,a8Y h2]; rfl
theorem c2W:∀ l:List Int,ltK l l=false
 | []=>rfl
 | x::l=>by simp [ltK,c2W l]
theorem c2O:∀ {a b c:List Int},ltK a b=true->ltK b c=true->ltK a c=true
 | [],_,_,h,_=>by simp [ltK] at h
 | _::_,[],_,h,_=>by simp [ltK] at h
 | _::_,_::_,[],_,h=>by simp [ltK] at h
 | x::a,y::b,z::c,h,k=>by
  simp only [ltK,Bool.or_eq_true,Qd,decide_eq_true_eq] at *
  rcases h with h | ⟨rfl,h⟩
  ·rcases k with k | ⟨rfl,k⟩
   ·exact .inl (by omega)
   ·exact .inl h
  ·rcases k with k | ⟨rfl,k⟩
   ·exact .inl k
   ·exact .inr ⟨rfl,c2O h k⟩
theorem c3v:∀ {a b:List Int},a.length=b.length->ltK a b=false->ltK b a=false->a=b
 | [],[],_,_,_=>rfl
 | [],_::_,h,_,_=>by simp at h
 | _::_,[],h,_,_=>by simp at h
 | x::a,y::b,h,h1,h2=>by
  simp only [ltK,Bool.or_eq_false_iff,Bool.and_eq_false_iff,decide_eq_false_iff_not] at h1 h2
  have:x=y:=by omega
  subst this
  have e:=c3v (a:=a) (b:=b) (by simpa using h) (by simpa using h1.2) (by simpa using h2.2)
  rw [e]
theorem c4g {a b c:List Int} (h1:a.length=b.length) (h2:b.length=c.length) (h:ltK a b=false) (k:ltK b c=false):ltK a c=false:=by
 cases hac:ltK a c with
 | false=>rfl
 | true =>
  cases hba:ltK b a with
  | true=>rw [c2O hba hac] at k; cases k
  | false =>
   have:=c3v h1 h hba
   subst this
   rw [hac] at k; cases k
def c2q (a b:List Int):Int:=if ltK a b=true then -1 else if ltK b a=true then 1 else 0
theorem c3e (a b:List Int):decide (c2q a b < 0)=ltK a b:=by
 unfold c2q
 cases ltK a b<;>cases ltK b a<;>simp
theorem O8.wlen (x y:O8):x.w.length=y.w.length:=rfl
def c3w (x:O8):List O8->List O8
 | []=>[x]
 | y::l=>if ltK x.w y.w=true then x::y::l else y::c3w x l
def c2J:List O8->List O8
 | []=>[]
 | x::l=>c3w x (c2J l)
def Srt (l:List O8):Prop:=l.Pairwise fun a b=>ltK b.w a.w=false
theorem c3t (x:O8):∀ l,(c3w x l).Perm (x::l)
 | []=>.refl _
 | y::l=>by
  unfold c3w
  split
  ·exact .refl _
  ·exact ((c3t x l).cons y).trans (.swap x y l)
theorem c2Q:∀ l,(c2J l).Perm l
 | []=>.refl _
 | x::l=>(c3t x _).trans ((c2Q l).cons x)
theorem c3U (x:O8):∀ {l},Srt l->Srt (c3w x l)
 | [],_=>by simp [c3w,Srt]
 | y::l,h=>by
  unfold c3w
  have h':=h
  unfold Srt at h
  rw [Q8] at h
  split
  ·rename_i hlt
   refine Q8.2 ⟨fun z hz=>?_,h'⟩
   rcases Q2.1 hz with rfl | hz
   ·cases hk:ltK z.w x.w with
    | false=>rfl
    | true=>have:=c2O hlt hk; rw [c2W] at this; cases this
   ·cases hk:ltK z.w x.w with
    | false=>rfl
    | true=>have:=c2O hk hlt; rw [h.1 z hz] at this; cases this
  ·rename_i hlt
   refine Q8.2 ⟨fun z hz=>?_,c3U x h.2⟩
   rcases Q2.1 ((c3t x l).mem_iff.1 hz) with rfl | hz
   ·simpa using hlt
   ·exact h.1 z hz
theorem c3H:∀ l,Srt (c2J l)
 | []=>List.Pairwise.nil
 | x::l=>c3U x (c3H l)
theorem c4j {l:List O8} (h:(l.map O8.w).Nodup) {a b:O8} (ha:a∈l) (hb:b∈l) (he:a.w=b.w):a=b:=by
 induction l with
 | nil=>cases ha
 | cons x l ih =>
  rw [Q6,Qk] at h
  rcases Q2.1 ha with ea | ha1
  ·rcases Q2.1 hb with eb | hb1
   ·rw [ea,eb]
   ·exact absurd (Q1.2 ⟨b,hb1,by rw [<- he,ea]⟩) h.1
  ·rcases Q2.1 hb with eb | hb1
   ·exact absurd (Q1.2 ⟨a,ha1,by rw [he,eb]⟩) h.1
   ·exact ih h.2 ha1 hb1
theorem c3T:∀ {l' l:List O8},(∀ a b,a∈l->b∈l->a.w=b.w->a=b)->l'.Perm l->Srt l'->Srt l->l'=l
 | [],l,_,hp,_,_=>hp.nil_eq
 | x::l',l,hd,hp,h1,h2=>by
  cases l with
  | nil=>have:=hp.length_eq; simp at this
  | cons y l =>
   have hxy:x=y:=by
    have hx:x∈y::l:=hp.mem_iff.1 (by simp)
    have hy:y∈x::l':=hp.mem_iff.2 (by simp)
    unfold Srt at h1 h2
    rw [Q8] at h1 h2
    rcases Q2.1 hx with h | hx
    ·exact h
    rcases Q2.1 hy with h | hy
    ·exact h.symm
    exact hd _ _ (by simp [hx]) (by simp) (c3v (O8.wlen _ _) (h2.1 x hx) (h1.1 y hy))
   subst hxy
   unfold Srt at h1 h2
   rw [Q8] at h1 h2
   rw [c3T (fun a b ha hb=>hd a b (Qr _ ha) (Qr _ hb)) ((List.perm_cons x).1 hp) h1.2 h2.2]
theorem c3A {l l':List O8} (h:(l.map O8.w).Nodup) (hp:l'.Perm l) (hs:Srt l'):l'=c2J l :=
 c3T (fun a b ha hb he=>c4j h ((c2Q l).mem_iff.1 ha) ((c2Q l).mem_iff.1 hb) he) (hp.trans (c2Q l).symm) hs (c3H l)
def c3j:List O8->Bool
 | []=>true
 | x::l=>(!l.any fun y=>decide (y.w=x.w))&&c3j l
theorem c3G:∀ {l:List O8},c3j l=true->(l.map O8.w).Nodup
 | [],_=>by simp
 | x::l,h=>by
  simp only [c3j,Qd,Qs,Qt,decide_eq_true_eq] at h
  rw [Q6,Qk]
  refine ⟨fun hm=>?_,c3G h.2⟩
  obtain ⟨q,hq,he⟩:=Q1.1 hm
  exact h.1 q hq he
theorem c4c:∀ {l:List O8},(l.map O8.w).Nodup->c3j l=true
 | [],_=>rfl
 | x::l,h=>by
  rw [Q6,Qk] at h
  simp only [c3j,Qd,Qs,Qt,decide_eq_true_eq]
  exact ⟨fun y hy he=>h.1 (Q1.2 ⟨y,hy,he⟩),c4c h.2⟩
end Go.Sx
namespace Go.Sx
open Go.RowKit Go.Shelf
def c3q (g:Nat):List PV->List MO->Option (PV × List MO)
 | [.rsl h len sz,.fn g' []],σ=>match σ[h]? with
  | some (.row rows sz' T)=>(a5g rows).bind fun l=>if g'=g/\rows.length=len/\sz=8/\sz'=8/\c3j l=true/\len<=1000000 then some (.tup [],σ.set h (.row ((c2J l).map O8.row) 8 T)) else none
  | _=>none
 | [.rpl h len r sz,.fn g' []],σ=>match σ[h]? with
  | some (.row rows sz' T)=>(a5g (rows.take len)).bind fun l=>if g'=g/\rows.length=r/\len<=r/\sz=8/\sz'=8/\c3j l=true/\len<=1000000 then some (.tup [],σ.set h (.row ((c2J l).map O8.row++rows.drop len) 8 T)) else none
  | _=>none
 | [.nilS,.fn _ []],σ=>some (.tup [],σ)
 | [.sl _ [],.fn _ []],σ=>some (.tup [],σ)
 | _,_=>none
theorem b8F {s:Hp} {B:Inf} {x:O8} {vs:List Value} (h:Reps s B x.row vs):vs=x.enc:=by
 simp only [O8.row,Reps,Rep] at h
 obtain ⟨v0,_,rfl,rfl,v1,_,rfl,rfl,v2,_,rfl,rfl,v3,_,rfl,rfl,v4,_,rfl,rfl,v5,_,rfl,rfl,v6,_,rfl,rfl,v7,_,rfl,rfl,rfl⟩:=h
 rfl
theorem b8e {s:Hp} {B:Inf} (x:O8):Reps s B x.row x.enc:=by
 simp only [O8.row,O8.enc,Reps,Rep]
 exact ⟨_,_,rfl,rfl,_,_,rfl,rfl,_,_,rfl,rfl,_,_,rfl,rfl,_,_,rfl,rfl,_,_,rfl,rfl,_,_,rfl,rfl,_,_,rfl,rfl,rfl⟩
theorem a9v {s:Hp} {B:Inf}:∀ {l:List O8} {xs:List (List Value)},a0F s B (l.map O8.row) xs->xs=l.map O8.enc
 | [],xs,h=>h
 | x::l,xs,h=>by
  simp only [Q6,a0F] at h
  obtain ⟨y,r,rfl,h1,h2⟩:=h
  rw [b8F h1,a9v h2]; rfl
theorem a9l {s:Hp} {B:Inf}:∀ (l:List O8),a0F s B (l.map O8.row) (l.map O8.enc)
 | []=>rfl
 | x::l=>⟨_,_,rfl,b8e x,a9l l⟩
theorem a8l (x:O8):(O8.enc x).length=8:=rfl
theorem a1I (l:List O8):(l.map O8.enc).flatten.length=l.length*8:=by
 induction l with
 | nil=>rfl
 | cons x l ih=>simp only [Q6,List.flatten_cons,Qe,ih,a8l,Q9]; omega
theorem c3u (l:List O8) (t:Nat) (h:t < l.length*8):(l.map O8.enc).flatten[t]?=some ((O8.enc (l.toArray[t / 8]!))[t % 8]!):=by
 have h1:t / 8 < l.length:=by omega
 have h2:t % 8 < 8:=Nat.mod_lt _ (by omega)
 have:=a3J 8 (l.map O8.enc) (fun e he=>by obtain ⟨x,_,rfl⟩:=Q1.1 he; rfl) (t / 8) (O8.enc l[t / 8]) (t % 8) ((O8.enc l[t / 8])[t % 8]!) (by simp [h1]) (by
  rw [getElem!_pos _ _ (by rw [a8l]; exact h2)]
  exact List.getElem?_eq_getElem _)
 rw [show t / 8*8+t % 8=t by omega] at this
 rw [this]
 congr 3
 rw [getElem!_pos _ _ (by simpa using h1)]
 simp
theorem c4D {w:World} {b T:Nat} {cur:Array Value} {l:List O8} (hb:w.heap[b]?=some (.cells cur T (0,0))) (h:∀ (j:Nat) (u:Value),(l.map O8.enc).flatten[j]?=some u->cur[j]?=some u):Go.Sort.HoldsK O8.enc 8 w b 0 l.toArray:=by
 intro j hj
 rw [Go.Sort.size_flatK] at hj
 have hj':j < l.length*8:=by simpa using hj
 refine ⟨?_,?_⟩
 ·rw [Go.Sort.get_flatK _ _ _ _ hj]
  have:=h j _ (c3u l j hj')
  simp only [World.cell?,hb,Nat.zero_add,id]
  simpa using this
 ·simp [World.frozen?,hb]
def c3g (cur:Array Value) (l:List O8):Array Value:=Go.Sort.putCells id 0 (Go.Sort.flatK O8.enc 8 l.toArray) cur
theorem c3z (cur:Array Value) (l:List O8):(c3g cur l).size=cur.size:=by simp [c3g,Go.Sort.putCells]
theorem c4x (cur:Array Value) (l:List O8) (hl:l.length*8<=cur.size) (j:Nat):(c3g cur l)[j]?=if j < l.length*8 then (l.map O8.enc).flatten[j]? else cur[j]?:=by
 simp only [c3g,Go.Sort.putCells,Array.getElem?_mapIdx,Nat.zero_le,true_and,Go.Sort.size_flatK,Qf,Nat.zero_add,Nat.sub_zero]
 by_cases hj:j < l.length*8
 ·rw [if_pos hj,c3u l j hj]
  rw [Array.getElem?_eq_getElem (by omega)]
  simp only [Qb,if_pos hj,id]
  rw [Go.Sort.get_flatK _ _ _ _ (by simpa using hj)]
 ·rw [if_neg hj]
  cases cur[j]? with
  | none=>rfl
  | some u=>simp [if_neg hj]
theorem c3X {w:World} {b T:Nat} {cur:Array Value} (hb:w.heap[b]?=some (.cells cur T (0,0))) (n:Nat) (l:List O8) (os:Array Obj) :
  (Go.Proofs.sortWorldK O8.enc 8 w b 0 n l.toArray os).heap[b]?=some (.cells (c3g cur l) T (0,0)):=by
 have hlt:=(Q4.1 hb).1
 unfold Go.Proofs.sortWorldK Go.Sort.putRowK Go.Sort.putRow
 rw [Go.Sort.heap_grow_old _ _ (by simpa [Go.Sort.mapBlock] using hlt)]
 simp only [Go.Sort.mapBlock,Go.Sort.heap_ahead,Qg,if_true,hb,Qb,Go.Sort.onCells]
 rfl
theorem c3l {w:World} {b k:Nat} (hk:k < w.heap.size) (hne:k≠b) (n:Nat) (l:Array O8) (os:Array Obj):(Go.Proofs.sortWorldK O8.enc 8 w b 0 n l os).heap[k]?=w.heap[k]?:=by
 unfold Go.Proofs.sortWorldK Go.Sort.putRowK Go.Sort.putRow
 rw [Go.Sort.heap_grow_old _ _ (by simpa [Go.Sort.mapBlock] using hk)]
 simp only [Go.Sort.mapBlock,Go.Sort.heap_ahead,Qg]
 rw [if_neg (Ne.symm hne)]
theorem c4f (w:World) (b n:Nat) (l:Array O8) (os:Array Obj):w.heap.size<=(Go.Proofs.sortWorldK O8.enc 8 w b 0 n l os).heap.size:=by
 simp [Go.Proofs.sortWorldK,Go.Sort.putRowK,Go.Sort.putRow,Go.Sort.mapBlock]
theorem c4T:Go.Sort.SWO (Go.Proofs.ltOf fun x y:O8=>c2q x.w y.w) where
 irrefl x:=by unfold Go.Proofs.ltOf; rw [c3e]; exact c2W _
 trans x y z h1 h2:=by unfold Go.Proofs.ltOf at *; rw [c3e] at *; exact c2O h1 h2
 ntrans x y z h1 h2:=by unfold Go.Proofs.ltOf at *; rw [c3e] at *; exact c4g (O8.wlen _ _) (O8.wlen _ _) h1 h2
theorem c4q {l:List O8} {d':Array O8} (hd:c3j l=true) (hp:Go.Sort.PermIn 0 l.toArray.size l.toArray d') (hs:Go.Sort.SortedIn (Go.Proofs.ltOf fun x y:O8=>c2q x.w y.w) 0 l.toArray.size d'):d'=(c2J l).toArray:=by
 obtain ⟨h1,_,h3⟩:=hp
 have hp:d'.toList.Perm l:=by
  have e1:(d'.extract 0 l.toArray.size).toList=d'.toList:=by rw [<- h1]; simp
  have e2:(l.toArray.extract 0 l.toArray.size).toList=l:=by simp
  rwa [e1,e2] at h3
 have hS:Srt d'.toList:=by
  unfold Srt
  rw [List.pairwise_iff_getElem]
  intro i j hi hj hij
  have:=hs i j (Nat.zero_le _) hij (by rw [<- h1]; simpa using hj)
  unfold Go.Proofs.ltOf at this
  rw [c3e,getElem!_pos d' j (by simpa using hj),getElem!_pos d' i (by simpa using hi)] at this
  simpa using this
 rw [<- c3A (c3G hd) hp hS]
theorem b3h:∀ x:O8,∀ v∈O8.enc x,v.oneCell'=true:=by
 intro x v hv
 simp only [O8.enc,Q2,Qu,or_false] at hv
 rcases hv with rfl | rfl | rfl | rfl | rfl | rfl | rfl | rfl<;>rfl
theorem b5K:∀ (l:List O8),∀ r∈l.map O8.row,∀ p∈r,p.one=true:=by
 intro l r hr p hp
 obtain ⟨x,_,rfl⟩:=Q1.1 hr
 simp only [O8.row,Q2,Qu,or_false] at hp
 rcases hp with rfl | rfl | rfl | rfl | rfl | rfl | rfl | rfl<;>rfl
section
variable {P:Program} {ρ:Ren}
theorem c4e (L:Go.Proofs.SlLaysF0.n6 P ρ) (aE:∀ w,(isAgg (ρ.t 24)).run P w=.ok true w) (zE:∀ w,(Go.sizeOf (ρ.t 24)).run P w=.ok 8 w) {g:Nat}
  (eg:∀ args w,(callFunc g args).run P w=.ok (.enter g args) w)
  (hcmp:∀ (x y:O8) (W:World),Calls P g #[.agg (O8.enc x).toArray,.agg (O8.enc y).toArray] W fun e w'=>e=.returned (.int .i64 (c2q x.w y.w))/\∃ q os',w'=Go.Sort.grow (W.drewN q) os')
  {w:World} {b T cap:Nat} {cur:Array Value} {l:List O8} (hb:w.heap[b]?=some (.cells cur T (0,0))) (hcur:∀ (j:Nat) (u:Value),(l.map O8.enc).flatten[j]?=some u->cur[j]?=some u) (hd:c3j l=true) (hsz:l.length<=1000000) :
  Calls P (ρ.f 6) #[.slice (some ⟨b,0,none⟩) l.length cap,.func (.func g) #[] #[]] w fun e w'=>e=.returned (.tuple #[])/\∃ n os,w'=Go.Proofs.sortWorldK O8.enc 8 w b 0 n (c2J l).toArray os:=by
 have h:=Go.Proofs.AnyQ.slices_SortFunc L 8 aE zE O8.enc a8l b3h (fun x y=>c2q x.w y.w) c4T g #[] b 0 cap l.toArray w eg (fun m os dk _ x y=>by simpa using hcmp x y _) (c4D hb hcur) (Q4.1 hb).1 (by simp; omega)
 rw [Qf] at h
 refine h.mono ?_
 rintro e w' ⟨he,d',n,os,h1,h2,h3⟩
 rw [<- Qf] at h1 h2
 rw [c4q hd h1 h2] at h3
 exact ⟨he,n,os,h3⟩
theorem c3I (L:Go.Proofs.SlLaysF0.n6 P ρ) (aE:∀ w,(isAgg (ρ.t 24)).run P w=.ok true w) (zE:∀ w,(Go.sizeOf (ρ.t 24)).run P w=.ok 8 w) {g:Nat}
  (eg:∀ args w,(callFunc g args).run P w=.ok (.enter g args) w)
  (hcmp:∀ (x y:O8) (W:World),Calls P g #[.agg (O8.enc x).toArray,.agg (O8.enc y).toArray] W fun e w'=>e=.returned (.int .i64 (c2q x.w y.w))/\∃ q os',w'=Go.Sort.grow (W.drewN q) os')
  {s:Hp} {σ:List MO} {m:MS} {w:World} (hm:a0G s (inf σ m) σ m) (hcoh:Coh σ m) (hs:Sub s w) (hok:MOk s m w) {h T len b cap:Nat} {rows:List (List PV)} {cur:Array Value} {l:List O8}
  (h0:σ[h]?=some (.row rows 8 T)) (h1:m[h]?=some (b,.cells cur T (0,0))) (hlen:len<=rows.length) (hl:a5g (rows.take len)=some l) (hd:c3j l=true) (hsz:len<=1000000) :
  Calls P (ρ.f 6) #[.slice (some ⟨b,0,none⟩) len cap,.func (.func g) #[] #[]] w (Ret (QF σ m (.tup []) (σ.set h (.row ((c2J l).map O8.row++rows.drop len) 8 T))) s m w):=by
 have hrows:=a8Y hl
 have hll:l.length=len:=by
  have:=congrArg List.length hrows
  rw [List.length_take,Qh,Nat.min_eq_left hlen] at this
  exact this.symm
 obtain ⟨x0,g1,cur0,g2,a1,a2,⟨cap0,a31,a32,a33⟩,a4,xs,a5,a6,a7⟩:=hm.obj h0
 rw [h1] at g1
 simp only [Q0] at g1; subst g1
 simp only [Obj.cells.injEq] at g2
 obtain ⟨rfl,_⟩:=g2
 have hxl:xs.length=rows.length:=a5.length
 have hx1:xs.take len=l.map O8.enc:=by
  have:=a5.take len
  rw [hrows] at this
  exact a9v this
 have hb:=hok.is _ (Q3 h1)
 simp only at hb
 have hsplit:xs.flatten=(l.map O8.enc).flatten++(xs.drop len).flatten:=by
  rw [<- hx1,<- Qv,List.take_append_drop]
 have hcur:∀ (j:Nat) (u:Value),(l.map O8.enc).flatten[j]?=some u->cur[j]?=some u:=fun j u hj=>by
  apply a7 j u
  rw [hsplit,Qw (Qa.1 hj).1]
  exact hj
 have hflen:=a1I l
 have hle8:l.length*8<=cur.size:=by rw [a31]; exact Nat.mul_le_mul_right _ (by omega)
 have hsl:(c2J l).length=l.length:=(c2Q l).length_eq
 have hcall:=c4e (cap:=cap) L aE zE eg hcmp hb hcur hd (by omega)
 rw [hll] at hcall
 refine hcall.mono ?_
 rintro e w' ⟨rfl,n,os,rfl⟩
 have hblt:=(Q4.1 hb).1
 have hhl:=(Qa.1 h0).1
 have hml:=hm.length
 have hbl:a0I (m.set h (b,Obj.cells (c3g cur (c2J l)) T (0,0)))=a0I m:=by
  unfold a0I
  rw [List.map_set]
  apply Qm
  intro i
  rw [Q5]
  split
  ·rename_i he; subst he
   rw [if_pos (by simpa using (by omega:h < m.length)),Qy,h1]; rfl
  ·rfl
 have hrep:EnvRep s { i:=[],b:=[],v:=[],m:=σ,k:=0 } { i:=[],b:=[],v:=[],j:=[],m:=m,k:=0 }:=⟨rfl,rfl,rfl,hm,rfl,by simp,hcoh⟩
 have hobj:a2a s (inf σ m) (.row ((c2J l).map O8.row++rows.drop len) 8 T) (b,.cells (c3g cur (c2J l)) T (0,0)):=by
  refine ⟨_,rfl,?_,by omega,⟨cap0,by rw [c3z]; exact a31,?_,a33⟩,?_,(c2J l).map O8.enc++xs.drop len,(a9l _).append (a5.drop len),?_,?_⟩
  ·intro he
   have:=congrArg List.length he
   rw [Qe,Qh,Qn,Qp] at this
   exact a1 (Qq.1 (by omega))
  ·rw [Qe,Qh,Qn]; omega
  ·intro r hr
   rcases Qz.1 hr with hr | hr
   ·exact b5K _ r hr
   ·exact a4 r (QA hr)
  ·intro x hx
   rcases Qz.1 hx with hx | hx
   ·obtain ⟨y,_,rfl⟩:=Q1.1 hx; rfl
   ·exact a6 x (QA hx)
  ·intro j u hj
   rw [c4x _ _ (by omega),Qv] at *
   by_cases hlt:j < (c2J l).length*8
   ·rw [if_pos hlt]
    rwa [Qw (by rw [a1I]; exact hlt)] at hj
   ·rw [if_neg hlt]
    rw [QB (by rw [a1I]; omega),a1I,hsl] at hj
    apply a7 j u
    rw [hsplit,QB (by rw [hflen]; omega),hflen]
    exact hj
 have hI:a1i (.row ((c2J l).map O8.row++rows.drop len) 8 T) (b,Obj.cells (c3g cur (c2J l)) T (0,0))=a1i (.row rows 8 T) (b,Obj.cells cur T (0,0)):=by
  simp only [a1i,a1D,c3z,Qe,Qh,Qn]
  congr 2
  omega
 obtain ⟨hle,he⟩:=hrep.setM h0 h1 hobj (.inl hI)
 refine ⟨_,s,_,rfl,⟨rfl,rfl,rfl,c4f _ _ _ _ _,fun k hk hn=>c3l hk (fun hkb=>hn (by rw [hkb]; exact Q1.2 ⟨_,Q3 h1,rfl⟩)) _ _ _⟩,Hp.le_refl s,?_,(fun b o u h1 h2=>by rw [h1] at h2; cases h2),⟨by simp,?_⟩,⟨by rw [hbl]; exact hok.nd,?_,?_⟩,hle,⟨[],rfl,rfl⟩,he.m,he.coh⟩
 ·intro b2 o u hu
  have hc:=hs b2 o u hu
  have hne:b2≠b:=by
   rintro rfl
   rw [hok.un _ (Q3 h1) o] at hu; cases hu
  have hlt2:b2 < w.heap.size:=by
   simp only [World.cell?] at hc
   cases hh:w.heap[b2]? with
   | none=>rw [hh] at hc; cases hc
   | some _=>exact (Q4.1 hh).1
  have hk:=c3l hlt2 hne n (c2J l).toArray os
  simp only [World.cell?,hk]
  exact hc
 ·intro i x hx
  rw [Q5] at hx
  split at hx
  ·rename_i he; subst he
   split at hx
   ·simp only [Q0] at hx; subst hx
    exact .inl ⟨_,h1,rfl⟩
   ·cases hx
  ·exact .inl ⟨x,hx,rfl⟩
 ·intro x hx
  obtain ⟨i,hi⟩:=QC.1 hx
  rw [Q5] at hi
  split at hi
  ·split at hi
   ·simp only [Q0] at hi; subst hi
    exact c3X hb _ _ _
   ·cases hi
  ·rename_i hne
   have hin:=hok.is x (Q3 hi)
   rw [c3l (Q4.1 hin).1 (fun hxb=>hne ?_)]
   ·exact hin
   ·have e1:(a0I m)[i]?=some b:=by simp [a0I,hi,hxb]
    have e2:(a0I m)[h]?=some b:=by simp [a0I,h1]
    exact (QD (Qa.1 e2).1 hok.nd).1 (e2.trans e1.symm)
 ·intro x hx o
  have:x.1∈a0I m:=by rw [<- hbl]; exact Q1.2 ⟨x,hx,rfl⟩
  obtain ⟨y,hy,he⟩:=Q1.1 this
  rw [<- he]; exact hok.un y hy o
theorem c4G (L:Go.Proofs.SlLaysF0.n6 P ρ) (aE:∀ w,(isAgg (ρ.t 24)).run P w=.ok true w) (zE:∀ w,(Go.sizeOf (ρ.t 24)).run P w=.ok 8 w) {g:Nat}
  (eg:∀ args w,(callFunc g args).run P w=.ok (.enter g args) w) (ef:∀ args w,(callFunc (ρ.f 6) args).run P w=.ok (.enter (ρ.f 6) args) w)
  (hcmp:∀ (x y:O8) (W:World),Calls P g #[.agg (O8.enc x).toArray,.agg (O8.enc y).toArray] W fun e w'=>e=.returned (.int .i64 (c2q x.w y.w))/\∃ q os',w'=Go.Sort.grow (W.drewN q) os'):CtP P (ρ.f 6) (c3q g):=by
 intro aa σ r σ' h
 refine ⟨ef,fun s m vs hm hcoh hv w hs hok=>?_⟩
 have none:∀ (a:Option Addr) (cap:Nat) (v2:Value),vs=[.slice a 0 cap,v2]->Calls P (ρ.f 6) vs.toArray w (Ret (QF σ m (.tup []) σ) s m w):=by
  rintro a cap v2 rfl
  refine (Go.Proofs.AnyF.slices_SortFunc_none { L with } a cap v2 w).mono ?_
  rintro e w' ⟨rfl,rfl⟩
  exact ⟨_,s,m,rfl,Grows.refl _ _,Hp.le_refl s,hs,(fun b o u h1 h2=>by rw [h1] at h2; cases h2),⟨Nat.le_refl _,fun i x hx=>.inl ⟨x,hx,rfl⟩⟩,hok,Le2.refl _ _,⟨[],rfl,rfl⟩,hm,hcoh⟩
 unfold c3q at h
 split at h
 ·rename_i σ0 hd len sz g'
  split at h
  case h_2=>cases h
  rename_i rows sz' T h0
  rw [Qj] at h
  obtain ⟨l,hl,h⟩:=h
  split at h
  case isFalse=>cases h
  rename_i hc
  obtain ⟨rfl,hc1,rfl,rfl,hc2,hc3⟩:=hc
  simp only [Q0,Q7] at h
  obtain ⟨rfl,rfl⟩:=h
  obtain ⟨x0,h1,cur,g2,_⟩:=hm.obj h0
  obtain ⟨b,o⟩:=x0
  simp only at g2; subst g2
  have hI:=a1b h0 h1
  simp only [Reps,Rep] at hv
  obtain ⟨v1,_,rfl,⟨hpos,b1,cap,rfl,b',n',r',k1,k2,k3⟩,v2,_,rfl,⟨cs,rfl,rfl⟩,rfl⟩:=hv
  rw [hI] at k1
  simp only [a1i,Q0,Q7] at k1
  obtain ⟨rfl,rfl,rfl⟩:=k1
  obtain ⟨rfl,_,_⟩:=k3 hc1
  have:=c3I (cap:=cap) (len:=len) L aE zE eg hcmp hm hcoh hs hok h0 h1 (by omega) (by rw [List.take_of_length_le (by omega)]; exact hl) hc2 hc3
  rw [List.drop_eq_nil_of_le (by omega),List.append_nil] at this
  exact this
 ·rename_i σ0 hd len r0 sz g'
  split at h
  case h_2=>cases h
  rename_i rows sz' T h0
  rw [Qj] at h
  obtain ⟨l,hl,h⟩:=h
  split at h
  case isFalse=>cases h
  rename_i hc
  obtain ⟨rfl,hc1,hc0,rfl,rfl,hc2,hc3⟩:=hc
  simp only [Q0,Q7] at h
  obtain ⟨rfl,rfl⟩:=h
  obtain ⟨x0,h1,cur,g2,_⟩:=hm.obj h0
  obtain ⟨b,o⟩:=x0
  simp only at g2; subst g2
  have hI:=a1b h0 h1
  simp only [Reps,Rep] at hv
  obtain ⟨v1,_,rfl,⟨hpos,_,b1,cap,rfl,b',n',r',k1,k2,k3⟩,v2,_,rfl,⟨cs,rfl,rfl⟩,rfl⟩:=hv
  rw [hI] at k1
  simp only [a1i,Q0,Q7] at k1
  obtain ⟨rfl,rfl,rfl⟩:=k1
  obtain ⟨rfl,_,_⟩:=k3 hc1
  exact c3I (cap:=cap) (len:=len) L aE zE eg hcmp hm hcoh hs hok h0 h1 (by omega) hl hc2 hc3
 ·simp only [Q0,Q7] at h
  obtain ⟨rfl,rfl⟩:=h
  simp only [Reps,Rep] at hv
  obtain ⟨v1,_,rfl,rfl,v2,_,rfl,_,rfl⟩:=hv
  exact none _ _ _ rfl
 ·simp only [Q0,Q7] at h
  obtain ⟨rfl,rfl⟩:=h
  simp only [Reps,Rep] at hv
  obtain ⟨v1,_,rfl,⟨xs,⟨_,a,cap,rfl,_,_⟩,hx,_⟩,v2,_,rfl,_,rfl⟩:=hv
  have:xs=[]:=Qq.1 hx.length
  subst this
  exact none _ _ _ rfl
 ·cases h
end
end Go.Sx
namespace Go.Sx
open Go.RowKit Go.Shelf
def a6N (cur:Array Value):Nat->List Value->Array Value
 | _,[]=>cur
 | o,v::r=>a6N (cur.setIfInBounds o v) (o+1) r
theorem a5b:∀ (vs:List Value) (o:Nat) (cur:Array Value),(a6N cur o vs).size=cur.size
 | [],_,_=>rfl
 | v::r,o,cur=>by rw [a6N,a5b r]; simp
theorem b1q:∀ (vs:List Value) (o:Nat) (cur:Array Value) (j:Nat),o+vs.length<=cur.size->(a6N cur o vs)[j]?=if o<=j/\j < o+vs.length then vs[j-o]? else cur[j]?
 | [],o,cur,j,_=>by rw [a6N,if_neg (by rw [Qp]; omega)]
 | v::r,o,cur,j,h=>by
  rw [Q9] at h
  rw [a6N,b1q r (o+1) _ j (by simp; omega)]
  by_cases h1:o+1<=j/\j < o+1+r.length
  ·rw [if_pos h1,if_pos (by rw [Q9]; omega),show j-o=(j-(o+1))+1 by omega,List.getElem?_cons_succ]
  ·rw [if_neg h1]
   by_cases h2:j=o
   ·subst h2
    rw [if_pos (by rw [Q9]; omega),Nat.sub_self,List.getElem?_cons_zero,Array.getElem?_setIfInBounds_self_of_lt (by omega)]
   ·rw [if_neg (by rw [Q9]; omega),Array.getElem?_setIfInBounds_ne (fun h=>h2 h.symm)]
theorem a5E (b:Nat):∀ (vs:List Value) (o T:Nat) (r:Nat × Nat) (cur:Array Value) (w:World),w.heap[b]?=some (.cells cur T r)->(w.setCells b o vs).heap[b]?=some (.cells (a6N cur o vs) T r)
 | [],_,_,_,_,_,h=>h
 | v::l,o,T,r,cur,w,h=>by
  rw [World.setCells,a6N]
  refine a5E b l (o+1) T r _ _ ?_
  simp only [World.setCell,Qg,if_true,h,Qb]
  rfl
theorem a5F (b:Nat):∀ (vs:List Value) (o:Nat) (w:World) (k:Nat),k≠b->(w.setCells b o vs).heap[k]?=w.heap[k]?
 | [],_,_,_,_=>rfl
 | v::l,o,w,k,h=>by
  rw [World.setCells,a5F b l (o+1) _ k h]
  simp only [World.setCell,Qg]
  rw [if_neg (Ne.symm h)]
theorem a6e (b:Nat):∀ (vs:List Value) (o:Nat) (w:World),(w.setCells b o vs).heap.size=w.heap.size
 | [],_,_=>rfl
 | v::l,o,w=>by rw [World.setCells,a6e b l (o+1)]; simp [World.setCell]
theorem a6f (b:Nat):∀ (vs:List Value) (o:Nat) (w:World),(w.setCells b o vs).os=w.os/\(w.setCells b o vs).tape=w.tape/\(w.setCells b o vs).output=w.output
 | [],_,_=>⟨rfl,rfl,rfl⟩
 | v::l,o,w=>by rw [World.setCells]; exact a6f b l (o+1) _
theorem b5z {P:Program} (w:World) (t e ty:TypeId) (z:Value) (zs:List Value) (ht:P.underlying t=some (.slice e)) (hv:∀ w,(zeroValue e).run P w=.ok z w) (hz:z.cells=zs.toArray) (h1:∀ v∈zs,v.oneCell'=true) (b o n c:Nat) (hn:0 < n)
  (hc:∀ j,j < n*zs.length->(w.cell? ⟨b,o+j,none⟩).isSome=true) (hf:∀ j,j < n*zs.length->w.frozen? ⟨b,o+j,none⟩=false) :
  (Builtin.clear_ #[t] ty #[.slice (some ⟨b,o,none⟩) n c]).run P w=.ok (.tuple #[]) (w.setCells b o (Builtin.zeroCells z.cells n).toList):=by
 have hlen:(Builtin.zeroCells z.cells n).toList.length=n*zs.length:=by simp [Builtin.zeroCells,hz]
 have hmem:∀ v∈(Builtin.zeroCells z.cells n).toList,v.oneCell'=true:=by
  intro v hm
  simp only [Builtin.zeroCells,Array.toList_map,Q1,Array.mem_toList_iff,Array.mem_range] at hm
  obtain ⟨i,hi,rfl⟩:=hm
  rw [hz] at hi ⊢
  have hpos:0 < zs.length:=by
   rcases Nat.eq_zero_or_pos zs.length with h | h
   ·simp [h] at hi
   ·exact h
  have hlt:i % zs.length < zs.length:=Nat.mod_lt _ hpos
  rw [Qf,getElem!_pos zs.toArray _ (by simpa using hlt)]
  exact h1 _ (by simp)
 have hst:=run_storeCells_cells (P:=P) b o (Builtin.zeroCells z.cells n).toList 0 w (by rw [hlen]; simpa using hc) (by rw [hlen]; simpa using hf) hmem
 simp only [Nat.add_zero] at hst
 obtain ⟨m,rfl⟩:∃ m,n=m+1:=⟨n-1,by omega⟩
 simp [Builtin.clear_,run_underlying ht,hv,hst]
theorem b8d {P:Program} {f:FuncId} {args:Array Value} {s:Hp} {σ:List MO} {m:MS} {w:World} (hm:a0G s (inf σ m) σ m) (hcoh:Coh σ m) (hs:Sub s w) (hok:MOk s m w) {h T b sz:Nat} {rows rows':List (List PV)} {cur cur':Array Value}
  (h0:σ[h]?=some (.row rows sz T)) (h1:m[h]?=some (b,.cells cur T (0,0))) (hlen:rows'.length=rows.length) (hsz:cur'.size=cur.size) (hone:∀ r∈rows',∀ p∈r,p.one=true)
  {xs:List (List Value)} (hx:a0F s (inf σ m) rows' xs) (hx8:∀ x∈xs,x.length=sz) (hxc:∀ (j:Nat) (u:Value),xs.flatten[j]?=some u->cur'[j]?=some u) {r:PV} {v:Value} (hr:Rep s (inf σ m) r v)
  (hcall:Calls P f args w fun e w'=>e=.returned v/\w'.os=w.os/\w'.tape=w.tape/\w'.output=w.output/\w.heap.size<=w'.heap.size/\w'.heap[b]?=some (.cells cur' T (0,0))/\∀ k,k < w.heap.size->k≠b->w'.heap[k]?=w.heap[k]?) :
  Calls P f args w (Ret (QF σ m r (σ.set h (.row rows' sz T))) s m w):=by
 obtain ⟨x0,g1,cur0,g2,a1,a2,⟨cap0,a31,a32,a33⟩,a4,xs0,a5,a6,a7⟩:=hm.obj h0
 rw [h1] at g1
 simp only [Q0] at g1; subst g1
 simp only [Obj.cells.injEq] at g2
 obtain ⟨rfl,_⟩:=g2
 have hb:=hok.is _ (Q3 h1)
 simp only at hb
 refine hcall.mono ?_
 rintro e w' ⟨rfl,w1,w2,w3,w4,w5,w6⟩
 have hhl:=(Qa.1 h0).1
 have hml:=hm.length
 have hbl:a0I (m.set h (b,Obj.cells cur' T (0,0)))=a0I m:=by
  unfold a0I
  rw [List.map_set]
  apply Qm
  intro i
  rw [Q5]
  split
  ·rename_i he; subst he
   rw [if_pos (by simpa using (by omega:h < m.length)),Qy,h1]; rfl
  ·rfl
 have hrep:EnvRep s { i:=[],b:=[],v:=[],m:=σ,k:=0 } { i:=[],b:=[],v:=[],j:=[],m:=m,k:=0 }:=⟨rfl,rfl,rfl,hm,rfl,by simp,hcoh⟩
 have hobj:a2a s (inf σ m) (.row rows' sz T) (b,.cells cur' T (0,0)):=by
  refine ⟨_,rfl,?_,by omega,⟨cap0,by rw [hsz]; exact a31,by omega,a33⟩,hone,xs,hx,hx8,hxc⟩
  intro he
  rw [he,Qp] at hlen
  exact a1 (Qq.1 hlen.symm)
 have hI:a1i (.row rows' sz T) (b,Obj.cells cur' T (0,0))=a1i (.row rows sz T) (b,Obj.cells cur T (0,0)):=by
  simp only [a1i,a1D,hsz,hlen]
 obtain ⟨hle,he⟩:=hrep.setM h0 h1 hobj (.inl hI)
 have hinf:inf (σ.set h (.row rows' sz T)) (m.set h (b,.cells cur' T (0,0)))=inf σ m:=by
  apply Qm
  intro i
  simp only [inf,List.getElem?_zipWith,Q5]
  by_cases hi:h=i
  ·subst hi
   simp only [if_true]
   rw [if_pos hhl,if_pos (by omega:h < m.length),h0,h1]
   simp only [hI]
  ·simp only [if_neg hi]
 refine ⟨v,s,_,rfl,⟨w1,w2,w3,w4,fun k hk hn=>w6 k hk (fun hkb=>hn (by rw [hkb]; exact Q1.2 ⟨_,Q3 h1,rfl⟩))⟩,Hp.le_refl s,?_,(fun b o u h1 h2=>by rw [h1] at h2; cases h2),⟨by simp,?_⟩,⟨by rw [hbl]; exact hok.nd,?_,?_⟩,hle,?_,he.m,he.coh⟩
 ·intro b2 o u hu
  have hc:=hs b2 o u hu
  have hne:b2≠b:=by
   rintro rfl
   rw [hok.un _ (Q3 h1) o] at hu; cases hu
  have hlt2:b2 < w.heap.size:=by
   simp only [World.cell?] at hc
   cases hh:w.heap[b2]? with
   | none=>rw [hh] at hc; cases hc
   | some _=>exact (Q4.1 hh).1
  have hk:=w6 b2 hlt2 hne
  simp only [World.cell?,hk]
  exact hc
 ·intro i x hx
  rw [Q5] at hx
  split at hx
  ·rename_i he; subst he
   split at hx
   ·simp only [Q0] at hx; subst hx
    exact .inl ⟨_,h1,rfl⟩
   ·cases hx
  ·exact .inl ⟨x,hx,rfl⟩
 ·intro x hx
  obtain ⟨i,hi⟩:=QC.1 hx
  rw [Q5] at hi
  split at hi
  ·split at hi
   ·simp only [Q0] at hi; subst hi
    exact w5
   ·cases hi
  ·rename_i hne
   have hin:=hok.is x (Q3 hi)
   rw [w6 _ (Q4.1 hin).1 (fun hxb=>hne ?_)]
   ·exact hin
   ·have e1:(a0I m)[i]?=some b:=by simp [a0I,hi,hxb]
    have e2:(a0I m)[h]?=some b:=by simp [a0I,h1]
    exact (QD (Qa.1 e2).1 hok.nd).1 (e2.trans e1.symm)
 ·intro x hx o
  have:x.1∈a0I m:=by rw [<- hbl]; exact Q1.2 ⟨x,hx,rfl⟩
  obtain ⟨y,hy,he⟩:=Q1.1 this
  rw [<- he]; exact hok.un y hy o
 ·have:Rep s (inf (σ.set h (.row rows' sz T)) (m.set h (b,.cells cur' T (0,0)))) r v:=by rw [hinf]; exact hr
  exact this
def O8.zero:O8:=⟨0,0,0,0,0,0,0,0⟩
end Go.Sx
namespace Go.Sx
open Go.RowKit
mutual
def PV.plain:PV->Bool
 | .int .. | .bool .. | .str .. | .undef | .nilS | .nilF | .nilP | .nilI | .nilM=>true
 | .agg l=>PV.plains l
 | .tup l=>PV.plains l
 | _=>false
def PV.plains:List PV->Bool
 | []=>true
 | p::l=>p.plain&&PV.plains l
end
mutual
theorem b3M {s t:Hp} {B C:Inf}:∀ (p:PV) (v:Value),p.plain=true->Rep s B p v->Rep t C p v
 | .int ..,_,_,h=>h
 | .bool ..,_,_,h=>h
 | .str ..,_,_,h=>h
 | .undef,_,_,h=>h
 | .nilS,_,_,h=>h
 | .nilF,_,_,h=>h
 | .nilP,_,_,h=>h
 | .nilI,_,_,h=>h
 | .nilM,_,_,h=>h
 | .agg l,v,hp,h=>by
  simp only [PV.plain] at hp
  simp only [Rep] at h ⊢
  obtain ⟨vs,h1,h2⟩:=h
  exact ⟨vs,h1,a8L l vs hp h2⟩
 | .tup l,v,hp,h=>by
  simp only [PV.plain] at hp
  simp only [Rep] at h ⊢
  obtain ⟨vs,h1,h2⟩:=h
  exact ⟨vs,h1,a8L l vs hp h2⟩
theorem a8L {s t:Hp} {B C:Inf}:∀ (l:List PV) (vs:List Value),PV.plains l=true->Reps s B l vs->Reps t C l vs
 | [],_,_,h=>h
 | p::l,vs,hp,h=>by
  simp only [PV.plains,Qd] at hp
  simp only [Reps] at h ⊢
  obtain ⟨v,r,h1,h2,h3⟩:=h
  exact ⟨v,r,h1,b3M p v hp.1 h2,a8L l r hp.2 h3⟩
end
end Go.Sx
