/- TX: records of eight int64s in the order of their bundles; sorted, plain. -/
import Derived.Test.YtflcopaopimlpaaHTxe
import Derived.Test.YtflcopaopimlpaaHGx
import Derived.Shelf.SlSortCmp.NoneTotal
set_option linter.unusedSimpArgs false
set_option linter.unusedVariables false
open List renaming mem_cons → Q0, pairwise_cons → Q1, mem_map → Q3, map_cons → Q4, length_append → Q8, length_map → Q9, mem_of_getElem? → Qa, nodup_cons → Qf, length_eq_zero_iff → Qg, size_toArray → Qh, getElem?_eq_some_iff → Qj, getElem?_set → Qk, length_drop → Qm, mem_cons_of_mem → Qn, perm_cons → Qp, any_eq_false → Qr, all_eq_true → Qs, pairwise_map → Qt, mem_filter → Qu, mem_cons_self → Qv, map_append → Qw, nodup_append → Qy, pairwise_iff_forall_sublist → Qz, not_mem_nil → QB, flatten_append → QC, getElem?_append_left → QD, mem_append → QE, mem_of_mem_drop → QH, getElem?_append_right → QJ
open Option.some renaming injEq → Q2
open Prod.mk renaming injEq → Q5
open Array renaming getElem?_eq_some_iff → Q6, getElem?_modify → QA
open Bool renaming and_eq_true → Q7, not_eq_true' → Qq
open Option renaming map_some → Qb, bind_eq_some_iff → Qd
open List.Pairwise renaming nil → Qe
namespace Go.Sx
structure O8 where
 (b w0 w1 w2 w3 w4 w5 v:Int)
 deriving DecidableEq,Inhabited
def O8.w (x:O8):List Int:=[x.w0,x.w1,x.w2,x.w3,x.w4,x.w5]
def O8.row (x:O8):List PV:=[.int .i64 x.b,.int .i64 x.w0,.int .i64 x.w1,.int .i64 x.w2,.int .i64 x.w3,.int .i64 x.w4,.int .i64 x.w5,.int .i64 x.v]
def O8.enc (x:O8):List Value:=[.int .i64 x.b,.int .i64 x.w0,.int .i64 x.w1,.int .i64 x.w2,.int .i64 x.w3,.int .i64 x.w4,.int .i64 x.w5,.int .i64 x.v]
def b3O:List PV->Option O8
 | [.int .i64 b,.int .i64 w0,.int .i64 w1,.int .i64 w2,.int .i64 w3,.int .i64 w4,.int .i64 w5,.int .i64 v]=>some ⟨b,w0,w1,w2,w3,w4,w5,v⟩
 | _=>none
theorem b5K (x:O8):b3O x.row=some x:=rfl
theorem b5u {r:List PV} {x:O8} (h:b3O r=some x):r=x.row:=by
 unfold b3O at h
 split at h
 ·simp only [Q2] at h; subst h; rfl
 ·cases h
def a3S:List (List PV)->Option (List O8)
 | []=>some []
 | r::l=>(b3O r).bind fun x=>(a3S l).map (x::·)
theorem b1c:∀ l:List O8,a3S (l.map O8.row)=some l
 | []=>rfl
 | x::l=>by simp only [Q4,a3S,b5K,b1c l,Option.bind_some,Qb]
theorem a9p:∀ {rows:List (List PV)} {l:List O8},a3S rows=some l->rows=l.map O8.row
 | [],l,h=>by simp only [a3S,Q2] at h; subst h; rfl
 | r::rows,l,h=>by
  simp only [a3S,Qd,Option.map_eq_some_iff] at h
  obtain ⟨x,h1,l',h2,rfl⟩:=h
  rw [b5u h1,a9p h2]; rfl
theorem a2E:∀ l:List Int,ltK l l=false
 | []=>rfl
 | x::l=>by simp [ltK,a2E l]
theorem a1V:∀ {a b c:List Int},ltK a b=true->ltK b c=true->ltK a c=true
 | [],_,_,h,_=>by simp [ltK] at h
 | _::_,[],_,h,_=>by simp [ltK] at h
 | _::_,_::_,[],_,h=>by simp [ltK] at h
 | x::a,y::b,z::c,h,k=>by
  simp only [ltK,Bool.or_eq_true,Q7,decide_eq_true_eq] at *
  rcases h with h | ⟨rfl,h⟩
  ·rcases k with k | ⟨rfl,k⟩
   ·exact .inl (by omega)
   ·exact .inl h
  ·rcases k with k | ⟨rfl,k⟩
   ·exact .inl k
   ·exact .inr ⟨rfl,a1V h k⟩
theorem a7G:∀ {a b:List Int},a.length=b.length->ltK a b=false->ltK b a=false->a=b
 | [],[],_,_,_=>rfl
 | [],_::_,h,_,_=>by simp at h
 | _::_,[],h,_,_=>by simp at h
 | x::a,y::b,h,h1,h2=>by
  simp only [ltK,Bool.or_eq_false_iff,Bool.and_eq_false_iff,decide_eq_false_iff_not] at h1 h2
  have:x=y:=by omega
  subst this
  have e:=a7G (a:=a) (b:=b) (by simpa using h) (by simpa using h1.2) (by simpa using h2.2)
  rw [e]
theorem b4r {a b c:List Int} (h1:a.length=b.length) (h2:b.length=c.length) (h:ltK a b=false) (k:ltK b c=false):ltK a c=false:=by
 cases hac:ltK a c with
 | false=>rfl
 | true =>
  cases hba:ltK b a with
  | true=>rw [a1V hba hac] at k; cases k
  | false =>
   have:=a7G h1 h hba
   subst this
   rw [hac] at k; cases k
def a0H (a b:List Int):Int:=if ltK a b=true then -1 else if ltK b a=true then 1 else 0
theorem a5X (a b:List Int):decide (a0H a b < 0)=ltK a b:=by
 unfold a0H
 cases ltK a b<;>cases ltK b a<;>simp
theorem O8.wlen (x y:O8):x.w.length=y.w.length:=rfl
def a8R (x:O8):List O8->List O8
 | []=>[x]
 | y::l=>if ltK x.w y.w=true then x::y::l else y::a8R x l
def a1C:List O8->List O8
 | []=>[]
 | x::l=>a8R x (a1C l)
def Srt (l:List O8):Prop:=l.Pairwise fun a b=>ltK b.w a.w=false
theorem a7n (x:O8):∀ l,(a8R x l).Perm (x::l)
 | []=>.refl _
 | y::l=>by
  unfold a8R
  split
  ·exact .refl _
  ·exact ((a7n x l).cons y).trans (.swap x y l)
theorem a3l:∀ l,(a1C l).Perm l
 | []=>.refl _
 | x::l=>(a7n x _).trans ((a3l l).cons x)
theorem b1V (x:O8):∀ {l},Srt l->Srt (a8R x l)
 | [],_=>by simp [a8R,Srt]
 | y::l,h=>by
  unfold a8R
  have h':=h
  unfold Srt at h
  rw [Q1] at h
  split
  ·rename_i hlt
   refine Q1.2 ⟨fun z hz=>?_,h'⟩
   rcases Q0.1 hz with rfl | hz
   ·cases hk:ltK z.w x.w with
    | false=>rfl
    | true=>have:=a1V hlt hk; rw [a2E] at this; cases this
   ·cases hk:ltK z.w x.w with
    | false=>rfl
    | true=>have:=a1V hk hlt; rw [h.1 z hz] at this; cases this
  ·rename_i hlt
   refine Q1.2 ⟨fun z hz=>?_,b1V x h.2⟩
   rcases Q0.1 ((a7n x l).mem_iff.1 hz) with rfl | hz
   ·simpa using hlt
   ·exact h.1 z hz
theorem b1p:∀ l,Srt (a1C l)
 | []=>Qe
 | x::l=>b1V x (b1p l)
theorem b4z {l:List O8} (h:(l.map O8.w).Nodup) {a b:O8} (ha:a∈l) (hb:b∈l) (he:a.w=b.w):a=b:=by
 induction l with
 | nil=>cases ha
 | cons x l ih =>
  rw [Q4,Qf] at h
  rcases Q0.1 ha with ea | ha1
  ·rcases Q0.1 hb with eb | hb1
   ·rw [ea,eb]
   ·exact absurd (Q3.2 ⟨b,hb1,by rw [<- he,ea]⟩) h.1
  ·rcases Q0.1 hb with eb | hb1
   ·exact absurd (Q3.2 ⟨a,ha1,by rw [he,eb]⟩) h.1
   ·exact ih h.2 ha1 hb1
theorem b1X:∀ {l' l:List O8},(∀ a b,a∈l->b∈l->a.w=b.w->a=b)->l'.Perm l->Srt l'->Srt l->l'=l
 | [],l,_,hp,_,_=>hp.nil_eq
 | x::l',l,hd,hp,h1,h2=>by
  cases l with
  | nil=>have:=hp.length_eq; simp at this
  | cons y l =>
   have hxy:x=y:=by
    have hx:x∈y::l:=hp.mem_iff.1 (by simp)
    have hy:y∈x::l':=hp.mem_iff.2 (by simp)
    unfold Srt at h1 h2
    rw [Q1] at h1 h2
    rcases Q0.1 hx with h | hx
    ·exact h
    rcases Q0.1 hy with h | hy
    ·exact h.symm
    exact hd _ _ (by simp [hx]) (by simp) (a7G (O8.wlen _ _) (h2.1 x hx) (h1.1 y hy))
   subst hxy
   unfold Srt at h1 h2
   rw [Q1] at h1 h2
   rw [b1X (fun a b ha hb=>hd a b (Qn _ ha) (Qn _ hb)) ((Qp x).1 hp) h1.2 h2.2]
theorem a9B {l l':List O8} (h:(l.map O8.w).Nodup) (hp:l'.Perm l) (hs:Srt l'):l'=a1C l :=
 b1X (fun a b ha hb he=>b4z h ((a3l l).mem_iff.1 ha) ((a3l l).mem_iff.1 hb) he) (hp.trans (a3l l).symm) hs (b1p l)
def a4s:List O8->Bool
 | []=>true
 | x::l=>(!l.any fun y=>decide (y.w=x.w))&&a4s l
theorem b0U:∀ {l:List O8},a4s l=true->(l.map O8.w).Nodup
 | [],_=>by simp
 | x::l,h=>by
  simp only [a4s,Q7,Qq,Qr,decide_eq_true_eq] at h
  rw [Q4,Qf]
  refine ⟨fun hm=>?_,b0U h.2⟩
  obtain ⟨q,hq,he⟩:=Q3.1 hm
  exact h.1 q hq he
theorem b3A:∀ {l:List O8},(l.map O8.w).Nodup->a4s l=true
 | [],_=>rfl
 | x::l,h=>by
  rw [Q4,Qf] at h
  simp only [a4s,Q7,Qq,Qr,decide_eq_true_eq]
  exact ⟨fun y hy he=>h.1 (Q3.2 ⟨y,hy,he⟩),b3A h.2⟩
end Go.Sx
namespace Go.Sx
open Go.Kv
structure Asc (kv:KV):Prop where
 lt:kv.Pairwise fun p q=>ltK p.1 q.1=true
 six:∀ p∈kv,p.1.length=6
def b2s:KV->Bool
 | []=>true
 | p::l=>decide (p.1.length=6)&&(l.all fun q=>ltK p.1 q.1)&&b2s l
theorem a6S:∀ {kv:KV},b2s kv=true->Asc kv
 | [],_=>⟨Qe,by simp⟩
 | p::l,h=>by
  simp only [b2s,Q7,decide_eq_true_eq,Qs] at h
  have ih:=a6S h.2
  exact ⟨Q1.2 ⟨fun q hq=>h.1.2 q hq,ih.lt⟩,fun q hq=>by
   rcases Q0.1 hq with rfl | hq
   ·exact h.1.1
   ·exact ih.six q hq⟩
theorem Asc.nil:Asc []:=⟨Qe,by simp⟩
theorem Asc.tail {p:List Int × Int} {l:KV} (h:Asc (p::l)):Asc l:=⟨(Q1.1 h.lt).2,fun q hq=>h.six q (by simp [hq])⟩
theorem Asc.nd {kv:KV} (h:Asc kv):Nd kv:=by
 unfold Nd
 rw [List.nodup_iff_pairwise_ne,Qt]
 exact h.lt.imp fun hpq he=>by rw [he,a2E] at hpq; cases hpq
theorem Asc.wide {kv:KV} (h:Asc kv):a2U 6 kv=true:=by
 simp only [a2U,Qs,decide_eq_true_eq]; exact h.six
theorem b3g {p:List Int × Int} (hp:p.1.length=6):∀ {kv:KV},Asc kv->(∀ q∈kv,q.1≠p.1)->Asc (a2s kv p)
 | [],_,_=>⟨by simp [a2s],by simpa [a2s] using hp⟩
 | q::l,h,hne=>by
  have h1:=Q1.1 h.lt
  unfold a2s
  split
  ·rename_i hlt
   refine ⟨Q1.2 ⟨fun z hz=>?_,h.lt⟩,fun z hz=>?_⟩
   ·rcases Q0.1 hz with rfl | hz
    ·exact hlt
    ·exact a1V hlt (h1.1 z hz)
   ·rcases Q0.1 hz with rfl | hz
    ·exact hp
    ·exact h.six z hz
  ·rename_i hlt
   have hqp:ltK q.1 p.1=true:=by
    cases hk:ltK q.1 p.1 with
    | true=>rfl
    | false=>exact absurd (a7G ((h.six q (by simp)).trans hp.symm) hk (by simpa using hlt)) (hne q (by simp))
   have ih:=b3g hp h.tail (fun z hz=>hne z (by simp [hz]))
   refine ⟨Q1.2 ⟨fun z hz=>?_,ih.lt⟩,fun z hz=>?_⟩
   ·rcases (a6e z l p).1 hz with rfl | hz
    ·exact hqp
    ·exact h1.1 z hz
   ·rcases Q0.1 hz with rfl | hz
    ·exact h.six _ (by simp)
    ·exact ih.six z hz
theorem Asc.del {kv:KV} (h:Asc kv) (k:List Int):Asc (a1Y kv k):=⟨h.lt.sublist (List.filter_sublist),fun p hp=>h.six p ((Qu.1 hp).1)⟩
theorem Asc.put {kv:KV} (h:Asc kv) {k:List Int} (hk:k.length=6) (v:Int):Asc (a2y kv k v) :=
 b3g (p:=(k,v)) hk (h.del k) fun q hq=>by
  have:=(Qu.1 hq).2
  simpa using this
theorem b2l:∀ {a b:KV},Asc a->Asc b->a.Perm b->a=b
 | [],b,_,_,hp=>hp.nil_eq
 | x::a,b,ha,hb,hp=>by
  cases b with
  | nil=>have:=hp.length_eq; simp at this
  | cons y b =>
   have a1:=Q1.1 ha.lt
   have b1:=Q1.1 hb.lt
   have hxy:x=y:=by
    rcases Q0.1 (hp.mem_iff.1 (Qv)) with h | hx
    ·exact h
    rcases Q0.1 (hp.mem_iff.2 (Qv)) with h | hy
    ·exact h.symm
    have:=a1V (a1.1 y hy) (b1.1 x hx)
    rw [a2E] at this; cases this
   subst hxy
   rw [b2l ha.tail hb.tail ((Qp x).1 hp)]
def a7q (kv es:KV):KV:=es.foldl (fun kv p=>a2y kv p.1 p.2) kv
theorem b0S (kv es:KV) (p:List Int × Int):a7q kv (es++[p])=a2y (a7q kv es) p.1 p.2:=by simp [a7q]
theorem b1S {a b:KV} {k:List Int}:a0b (a++b) k=(a0b a k).or (a0b b k):=by
 induction a with
 | nil=>simp [a0b]
 | cons p l ih=>simp only [List.cons_append,a0b]; split<;>simp_all
theorem b3q:∀ (l:KV),Nd l->(∀ p∈l,p.1.length=6)->Asc (a7q [] l)/\∀ k,a0b (a7q [] l) k=a0b l k:=by
 intro l
 generalize hn:l.length=n
 induction n generalizing l with
 | zero=>intro _ _; rw [Qg.1 hn]; exact ⟨Asc.nil,fun _=>rfl⟩
 | succ n ih =>
  intro hl h6
  obtain ⟨l',p,rfl⟩:∃ l' p,l=l'++[p]:=⟨l.dropLast,l.getLast (by intro h; simp [h] at hn),(List.dropLast_concat_getLast _).symm⟩
  have hl1:Nd l':=by
   unfold Nd at hl ⊢
   rw [Qw] at hl
   exact (Qy.1 hl).1
  have hnew:a0b l' p.1=none:=Kv.lookQ_none.2 fun q hq he=>by
   unfold Nd at hl
   rw [Qw,Qy] at hl
   exact hl.2.2 _ (Q3.2 ⟨q,hq,rfl⟩) _ (by simp) he
  obtain ⟨i1,i2⟩:=ih l' (by simpa using hn) hl1 (fun q hq=>h6 q (by simp [hq]))
  rw [b0S]
  refine ⟨i1.put (h6 p (by simp)) _,fun k=>?_⟩
  rw [b4t,i2,b1S]
  split
  ·rename_i hk; subst hk; rw [hnew]; simp [a0b]
  ·rename_i hk
   have:a0b [p] k=none:=by unfold a0b; rw [if_neg (fun e=>hk e)]; rfl
   rw [this]; simp
theorem b5T {kv es:KV} (h:Asc kv) (hp:es.Perm kv):a7q [] es=kv:=by
 have hnd:=h.nd.perm hp.symm
 obtain ⟨k1,k2⟩:=b3q es hnd (fun p hp2=>h.six p (hp.mem_iff.1 hp2))
 exact b2l k1 h ((b6T k1.nd hnd k2).trans hp)
def kvO (i:Int) (p:List Int × Int):O8:=⟨i,p.1.getD 0 0,p.1.getD 1 0,p.1.getD 2 0,p.1.getD 3 0,p.1.getD 4 0,p.1.getD 5 0,p.2⟩
theorem b0M {l:List Int} (h:l.length=6):∃ a b c d e f,l=[a,b,c,d,e,f]:=by
 match l,h with
 | [a,b,c,d,e,f],_=>exact ⟨a,b,c,d,e,f,rfl⟩
theorem b3S {i:Int} {p:List Int × Int} (h:p.1.length=6):(kvO i p).w=p.1:=by
 obtain ⟨k,v⟩:=p
 obtain ⟨a,b,c,d,e,f,rfl⟩:=b0M h
 rfl
theorem b5R {kv es:KV} (h:Asc kv) (hp:es.Perm kv) (i:Int):a4s (es.map (kvO i))=true/\a1C (es.map (kvO i))=kv.map (kvO i):=by
 have hw:∀ l:KV,(∀ p∈l,p.1.length=6)->(l.map (kvO i)).map O8.w=l.map (·.1):=fun l hl=>by
  rw [List.map_map]
  exact List.map_congr_left fun p hp=>b3S (hl p hp)
 have h6:∀ p∈es,p.1.length=6:=fun p hp2=>h.six p (hp.mem_iff.1 hp2)
 have hn:((es.map (kvO i)).map O8.w).Nodup:=by rw [hw es h6]; exact h.nd.perm hp.symm
 refine ⟨b3A hn,(a9B hn (hp.symm.map _) ?_).symm⟩
 unfold Srt
 rw [Qt]
 refine (Qz).2 fun {p q} hs=>?_
 have hpq:=(Qz.1 h.lt) hs
 have m1:p∈kv:=hs.subset (by simp)
 have m2:q∈kv:=hs.subset (by simp)
 rw [b3S (h.six p m1),b3S (h.six q m2)]
 cases hk:ltK q.1 p.1 with
 | false=>rfl
 | true=>have:=a1V hpq hk; rw [a2E] at this; cases this
theorem a9b {k:Nat} {look:Nat->Option MO}:∀ l:List O8,PV.frzss k look (l.map O8.row)=some (l.map O8.row)
 | []=>rfl
 | x::l=>by
  simp only [Q4,PV.frzss,a9b l]
  simp [O8.row,PV.frzs,PV.frz,PV.one]
end Go.Sx
namespace Go.Sx
open Go.RowKit Go.Shelf
def a9n (g:Nat):List PV->List MO->Option (PV × List MO)
 | [.rsl h len sz,.fn g' []],σ=>match σ[h]? with
  | some (.row rows sz' T)=>(a3S rows).bind fun l=>if g'=g/\rows.length=len/\sz=8/\sz'=8/\a4s l=true/\len<=1000000 then some (.tup [],σ.set h (.row ((a1C l).map O8.row) 8 T)) else none
  | _=>none
 | [.rpl h len r sz,.fn g' []],σ=>match σ[h]? with
  | some (.row rows sz' T)=>(a3S (rows.take len)).bind fun l=>if g'=g/\rows.length=r/\len<=r/\sz=8/\sz'=8/\a4s l=true/\len<=1000000 then some (.tup [],σ.set h (.row ((a1C l).map O8.row++rows.drop len) 8 T)) else none
  | _=>none
 | [.nilS,.fn _ []],σ=>some (.tup [],σ)
 | [.sl _ [],.fn _ []],σ=>some (.tup [],σ)
 | _,_=>none
theorem b5F {s:Hp} {B:Inf} {x:O8} {vs:List Value} (h:Reps s B x.row vs):vs=x.enc:=by
 simp only [O8.row,Reps,Rep] at h
 obtain ⟨v0,_,rfl,rfl,v1,_,rfl,rfl,v2,_,rfl,rfl,v3,_,rfl,rfl,v4,_,rfl,rfl,v5,_,rfl,rfl,v6,_,rfl,rfl,v7,_,rfl,rfl,rfl⟩:=h
 rfl
theorem b5B {s:Hp} {B:Inf} (x:O8):Reps s B x.row x.enc:=by
 simp only [O8.row,O8.enc,Reps,Rep]
 exact ⟨_,_,rfl,rfl,_,_,rfl,rfl,_,_,rfl,rfl,_,_,rfl,rfl,_,_,rfl,rfl,_,_,rfl,rfl,_,_,rfl,rfl,_,_,rfl,rfl,rfl⟩
theorem b0a {s:Hp} {B:Inf}:∀ {l:List O8} {xs:List (List Value)},a0a s B (l.map O8.row) xs->xs=l.map O8.enc
 | [],xs,h=>h
 | x::l,xs,h=>by
  simp only [Q4,a0a] at h
  obtain ⟨y,r,rfl,h1,h2⟩:=h
  rw [b5F h1,b0a h2]; rfl
theorem a9a {s:Hp} {B:Inf}:∀ (l:List O8),a0a s B (l.map O8.row) (l.map O8.enc)
 | []=>rfl
 | x::l=>⟨_,_,rfl,b5B x,a9a l⟩
theorem b0p (x:O8):(O8.enc x).length=8:=rfl
theorem a3s (l:List O8):(l.map O8.enc).flatten.length=l.length*8:=by
 induction l with
 | nil=>rfl
 | cons x l ih=>simp only [Q4,List.flatten_cons,Q8,ih,b0p,List.length_cons]; omega
theorem a6Q (l:List O8) (t:Nat) (h:t < l.length*8):(l.map O8.enc).flatten[t]?=some ((O8.enc (l.toArray[t / 8]!))[t % 8]!):=by
 have h1:t / 8 < l.length:=by omega
 have h2:t % 8 < 8:=Nat.mod_lt _ (by omega)
 have:=a2O 8 (l.map O8.enc) (fun e he=>by obtain ⟨x,_,rfl⟩:=Q3.1 he; rfl) (t / 8) (O8.enc l[t / 8]) (t % 8) ((O8.enc l[t / 8])[t % 8]!) (by simp [h1]) (by
  rw [getElem!_pos _ _ (by rw [b0p]; exact h2)]
  exact List.getElem?_eq_getElem _)
 rw [show t / 8*8+t % 8=t by omega] at this
 rw [this]
 congr 3
 rw [getElem!_pos _ _ (by simpa using h1)]
 simp
theorem b5O {w:World} {b T:Nat} {cur:Array Value} {l:List O8} (hb:w.heap[b]?=some (.cells cur T (0,0))) (h:∀ (j:Nat) (u:Value),(l.map O8.enc).flatten[j]?=some u->cur[j]?=some u):Go.Sort.HoldsK O8.enc 8 w b 0 l.toArray:=by
 intro j hj
 rw [Go.Sort.size_flatK] at hj
 have hj':j < l.length*8:=by simpa using hj
 refine ⟨?_,?_⟩
 ·rw [Go.Sort.get_flatK _ _ _ _ hj]
  have:=h j _ (a6Q l j hj')
  simp only [World.cell?,hb,Nat.zero_add,id]
  simpa using this
 ·simp [World.frozen?,hb]
def a4R (cur:Array Value) (l:List O8):Array Value:=Go.Sort.putCells id 0 (Go.Sort.flatK O8.enc 8 l.toArray) cur
theorem a9u (cur:Array Value) (l:List O8):(a4R cur l).size=cur.size:=by simp [a4R,Go.Sort.putCells]
theorem b4J (cur:Array Value) (l:List O8) (hl:l.length*8<=cur.size) (j:Nat):(a4R cur l)[j]?=if j < l.length*8 then (l.map O8.enc).flatten[j]? else cur[j]?:=by
 simp only [a4R,Go.Sort.putCells,Array.getElem?_mapIdx,Nat.zero_le,true_and,Go.Sort.size_flatK,Qh,Nat.zero_add,Nat.sub_zero]
 by_cases hj:j < l.length*8
 ·rw [if_pos hj,a6Q l j hj]
  rw [Array.getElem?_eq_getElem (by omega)]
  simp only [Qb,if_pos hj,id]
  rw [Go.Sort.get_flatK _ _ _ _ (by simpa using hj)]
 ·rw [if_neg hj]
  cases cur[j]? with
  | none=>rfl
  | some u=>simp [if_neg hj]
theorem b3a {w:World} {b T:Nat} {cur:Array Value} (hb:w.heap[b]?=some (.cells cur T (0,0))) (n:Nat) (l:List O8) (os:Array Obj) :
  (Go.Proofs.sortWorldK O8.enc 8 w b 0 n l.toArray os).heap[b]?=some (.cells (a4R cur l) T (0,0)):=by
 have hlt:=(Q6.1 hb).1
 unfold Go.Proofs.sortWorldK Go.Sort.putRowK Go.Sort.putRow
 rw [Go.Sort.heap_grow_old _ _ (by simpa [Go.Sort.mapBlock] using hlt)]
 simp only [Go.Sort.mapBlock,Go.Sort.heap_ahead,QA,if_true,hb,Qb,Go.Sort.onCells]
 rfl
theorem a5c {w:World} {b k:Nat} (hk:k < w.heap.size) (hne:k≠b) (n:Nat) (l:Array O8) (os:Array Obj):(Go.Proofs.sortWorldK O8.enc 8 w b 0 n l os).heap[k]?=w.heap[k]?:=by
 unfold Go.Proofs.sortWorldK Go.Sort.putRowK Go.Sort.putRow
 rw [Go.Sort.heap_grow_old _ _ (by simpa [Go.Sort.mapBlock] using hk)]
 simp only [Go.Sort.mapBlock,Go.Sort.heap_ahead,QA]
 rw [if_neg (Ne.symm hne)]
theorem b4v (w:World) (b n:Nat) (l:Array O8) (os:Array Obj):w.heap.size<=(Go.Proofs.sortWorldK O8.enc 8 w b 0 n l os).heap.size:=by
 simp [Go.Proofs.sortWorldK,Go.Sort.putRowK,Go.Sort.putRow,Go.Sort.mapBlock]
theorem b9v:Go.Sort.SWO (Go.Proofs.ltOf fun x y:O8=>a0H x.w y.w) where
 irrefl x:=by unfold Go.Proofs.ltOf; rw [a5X]; exact a2E _
 trans x y z h1 h2:=by unfold Go.Proofs.ltOf at *; rw [a5X] at *; exact a1V h1 h2
 ntrans x y z h1 h2:=by unfold Go.Proofs.ltOf at *; rw [a5X] at *; exact b4r (O8.wlen _ _) (O8.wlen _ _) h1 h2
theorem b4L {l:List O8} {d':Array O8} (hd:a4s l=true) (hp:Go.Sort.PermIn 0 l.toArray.size l.toArray d') (hs:Go.Sort.SortedIn (Go.Proofs.ltOf fun x y:O8=>a0H x.w y.w) 0 l.toArray.size d'):d'=(a1C l).toArray:=by
 obtain ⟨h1,_,h3⟩:=hp
 have hp:d'.toList.Perm l:=by
  have e1:(d'.extract 0 l.toArray.size).toList=d'.toList:=by rw [<- h1]; simp
  have e2:(l.toArray.extract 0 l.toArray.size).toList=l:=by simp
  rwa [e1,e2] at h3
 have hS:Srt d'.toList:=by
  unfold Srt
  rw [List.pairwise_iff_getElem]
  intro i j hi hj hij
  have:=hs i j (Nat.zero_le _) hij (by rw [<- h1]; simpa using hj)
  unfold Go.Proofs.ltOf at this
  rw [a5X,getElem!_pos d' j (by simpa using hj),getElem!_pos d' i (by simpa using hi)] at this
  simpa using this
 rw [<- a9B (b0U hd) hp hS]
theorem b6W:∀ x:O8,∀ v∈O8.enc x,v.oneCell'=true:=by
 intro x v hv
 simp only [O8.enc,Q0,QB,or_false] at hv
 rcases hv with rfl | rfl | rfl | rfl | rfl | rfl | rfl | rfl<;>rfl
theorem b6L:∀ (l:List O8),∀ r∈l.map O8.row,∀ p∈r,p.one=true:=by
 intro l r hr p hp
 obtain ⟨x,_,rfl⟩:=Q3.1 hr
 simp only [O8.row,Q0,QB,or_false] at hp
 rcases hp with rfl | rfl | rfl | rfl | rfl | rfl | rfl | rfl<;>rfl
section
variable {P:Program} {ρ:Ren}
theorem b3V (L:Go.Proofs.SlLaysF0.n6 P ρ) (aE:∀ w,(isAgg (ρ.t 24)).run P w=.ok true w) (zE:∀ w,(Go.sizeOf (ρ.t 24)).run P w=.ok 8 w) {g:Nat}
  (eg:∀ args w,(callFunc g args).run P w=.ok (.enter g args) w)
  (hcmp:∀ (x y:O8) (W:World),Calls P g #[.agg (O8.enc x).toArray,.agg (O8.enc y).toArray] W fun e w'=>e=.returned (.int .i64 (a0H x.w y.w))/\∃ q os',w'=Go.Sort.grow (W.drewN q) os')
  {w:World} {b T cap:Nat} {cur:Array Value} {l:List O8} (hb:w.heap[b]?=some (.cells cur T (0,0))) (hcur:∀ (j:Nat) (u:Value),(l.map O8.enc).flatten[j]?=some u->cur[j]?=some u) (hd:a4s l=true) (hsz:l.length<=1000000) :
  Calls P (ρ.f 6) #[.slice (some ⟨b,0,none⟩) l.length cap,.func (.func g) #[] #[]] w fun e w'=>e=.returned (.tuple #[])/\∃ n os,w'=Go.Proofs.sortWorldK O8.enc 8 w b 0 n (a1C l).toArray os:=by
 have h:=Go.Proofs.AnyQ.slices_SortFunc L 8 aE zE O8.enc b0p b6W (fun x y=>a0H x.w y.w) b9v g #[] b 0 cap l.toArray w eg (fun m os dk _ x y=>by simpa using hcmp x y _) (b5O hb hcur) (Q6.1 hb).1 (by simp; omega)
 rw [Qh] at h
 refine h.mono ?_
 rintro e w' ⟨he,d',n,os,h1,h2,h3⟩
 rw [<- Qh] at h1 h2
 rw [b4L hd h1 h2] at h3
 exact ⟨he,n,os,h3⟩
theorem b0V (L:Go.Proofs.SlLaysF0.n6 P ρ) (aE:∀ w,(isAgg (ρ.t 24)).run P w=.ok true w) (zE:∀ w,(Go.sizeOf (ρ.t 24)).run P w=.ok 8 w) {g:Nat}
  (eg:∀ args w,(callFunc g args).run P w=.ok (.enter g args) w)
  (hcmp:∀ (x y:O8) (W:World),Calls P g #[.agg (O8.enc x).toArray,.agg (O8.enc y).toArray] W fun e w'=>e=.returned (.int .i64 (a0H x.w y.w))/\∃ q os',w'=Go.Sort.grow (W.drewN q) os')
  {s:Hp} {σ:List MO} {m:MS} {w:World} (hm:a0c s (inf σ m) σ m) (hcoh:Coh σ m) (hs:Sub s w) (hok:MOk s m w) {h T len b cap:Nat} {rows:List (List PV)} {cur:Array Value} {l:List O8}
  (h0:σ[h]?=some (.row rows 8 T)) (h1:m[h]?=some (b,.cells cur T (0,0))) (hlen:len<=rows.length) (hl:a3S (rows.take len)=some l) (hd:a4s l=true) (hsz:len<=1000000) :
  Calls P (ρ.f 6) #[.slice (some ⟨b,0,none⟩) len cap,.func (.func g) #[] #[]] w (Ret (QF σ m (.tup []) (σ.set h (.row ((a1C l).map O8.row++rows.drop len) 8 T))) s m w):=by
 have hrows:=a9p hl
 have hll:l.length=len:=by
  have:=congrArg List.length hrows
  rw [List.length_take,Q9,Nat.min_eq_left hlen] at this
  exact this.symm
 obtain ⟨x0,g1,cur0,g2,a1,a2,⟨cap0,a31,a32,a33⟩,a4,xs,a5,a6,a7⟩:=hm.obj h0
 rw [h1] at g1
 simp only [Q2] at g1; subst g1
 simp only [Obj.cells.injEq] at g2
 obtain ⟨rfl,_⟩:=g2
 have hxl:xs.length=rows.length:=a5.length
 have hx1:xs.take len=l.map O8.enc:=by
  have:=a5.take len
  rw [hrows] at this
  exact b0a this
 have hb:=hok.is _ (Qa h1)
 simp only at hb
 have hsplit:xs.flatten=(l.map O8.enc).flatten++(xs.drop len).flatten:=by
  rw [<- hx1,<- QC,List.take_append_drop]
 have hcur:∀ (j:Nat) (u:Value),(l.map O8.enc).flatten[j]?=some u->cur[j]?=some u:=fun j u hj=>by
  apply a7 j u
  rw [hsplit,QD (Qj.1 hj).1]
  exact hj
 have hflen:=a3s l
 have hle8:l.length*8<=cur.size:=by rw [a31]; exact Nat.mul_le_mul_right _ (by omega)
 have hsl:(a1C l).length=l.length:=(a3l l).length_eq
 have hcall:=b3V (cap:=cap) L aE zE eg hcmp hb hcur hd (by omega)
 rw [hll] at hcall
 refine hcall.mono ?_
 rintro e w' ⟨rfl,n,os,rfl⟩
 have hblt:=(Q6.1 hb).1
 have hhl:=(Qj.1 h0).1
 have hml:=hm.length
 have hbl:a0g (m.set h (b,Obj.cells (a4R cur (a1C l)) T (0,0)))=a0g m:=by
  unfold a0g
  rw [List.map_set]
  apply List.ext_getElem?
  intro i
  rw [Qk]
  split
  ·rename_i he; subst he
   rw [if_pos (by simpa using (by omega:h < m.length)),List.getElem?_map,h1]; rfl
  ·rfl
 have hrep:EnvRep s { i:=[],b:=[],v:=[],m:=σ,k:=0 } { i:=[],b:=[],v:=[],j:=[],m:=m,k:=0 }:=⟨rfl,rfl,rfl,hm,rfl,by simp,hcoh⟩
 have hobj:a1x s (inf σ m) (.row ((a1C l).map O8.row++rows.drop len) 8 T) (b,.cells (a4R cur (a1C l)) T (0,0)):=by
  refine ⟨_,rfl,?_,by omega,⟨cap0,by rw [a9u]; exact a31,?_,a33⟩,?_,(a1C l).map O8.enc++xs.drop len,(a9a _).append (a5.drop len),?_,?_⟩
  ·intro he
   have:=congrArg List.length he
   rw [Q8,Q9,Qm,List.length_nil] at this
   exact a1 (Qg.1 (by omega))
  ·rw [Q8,Q9,Qm]; omega
  ·intro r hr
   rcases QE.1 hr with hr | hr
   ·exact b6L _ r hr
   ·exact a4 r (QH hr)
  ·intro x hx
   rcases QE.1 hx with hx | hx
   ·obtain ⟨y,_,rfl⟩:=Q3.1 hx; rfl
   ·exact a6 x (QH hx)
  ·intro j u hj
   rw [b4J _ _ (by omega),QC] at *
   by_cases hlt:j < (a1C l).length*8
   ·rw [if_pos hlt]
    rwa [QD (by rw [a3s]; exact hlt)] at hj
   ·rw [if_neg hlt]
    rw [QJ (by rw [a3s]; omega),a3s,hsl] at hj
    apply a7 j u
    rw [hsplit,QJ (by rw [hflen]; omega),hflen]
    exact hj
 have hI:a0C (.row ((a1C l).map O8.row++rows.drop len) 8 T) (b,Obj.cells (a4R cur (a1C l)) T (0,0))=a0C (.row rows 8 T) (b,Obj.cells cur T (0,0)):=by
  simp only [a0C,a1r,a9u,Q8,Q9,Qm]
  congr 2
  omega
 obtain ⟨hle,he⟩:=hrep.setM h0 h1 hobj (.inl hI)
 refine ⟨_,s,_,rfl,⟨rfl,rfl,rfl,b4v _ _ _ _ _,fun k hk hn=>a5c hk (fun hkb=>hn (by rw [hkb]; exact Q3.2 ⟨_,Qa h1,rfl⟩)) _ _ _⟩,Hp.le_refl s,?_,(fun b o u h1 h2=>by rw [h1] at h2; cases h2),⟨by simp,?_⟩,⟨by rw [hbl]; exact hok.nd,?_,?_⟩,hle,⟨[],rfl,rfl⟩,he.m,he.coh⟩
 ·intro b2 o u hu
  have hc:=hs b2 o u hu
  have hne:b2≠b:=by
   rintro rfl
   rw [hok.un _ (Qa h1) o] at hu; cases hu
  have hlt2:b2 < w.heap.size:=by
   simp only [World.cell?] at hc
   cases hh:w.heap[b2]? with
   | none=>rw [hh] at hc; cases hc
   | some _=>exact (Q6.1 hh).1
  have hk:=a5c hlt2 hne n (a1C l).toArray os
  simp only [World.cell?,hk]
  exact hc
 ·intro i x hx
  rw [Qk] at hx
  split at hx
  ·rename_i he; subst he
   split at hx
   ·simp only [Q2] at hx; subst hx
    exact .inl ⟨_,h1,rfl⟩
   ·cases hx
  ·exact .inl ⟨x,hx,rfl⟩
 ·intro x hx
  obtain ⟨i,hi⟩:=List.mem_iff_getElem?.1 hx
  rw [Qk] at hi
  split at hi
  ·split at hi
   ·simp only [Q2] at hi; subst hi
    exact b3a hb _ _ _
   ·cases hi
  ·rename_i hne
   have hin:=hok.is x (Qa hi)
   rw [a5c (Q6.1 hin).1 (fun hxb=>hne ?_)]
   ·exact hin
   ·have e1:(a0g m)[i]?=some b:=by simp [a0g,hi,hxb]
    have e2:(a0g m)[h]?=some b:=by simp [a0g,h1]
    exact (List.getElem?_inj (Qj.1 e2).1 hok.nd).1 (e2.trans e1.symm)
 ·intro x hx o
  have:x.1∈a0g m:=by rw [<- hbl]; exact Q3.2 ⟨x,hx,rfl⟩
  obtain ⟨y,hy,he⟩:=Q3.1 this
  rw [<- he]; exact hok.un y hy o
theorem b6U (L:Go.Proofs.SlLaysF0.n6 P ρ) (aE:∀ w,(isAgg (ρ.t 24)).run P w=.ok true w) (zE:∀ w,(Go.sizeOf (ρ.t 24)).run P w=.ok 8 w) {g:Nat}
  (eg:∀ args w,(callFunc g args).run P w=.ok (.enter g args) w) (ef:∀ args w,(callFunc (ρ.f 6) args).run P w=.ok (.enter (ρ.f 6) args) w)
  (hcmp:∀ (x y:O8) (W:World),Calls P g #[.agg (O8.enc x).toArray,.agg (O8.enc y).toArray] W fun e w'=>e=.returned (.int .i64 (a0H x.w y.w))/\∃ q os',w'=Go.Sort.grow (W.drewN q) os'):CtP P (ρ.f 6) (a9n g):=by
 intro aa σ r σ' h
 refine ⟨ef,fun s m vs hm hcoh hv w hs hok=>?_⟩
 have none:∀ (a:Option Addr) (cap:Nat) (v2:Value),vs=[.slice a 0 cap,v2]->Calls P (ρ.f 6) vs.toArray w (Ret (QF σ m (.tup []) σ) s m w):=by
  rintro a cap v2 rfl
  refine (Go.Proofs.AnyF.slices_SortFunc_none { L with } a cap v2 w).mono ?_
  rintro e w' ⟨rfl,rfl⟩
  exact ⟨_,s,m,rfl,Grows.refl _ _,Hp.le_refl s,hs,(fun b o u h1 h2=>by rw [h1] at h2; cases h2),⟨Nat.le_refl _,fun i x hx=>.inl ⟨x,hx,rfl⟩⟩,hok,Le2.refl _ _,⟨[],rfl,rfl⟩,hm,hcoh⟩
 unfold a9n at h
 split at h
 ·rename_i σ0 hd len sz g'
  split at h
  case h_2=>cases h
  rename_i rows sz' T h0
  rw [Qd] at h
  obtain ⟨l,hl,h⟩:=h
  split at h
  case isFalse=>cases h
  rename_i hc
  obtain ⟨rfl,hc1,rfl,rfl,hc2,hc3⟩:=hc
  simp only [Q2,Q5] at h
  obtain ⟨rfl,rfl⟩:=h
  obtain ⟨x0,h1,cur,g2,_⟩:=hm.obj h0
  obtain ⟨b,o⟩:=x0
  simp only at g2; subst g2
  have hI:=a0z h0 h1
  simp only [Reps,Rep] at hv
  obtain ⟨v1,_,rfl,⟨hpos,b1,cap,rfl,b',n',r',k1,k2,k3⟩,v2,_,rfl,⟨cs,rfl,rfl⟩,rfl⟩:=hv
  rw [hI] at k1
  simp only [a0C,Q2,Q5] at k1
  obtain ⟨rfl,rfl,rfl⟩:=k1
  obtain ⟨rfl,_,_⟩:=k3 hc1
  have:=b0V (cap:=cap) (len:=len) L aE zE eg hcmp hm hcoh hs hok h0 h1 (by omega) (by rw [List.take_of_length_le (by omega)]; exact hl) hc2 hc3
  rw [List.drop_eq_nil_of_le (by omega),List.append_nil] at this
  exact this
 ·rename_i σ0 hd len r0 sz g'
  split at h
  case h_2=>cases h
  rename_i rows sz' T h0
  rw [Qd] at h
  obtain ⟨l,hl,h⟩:=h
  split at h
  case isFalse=>cases h
  rename_i hc
  obtain ⟨rfl,hc1,hc0,rfl,rfl,hc2,hc3⟩:=hc
  simp only [Q2,Q5] at h
  obtain ⟨rfl,rfl⟩:=h
  obtain ⟨x0,h1,cur,g2,_⟩:=hm.obj h0
  obtain ⟨b,o⟩:=x0
  simp only at g2; subst g2
  have hI:=a0z h0 h1
  simp only [Reps,Rep] at hv
  obtain ⟨v1,_,rfl,⟨hpos,_,b1,cap,rfl,b',n',r',k1,k2,k3⟩,v2,_,rfl,⟨cs,rfl,rfl⟩,rfl⟩:=hv
  rw [hI] at k1
  simp only [a0C,Q2,Q5] at k1
  obtain ⟨rfl,rfl,rfl⟩:=k1
  obtain ⟨rfl,_,_⟩:=k3 hc1
  exact b0V (cap:=cap) (len:=len) L aE zE eg hcmp hm hcoh hs hok h0 h1 (by omega) hl hc2 hc3
 ·simp only [Q2,Q5] at h
  obtain ⟨rfl,rfl⟩:=h
  simp only [Reps,Rep] at hv
  obtain ⟨v1,_,rfl,rfl,v2,_,rfl,_,rfl⟩:=hv
  exact none _ _ _ rfl
 ·simp only [Q2,Q5] at h
  obtain ⟨rfl,rfl⟩:=h
  simp only [Reps,Rep] at hv
  obtain ⟨v1,_,rfl,⟨xs,⟨_,a,cap,rfl,_,_⟩,hx,_⟩,v2,_,rfl,_,rfl⟩:=hv
  have:xs=[]:=Qg.1 hx.length
  subst this
  exact none _ _ _ rfl
 ·cases h
end
end Go.Sx
