/- TX: records of eight int64s in the order of their bundles; sorted, plain. -/
import Derived.Test.YtflcopaopimlpaaHTxe
import Derived.Test.YtflcopaopimlpaaHGx
import Derived.Shelf.SlSortCmp.NoneTotal
set_option linter.unusedSimpArgs false
set_option linter.unusedVariables false
open Option.some renaming injEq → Q0
open List renaming mem_cons → Q1, pairwise_cons → Q2, mem_map → Q3, map_cons → Q5, mem_of_getElem? → Q9, length_append → Qa, length_map → Qb, nodup_cons → Qf, all_eq_true → Qg, length_eq_zero_iff → Qh, size_toArray → Qk, length_take → Qm, getElem?_eq_some_iff → Qn, getElem?_set → Qp, length_drop → Qq, mem_cons_of_mem → Qs, perm_cons → Qt, any_eq_false → Qv, pairwise_map → Qw, mem_filter → Qy, mem_cons_self → Qz, map_append → QA, nodup_append → QB, pairwise_iff_forall_sublist → QC, not_mem_nil → QE, flatten_append → QJ, getElem?_append_left → QK, mem_append → QL, mem_of_mem_drop → QM, getElem?_append_right → QN, take_zero → QP, mem_of_mem_take → QQ
open Prod.mk renaming injEq → Q4
open Option renaming bind_eq_some_iff → Q6, map_some → Qd, map_eq_some_iff → Qr
open Bool renaming and_eq_true → Q7, not_eq_true' → Qu
open Array renaming getElem?_eq_some_iff → Q8, getElem?_modify → QD
open List.Pairwise renaming nil → Qe
open Nat renaming zero_add → Qj, min_eq_left → QH
namespace Go.Sx
structure O8 where
 (b w0 w1 w2 w3 w4 w5 v:Int)
 deriving DecidableEq,Inhabited
def O8.w (x:O8):List Int:=[x.w0,x.w1,x.w2,x.w3,x.w4,x.w5]
def O8.row (x:O8):List PV:=[.int .i64 x.b,.int .i64 x.w0,.int .i64 x.w1,.int .i64 x.w2,.int .i64 x.w3,.int .i64 x.w4,.int .i64 x.w5,.int .i64 x.v]
def O8.enc (x:O8):List Value:=[.int .i64 x.b,.int .i64 x.w0,.int .i64 x.w1,.int .i64 x.w2,.int .i64 x.w3,.int .i64 x.w4,.int .i64 x.w5,.int .i64 x.v]
def c1x:List PV->Option O8
 | [.int .i64 b,.int .i64 w0,.int .i64 w1,.int .i64 w2,.int .i64 w3,.int .i64 w4,.int .i64 w5,.int .i64 v]=>some ⟨b,w0,w1,w2,w3,w4,w5,v⟩
 | _=>none
theorem c5d (x:O8):c1x x.row=some x:=rfl
theorem c2m {r:List PV} {x:O8} (h:c1x r=some x):r=x.row:=by
 unfold c1x at h
 split at h
 ·simp only [Q0] at h; subst h; rfl
 ·cases h
def a8m:List (List PV)->Option (List O8)
 | []=>some []
 | r::l=>(c1x r).bind fun x=>(a8m l).map (x::·)
theorem b7O:∀ l:List O8,a8m (l.map O8.row)=some l
 | []=>rfl
 | x::l=>by simp only [Q5,a8m,c5d,b7O l,Option.bind_some,Qd]
theorem b6f:∀ {rows:List (List PV)} {l:List O8},a8m rows=some l->rows=l.map O8.row
 | [],l,h=>by simp only [a8m,Q0] at h; subst h; rfl
 | r::rows,l,h=>by
  simp only [a8m,Q6,Qr] at h
  obtain ⟨x,h1,l',h2,rfl⟩:=h
  rw [c2m h1,b6f h2]; rfl
theorem a3E:∀ l:List Int,ltK l l=false
 | []=>rfl
 | x::l=>by simp [ltK,a3E l]
theorem a3X:∀ {a b c:List Int},ltK a b=true->ltK b c=true->ltK a c=true
 | [],_,_,h,_=>by simp [ltK] at h
 | _::_,[],_,h,_=>by simp [ltK] at h
 | _::_,_::_,[],_,h=>by simp [ltK] at h
 | x::a,y::b,z::c,h,k=>by
  simp only [ltK,Bool.or_eq_true,Q7,decide_eq_true_eq] at *
  rcases h with h | ⟨rfl,h⟩
  ·rcases k with k | ⟨rfl,k⟩
   ·exact .inl (by omega)
   ·exact .inl h
  ·rcases k with k | ⟨rfl,k⟩
   ·exact .inl k
   ·exact .inr ⟨rfl,a3X h k⟩
theorem b4b:∀ {a b:List Int},a.length=b.length->ltK a b=false->ltK b a=false->a=b
 | [],[],_,_,_=>rfl
 | [],_::_,h,_,_=>by simp at h
 | _::_,[],h,_,_=>by simp at h
 | x::a,y::b,h,h1,h2=>by
  simp only [ltK,Bool.or_eq_false_iff,Bool.and_eq_false_iff,decide_eq_false_iff_not] at h1 h2
  have:x=y:=by omega
  subst this
  have e:=b4b (a:=a) (b:=b) (by simpa using h) (by simpa using h1.2) (by simpa using h2.2)
  rw [e]
theorem c1L {a b c:List Int} (h1:a.length=b.length) (h2:b.length=c.length) (h:ltK a b=false) (k:ltK b c=false):ltK a c=false:=by
 cases hac:ltK a c with
 | false=>rfl
 | true =>
  cases hba:ltK b a with
  | true=>rw [a3X hba hac] at k; cases k
  | false =>
   have:=b4b h1 h hba
   subst this
   rw [hac] at k; cases k
def a1F (a b:List Int):Int:=if ltK a b=true then -1 else if ltK b a=true then 1 else 0
theorem a8S (a b:List Int):decide (a1F a b < 0)=ltK a b:=by
 unfold a1F
 cases ltK a b<;>cases ltK b a<;>simp
theorem O8.wlen (x y:O8):x.w.length=y.w.length:=rfl
def b5f (x:O8):List O8->List O8
 | []=>[x]
 | y::l=>if ltK x.w y.w=true then x::y::l else y::b5f x l
def a3w:List O8->List O8
 | []=>[]
 | x::l=>b5f x (a3w l)
def Srt (l:List O8):Prop:=l.Pairwise fun a b=>ltK b.w a.w=false
theorem b2U (x:O8):∀ l,(b5f x l).Perm (x::l)
 | []=>.refl _
 | y::l=>by
  unfold b5f
  split
  ·exact .refl _
  ·exact ((b2U x l).cons y).trans (.swap x y l)
theorem a6I:∀ l,(a3w l).Perm l
 | []=>.refl _
 | x::l=>(b2U x _).trans ((a6I l).cons x)
theorem b9x (x:O8):∀ {l},Srt l->Srt (b5f x l)
 | [],_=>by simp [b5f,Srt]
 | y::l,h=>by
  unfold b5f
  have h':=h
  unfold Srt at h
  rw [Q2] at h
  split
  ·rename_i hlt
   refine Q2.2 ⟨fun z hz=>?_,h'⟩
   rcases Q1.1 hz with rfl | hz
   ·cases hk:ltK z.w x.w with
    | false=>rfl
    | true=>have:=a3X hlt hk; rw [a3E] at this; cases this
   ·cases hk:ltK z.w x.w with
    | false=>rfl
    | true=>have:=a3X hk hlt; rw [h.1 z hz] at this; cases this
  ·rename_i hlt
   refine Q2.2 ⟨fun z hz=>?_,b9x x h.2⟩
   rcases Q1.1 ((b2U x l).mem_iff.1 hz) with rfl | hz
   ·simpa using hlt
   ·exact h.1 z hz
theorem b7D:∀ l,Srt (a3w l)
 | []=>Qe
 | x::l=>b9x x (b7D l)
theorem c1c {l:List O8} (h:(l.map O8.w).Nodup) {a b:O8} (ha:a∈l) (hb:b∈l) (he:a.w=b.w):a=b:=by
 induction l with
 | nil=>cases ha
 | cons x l ih =>
  rw [Q5,Qf] at h
  rcases Q1.1 ha with ea | ha1
  ·rcases Q1.1 hb with eb | hb1
   ·rw [ea,eb]
   ·exact absurd (Q3.2 ⟨b,hb1,by rw [<- he,ea]⟩) h.1
  ·rcases Q1.1 hb with eb | hb1
   ·exact absurd (Q3.2 ⟨a,ha1,by rw [he,eb]⟩) h.1
   ·exact ih h.2 ha1 hb1
theorem b8O:∀ {l' l:List O8},(∀ a b,a∈l->b∈l->a.w=b.w->a=b)->l'.Perm l->Srt l'->Srt l->l'=l
 | [],l,_,hp,_,_=>hp.nil_eq
 | x::l',l,hd,hp,h1,h2=>by
  cases l with
  | nil=>have:=hp.length_eq; simp at this
  | cons y l =>
   have hxy:x=y:=by
    have hx:x∈y::l:=hp.mem_iff.1 (by simp)
    have hy:y∈x::l':=hp.mem_iff.2 (by simp)
    unfold Srt at h1 h2
    rw [Q2] at h1 h2
    rcases Q1.1 hx with h | hx
    ·exact h
    rcases Q1.1 hy with h | hy
    ·exact h.symm
    exact hd _ _ (by simp [hx]) (by simp) (b4b (O8.wlen _ _) (h2.1 x hx) (h1.1 y hy))
   subst hxy
   unfold Srt at h1 h2
   rw [Q2] at h1 h2
   rw [b8O (fun a b ha hb=>hd a b (Qs _ ha) (Qs _ hb)) ((Qt x).1 hp) h1.2 h2.2]
theorem b5J {l l':List O8} (h:(l.map O8.w).Nodup) (hp:l'.Perm l) (hs:Srt l'):l'=a3w l :=
 b8O (fun a b ha hb he=>c1c h ((a6I l).mem_iff.1 ha) ((a6I l).mem_iff.1 hb) he) (hp.trans (a6I l).symm) hs (b7D l)
def a8T:List O8->Bool
 | []=>true
 | x::l=>(!l.any fun y=>decide (y.w=x.w))&&a8T l
theorem b7L:∀ {l:List O8},a8T l=true->(l.map O8.w).Nodup
 | [],_=>by simp
 | x::l,h=>by
  simp only [a8T,Q7,Qu,Qv,decide_eq_true_eq] at h
  rw [Q5,Qf]
  refine ⟨fun hm=>?_,b7L h.2⟩
  obtain ⟨q,hq,he⟩:=Q3.1 hm
  exact h.1 q hq he
theorem c0t:∀ {l:List O8},(l.map O8.w).Nodup->a8T l=true
 | [],_=>rfl
 | x::l,h=>by
  rw [Q5,Qf] at h
  simp only [a8T,Q7,Qu,Qv,decide_eq_true_eq]
  exact ⟨fun y hy he=>h.1 (Q3.2 ⟨y,hy,he⟩),c0t h.2⟩
end Go.Sx
namespace Go.Sx
open Go.Kv
structure Asc (kv:KV):Prop where
 lt:kv.Pairwise fun p q=>ltK p.1 q.1=true
 six:∀ p∈kv,p.1.length=6
def b4S:KV->Bool
 | []=>true
 | p::l=>decide (p.1.length=6)&&(l.all fun q=>ltK p.1 q.1)&&b4S l
theorem b3p:∀ {kv:KV},b4S kv=true->Asc kv
 | [],_=>⟨Qe,by simp⟩
 | p::l,h=>by
  simp only [b4S,Q7,decide_eq_true_eq,Qg] at h
  have ih:=b3p h.2
  exact ⟨Q2.2 ⟨fun q hq=>h.1.2 q hq,ih.lt⟩,fun q hq=>by
   rcases Q1.1 hq with rfl | hq
   ·exact h.1.1
   ·exact ih.six q hq⟩
theorem c0Z:∀ {kv:KV},Asc kv->b4S kv=true
 | [],_=>rfl
 | p::l,h=>by
  have h1:=Q2.1 h.lt
  simp only [b4S,Q7,decide_eq_true_eq,Qg]
  exact ⟨⟨h.six p (by simp),h1.1⟩,c0Z ⟨h1.2,fun q hq=>h.six q (by simp [hq])⟩⟩
theorem Asc.nil:Asc []:=⟨Qe,by simp⟩
theorem Asc.tail {p:List Int × Int} {l:KV} (h:Asc (p::l)):Asc l:=⟨(Q2.1 h.lt).2,fun q hq=>h.six q (by simp [hq])⟩
theorem Asc.nd {kv:KV} (h:Asc kv):Nd kv:=by
 unfold Nd
 rw [List.nodup_iff_pairwise_ne,Qw]
 exact h.lt.imp fun hpq he=>by rw [he,a3E] at hpq; cases hpq
theorem Asc.wide {kv:KV} (h:Asc kv):a4E 6 kv=true:=by
 simp only [a4E,Qg,decide_eq_true_eq]; exact h.six
theorem c0g {p:List Int × Int} (hp:p.1.length=6):∀ {kv:KV},Asc kv->(∀ q∈kv,q.1≠p.1)->Asc (a3M kv p)
 | [],_,_=>⟨by simp [a3M],by simpa [a3M] using hp⟩
 | q::l,h,hne=>by
  have h1:=Q2.1 h.lt
  unfold a3M
  split
  ·rename_i hlt
   refine ⟨Q2.2 ⟨fun z hz=>?_,h.lt⟩,fun z hz=>?_⟩
   ·rcases Q1.1 hz with rfl | hz
    ·exact hlt
    ·exact a3X hlt (h1.1 z hz)
   ·rcases Q1.1 hz with rfl | hz
    ·exact hp
    ·exact h.six z hz
  ·rename_i hlt
   have hqp:ltK q.1 p.1=true:=by
    cases hk:ltK q.1 p.1 with
    | true=>rfl
    | false=>exact absurd (b4b ((h.six q (by simp)).trans hp.symm) hk (by simpa using hlt)) (hne q (by simp))
   have ih:=c0g hp h.tail (fun z hz=>hne z (by simp [hz]))
   refine ⟨Q2.2 ⟨fun z hz=>?_,ih.lt⟩,fun z hz=>?_⟩
   ·rcases (b2m z l p).1 hz with rfl | hz
    ·exact hqp
    ·exact h1.1 z hz
   ·rcases Q1.1 hz with rfl | hz
    ·exact h.six _ (by simp)
    ·exact ih.six z hz
theorem Asc.del {kv:KV} (h:Asc kv) (k:List Int):Asc (a3q kv k):=⟨h.lt.sublist (List.filter_sublist),fun p hp=>h.six p ((Qy.1 hp).1)⟩
theorem Asc.put {kv:KV} (h:Asc kv) {k:List Int} (hk:k.length=6) (v:Int):Asc (a3B kv k v) :=
 c0g (p:=(k,v)) hk (h.del k) fun q hq=>by
  have:=(Qy.1 hq).2
  simpa using this
theorem b4O:∀ {a b:KV},Asc a->Asc b->a.Perm b->a=b
 | [],b,_,_,hp=>hp.nil_eq
 | x::a,b,ha,hb,hp=>by
  cases b with
  | nil=>have:=hp.length_eq; simp at this
  | cons y b =>
   have a1:=Q2.1 ha.lt
   have b1:=Q2.1 hb.lt
   have hxy:x=y:=by
    rcases Q1.1 (hp.mem_iff.1 (Qz)) with h | hx
    ·exact h
    rcases Q1.1 (hp.mem_iff.2 (Qz)) with h | hy
    ·exact h.symm
    have:=a3X (a1.1 y hy) (b1.1 x hx)
    rw [a3E] at this; cases this
   subst hxy
   rw [b4O ha.tail hb.tail ((Qt x).1 hp)]
def b3c (kv es:KV):KV:=es.foldl (fun kv p=>a3B kv p.1 p.2) kv
theorem b7N (kv es:KV) (p:List Int × Int):b3c kv (es++[p])=a3B (b3c kv es) p.1 p.2:=by simp [b3c]
theorem b9K {a b:KV} {k:List Int}:a0K (a++b) k=(a0K a k).or (a0K b k):=by
 induction a with
 | nil=>simp [a0K]
 | cons p l ih=>simp only [List.cons_append,a0K]; split<;>simp_all
theorem c0y:∀ (l:KV),Nd l->(∀ p∈l,p.1.length=6)->Asc (b3c [] l)/\∀ k,a0K (b3c [] l) k=a0K l k:=by
 intro l
 generalize hn:l.length=n
 induction n generalizing l with
 | zero=>intro _ _; rw [Qh.1 hn]; exact ⟨Asc.nil,fun _=>rfl⟩
 | succ n ih =>
  intro hl h6
  obtain ⟨l',p,rfl⟩:∃ l' p,l=l'++[p]:=⟨l.dropLast,l.getLast (by intro h; simp [h] at hn),(List.dropLast_concat_getLast _).symm⟩
  have hl1:Nd l':=by
   unfold Nd at hl ⊢
   rw [QA] at hl
   exact (QB.1 hl).1
  have hnew:a0K l' p.1=none:=Kv.lookQ_none.2 fun q hq he=>by
   unfold Nd at hl
   rw [QA,QB] at hl
   exact hl.2.2 _ (Q3.2 ⟨q,hq,rfl⟩) _ (by simp) he
  obtain ⟨i1,i2⟩:=ih l' (by simpa using hn) hl1 (fun q hq=>h6 q (by simp [hq]))
  rw [b7N]
  refine ⟨i1.put (h6 p (by simp)) _,fun k=>?_⟩
  rw [b6l,i2,b9K]
  split
  ·rename_i hk; subst hk; rw [hnew]; simp [a0K]
  ·rename_i hk
   have:a0K [p] k=none:=by unfold a0K; rw [if_neg (fun e=>hk e)]; rfl
   rw [this]; simp
theorem c4s {kv es:KV} (h:Asc kv) (hp:es.Perm kv):b3c [] es=kv:=by
 have hnd:=h.nd.perm hp.symm
 obtain ⟨k1,k2⟩:=c0y es hnd (fun p hp2=>h.six p (hp.mem_iff.1 hp2))
 exact b4O k1 h ((c0N k1.nd hnd k2).trans hp)
def kvO (i:Int) (p:List Int × Int):O8:=⟨i,p.1.getD 0 0,p.1.getD 1 0,p.1.getD 2 0,p.1.getD 3 0,p.1.getD 4 0,p.1.getD 5 0,p.2⟩
theorem b6V {l:List Int} (h:l.length=6):∃ a b c d e f,l=[a,b,c,d,e,f]:=by
 match l,h with
 | [a,b,c,d,e,f],_=>exact ⟨a,b,c,d,e,f,rfl⟩
theorem b1I {i:Int} {p:List Int × Int} (h:p.1.length=6):(kvO i p).w=p.1:=by
 obtain ⟨k,v⟩:=p
 obtain ⟨a,b,c,d,e,f,rfl⟩:=b6V h
 rfl
theorem c4y {kv es:KV} (h:Asc kv) (hp:es.Perm kv) (i:Int):a8T (es.map (kvO i))=true/\a3w (es.map (kvO i))=kv.map (kvO i):=by
 have hw:∀ l:KV,(∀ p∈l,p.1.length=6)->(l.map (kvO i)).map O8.w=l.map (·.1):=fun l hl=>by
  rw [List.map_map]
  exact List.map_congr_left fun p hp=>b1I (hl p hp)
 have h6:∀ p∈es,p.1.length=6:=fun p hp2=>h.six p (hp.mem_iff.1 hp2)
 have hn:((es.map (kvO i)).map O8.w).Nodup:=by rw [hw es h6]; exact h.nd.perm hp.symm
 refine ⟨c0t hn,(b5J hn (hp.symm.map _) ?_).symm⟩
 unfold Srt
 rw [Qw]
 refine (QC).2 fun {p q} hs=>?_
 have hpq:=(QC.1 h.lt) hs
 have m1:p∈kv:=hs.subset (by simp)
 have m2:q∈kv:=hs.subset (by simp)
 rw [b1I (h.six p m1),b1I (h.six q m2)]
 cases hk:ltK q.1 p.1 with
 | false=>rfl
 | true=>have:=a3X hpq hk; rw [a3E] at this; cases this
theorem b6B {k:Nat} {look:Nat->Option MO}:∀ l:List O8,PV.frzss k look (l.map O8.row)=some (l.map O8.row)
 | []=>rfl
 | x::l=>by
  simp only [Q5,PV.frzss,b6B l]
  simp [O8.row,PV.frzs,PV.frz,PV.one]
end Go.Sx
namespace Go.Sx
open Go.RowKit Go.Shelf
def b6q (g:Nat):List PV->List MO->Option (PV × List MO)
 | [.rsl h len sz,.fn g' []],σ=>match σ[h]? with
  | some (.row rows sz' T)=>(a8m rows).bind fun l=>if g'=g/\rows.length=len/\sz=8/\sz'=8/\a8T l=true/\len<=1000000 then some (.tup [],σ.set h (.row ((a3w l).map O8.row) 8 T)) else none
  | _=>none
 | [.rpl h len r sz,.fn g' []],σ=>match σ[h]? with
  | some (.row rows sz' T)=>(a8m (rows.take len)).bind fun l=>if g'=g/\rows.length=r/\len<=r/\sz=8/\sz'=8/\a8T l=true/\len<=1000000 then some (.tup [],σ.set h (.row ((a3w l).map O8.row++rows.drop len) 8 T)) else none
  | _=>none
 | [.nilS,.fn _ []],σ=>some (.tup [],σ)
 | [.sl _ [],.fn _ []],σ=>some (.tup [],σ)
 | _,_=>none
theorem c4x {s:Hp} {B:Inf} {x:O8} {vs:List Value} (h:Reps s B x.row vs):vs=x.enc:=by
 simp only [O8.row,Reps,Rep] at h
 obtain ⟨v0,_,rfl,rfl,v1,_,rfl,rfl,v2,_,rfl,rfl,v3,_,rfl,rfl,v4,_,rfl,rfl,v5,_,rfl,rfl,v6,_,rfl,rfl,v7,_,rfl,rfl,rfl⟩:=h
 rfl
theorem c4c {s:Hp} {B:Inf} (x:O8):Reps s B x.row x.enc:=by
 simp only [O8.row,O8.enc,Reps,Rep]
 exact ⟨_,_,rfl,rfl,_,_,rfl,rfl,_,_,rfl,rfl,_,_,rfl,rfl,_,_,rfl,rfl,_,_,rfl,rfl,_,_,rfl,rfl,_,_,rfl,rfl,rfl⟩
theorem b6L {s:Hp} {B:Inf}:∀ {l:List O8} {xs:List (List Value)},a0M s B (l.map O8.row) xs->xs=l.map O8.enc
 | [],xs,h=>h
 | x::l,xs,h=>by
  simp only [Q5,a0M] at h
  obtain ⟨y,r,rfl,h1,h2⟩:=h
  rw [c4x h1,b6L h2]; rfl
theorem b6D {s:Hp} {B:Inf}:∀ (l:List O8),a0M s B (l.map O8.row) (l.map O8.enc)
 | []=>rfl
 | x::l=>⟨_,_,rfl,c4c x,b6D l⟩
theorem b7j (x:O8):(O8.enc x).length=8:=rfl
theorem a6S (l:List O8):(l.map O8.enc).flatten.length=l.length*8:=by
 induction l with
 | nil=>rfl
 | cons x l ih=>simp only [Q5,List.flatten_cons,Qa,ih,b7j,List.length_cons]; omega
theorem b3y (l:List O8) (t:Nat) (h:t < l.length*8):(l.map O8.enc).flatten[t]?=some ((O8.enc (l.toArray[t / 8]!))[t % 8]!):=by
 have h1:t / 8 < l.length:=by omega
 have h2:t % 8 < 8:=Nat.mod_lt _ (by omega)
 have:=a5b 8 (l.map O8.enc) (fun e he=>by obtain ⟨x,_,rfl⟩:=Q3.1 he; rfl) (t / 8) (O8.enc l[t / 8]) (t % 8) ((O8.enc l[t / 8])[t % 8]!) (by simp [h1]) (by
  rw [getElem!_pos _ _ (by rw [b7j]; exact h2)]
  exact List.getElem?_eq_getElem _)
 rw [show t / 8*8+t % 8=t by omega] at this
 rw [this]
 congr 3
 rw [getElem!_pos _ _ (by simpa using h1)]
 simp
theorem c4i {w:World} {b T:Nat} {cur:Array Value} {l:List O8} (hb:w.heap[b]?=some (.cells cur T (0,0))) (h:∀ (j:Nat) (u:Value),(l.map O8.enc).flatten[j]?=some u->cur[j]?=some u):Go.Sort.HoldsK O8.enc 8 w b 0 l.toArray:=by
 intro j hj
 rw [Go.Sort.size_flatK] at hj
 have hj':j < l.length*8:=by simpa using hj
 refine ⟨?_,?_⟩
 ·rw [Go.Sort.get_flatK _ _ _ _ hj]
  have:=h j _ (b3y l j hj')
  simp only [World.cell?,hb,Qj,id]
  simpa using this
 ·simp [World.frozen?,hb]
def a9Y (cur:Array Value) (l:List O8):Array Value:=Go.Sort.putCells id 0 (Go.Sort.flatK O8.enc 8 l.toArray) cur
theorem b6k (cur:Array Value) (l:List O8):(a9Y cur l).size=cur.size:=by simp [a9Y,Go.Sort.putCells]
theorem c3u (cur:Array Value) (l:List O8) (hl:l.length*8<=cur.size) (j:Nat):(a9Y cur l)[j]?=if j < l.length*8 then (l.map O8.enc).flatten[j]? else cur[j]?:=by
 simp only [a9Y,Go.Sort.putCells,Array.getElem?_mapIdx,Nat.zero_le,true_and,Go.Sort.size_flatK,Qk,Qj,Nat.sub_zero]
 by_cases hj:j < l.length*8
 ·rw [if_pos hj,b3y l j hj]
  rw [Array.getElem?_eq_getElem (by omega)]
  simp only [Qd,if_pos hj,id]
  rw [Go.Sort.get_flatK _ _ _ _ (by simpa using hj)]
 ·rw [if_neg hj]
  cases cur[j]? with
  | none=>rfl
  | some u=>simp [if_neg hj]
theorem c0a {w:World} {b T:Nat} {cur:Array Value} (hb:w.heap[b]?=some (.cells cur T (0,0))) (n:Nat) (l:List O8) (os:Array Obj) :
  (Go.Proofs.sortWorldK O8.enc 8 w b 0 n l.toArray os).heap[b]?=some (.cells (a9Y cur l) T (0,0)):=by
 have hlt:=(Q8.1 hb).1
 unfold Go.Proofs.sortWorldK Go.Sort.putRowK Go.Sort.putRow
 rw [Go.Sort.heap_grow_old _ _ (by simpa [Go.Sort.mapBlock] using hlt)]
 simp only [Go.Sort.mapBlock,Go.Sort.heap_ahead,QD,if_true,hb,Qd,Go.Sort.onCells]
 rfl
theorem b0D {w:World} {b k:Nat} (hk:k < w.heap.size) (hne:k≠b) (n:Nat) (l:Array O8) (os:Array Obj):(Go.Proofs.sortWorldK O8.enc 8 w b 0 n l os).heap[k]?=w.heap[k]?:=by
 unfold Go.Proofs.sortWorldK Go.Sort.putRowK Go.Sort.putRow
 rw [Go.Sort.heap_grow_old _ _ (by simpa [Go.Sort.mapBlock] using hk)]
 simp only [Go.Sort.mapBlock,Go.Sort.heap_ahead,QD]
 rw [if_neg (Ne.symm hne)]
theorem c1z (w:World) (b n:Nat) (l:Array O8) (os:Array Obj):w.heap.size<=(Go.Proofs.sortWorldK O8.enc 8 w b 0 n l os).heap.size:=by
 simp [Go.Proofs.sortWorldK,Go.Sort.putRowK,Go.Sort.putRow,Go.Sort.mapBlock]
theorem c8H:Go.Sort.SWO (Go.Proofs.ltOf fun x y:O8=>a1F x.w y.w) where
 irrefl x:=by unfold Go.Proofs.ltOf; rw [a8S]; exact a3E _
 trans x y z h1 h2:=by unfold Go.Proofs.ltOf at *; rw [a8S] at *; exact a3X h1 h2
 ntrans x y z h1 h2:=by unfold Go.Proofs.ltOf at *; rw [a8S] at *; exact c1L (O8.wlen _ _) (O8.wlen _ _) h1 h2
theorem c2s {l:List O8} {d':Array O8} (hd:a8T l=true) (hp:Go.Sort.PermIn 0 l.toArray.size l.toArray d') (hs:Go.Sort.SortedIn (Go.Proofs.ltOf fun x y:O8=>a1F x.w y.w) 0 l.toArray.size d'):d'=(a3w l).toArray:=by
 obtain ⟨h1,_,h3⟩:=hp
 have hp:d'.toList.Perm l:=by
  have e1:(d'.extract 0 l.toArray.size).toList=d'.toList:=by rw [<- h1]; simp
  have e2:(l.toArray.extract 0 l.toArray.size).toList=l:=by simp
  rwa [e1,e2] at h3
 have hS:Srt d'.toList:=by
  unfold Srt
  rw [List.pairwise_iff_getElem]
  intro i j hi hj hij
  have:=hs i j (Nat.zero_le _) hij (by rw [<- h1]; simpa using hj)
  unfold Go.Proofs.ltOf at this
  rw [a8S,getElem!_pos d' j (by simpa using hj),getElem!_pos d' i (by simpa using hi)] at this
  simpa using this
 rw [<- b5J (b7L hd) hp hS]
theorem c6b:∀ x:O8,∀ v∈O8.enc x,v.oneCell'=true:=by
 intro x v hv
 simp only [O8.enc,Q1,QE,or_false] at hv
 rcases hv with rfl | rfl | rfl | rfl | rfl | rfl | rfl | rfl<;>rfl
theorem c6j:∀ (l:List O8),∀ r∈l.map O8.row,∀ p∈r,p.one=true:=by
 intro l r hr p hp
 obtain ⟨x,_,rfl⟩:=Q3.1 hr
 simp only [O8.row,Q1,QE,or_false] at hp
 rcases hp with rfl | rfl | rfl | rfl | rfl | rfl | rfl | rfl<;>rfl
section
variable {P:Program} {ρ:Ren}
theorem c1e (L:Go.Proofs.SlLaysF0.n6 P ρ) (aE:∀ w,(isAgg (ρ.t 24)).run P w=.ok true w) (zE:∀ w,(Go.sizeOf (ρ.t 24)).run P w=.ok 8 w) {g:Nat}
  (eg:∀ args w,(callFunc g args).run P w=.ok (.enter g args) w)
  (hcmp:∀ (x y:O8) (W:World),Calls P g #[.agg (O8.enc x).toArray,.agg (O8.enc y).toArray] W fun e w'=>e=.returned (.int .i64 (a1F x.w y.w))/\∃ q os',w'=Go.Sort.grow (W.drewN q) os')
  {w:World} {b T cap:Nat} {cur:Array Value} {l:List O8} (hb:w.heap[b]?=some (.cells cur T (0,0))) (hcur:∀ (j:Nat) (u:Value),(l.map O8.enc).flatten[j]?=some u->cur[j]?=some u) (hd:a8T l=true) (hsz:l.length<=1000000) :
  Calls P (ρ.f 6) #[.slice (some ⟨b,0,none⟩) l.length cap,.func (.func g) #[] #[]] w fun e w'=>e=.returned (.tuple #[])/\∃ n os,w'=Go.Proofs.sortWorldK O8.enc 8 w b 0 n (a3w l).toArray os:=by
 have h:=Go.Proofs.AnyQ.slices_SortFunc L 8 aE zE O8.enc b7j c6b (fun x y=>a1F x.w y.w) c8H g #[] b 0 cap l.toArray w eg (fun m os dk _ x y=>by simpa using hcmp x y _) (c4i hb hcur) (Q8.1 hb).1 (by simp; omega)
 rw [Qk] at h
 refine h.mono ?_
 rintro e w' ⟨he,d',n,os,h1,h2,h3⟩
 rw [<- Qk] at h1 h2
 rw [c2s hd h1 h2] at h3
 exact ⟨he,n,os,h3⟩
theorem b7Q (L:Go.Proofs.SlLaysF0.n6 P ρ) (aE:∀ w,(isAgg (ρ.t 24)).run P w=.ok true w) (zE:∀ w,(Go.sizeOf (ρ.t 24)).run P w=.ok 8 w) {g:Nat}
  (eg:∀ args w,(callFunc g args).run P w=.ok (.enter g args) w)
  (hcmp:∀ (x y:O8) (W:World),Calls P g #[.agg (O8.enc x).toArray,.agg (O8.enc y).toArray] W fun e w'=>e=.returned (.int .i64 (a1F x.w y.w))/\∃ q os',w'=Go.Sort.grow (W.drewN q) os')
  {s:Hp} {σ:List MO} {m:MS} {w:World} (hm:a0P s (inf σ m) σ m) (hcoh:Coh σ m) (hs:Sub s w) (hok:MOk s m w) {h T len b cap:Nat} {rows:List (List PV)} {cur:Array Value} {l:List O8}
  (h0:σ[h]?=some (.row rows 8 T)) (h1:m[h]?=some (b,.cells cur T (0,0))) (hlen:len<=rows.length) (hl:a8m (rows.take len)=some l) (hd:a8T l=true) (hsz:len<=1000000) :
  Calls P (ρ.f 6) #[.slice (some ⟨b,0,none⟩) len cap,.func (.func g) #[] #[]] w (Ret (QF σ m (.tup []) (σ.set h (.row ((a3w l).map O8.row++rows.drop len) 8 T))) s m w):=by
 have hrows:=b6f hl
 have hll:l.length=len:=by
  have:=congrArg List.length hrows
  rw [Qm,Qb,QH hlen] at this
  exact this.symm
 obtain ⟨x0,g1,cur0,g2,a1,a2,⟨cap0,a31,a32,a33⟩,a4,xs,a5,a6,a7⟩:=hm.obj h0
 rw [h1] at g1
 simp only [Q0] at g1; subst g1
 simp only [Obj.cells.injEq] at g2
 obtain ⟨rfl,_⟩:=g2
 have hxl:xs.length=rows.length:=a5.length
 have hx1:xs.take len=l.map O8.enc:=by
  have:=a5.take len
  rw [hrows] at this
  exact b6L this
 have hb:=hok.is _ (Q9 h1)
 simp only at hb
 have hsplit:xs.flatten=(l.map O8.enc).flatten++(xs.drop len).flatten:=by
  rw [<- hx1,<- QJ,List.take_append_drop]
 have hcur:∀ (j:Nat) (u:Value),(l.map O8.enc).flatten[j]?=some u->cur[j]?=some u:=fun j u hj=>by
  apply a7 j u
  rw [hsplit,QK (Qn.1 hj).1]
  exact hj
 have hflen:=a6S l
 have hle8:l.length*8<=cur.size:=by rw [a31]; exact Nat.mul_le_mul_right _ (by omega)
 have hsl:(a3w l).length=l.length:=(a6I l).length_eq
 have hcall:=c1e (cap:=cap) L aE zE eg hcmp hb hcur hd (by omega)
 rw [hll] at hcall
 refine hcall.mono ?_
 rintro e w' ⟨rfl,n,os,rfl⟩
 have hblt:=(Q8.1 hb).1
 have hhl:=(Qn.1 h0).1
 have hml:=hm.length
 have hbl:a0S (m.set h (b,Obj.cells (a9Y cur (a3w l)) T (0,0)))=a0S m:=by
  unfold a0S
  rw [List.map_set]
  apply List.ext_getElem?
  intro i
  rw [Qp]
  split
  ·rename_i he; subst he
   rw [if_pos (by simpa using (by omega:h < m.length)),List.getElem?_map,h1]; rfl
  ·rfl
 have hrep:EnvRep s { i:=[],b:=[],v:=[],m:=σ,k:=0 } { i:=[],b:=[],v:=[],j:=[],m:=m,k:=0 }:=⟨rfl,rfl,rfl,hm,rfl,by simp,hcoh⟩
 have hobj:a3m s (inf σ m) (.row ((a3w l).map O8.row++rows.drop len) 8 T) (b,.cells (a9Y cur (a3w l)) T (0,0)):=by
  refine ⟨_,rfl,?_,by omega,⟨cap0,by rw [b6k]; exact a31,?_,a33⟩,?_,(a3w l).map O8.enc++xs.drop len,(b6D _).append (a5.drop len),?_,?_⟩
  ·intro he
   have:=congrArg List.length he
   rw [Qa,Qb,Qq,List.length_nil] at this
   exact a1 (Qh.1 (by omega))
  ·rw [Qa,Qb,Qq]; omega
  ·intro r hr
   rcases QL.1 hr with hr | hr
   ·exact c6j _ r hr
   ·exact a4 r (QM hr)
  ·intro x hx
   rcases QL.1 hx with hx | hx
   ·obtain ⟨y,_,rfl⟩:=Q3.1 hx; rfl
   ·exact a6 x (QM hx)
  ·intro j u hj
   rw [c3u _ _ (by omega),QJ] at *
   by_cases hlt:j < (a3w l).length*8
   ·rw [if_pos hlt]
    rwa [QK (by rw [a6S]; exact hlt)] at hj
   ·rw [if_neg hlt]
    rw [QN (by rw [a6S]; omega),a6S,hsl] at hj
    apply a7 j u
    rw [hsplit,QN (by rw [hflen]; omega),hflen]
    exact hj
 have hI:a1L (.row ((a3w l).map O8.row++rows.drop len) 8 T) (b,Obj.cells (a9Y cur (a3w l)) T (0,0))=a1L (.row rows 8 T) (b,Obj.cells cur T (0,0)):=by
  simp only [a1L,a3d,b6k,Qa,Qb,Qq]
  congr 2
  omega
 obtain ⟨hle,he⟩:=hrep.setM h0 h1 hobj (.inl hI)
 refine ⟨_,s,_,rfl,⟨rfl,rfl,rfl,c1z _ _ _ _ _,fun k hk hn=>b0D hk (fun hkb=>hn (by rw [hkb]; exact Q3.2 ⟨_,Q9 h1,rfl⟩)) _ _ _⟩,Hp.le_refl s,?_,(fun b o u h1 h2=>by rw [h1] at h2; cases h2),⟨by simp,?_⟩,⟨by rw [hbl]; exact hok.nd,?_,?_⟩,hle,⟨[],rfl,rfl⟩,he.m,he.coh⟩
 ·intro b2 o u hu
  have hc:=hs b2 o u hu
  have hne:b2≠b:=by
   rintro rfl
   rw [hok.un _ (Q9 h1) o] at hu; cases hu
  have hlt2:b2 < w.heap.size:=by
   simp only [World.cell?] at hc
   cases hh:w.heap[b2]? with
   | none=>rw [hh] at hc; cases hc
   | some _=>exact (Q8.1 hh).1
  have hk:=b0D hlt2 hne n (a3w l).toArray os
  simp only [World.cell?,hk]
  exact hc
 ·intro i x hx
  rw [Qp] at hx
  split at hx
  ·rename_i he; subst he
   split at hx
   ·simp only [Q0] at hx; subst hx
    exact .inl ⟨_,h1,rfl⟩
   ·cases hx
  ·exact .inl ⟨x,hx,rfl⟩
 ·intro x hx
  obtain ⟨i,hi⟩:=List.mem_iff_getElem?.1 hx
  rw [Qp] at hi
  split at hi
  ·split at hi
   ·simp only [Q0] at hi; subst hi
    exact c0a hb _ _ _
   ·cases hi
  ·rename_i hne
   have hin:=hok.is x (Q9 hi)
   rw [b0D (Q8.1 hin).1 (fun hxb=>hne ?_)]
   ·exact hin
   ·have e1:(a0S m)[i]?=some b:=by simp [a0S,hi,hxb]
    have e2:(a0S m)[h]?=some b:=by simp [a0S,h1]
    exact (List.getElem?_inj (Qn.1 e2).1 hok.nd).1 (e2.trans e1.symm)
 ·intro x hx o
  have:x.1∈a0S m:=by rw [<- hbl]; exact Q3.2 ⟨x,hx,rfl⟩
  obtain ⟨y,hy,he⟩:=Q3.1 this
  rw [<- he]; exact hok.un y hy o
theorem c5x (L:Go.Proofs.SlLaysF0.n6 P ρ) (aE:∀ w,(isAgg (ρ.t 24)).run P w=.ok true w) (zE:∀ w,(Go.sizeOf (ρ.t 24)).run P w=.ok 8 w) {g:Nat}
  (eg:∀ args w,(callFunc g args).run P w=.ok (.enter g args) w) (ef:∀ args w,(callFunc (ρ.f 6) args).run P w=.ok (.enter (ρ.f 6) args) w)
  (hcmp:∀ (x y:O8) (W:World),Calls P g #[.agg (O8.enc x).toArray,.agg (O8.enc y).toArray] W fun e w'=>e=.returned (.int .i64 (a1F x.w y.w))/\∃ q os',w'=Go.Sort.grow (W.drewN q) os'):CtP P (ρ.f 6) (b6q g):=by
 intro aa σ r σ' h
 refine ⟨ef,fun s m vs hm hcoh hv w hs hok=>?_⟩
 have none:∀ (a:Option Addr) (cap:Nat) (v2:Value),vs=[.slice a 0 cap,v2]->Calls P (ρ.f 6) vs.toArray w (Ret (QF σ m (.tup []) σ) s m w):=by
  rintro a cap v2 rfl
  refine (Go.Proofs.AnyF.slices_SortFunc_none { L with } a cap v2 w).mono ?_
  rintro e w' ⟨rfl,rfl⟩
  exact ⟨_,s,m,rfl,Grows.refl _ _,Hp.le_refl s,hs,(fun b o u h1 h2=>by rw [h1] at h2; cases h2),⟨Nat.le_refl _,fun i x hx=>.inl ⟨x,hx,rfl⟩⟩,hok,Le2.refl _ _,⟨[],rfl,rfl⟩,hm,hcoh⟩
 unfold b6q at h
 split at h
 ·rename_i σ0 hd len sz g'
  split at h
  case h_2=>cases h
  rename_i rows sz' T h0
  rw [Q6] at h
  obtain ⟨l,hl,h⟩:=h
  split at h
  case isFalse=>cases h
  rename_i hc
  obtain ⟨rfl,hc1,rfl,rfl,hc2,hc3⟩:=hc
  simp only [Q0,Q4] at h
  obtain ⟨rfl,rfl⟩:=h
  obtain ⟨x0,h1,cur,g2,_⟩:=hm.obj h0
  obtain ⟨b,o⟩:=x0
  simp only at g2; subst g2
  have hI:=a1C h0 h1
  simp only [Reps,Rep] at hv
  obtain ⟨v1,_,rfl,⟨hpos,b1,cap,rfl,b',n',r',k1,k2,k3⟩,v2,_,rfl,⟨cs,rfl,rfl⟩,rfl⟩:=hv
  rw [hI] at k1
  simp only [a1L,Q0,Q4] at k1
  obtain ⟨rfl,rfl,rfl⟩:=k1
  obtain ⟨rfl,_,_⟩:=k3 hc1
  have:=b7Q (cap:=cap) (len:=len) L aE zE eg hcmp hm hcoh hs hok h0 h1 (by omega) (by rw [List.take_of_length_le (by omega)]; exact hl) hc2 hc3
  rw [List.drop_eq_nil_of_le (by omega),List.append_nil] at this
  exact this
 ·rename_i σ0 hd len r0 sz g'
  split at h
  case h_2=>cases h
  rename_i rows sz' T h0
  rw [Q6] at h
  obtain ⟨l,hl,h⟩:=h
  split at h
  case isFalse=>cases h
  rename_i hc
  obtain ⟨rfl,hc1,hc0,rfl,rfl,hc2,hc3⟩:=hc
  simp only [Q0,Q4] at h
  obtain ⟨rfl,rfl⟩:=h
  obtain ⟨x0,h1,cur,g2,_⟩:=hm.obj h0
  obtain ⟨b,o⟩:=x0
  simp only at g2; subst g2
  have hI:=a1C h0 h1
  simp only [Reps,Rep] at hv
  obtain ⟨v1,_,rfl,⟨hpos,_,b1,cap,rfl,b',n',r',k1,k2,k3⟩,v2,_,rfl,⟨cs,rfl,rfl⟩,rfl⟩:=hv
  rw [hI] at k1
  simp only [a1L,Q0,Q4] at k1
  obtain ⟨rfl,rfl,rfl⟩:=k1
  obtain ⟨rfl,_,_⟩:=k3 hc1
  exact b7Q (cap:=cap) (len:=len) L aE zE eg hcmp hm hcoh hs hok h0 h1 (by omega) hl hc2 hc3
 ·simp only [Q0,Q4] at h
  obtain ⟨rfl,rfl⟩:=h
  simp only [Reps,Rep] at hv
  obtain ⟨v1,_,rfl,rfl,v2,_,rfl,_,rfl⟩:=hv
  exact none _ _ _ rfl
 ·simp only [Q0,Q4] at h
  obtain ⟨rfl,rfl⟩:=h
  simp only [Reps,Rep] at hv
  obtain ⟨v1,_,rfl,⟨xs,⟨_,a,cap,rfl,_,_⟩,hx,_⟩,v2,_,rfl,_,rfl⟩:=hv
  have:xs=[]:=Qh.1 hx.length
  subst this
  exact none _ _ _ rfl
 ·cases h
end
end Go.Sx
namespace Go.Sx
open Go.RowKit
mutual
def PV.plain:PV->Bool
 | .int .. | .bool .. | .str .. | .undef | .nilS | .nilF | .nilP | .nilI | .nilM=>true
 | .agg l=>PV.plains l
 | .tup l=>PV.plains l
 | _=>false
def PV.plains:List PV->Bool
 | []=>true
 | p::l=>p.plain&&PV.plains l
end
mutual
theorem b7B {s t:Hp} {B C:Inf}:∀ (p:PV) (v:Value),p.plain=true->Rep s B p v->Rep t C p v
 | .int ..,_,_,h=>h
 | .bool ..,_,_,h=>h
 | .str ..,_,_,h=>h
 | .undef,_,_,h=>h
 | .nilS,_,_,h=>h
 | .nilF,_,_,h=>h
 | .nilP,_,_,h=>h
 | .nilI,_,_,h=>h
 | .nilM,_,_,h=>h
 | .agg l,v,hp,h=>by
  simp only [PV.plain] at hp
  simp only [Rep] at h ⊢
  obtain ⟨vs,h1,h2⟩:=h
  exact ⟨vs,h1,b1F l vs hp h2⟩
 | .tup l,v,hp,h=>by
  simp only [PV.plain] at hp
  simp only [Rep] at h ⊢
  obtain ⟨vs,h1,h2⟩:=h
  exact ⟨vs,h1,b1F l vs hp h2⟩
theorem b1F {s t:Hp} {B C:Inf}:∀ (l:List PV) (vs:List Value),PV.plains l=true->Reps s B l vs->Reps t C l vs
 | [],_,_,h=>h
 | p::l,vs,hp,h=>by
  simp only [PV.plains,Q7] at hp
  simp only [Reps] at h ⊢
  obtain ⟨v,r,h1,h2,h3⟩:=h
  exact ⟨v,r,h1,b7B p v hp.1 h2,b1F l r hp.2 h3⟩
end
def c1P (σ:List MO):PV->Option PV
 | .rsl h len sz=>(σ[h]?).bind fun o=>(o.elts len sz).bind fun rows=>if PV.lowss 0 rows then some (.sl sz rows) else none
 | .rpl h len r sz=>(σ[h]?).bind fun o=>(o.elts r sz).bind fun rows=>if PV.lowss 0 rows then some (.sl sz (rows.take len)) else none
 | p=>if p.low 0 then some p else none
def b1x (σ:List MO):List PV->Option (List PV)
 | []=>some []
 | p::l=>(c1P σ p).bind fun q=>(b1x σ l).map (q::·)
theorem b8g {s:Hp} {B:Inf} {σ:List MO} {m:MS} {w:World} (hm:a0P s B σ m) (hok:MOk s m w) {h len sz:Nat} {o:MO} {rows:List (List PV)} (ho:σ[h]?=some o) (he:o.elts len sz=some rows) :
  ∃ b cur T xs,m[h]?=some (b,.cells cur T (0,0))/\rows.length=len/\a1L o (b,.cells cur T (0,0))=(b,cur.size,len)/\a0M s B rows xs/\(∀ r∈rows,∀ p∈r,p.one=true)/\(∀ x∈xs,x.length=sz)/\(∀ (i:Nat) x,xs[i]?=some x->∀ (j:Nat) u,x[j]?=some u->hpOf w b (0+i*sz+j)=some u):=by
 cases o<;>simp only [MO.elts,reduceCtorEq] at he
 rename_i rows' sz' T
 split at he
 case isFalse=>cases he
 rename_i hc
 obtain ⟨rfl,rfl⟩:=hc
 simp only [Q0] at he; subst he
 obtain ⟨⟨b,ob⟩,h1,cur,h2,a1,a2,a3,a4,xs,a5,a6,a7⟩:=hm.obj ho
 simp only at h2; subst h2
 refine ⟨b,cur,T,xs,h1,rfl,rfl,a5,a4,a6,fun i x hi j u hj=>?_⟩
 have hcell:=hok.is _ (Q9 h1)
 simp only at hcell
 have:=a7 _ u (a5b _ xs a6 i x j u hi hj)
 simp only [hpOf,World.cell?,hcell,Qj,Option.isSome_none,Bool.false_eq_true,if_false]
 exact this
theorem c4k {s:Hp} {B:Inf} {w:World} (hs:Sub s w) {p:PV} {v:Value} (h:Rep s B p v) (hl:p.low 0=true):Rep (hpOf w) [] p v:=by
 have:=PV.low_rep (k:=0) p v h hl
 rw [QP] at this
 exact Rep.mono (fun b o u hu=>hs b o u hu) (BLe.refl _) p v this
theorem b6z {s:Hp} {B:Inf} {w:World} (hs:Sub s w) {rows:List (List PV)} {xs:List (List Value)} (h:a0M s B rows xs) (hl:PV.lowss 0 rows=true):a0M (hpOf w) [] rows xs:=by
 have:=PV.lowss_rep (k:=0) rows xs h hl
 rw [QP] at this
 exact a0M.mono (fun b o u hu=>hs b o u hu) (BLe.refl _) rows xs this
theorem c2R {s:Hp} {σ:List MO} {m:MS} {w:World} (hs:Sub s w) (hok:MOk s m w) (hm:a0P s (inf σ m) σ m) {p q:PV} {v:Value} (h:Rep s (inf σ m) p v) (hq:c1P σ p=some q):Rep (hpOf w) [] q v:=by
 have other:(if p.low 0 then some p else none)=some q->Rep (hpOf w) [] q v:=fun hq=>by
  split at hq
  ·rename_i hl
   simp only [Q0] at hq; subst hq
   exact c4k hs h hl
  ·cases hq
 cases p<;>simp only [c1P] at hq
 case rsl hd len sz =>
  simp only [Q6] at hq
  obtain ⟨o,ho,rows,he,hq⟩:=hq
  split at hq
  case isFalse=>cases hq
  rename_i hl
  simp only [Q0] at hq; subst hq
  obtain ⟨b,cur,T,xs,h1,h2,h3,h4,h5,h6,h7⟩:=b8g hm hok ho he
  have hI:=a1C ho h1
  simp only [Rep] at h ⊢
  obtain ⟨h0,b1,cap,rfl,b',n,r,k1,k2,k3⟩:=h
  rw [hI,h3] at k1
  simp only [Q0,Q4] at k1
  obtain ⟨rfl,rfl,rfl⟩:=k1
  obtain ⟨rfl,_,hcap⟩:=k3 rfl
  have hlx:=h4.length
  exact ⟨xs,⟨h6,some ⟨b,0,none⟩,cap,by rw [hlx,h2],by rw [hlx,h2]; exact hcap,fun _=>⟨b,0,rfl,h7⟩⟩,b6z hs h4 hl,h5⟩
 case rpl hd len r0 sz =>
  simp only [Q6] at hq
  obtain ⟨o,ho,rows,he,hq⟩:=hq
  split at hq
  case isFalse=>cases hq
  rename_i hl
  simp only [Q0] at hq; subst hq
  obtain ⟨b,cur,T,xs,h1,h2,h3,h4,h5,h6,h7⟩:=b8g hm hok ho he
  have hI:=a1C ho h1
  simp only [Rep] at h ⊢
  obtain ⟨h0,hlr,b1,cap,rfl,b',n,r,k1,k2,k3⟩:=h
  rw [hI,h3] at k1
  simp only [Q0,Q4] at k1
  obtain ⟨rfl,rfl,rfl⟩:=k1
  obtain ⟨rfl,_,hcap⟩:=k3 rfl
  have hlx:=h4.length
  refine ⟨xs.take len,⟨fun x hx=>h6 x (QQ hx),some ⟨b,0,none⟩,cap,by rw [Qm,hlx,h2,QH hlr],by rw [Qm,hlx]; omega,fun _=>⟨b,0,rfl,fun i x hi j u hj=>?_⟩⟩,(b6z hs h4 hl).take len,fun r hr=>h5 r (QQ hr)⟩
  have hi':xs[i]?=some x:=by
   rw [List.getElem?_take] at hi
   split at hi
   ·exact hi
   ·cases hi
  exact h7 i x hi' j u hj
 all_goals exact other hq
theorem b5G {s:Hp} {σ:List MO} {m:MS} {w:World} (hs:Sub s w) (hok:MOk s m w) (hm:a0P s (inf σ m) σ m):∀ {l q:List PV} {vs:List Value},Reps s (inf σ m) l vs->b1x σ l=some q->Reps (hpOf w) [] q vs
 | [],q,vs,h,hq=>by simp only [b1x,Q0] at hq; subst hq; exact h
 | p::l,q,vs,h,hq=>by
  simp only [b1x,Q6,Qr] at hq
  obtain ⟨p',h1,l',h2,rfl⟩:=hq
  simp only [Reps] at h ⊢
  obtain ⟨v,r,h3,h4,h5⟩:=h
  exact ⟨v,r,h3,c2R hs hok hm h4 h1,b5G hs hok hm h5 h2⟩
def b8C (F:List PV->List MO->Option (PV × List MO)) (aa:List PV) (σ:List MO):Option (PV × List MO) :=
 (b1x σ aa).bind fun aa'=>match F aa' [] with
  | some (r,[])=>if r.plain=true then some (r,σ) else none
  | _=>none
theorem c5B {P:Program} {f:Nat} {F:List PV->List MO->Option (PV × List MO)} (hF:CtP P f F):CtP P f (b8C F):=by
 intro aa σ r σ' h
 unfold b8C at h
 rw [Q6] at h
 obtain ⟨aa',ha,h⟩:=h
 split at h
 case h_2=>cases h
 rename_i r0 hr
 split at h
 case isFalse=>cases h
 rename_i hp
 simp only [Q0,Q4] at h
 obtain ⟨rfl,rfl⟩:=h
 refine ⟨(hF _ _ _ _ hr).1,fun s m vs hm hcoh hv w hs hok=>?_⟩
 have hrep:=b5G hs hok hm hv ha
 have hc:=(hF _ _ _ _ hr).2 (hpOf w) [] vs rfl (Coh.of_none (by simp)) hrep w (b8I w) ⟨by simp [a0S],by simp,by simp⟩
 refine hc.mono ?_
 rintro e w' ⟨v,s',m',he,hg,hle,hsub,hnew,hpos,hmok,hq⟩
 refine ⟨v,s,m,he,⟨hg.os,hg.tape,hg.output,hg.size,fun k hk _=>hg.block k hk (by simp [a0S])⟩,Hp.le_refl s,fun b o u hu=>hsub b o u (hle b o u (hs b o u hu)),(fun b o u h1 h2=>by rw [h1] at h2; cases h2),⟨Nat.le_refl _,fun i x hx=>.inl ⟨x,hx,rfl⟩⟩,⟨hok.nd,fun x hx=>?_,hok.un⟩,Le2.refl _ _,?_,hm,hcoh⟩
 ·have h1:=hok.is x hx
  rw [hg.block x.1 (Q8.1 h1).1 (by simp [a0S])]
  exact h1
 ·exact b7B r0 v hp hq.2.1
end Go.Sx
