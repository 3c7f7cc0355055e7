/- Maps from lists of numbers to numbers: raising values, in any order. -/
import Derived.Test.YtflcopaopimlpaaHTxc
import Derived.Test.YtflcopaopimlpaaHTxe
set_option linter.unusedSimpArgs false
set_option linter.unusedVariables false
open List renaming mem_cons → Q0, map_cons → Q1, mem_map → Q2, nodup_cons → Q3, mem_filter → Q4, perm_ext_iff_of_nodup → Q5, any_eq_true → Q7, mem_singleton → Q8
open Option renaming getD_some → Q6
namespace Go.Kv
open Go.Sx
theorem b2m (x:List Int × Int):∀ (kv:KV) (p:List Int × Int),x∈a3M kv p↔x=p\/x∈kv
 | [],p=>by simp [a3M]
 | q::kv,p=>by
  simp only [a3M]
  split
  ·simp
  ·simp only [Q0,b2m x kv p]
   constructor
   ·rintro (h | h | h)
    ·exact .inr (.inl h)
    ·exact .inl h
    ·exact .inr (.inr h)
   ·rintro (h | h | h)
    ·exact .inr (.inl h)
    ·exact .inl h
    ·exact .inr (.inr h)
theorem lookQ_none {kv:KV} {k:List Int}:a0K kv k=none↔∀ p∈kv,p.1≠k:=by
 induction kv with
 | nil=>simp [a0K]
 | cons p kv ih =>
  simp only [a0K]
  split
  ·rename_i h; subst h
   simp
  ·rename_i h
   rw [ih]
   constructor
   ·intro h2 q hq
    rcases Q0.1 hq with rfl | hq
    ·exact fun he=>h he.symm
    ·exact h2 q hq
   ·intro h2 q hq; exact h2 q (by simp [hq])
theorem b6O {b:List Int}:∀ {kv:KV} {p:List Int × Int},a0K kv p.1=none->a0K (a3M kv p) b=if b=p.1 then some p.2 else a0K kv b
 | [],p,_=>by simp [a3M,a0K]
 | q::kv,p,h=>by
  simp only [a0K] at h
  split at h
  ·cases h
  rename_i hne
  simp only [a3M]
  split
  ·simp [a0K]
  ·simp only [a0K]
   rw [b6O h]
   by_cases h1:b=q.1
   ·rw [if_pos h1,if_pos h1,if_neg (by rw [h1]; exact fun he=>hne he.symm)]
   ·rw [if_neg h1,if_neg h1]
theorem b1P {b k:List Int}:∀ {kv:KV},a0K (a3q kv k) b=if b=k then none else a0K kv b
 | []=>by simp [a3q,a0K]
 | q::kv=>by
  have ih:=b1P (b:=b) (k:=k) (kv:=kv)
  unfold a3q at *
  simp only [List.filter_cons,a0K]
  by_cases h:q.1=k
  ·rw [if_neg (by simp [h]),ih]
   by_cases h2:b=k
   ·rw [if_pos h2,if_pos h2]
   ·rw [if_neg h2,if_neg h2,if_neg (by rw [h]; exact h2)]
  ·rw [if_pos (by simp [h])]
   simp only [a0K]
   rw [ih]
   by_cases h2:b=q.1
   ·rw [if_pos h2,if_pos h2,if_neg (by rw [h2]; exact h)]
   ·rw [if_neg h2,if_neg h2]
theorem b6l {kv:KV} {k b:List Int} {v:Int}:a0K (a3B kv k v) b=if b=k then some v else a0K kv b:=by
 unfold a3B
 rw [b6O (by rw [b1P,if_pos rfl])]
 simp only
 split
 ·rfl
 ·rename_i h; rw [b1P,if_neg h]
theorem c3G {kv:KV} {k:List Int} {v:Int} {x:List Int × Int}:x∈a3B kv k v↔x=(k,v)\/(x∈kv/\x.1≠k):=by
 unfold a3B a3q
 rw [b2m]
 simp
def Nd (kv:KV):Prop:=(kv.map (·.1)).Nodup
theorem c0h:∀ {kv:KV} {p:List Int × Int},Nd kv->(∀ q∈kv,q.1≠p.1)->Nd (a3M kv p)
 | [],p,_,_=>by simp [a3M,Nd]
 | q::kv,p,h,hp=>by
  unfold Nd at *
  simp only [Q1,Q3] at h
  simp only [a3M]
  split
  ·simp only [Q1,Q3]
   refine ⟨?_,h.1,h.2⟩
   intro hm
   rcases Q0.1 hm with hm | hm
   ·exact hp q (by simp) hm.symm
   ·obtain ⟨r,hr,he⟩:=Q2.1 hm
    exact hp r (by simp [hr]) he
  ·simp only [Q1,Q3]
   refine ⟨?_,c0h (p:=p) h.2 (fun r hr=>hp r (by simp [hr]))⟩
   intro hm
   obtain ⟨r,hr,he⟩:=Q2.1 hm
   rcases (b2m r kv p).1 hr with rfl | hr
   ·exact hp q (by simp) he.symm
   ·exact h.1 (Q2.2 ⟨r,hr,he⟩)
theorem c5L {kv:KV} {k:List Int} {v:Int} (h:Nd kv):Nd (a3B kv k v):=by
 unfold a3B
 refine c0h ?_ ?_
 ·exact List.Sublist.nodup (List.Sublist.map _ List.filter_sublist) h
 ·intro q hq
  have:=(Q4.1 hq).2
  simpa using this
theorem lookQ_some {kv:KV} (h:Nd kv) {k:List Int} {v:Int}:a0K kv k=some v↔(k,v)∈kv:=by
 induction kv with
 | nil=>simp [a0K]
 | cons p kv ih =>
  unfold Nd at h
  simp only [Q1,Q3] at h
  simp only [a0K]
  split
  ·rename_i hk; subst hk
   simp only [Option.some.injEq,Q0]
   constructor
   ·rintro rfl; exact .inl rfl
   ·rintro (he | he)
    ·rw [<- he]
    ·exact absurd (Q2.2 ⟨_,he,rfl⟩) h.1
  ·rename_i hk
   rw [ih h.2,Q0]
   constructor
   ·exact .inr
   ·rintro (he | he)
    ·exact absurd (by rw [<- he]) hk
    ·exact he
theorem a9i {kv:KV} (h:Nd kv):kv.Nodup:=List.Pairwise.of_map (·.1) (fun _ _ h he=>h (by rw [he])) h
theorem Nd.perm {a b:KV} (ha:Nd a) (h:a.Perm b):Nd b:=(h.map fun p:List Int × Int=>p.1).nodup_iff.1 ha
theorem c0N {a b:KV} (ha:Nd a) (hb:Nd b) (h:∀ k,a0K a k=a0K b k):a.Perm b:=by
 rw [Q5 (a9i ha) (a9i hb)]
 rintro ⟨k,v⟩
 rw [<- lookQ_some ha,<- lookQ_some hb,h]
theorem b5N {a b:KV} (ha:Nd a) (h:a.Perm b) (k:List Int):a0K a k=a0K b k:=by
 have hb:Nd b:=ha.perm h
 cases h1:a0K a k with
 | none =>
  symm
  rw [lookQ_none] at h1 ⊢
  exact fun p hp=>h1 p (h.mem_iff.2 hp)
 | some v =>
  symm
  rw [lookQ_some ha] at h1
  rw [lookQ_some hb]
  exact h.mem_iff.1 h1
def leL:List Int->List Int->Bool
 | [],[]=>true
 | x::l,y::m=>decide (x<=y)&&leL l m
 | _,_=>false
def nnL (a:List Int):Bool:=a.all fun x=>decide (0<=x)
def gv (kv:KV) (b:List Int):Int:=(a0K kv b).getD 0
def mnM (v:Int):Int:=if v<=1000000 then v else 1000000
def c2u (lim:List Int) (kv:KV) (b:List Int) (v:Int):KV:=if gv kv b < mnM v/\leL b lim=true then a3B kv b (mnM v) else kv
structure KvOk (lim:List Int) (kv:KV):Prop where
 nd:Nd kv
 all:∀ p∈kv,0 < p.2/\p.2<=1000000/\leL p.1 lim=true/\nnL p.1=true
theorem KvOk.nil (lim:List Int):KvOk lim []:=⟨by simp [Nd],by simp⟩
theorem KvOk.gv_nonneg {lim:List Int} {kv:KV} (h:KvOk lim kv) (b:List Int):0<=gv kv b:=by
 unfold gv
 cases h1:a0K kv b with
 | none=>simp
 | some v=>have:=(h.all _ ((lookQ_some h.nd).1 h1)).1; simp only [Q6]; omega
theorem KvOk.look {lim:List Int} {kv:KV} (h:KvOk lim kv) (b:List Int):a0K kv b=if 0 < gv kv b then some (gv kv b) else none:=by
 unfold gv
 cases h1:a0K kv b with
 | none=>simp
 | some v=>have:=(h.all _ ((lookQ_some h.nd).1 h1)).1; simp only [Q6]; rw [if_pos (by omega)]
theorem KvOk.raise {lim:List Int} {kv:KV} (h:KvOk lim kv) {b:List Int} {v:Int} (hb:nnL b=true):KvOk lim (c2u lim kv b v):=by
 unfold c2u
 split
 ·rename_i hc
  refine ⟨c5L h.nd,fun p hp=>?_⟩
  rcases c3G.1 hp with rfl | ⟨hp,_⟩
  ·refine ⟨?_,?_,hc.2,hb⟩
   ·have:=h.gv_nonneg b; simp only; omega
   ·simp only [mnM]; split<;>omega
  ·exact h.all p hp
 ·exact h
theorem KvOk.perm {lim:List Int} {a b:KV} (ha:KvOk lim a) (h:a.Perm b):KvOk lim b:=⟨ha.nd.perm h,fun p hp=>ha.all p (h.mem_iff.2 hp)⟩
theorem b0j {kv:KV} {seen:List (List Int)} {p:List Int × Int}:p∈a5M kv seen↔p∈kv/\p.1 ∉ seen:=by
 unfold a5M
 simp only [Q4,Bool.not_eq_true',and_congr_right_iff]
 intro _
 constructor
 ·intro h hm
  have:(seen.any fun k=>decide (k=p.1))=true:=Q7.2 ⟨p.1,hm,by simp⟩
  rw [h] at this; cases this
 ·intro h
  cases hb:seen.any fun k=>decide (k=p.1) with
  | false=>rfl
  | true =>
   obtain ⟨k,hk,he⟩:=Q7.1 hb
   have he:k=p.1:=by simpa using he
   rw [he] at hk
   exact absurd hk h
structure Went (kv:KV) (seen:List (List Int)) (es:KV):Prop where
 keys:es.map (·.1)=seen
 nd:Nd es
 sub:∀ p∈es,p∈kv
theorem Went.nil (kv:KV):Went kv [] []:=⟨rfl,by simp [Nd],by simp⟩
theorem Went.next {kv:KV} {seen:List (List Int)} {es:KV} (h:Went kv seen es) {p:List Int × Int} (hp:p∈a5M kv seen):Went kv (seen++[p.1]) (es++[p]):=by
 obtain ⟨h1,h2⟩:=b0j.1 hp
 refine ⟨by simp [h.keys],?_,fun q hq=>?_⟩
 ·unfold Nd
  rw [List.map_append,h.keys,Q1,List.map_nil,List.nodup_append]
  refine ⟨h.keys▸h.nd,by simp,fun a ha b hb=>?_⟩
  rw [Q8.1 hb]
  exact fun he=>h2 (he▸ha)
 ·rcases List.mem_append.1 hq with hq | hq
  ·exact h.sub q hq
  ·rw [Q8.1 hq]; exact h1
theorem Went.over {kv:KV} (hk:Nd kv) {seen:List (List Int)} {es:KV} (h:Went kv seen es) (hl:a5M kv seen=[]):es.Perm kv:=by
 rw [Q5 (a9i h.nd) (a9i hk)]
 intro p
 refine ⟨h.sub p,fun hp=>?_⟩
 have:¬ p.1 ∉ seen:=fun hn=>by
  have:=b0j.2 ⟨hp,hn⟩
  rw [hl] at this
  cases this
 have:=Classical.not_not.1 this
 rw [<- h.keys] at this
 obtain ⟨q,hq,he⟩:=Q2.1 this
 have h1:=(lookQ_some hk).2 (h.sub q hq)
 have h2:=(lookQ_some hk (k:=p.1) (v:=p.2)).2 hp
 rw [he,h2] at h1
 have:q=p:=Prod.ext he (Option.some.inj h1).symm
 exact this▸hq
theorem Went.len {kv:KV} (hk:Nd kv) {seen:List (List Int)} {es:KV} (h:Went kv seen es):seen.length<=kv.length:=by
 rw [<- h.keys,List.length_map]
 exact List.Nodup.length_le_of_subset (a9i h.nd) h.sub
end Go.Kv
namespace Go.Sx
theorem Sys.loop_mono {Φ:Fns} {S:Sys}:∀ {n m:Nat} {q:Nat} {ρ:PEnv} {r},n<=m->S.loop Φ n q ρ=some r->S.loop Φ m q ρ=some r
 | 0,_,_,_,_,_,h=>by simp [Sys.loop] at h
 | n+1,0,_,_,_,hm,_=>by omega
 | n+1,m+1,q,ρ,r,hm,h=>by
  simp only [Sys.loop,Option.bind_eq_some_iff] at h ⊢
  obtain ⟨t,ht,x,hx,h⟩:=h
  refine ⟨t,ht,x,hx,?_⟩
  cases x with
  | ret r σ=>exact h
  | jump q ρ=>exact Sys.loop_mono (by omega) h
theorem b5I {α β:Type} (f:β->α->β) (a:β) {l:List α} {i:Nat} {x:α} (h:l[i]?=some x):(l.take (i+1)).foldl f a=f ((l.take i).foldl f a) x:=by
 rw [List.take_add_one,h]; simp
theorem a8Z {α:Type} (l:List α):l.take l.length=l:=by simp
theorem a0Q (i:Nat):((i+1:Nat):Int)=(i:Int)+1:=by omega
theorem a1v (n:Nat) (r:List (List PV)):(PV.sl n r).rowsOf n=some r:=by simp [PV.rowsOf]
theorem le0 (i:Nat):leB 0 (i:Int)=true:=by simp [leB]
theorem a1y {i:Nat} (h:i<=1000000000):(leB (-9223372036854775808) ((i:Int)+1)&&leB ((i:Int)+1) 9223372036854775807)=true:=by simp [leB]; omega
theorem a1q {z:Int} (h:-9000000000000000000<=z/\z<=9000000000000000000):(leB (-9223372036854775808) z&&leB z 9223372036854775807)=true:=by simp [leB]; omega
theorem a0W {α:Type} {l:List α} {i:Nat} (h:i < l.length):∃ x,l[i]?=some x:=⟨_,List.getElem?_eq_getElem h⟩
end Go.Sx
