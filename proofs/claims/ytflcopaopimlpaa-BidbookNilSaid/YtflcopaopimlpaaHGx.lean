/- Maps from lists of numbers to numbers: raising values, in any order. -/
import Derived.Test.YtflcopaopimlpaaHTxc
set_option linter.unusedSimpArgs false
set_option linter.unusedVariables false
open List renaming mem_cons → Q0, map_cons → Q1, mem_map → Q2, nodup_cons → Q3, mem_filter → Q4, perm_ext_iff_of_nodup → Q5, any_eq_true → Q7, mem_singleton → Q8
open Option renaming getD_some → Q6
namespace Go.Kv
open Go.Sx
theorem a6e (x:List Int × Int):∀ (kv:KV) (p:List Int × Int),x∈a2s kv p↔x=p\/x∈kv
 | [],p=>by simp [a2s]
 | q::kv,p=>by
  simp only [a2s]
  split
  ·simp
  ·simp only [Q0,a6e x kv p]
   constructor
   ·rintro (h | h | h)
    ·exact .inr (.inl h)
    ·exact .inl h
    ·exact .inr (.inr h)
   ·rintro (h | h | h)
    ·exact .inr (.inl h)
    ·exact .inl h
    ·exact .inr (.inr h)
theorem lookQ_none {kv:KV} {k:List Int}:a0b kv k=none↔∀ p∈kv,p.1≠k:=by
 induction kv with
 | nil=>simp [a0b]
 | cons p kv ih =>
  simp only [a0b]
  split
  ·rename_i h; subst h
   simp
  ·rename_i h
   rw [ih]
   constructor
   ·intro h2 q hq
    rcases Q0.1 hq with rfl | hq
    ·exact fun he=>h he.symm
    ·exact h2 q hq
   ·intro h2 q hq; exact h2 q (by simp [hq])
theorem a9K {b:List Int}:∀ {kv:KV} {p:List Int × Int},a0b kv p.1=none->a0b (a2s kv p) b=if b=p.1 then some p.2 else a0b kv b
 | [],p,_=>by simp [a2s,a0b]
 | q::kv,p,h=>by
  simp only [a0b] at h
  split at h
  ·cases h
  rename_i hne
  simp only [a2s]
  split
  ·simp [a0b]
  ·simp only [a0b]
   rw [a9K h]
   by_cases h1:b=q.1
   ·rw [if_pos h1,if_pos h1,if_neg (by rw [h1]; exact fun he=>hne he.symm)]
   ·rw [if_neg h1,if_neg h1]
theorem a6k {b k:List Int}:∀ {kv:KV},a0b (a1Y kv k) b=if b=k then none else a0b kv b
 | []=>by simp [a1Y,a0b]
 | q::kv=>by
  have ih:=a6k (b:=b) (k:=k) (kv:=kv)
  unfold a1Y at *
  simp only [List.filter_cons,a0b]
  by_cases h:q.1=k
  ·rw [if_neg (by simp [h]),ih]
   by_cases h2:b=k
   ·rw [if_pos h2,if_pos h2]
   ·rw [if_neg h2,if_neg h2,if_neg (by rw [h]; exact h2)]
  ·rw [if_pos (by simp [h])]
   simp only [a0b]
   rw [ih]
   by_cases h2:b=q.1
   ·rw [if_pos h2,if_pos h2,if_neg (by rw [h2]; exact h)]
   ·rw [if_neg h2,if_neg h2]
theorem b4t {kv:KV} {k b:List Int} {v:Int}:a0b (a2y kv k v) b=if b=k then some v else a0b kv b:=by
 unfold a2y
 rw [a9K (by rw [a6k,if_pos rfl])]
 simp only
 split
 ·rfl
 ·rename_i h; rw [a6k,if_neg h]
theorem b6q {kv:KV} {k:List Int} {v:Int} {x:List Int × Int}:x∈a2y kv k v↔x=(k,v)\/(x∈kv/\x.1≠k):=by
 unfold a2y a1Y
 rw [a6e]
 simp
def Nd (kv:KV):Prop:=(kv.map (·.1)).Nodup
theorem b3x:∀ {kv:KV} {p:List Int × Int},Nd kv->(∀ q∈kv,q.1≠p.1)->Nd (a2s kv p)
 | [],p,_,_=>by simp [a2s,Nd]
 | q::kv,p,h,hp=>by
  unfold Nd at *
  simp only [Q1,Q3] at h
  simp only [a2s]
  split
  ·simp only [Q1,Q3]
   refine ⟨?_,h.1,h.2⟩
   intro hm
   rcases Q0.1 hm with hm | hm
   ·exact hp q (by simp) hm.symm
   ·obtain ⟨r,hr,he⟩:=Q2.1 hm
    exact hp r (by simp [hr]) he
  ·simp only [Q1,Q3]
   refine ⟨?_,b3x (p:=p) h.2 (fun r hr=>hp r (by simp [hr]))⟩
   intro hm
   obtain ⟨r,hr,he⟩:=Q2.1 hm
   rcases (a6e r kv p).1 hr with rfl | hr
   ·exact hp q (by simp) he.symm
   ·exact h.1 (Q2.2 ⟨r,hr,he⟩)
theorem b6O {kv:KV} {k:List Int} {v:Int} (h:Nd kv):Nd (a2y kv k v):=by
 unfold a2y
 refine b3x ?_ ?_
 ·exact List.Sublist.nodup (List.Sublist.map _ List.filter_sublist) h
 ·intro q hq
  have:=(Q4.1 hq).2
  simpa using this
theorem lookQ_some {kv:KV} (h:Nd kv) {k:List Int} {v:Int}:a0b kv k=some v↔(k,v)∈kv:=by
 induction kv with
 | nil=>simp [a0b]
 | cons p kv ih =>
  unfold Nd at h
  simp only [Q1,Q3] at h
  simp only [a0b]
  split
  ·rename_i hk; subst hk
   simp only [Option.some.injEq,Q0]
   constructor
   ·rintro rfl; exact .inl rfl
   ·rintro (he | he)
    ·rw [<- he]
    ·exact absurd (Q2.2 ⟨_,he,rfl⟩) h.1
  ·rename_i hk
   rw [ih h.2,Q0]
   constructor
   ·exact .inr
   ·rintro (he | he)
    ·exact absurd (by rw [<- he]) hk
    ·exact he
theorem a4E {kv:KV} (h:Nd kv):kv.Nodup:=List.Pairwise.of_map (·.1) (fun _ _ h he=>h (by rw [he])) h
theorem Nd.perm {a b:KV} (ha:Nd a) (h:a.Perm b):Nd b:=(h.map fun p:List Int × Int=>p.1).nodup_iff.1 ha
theorem b6T {a b:KV} (ha:Nd a) (hb:Nd b) (h:∀ k,a0b a k=a0b b k):a.Perm b:=by
 rw [Q5 (a4E ha) (a4E hb)]
 rintro ⟨k,v⟩
 rw [<- lookQ_some ha,<- lookQ_some hb,h]
theorem a9r {a b:KV} (ha:Nd a) (h:a.Perm b) (k:List Int):a0b a k=a0b b k:=by
 have hb:Nd b:=ha.perm h
 cases h1:a0b a k with
 | none =>
  symm
  rw [lookQ_none] at h1 ⊢
  exact fun p hp=>h1 p (h.mem_iff.2 hp)
 | some v =>
  symm
  rw [lookQ_some ha] at h1
  rw [lookQ_some hb]
  exact h.mem_iff.1 h1
def leL:List Int->List Int->Bool
 | [],[]=>true
 | x::l,y::m=>decide (x<=y)&&leL l m
 | _,_=>false
def nnL (a:List Int):Bool:=a.all fun x=>decide (0<=x)
def gv (kv:KV) (b:List Int):Int:=(a0b kv b).getD 0
def mnM (v:Int):Int:=if v<=1000000 then v else 1000000
def b5h (lim:List Int) (kv:KV) (b:List Int) (v:Int):KV:=if gv kv b < mnM v/\leL b lim=true then a2y kv b (mnM v) else kv
structure KvOk (lim:List Int) (kv:KV):Prop where
 nd:Nd kv
 all:∀ p∈kv,0 < p.2/\p.2<=1000000/\leL p.1 lim=true/\nnL p.1=true
theorem KvOk.nil (lim:List Int):KvOk lim []:=⟨by simp [Nd],by simp⟩
theorem KvOk.gv_nonneg {lim:List Int} {kv:KV} (h:KvOk lim kv) (b:List Int):0<=gv kv b:=by
 unfold gv
 cases h1:a0b kv b with
 | none=>simp
 | some v=>have:=(h.all _ ((lookQ_some h.nd).1 h1)).1; simp only [Q6]; omega
theorem KvOk.look {lim:List Int} {kv:KV} (h:KvOk lim kv) (b:List Int):a0b kv b=if 0 < gv kv b then some (gv kv b) else none:=by
 unfold gv
 cases h1:a0b kv b with
 | none=>simp
 | some v=>have:=(h.all _ ((lookQ_some h.nd).1 h1)).1; simp only [Q6]; rw [if_pos (by omega)]
theorem KvOk.raise {lim:List Int} {kv:KV} (h:KvOk lim kv) {b:List Int} {v:Int} (hb:nnL b=true):KvOk lim (b5h lim kv b v):=by
 unfold b5h
 split
 ·rename_i hc
  refine ⟨b6O h.nd,fun p hp=>?_⟩
  rcases b6q.1 hp with rfl | ⟨hp,_⟩
  ·refine ⟨?_,?_,hc.2,hb⟩
   ·have:=h.gv_nonneg b; simp only; omega
   ·simp only [mnM]; split<;>omega
  ·exact h.all p hp
 ·exact h
theorem KvOk.perm {lim:List Int} {a b:KV} (ha:KvOk lim a) (h:a.Perm b):KvOk lim b:=⟨ha.nd.perm h,fun p hp=>ha.all p (h.mem_iff.2 hp)⟩
theorem a4M {kv:KV} {seen:List (List Int)} {p:List Int × Int}:p∈a2G kv seen↔p∈kv/\p.1 ∉ seen:=by
 unfold a2G
 simp only [Q4,Bool.not_eq_true',and_congr_right_iff]
 intro _
 constructor
 ·intro h hm
  have:(seen.any fun k=>decide (k=p.1))=true:=Q7.2 ⟨p.1,hm,by simp⟩
  rw [h] at this; cases this
 ·intro h
  cases hb:seen.any fun k=>decide (k=p.1) with
  | false=>rfl
  | true =>
   obtain ⟨k,hk,he⟩:=Q7.1 hb
   have he:k=p.1:=by simpa using he
   rw [he] at hk
   exact absurd hk h
structure Went (kv:KV) (seen:List (List Int)) (es:KV):Prop where
 keys:es.map (·.1)=seen
 nd:Nd es
 sub:∀ p∈es,p∈kv
theorem Went.nil (kv:KV):Went kv [] []:=⟨rfl,by simp [Nd],by simp⟩
theorem Went.next {kv:KV} {seen:List (List Int)} {es:KV} (h:Went kv seen es) {p:List Int × Int} (hp:p∈a2G kv seen):Went kv (seen++[p.1]) (es++[p]):=by
 obtain ⟨h1,h2⟩:=a4M.1 hp
 refine ⟨by simp [h.keys],?_,fun q hq=>?_⟩
 ·unfold Nd
  rw [List.map_append,h.keys,Q1,List.map_nil,List.nodup_append]
  refine ⟨h.keys▸h.nd,by simp,fun a ha b hb=>?_⟩
  rw [Q8.1 hb]
  exact fun he=>h2 (he▸ha)
 ·rcases List.mem_append.1 hq with hq | hq
  ·exact h.sub q hq
  ·rw [Q8.1 hq]; exact h1
theorem Went.over {kv:KV} (hk:Nd kv) {seen:List (List Int)} {es:KV} (h:Went kv seen es) (hl:a2G kv seen=[]):es.Perm kv:=by
 rw [Q5 (a4E h.nd) (a4E hk)]
 intro p
 refine ⟨h.sub p,fun hp=>?_⟩
 have:¬ p.1 ∉ seen:=fun hn=>by
  have:=a4M.2 ⟨hp,hn⟩
  rw [hl] at this
  cases this
 have:=Classical.not_not.1 this
 rw [<- h.keys] at this
 obtain ⟨q,hq,he⟩:=Q2.1 this
 have h1:=(lookQ_some hk).2 (h.sub q hq)
 have h2:=(lookQ_some hk (k:=p.1) (v:=p.2)).2 hp
 rw [he,h2] at h1
 have:q=p:=Prod.ext he (Option.some.inj h1).symm
 exact this▸hq
theorem Went.len {kv:KV} (hk:Nd kv) {seen:List (List Int)} {es:KV} (h:Went kv seen es):seen.length<=kv.length:=by
 rw [<- h.keys,List.length_map]
 exact List.Nodup.length_le_of_subset (a4E h.nd) h.sub
end Go.Kv
