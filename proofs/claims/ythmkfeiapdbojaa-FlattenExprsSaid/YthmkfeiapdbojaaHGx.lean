/- Maps from lists of numbers to numbers: raising values, in any order. -/
import Derived.Test.YthmkfeiapdbojaaHTxc
import Derived.Test.YthmkfeiapdbojaaHTxe
import Derived.Test.YthmkfeiapdbojaaHBt
set_option linter.unusedSimpArgs false
set_option linter.unusedVariables false
open Bool renaming and_eq_true → Q0
open List renaming map_cons → Q1, mem_cons → Q2, zipWith_cons_cons → Q3, mem_map → Q4, nodup_cons → Q6, all_cons → Q8, zipWith → Qa, mem_singleton → Qb, mem_append → Qd, replicate → Qe, drop_zero → Qf, mem_filter → Qh, perm_ext_iff_of_nodup → Qj, any_eq_true → Qn, getElem?_eq_getElem → Qp, drop_eq_getElem?_toList_append → Qq, append_nil → Qr
open Int renaming le_refl → Q5, mul_pos → Q9, le_antisymm → Qm
open Option renaming bind_some → Q7, map_some → Qg, getD_some → Qk
namespace Go.Kv
open Go.Sx
theorem b6X (x:List Int × Int):∀ (kv:KV) (p:List Int × Int),x∈a7A kv p↔x=p\/x∈kv
 | [],p=>by simp [a7A]
 | q::kv,p=>by
  simp only [a7A]
  split
  ·simp
  ·simp only [Q2,b6X x kv p]
   constructor
   ·rintro (h | h | h)
    ·exact .inr (.inl h)
    ·exact .inl h
    ·exact .inr (.inr h)
   ·rintro (h | h | h)
    ·exact .inr (.inl h)
    ·exact .inl h
    ·exact .inr (.inr h)
theorem a8Q {kv:KV} {k:List Int}:a0F kv k=none↔∀ p∈kv,p.1≠k:=by
 induction kv with
 | nil=>simp [a0F]
 | cons p kv ih =>
  simp only [a0F]
  split
  ·rename_i h; subst h
   simp
  ·rename_i h
   rw [ih]
   constructor
   ·intro h2 q hq
    rcases Q2.1 hq with rfl | hq
    ·exact fun he=>h he.symm
    ·exact h2 q hq
   ·intro h2 q hq; exact h2 q (by simp [hq])
theorem b8n {b:List Int}:∀ {kv:KV} {p:List Int × Int},a0F kv p.1=none->a0F (a7A kv p) b=if b=p.1 then some p.2 else a0F kv b
 | [],p,_=>by simp [a7A,a0F]
 | q::kv,p,h=>by
  simp only [a0F] at h
  split at h
  ·cases h
  rename_i hne
  simp only [a7A]
  split
  ·simp [a0F]
  ·simp only [a0F]
   rw [b8n h]
   by_cases h1:b=q.1
   ·rw [if_pos h1,if_pos h1,if_neg (by rw [h1]; exact fun he=>hne he.symm)]
   ·rw [if_neg h1,if_neg h1]
theorem b3a {b k:List Int}:∀ {kv:KV},a0F (a5h kv k) b=if b=k then none else a0F kv b
 | []=>by simp [a5h,a0F]
 | q::kv=>by
  have ih:=b3a (b:=b) (k:=k) (kv:=kv)
  unfold a5h at *
  simp only [List.filter_cons,a0F]
  by_cases h:q.1=k
  ·rw [if_neg (by simp [h]),ih]
   by_cases h2:b=k
   ·rw [if_pos h2,if_pos h2]
   ·rw [if_neg h2,if_neg h2,if_neg (by rw [h]; exact h2)]
  ·rw [if_pos (by simp [h])]
   simp only [a0F]
   rw [ih]
   by_cases h2:b=q.1
   ·rw [if_pos h2,if_pos h2,if_neg (by rw [h2]; exact h)]
   ·rw [if_neg h2,if_neg h2]
theorem c4e {kv:KV} {k b:List Int} {v:Int}:a0F (a6z kv k v) b=if b=k then some v else a0F kv b:=by
 unfold a6z
 rw [b8n (by rw [b3a,if_pos rfl])]
 simp only
 split
 ·rfl
 ·rename_i h; rw [b3a,if_neg h]
theorem b7a {kv:KV} {k:List Int} {v:Int} {x:List Int × Int}:x∈a6z kv k v↔x=(k,v)\/(x∈kv/\x.1≠k):=by
 unfold a6z a5h
 rw [b6X]
 simp
def Nd (kv:KV):Prop:=(kv.map (·.1)).Nodup
theorem c3d:∀ {kv:KV} {p:List Int × Int},Nd kv->(∀ q∈kv,q.1≠p.1)->Nd (a7A kv p)
 | [],p,_,_=>by simp [a7A,Nd]
 | q::kv,p,h,hp=>by
  unfold Nd at *
  simp only [Q1,Q6] at h
  simp only [a7A]
  split
  ·simp only [Q1,Q6]
   refine ⟨?_,h.1,h.2⟩
   intro hm
   rcases Q2.1 hm with hm | hm
   ·exact hp q (by simp) hm.symm
   ·obtain ⟨r,hr,he⟩:=Q4.1 hm
    exact hp r (by simp [hr]) he
  ·simp only [Q1,Q6]
   refine ⟨?_,c3d (p:=p) h.2 (fun r hr=>hp r (by simp [hr]))⟩
   intro hm
   obtain ⟨r,hr,he⟩:=Q4.1 hm
   rcases (b6X r kv p).1 hr with rfl | hr
   ·exact hp q (by simp) he.symm
   ·exact h.1 (Q4.2 ⟨r,hr,he⟩)
theorem c9D {kv:KV} {k:List Int} {v:Int} (h:Nd kv):Nd (a6z kv k v):=by
 unfold a6z
 refine c3d ?_ ?_
 ·exact List.Sublist.nodup (List.Sublist.map _ List.filter_sublist) h
 ·intro q hq
  have:=(Qh.1 hq).2
  simpa using this
theorem lookQ_some {kv:KV} (h:Nd kv) {k:List Int} {v:Int}:a0F kv k=some v↔(k,v)∈kv:=by
 induction kv with
 | nil=>simp [a0F]
 | cons p kv ih =>
  unfold Nd at h
  simp only [Q1,Q6] at h
  simp only [a0F]
  split
  ·rename_i hk; subst hk
   simp only [Option.some.injEq,Q2]
   constructor
   ·rintro rfl; exact .inl rfl
   ·rintro (he | he)
    ·rw [<- he]
    ·exact absurd (Q4.2 ⟨_,he,rfl⟩) h.1
  ·rename_i hk
   rw [ih h.2,Q2]
   constructor
   ·exact .inr
   ·rintro (he | he)
    ·exact absurd (by rw [<- he]) hk
    ·exact he
theorem a9H {kv:KV} (h:Nd kv):kv.Nodup:=List.Pairwise.of_map (·.1) (fun _ _ h he=>h (by rw [he])) h
theorem Nd.perm {a b:KV} (ha:Nd a) (h:a.Perm b):Nd b:=(h.map fun p:List Int × Int=>p.1).nodup_iff.1 ha
theorem c9f {a b:KV} (ha:Nd a) (hb:Nd b) (h:∀ k,a0F a k=a0F b k):a.Perm b:=by
 rw [Qj (a9H ha) (a9H hb)]
 rintro ⟨k,v⟩
 rw [<- lookQ_some ha,<- lookQ_some hb,h]
theorem b2J {a b:KV} (ha:Nd a) (h:a.Perm b) (k:List Int):a0F a k=a0F b k:=by
 have hb:Nd b:=ha.perm h
 cases h1:a0F a k with
 | none =>
  symm
  rw [a8Q] at h1 ⊢
  exact fun p hp=>h1 p (h.mem_iff.2 hp)
 | some v =>
  symm
  rw [lookQ_some ha] at h1
  rw [lookQ_some hb]
  exact h.mem_iff.1 h1
def leL:List Int->List Int->Bool
 | [],[]=>true
 | x::l,y::m=>decide (x<=y)&&leL l m
 | _,_=>false
def a2X (a b:List Int):List Int:=Qa (·+·) a b
def a2o (a b:List Int):List Int:=Qa (fun x y=>if x < y then y else x) a b
def nnL (a:List Int):Bool:=a.all fun x=>decide (0<=x)
def gv (kv:KV) (b:List Int):Int:=(a0F kv b).getD 0
def mnM (v:Int):Int:=if v<=1000000 then v else 1000000
def a2I (lim:List Int) (kv:KV) (b:List Int) (v:Int):KV:=if gv kv b < mnM v/\leL b lim=true then a6z kv b (mnM v) else kv
def raises (lim:List Int) (kv:KV) (L:KV):KV:=L.foldl (fun kv p=>a2I lim kv p.1 p.2) kv
theorem b2S (lim:List Int) (kv:KV):raises lim kv []=kv:=rfl
theorem a7Z (lim:List Int) (kv:KV) (p:List Int × Int) (L:KV):raises lim kv (p::L)=raises lim (a2I lim kv p.1 p.2) L:=rfl
theorem c0l (lim:List Int) (kv:KV) (L L':KV):raises lim kv (L++L')=raises lim (raises lim kv L) L':=List.foldl_append
theorem a7Y (lim:List Int) (kv:KV) (L:KV) (p:List Int × Int):raises lim kv (L++[p])=a2I lim (raises lim kv L) p.1 p.2:=by rw [c0l]; rfl
structure KvOk (lim:List Int) (kv:KV):Prop where
 nd:Nd kv
 all:∀ p∈kv,0 < p.2/\p.2<=1000000/\leL p.1 lim=true/\nnL p.1=true
theorem KvOk.nil (lim:List Int):KvOk lim []:=⟨by simp [Nd],by simp⟩
theorem KvOk.gv_nonneg {lim:List Int} {kv:KV} (h:KvOk lim kv) (b:List Int):0<=gv kv b:=by
 unfold gv
 cases h1:a0F kv b with
 | none=>simp
 | some v=>have:=(h.all _ ((lookQ_some h.nd).1 h1)).1; simp only [Qk]; omega
theorem KvOk.look {lim:List Int} {kv:KV} (h:KvOk lim kv) (b:List Int):a0F kv b=if 0 < gv kv b then some (gv kv b) else none:=by
 unfold gv
 cases h1:a0F kv b with
 | none=>simp
 | some v=>have:=(h.all _ ((lookQ_some h.nd).1 h1)).1; simp only [Qk]; rw [if_pos (by omega)]
theorem KvOk.raise {lim:List Int} {kv:KV} (h:KvOk lim kv) {b:List Int} {v:Int} (hb:nnL b=true):KvOk lim (a2I lim kv b v):=by
 unfold a2I
 split
 ·rename_i hc
  refine ⟨c9D h.nd,fun p hp=>?_⟩
  rcases b7a.1 hp with rfl | ⟨hp,_⟩
  ·refine ⟨?_,?_,hc.2,hb⟩
   ·have:=h.gv_nonneg b; simp only; omega
   ·simp only [mnM]; split<;>omega
  ·exact h.all p hp
 ·exact h
theorem KvOk.raises {lim:List Int}:∀ {L kv:KV},KvOk lim kv->(∀ p∈L,nnL p.1=true)->KvOk lim (raises lim kv L)
 | [],_,h,_=>h
 | p::L,kv,h,hL=>by rw [a7Z]; exact KvOk.raises (h.raise (hL p (by simp))) (fun q hq=>hL q (by simp [hq]))
theorem c9g {kv:KV} {k b:List Int} {v:Int}:gv (a6z kv k v) b=if b=k then v else gv kv b:=by
 unfold gv; rw [c4e]; split<;>rfl
theorem c8a {lim:List Int} {kv:KV} {k b:List Int} {v c:Int}:gv (a2I lim kv k v) b<=c↔gv kv b<=c/\(k=b->leL b lim=true->mnM v<=c):=by
 unfold a2I
 split
 ·rename_i h
  rw [c9g]
  split
  ·rename_i hb; subst hb
   exact ⟨fun h1=>⟨by omega,fun _ _=>h1⟩,fun h1=>h1.2 rfl h.2⟩
  ·rename_i hb
   exact ⟨fun h1=>⟨h1,fun he=>absurd he.symm hb⟩,fun h1=>h1.1⟩
 ·rename_i h
  refine ⟨fun h1=>⟨h1,fun he hl=>?_⟩,fun h1=>h1.1⟩
  subst he
  have:¬ gv kv k < mnM v:=fun h2=>h ⟨h2,hl⟩
  omega
theorem a6Z {lim b:List Int} {c:Int}:∀ {L kv:KV},gv (raises lim kv L) b<=c↔gv kv b<=c/\∀ p∈L,p.1=b->leL b lim=true->mnM p.2<=c
 | [],kv=>by simp [b2S]
 | p::L,kv=>by
  rw [a7Z,a6Z,c8a]
  constructor
  ·rintro ⟨⟨h1,h2⟩,h3⟩
   refine ⟨h1,fun q hq=>?_⟩
   rcases Q2.1 hq with rfl | hq
   ·exact h2
   ·exact h3 q hq
  ·rintro ⟨h1,h2⟩
   exact ⟨⟨h1,h2 p (by simp)⟩,fun q hq=>h2 q (by simp [hq])⟩
theorem a1O {a b:Int} (h:∀ c,a<=c↔b<=c):a=b:=Qm ((h b).2 (Q5 _)) ((h a).1 (Q5 _))
theorem c4m {lim lim':List Int} {a b:KV} (ha:KvOk lim a) (hb:KvOk lim' b) (h:∀ k,gv a k=gv b k):a.Perm b :=
 c9f ha.nd hb.nd fun k=>by rw [ha.look,hb.look,h]
theorem c9F {lim:List Int} {a b:KV} (ha:KvOk lim a) (h:a.Perm b) (k:List Int):gv a k=gv b k:=by unfold gv; rw [b2J ha.nd h]
theorem KvOk.perm {lim:List Int} {a b:KV} (ha:KvOk lim a) (h:a.Perm b):KvOk lim b:=⟨ha.nd.perm h,fun p hp=>ha.all p (h.mem_iff.2 hp)⟩
theorem a7X {lim:List Int} {a b L L':KV} (ha:KvOk lim a) (h:a.Perm b) (hL:L.Perm L') (hn:∀ p∈L,nnL p.1=true):(raises lim a L).Perm (raises lim b L'):=by
 refine c4m (ha.raises hn) ((ha.perm h).raises fun p hp=>hn p (hL.mem_iff.2 hp)) fun k=>a1O fun c=>?_
 rw [a6Z,a6Z,c9F ha h]
 exact and_congr_right fun _=>⟨fun h1 p hp=>h1 p (hL.mem_iff.2 hp),fun h1 p hp=>h1 p (hL.mem_iff.1 hp)⟩
theorem a4Q {kv:KV} {seen:List (List Int)} {p:List Int × Int}:p∈a5U kv seen↔p∈kv/\p.1 ∉ seen:=by
 unfold a5U
 simp only [Qh,Bool.not_eq_true',and_congr_right_iff]
 intro _
 constructor
 ·intro h hm
  have:(seen.any fun k=>decide (k=p.1))=true:=Qn.2 ⟨p.1,hm,by simp⟩
  rw [h] at this; cases this
 ·intro h
  cases hb:seen.any fun k=>decide (k=p.1) with
  | false=>rfl
  | true =>
   obtain ⟨k,hk,he⟩:=Qn.1 hb
   have he:k=p.1:=by simpa using he
   rw [he] at hk
   exact absurd hk h
structure Went (kv:KV) (seen:List (List Int)) (es:KV):Prop where
 keys:es.map (·.1)=seen
 nd:Nd es
 sub:∀ p∈es,p∈kv
theorem Went.nil (kv:KV):Went kv [] []:=⟨rfl,by simp [Nd],by simp⟩
theorem Went.next {kv:KV} {seen:List (List Int)} {es:KV} (h:Went kv seen es) {p:List Int × Int} (hp:p∈a5U kv seen):Went kv (seen++[p.1]) (es++[p]):=by
 obtain ⟨h1,h2⟩:=a4Q.1 hp
 refine ⟨by simp [h.keys],?_,fun q hq=>?_⟩
 ·unfold Nd
  rw [List.map_append,h.keys,Q1,List.map_nil,List.nodup_append]
  refine ⟨h.keys▸h.nd,by simp,fun a ha b hb=>?_⟩
  rw [Qb.1 hb]
  exact fun he=>h2 (he▸ha)
 ·rcases Qd.1 hq with hq | hq
  ·exact h.sub q hq
  ·rw [Qb.1 hq]; exact h1
theorem Went.over {kv:KV} (hk:Nd kv) {seen:List (List Int)} {es:KV} (h:Went kv seen es) (hl:a5U kv seen=[]):es.Perm kv:=by
 rw [Qj (a9H h.nd) (a9H hk)]
 intro p
 refine ⟨h.sub p,fun hp=>?_⟩
 have:¬ p.1 ∉ seen:=fun hn=>by
  have:=a4Q.2 ⟨hp,hn⟩
  rw [hl] at this
  cases this
 have:=Classical.not_not.1 this
 rw [<- h.keys] at this
 obtain ⟨q,hq,he⟩:=Q4.1 this
 have h1:=(lookQ_some hk).2 (h.sub q hq)
 have h2:=(lookQ_some hk (k:=p.1) (v:=p.2)).2 hp
 rw [he,h2] at h1
 have:q=p:=Prod.ext he (Option.some.inj h1).symm
 exact this▸hq
theorem Went.len {kv:KV} (hk:Nd kv) {seen:List (List Int)} {es:KV} (h:Went kv seen es):seen.length<=kv.length:=by
 rw [<- h.keys,List.length_map]
 exact List.Nodup.length_le_of_subset (a9H h.nd) h.sub
end Go.Kv
namespace Go.Sx
theorem a3R {Φ:Fns} {S:Sys} {q N:Nat} (st:Nat->PEnv) (step:∀ i,i < N->∀ fuel,S.loop Φ (fuel+1) q (st i)=S.loop Φ fuel q (st (i+1))) :
  ∀ d i,i+d=N->∀ fuel,S.loop Φ (fuel+d) q (st i)=S.loop Φ fuel q (st N):=by
 intro d
 induction d with
 | zero=>intro i hi fuel; rw [Nat.add_zero] at hi; subst hi; rfl
 | succ d ih=>intro i hi fuel; rw [show fuel+(d+1)=(fuel+d)+1 from rfl,step i (by omega)]; exact ih (i+1) (by omega) fuel
theorem d5C {Φ:Fns} {S:Sys} {q N:Nat} (st:Nat->PEnv) (step:∀ i,i < N->∀ fuel,S.loop Φ (fuel+1) q (st i)=S.loop Φ fuel q (st (i+1))) (fuel:Nat) (h:N<=fuel) :
  S.loop Φ fuel q (st 0)=S.loop Φ (fuel-N) q (st N):=by
 have:=a3R st step N 0 (by omega) (fuel-N)
 rwa [show fuel-N+N=fuel by omega] at this
theorem Sys.loop_mono {Φ:Fns} {S:Sys}:∀ {n m:Nat} {q:Nat} {ρ:PEnv} {r},n<=m->S.loop Φ n q ρ=some r->S.loop Φ m q ρ=some r
 | 0,_,_,_,_,_,h=>by simp [Sys.loop] at h
 | n+1,0,_,_,_,hm,_=>by omega
 | n+1,m+1,q,ρ,r,hm,h=>by
  simp only [Sys.loop,Option.bind_eq_some_iff] at h ⊢
  obtain ⟨t,ht,x,hx,h⟩:=h
  refine ⟨t,ht,x,hx,?_⟩
  cases x with
  | ret r σ=>exact h
  | jump q ρ=>exact Sys.loop_mono (by omega) h
theorem d5v {α β:Type} (f:β->α->β) (a:β) {l:List α} {i:Nat} {x:α} (h:l[i]?=some x):(l.take (i+1)).foldl f a=f ((l.take i).foldl f a) x:=by
 rw [List.take_add_one,h]; simp
theorem a0v (i:Nat):((i+1:Nat):Int)=(i:Int)+1:=by omega
theorem d6I (n:Nat) (r:List (List PV)):(PV.sl n r).rowsOf n=some r:=by simp [PV.rowsOf]
theorem d6O:(1:Nat)<=1000000:=by decide
theorem le0 (i:Nat):leB 0 (i:Int)=true:=by simp [leB]
theorem a2h {i:Nat} (h:i<=1000000000):(leB (-9223372036854775808) ((i:Int)+1)&&leB ((i:Int)+1) 9223372036854775807)=true:=by simp [leB]; omega
theorem a0u {z:Int} (h:-9000000000000000000<=z/\z<=9000000000000000000):(leB (-9223372036854775808) z&&leB z 9223372036854775807)=true:=by simp [leB]; omega
theorem a3n {α:Type} {l:List α} {i:Nat} (h:i < l.length):∃ x,l[i]?=some x:=⟨_,Qp h⟩
end Go.Sx
namespace Go.Sx
def iPV (t:List Int):List PV:=t.map (PV.int .i64)
theorem a9f (t:List Int):(iPV t).length=t.length:=by simp [iPV]
theorem a7n {t:List Int} {i:Nat} {x:Int} (h:t[i]?=some x):a0f 1 ((iPV t).drop i)=some [.int .i64 x]:=by
 have hl:=(List.getElem?_eq_some_iff.1 h).1
 unfold a0f iPV
 rw [if_pos (by simp; omega),Qq,List.getElem?_map,h]
 rfl
theorem b5Q {t:List Int} {i:Nat} {x:Int} (h:i < t.length):a1A (iPV t) i [.int .i64 x]=iPV (t.set i x):=by
 unfold a1A iPV
 rw [List.map_set,List.set_eq_take_append_cons_drop]
 simp [h]
theorem b5C (n:Nat) (z:Int):(Qe n [PV.int .i64 z]).flatten=iPV (Qe n z):=by
 induction n with
 | zero=>rfl
 | succ n ih=>rw [List.replicate_succ,List.flatten_cons,ih]; rfl
theorem b6U (k:Nat):∀ t:List Int,PV.lows k (iPV t)=true
 | []=>rfl
 | x::t=>by have:=b6U k t; simp only [iPV,Q1,PV.lows,PV.low,Bool.true_and] at *; exact this
theorem c3V (k:Nat) (look:Nat->Option MO):∀ t:List Int,PV.frzs k look (iPV t)=some (iPV t)
 | []=>rfl
 | x::t=>by
  have:=c3V k look t
  simp only [iPV,Q1,PV.frzs,PV.frz,Q7] at *
  rw [this]; rfl
def a0P (t:List Int):List (List PV):=t.map fun x=>[.int .i64 x]
theorem c1F:∀ t:List Int,b3F 1 t.length (iPV t)=some (a0P t)
 | []=>rfl
 | x::t=>by
  have:=c1F t
  simp only [iPV,a0P,Q1,List.length_cons,b3F] at *
  rw [if_pos ⟨by omega,by simp [PV.one]⟩]
  simp only [List.drop_succ_cons,Qf,this,Qg,List.take_succ_cons,List.take_zero]
theorem b0P {h i n c sz:Nat} (hi:i < n) (off:Nat):a3N (i:Int) sz off (.msl h 0 n c sz)=some (.obj h (i*sz+off)):=by
 simp only [a3N]
 rw [if_pos ⟨by omega,by omega,trivial⟩]
 simp
theorem a3p {h i n c:Nat} (hi:i < n):a3N (i:Int) 1 0 (.msl h 0 n c 1)=some (.obj h i):=by
 rw [b0P hi]; simp
theorem c2Z {k h:Nat} {look:Nat->Option MO} {t:List Int} {T:Nat} (hk:k<=h) (hl:look h=some (.cells (iPV t) T)):PV.frz k look (.msl h 0 t.length t.length 1)=some (.sl 1 (a0P t)):=by
 simp only [PV.frz]
 rw [if_neg (by omega),hl]
 simp only [Q7,MO.list,Nat.le_refl,if_true,Qf,c1F,Qg]
theorem b9O {ρ:PEnv} {d h:Nat} {t:List Int} {T:Nat} (hm:ρ.m[h]?=some (.cells (iPV t) T)):a5V ρ (d+1) h=some (.cells (iPV t) T):=by
 simp only [a5V,hm,Q7,c3V,Qg]
theorem b8x {Φ:Fns} {G:Rg} {ys:List (List PV)} (st:Nat->PEnv) (step:∀ (i:Nat) (y:List PV),ys[i]?=some y->∃ r,a2O G.sh y=some r/\G.round.ev Φ ((st i).push r)=some (.jump 0 (st (i+1)))) :
  a3o Φ G ys (st 0)=some (st ys.length):=by
 have key:∀ (d i:Nat),i+d=ys.length->a3o Φ G (ys.drop i) (st i)=some (st ys.length):=by
  intro d
  induction d with
  | zero=>intro i hi; rw [List.drop_eq_nil_of_le (by omega)]; simp only [a3o]; rw [show i=ys.length by omega]
  | succ d ih =>
   intro i hi
   have hy:ys[i]?=some ys[i]:=Qp (by omega)
   obtain ⟨r,h1,h2⟩:=step i _ hy
   rw [Qq,hy]
   simp only [Option.toList_some,List.singleton_append,a3o,h1,h2,Q7]
   exact ih (i+1) (by omega)
 have:=key ys.length 0 (by omega)
 rwa [Qf] at this
section
variable {Φ:Fns} {ρ:PEnv} {R:Res->Prop} {k:PT}
theorem c9k {cs:List SV} {T:Nat} {l:List PV} (h:SV.pvs ρ noOwn cs=some l) (hk:k.wp Φ { ρ with v:=ρ.v++[.ref ρ.m.length 0],m:=ρ.m++[.cells l T] } R):(PT.newM cs T k).wp Φ ρ R:=⟨l,h,hk⟩
theorem d0E {n:IE} {zero:List SV} {T size bytes:Nat} {z:List PV} {N:Nat} (h:SV.pvs ρ noOwn zero=some z) (hn:n.pe ρ=(N:Int)) (hN:N<=1000000) (hb:bytes<=100000000)
  (hk:k.wp Φ { ρ with v:=ρ.v++[.msl ρ.m.length 0 N N size],m:=ρ.m++[.cells (Qe N z).flatten T] } R):(PT.mkM n zero T size bytes k).wp Φ ρ R:=by
 refine ⟨z,h,?_⟩
 rw [if_pos ⟨by omega,by omega,hb⟩,hn]
 exact hk
theorem b9v {a:SV} {cs:List SV} {h off T:Nat} {l new:List PV} (h1:a0g ρ a=some (.obj h off)) (h2:ρ.m[h]?=some (.cells l T)) (h3:SV.pvs ρ noOwn cs=some new) (h4:off+new.length<=l.length)
  (hk:k.wp Φ { ρ with m:=ρ.m.set h (.cells (a1A l off new) T) } R):(PT.storeM a cs k).wp Φ ρ R:=by
 simp only [PT.wp,h1,h2]
 exact ⟨new,h3,by rw [if_pos h4]; exact hk⟩
end
end Go.Sx
namespace Go.Kv
open Go.Sx
def a1f (kv:KV) (B:List Int):Int:=kv.foldl (fun m p=>if leL p.1 B=true then mxI m p.2 else m) 0
theorem c1w {B:List Int} {c:Int}:∀ (kv:KV) (m:Int),kv.foldl (fun m p=>if leL p.1 B=true then mxI m p.2 else m) m<=c↔m<=c/\∀ p∈kv,leL p.1 B=true->p.2<=c
 | [],m=>by simp
 | p::kv,m=>by
  rw [List.foldl_cons,c1w kv]
  simp only [Q2,forall_eq_or_imp]
  split
  ·rename_i hp
   unfold mxI
   constructor
   ·rintro ⟨h1,h2⟩
    split at h1
    ·exact ⟨by omega,fun _=>h1,h2⟩
    ·exact ⟨h1,fun _=>by omega,h2⟩
   ·rintro ⟨h1,h2,h3⟩
    have:=h2 hp
    exact ⟨by split<;>omega,h3⟩
  ·rename_i hp
   exact ⟨fun ⟨h1,h2⟩=>⟨h1,fun h=>absurd h hp,h2⟩,fun ⟨h1,_,h3⟩=>⟨h1,h3⟩⟩
theorem a6g {kv:KV} {B:List Int} {c:Int}:a1f kv B<=c↔0<=c/\∀ p∈kv,leL p.1 B=true->p.2<=c:=c1w kv 0
theorem a1y (kv:KV) (B:List Int):0<=a1f kv B:=((a6g (c:=a1f kv B)).1 (Q5 _)).1
theorem b5m {lim:List Int} {kv:KV} (h:KvOk lim kv) {B:List Int} {c:Int}:a1f kv B<=c↔0<=c/\∀ k,leL k B=true->gv kv k<=c:=by
 rw [a6g]
 refine and_congr_right fun h0=>⟨fun h1 k hk=>?_,fun h1 p hp hl=>?_⟩
 ·unfold gv
  cases hl:a0F kv k with
  | none=>simpa using h0
  | some v=>exact h1 (k,v) ((lookQ_some h.nd).1 hl) hk
 ·have:=h1 p.1 hl
  unfold gv at this
  rw [(lookQ_some h.nd (k:=p.1) (v:=p.2)).2 hp] at this
  exact this
theorem a2C:∀ {a b c:List Int},leL a b=true->leL b c=true->leL a c=true
 | [],[],[],_,_=>rfl
 | x::a,y::b,z::c,h,k=>by
  simp only [leL,Q0,decide_eq_true_eq] at *
  exact ⟨by omega,a2C h.2 k.2⟩
 | [],[],_::_,_,k=>by simp [leL] at k
 | [],_::_,_,h,_=>by simp [leL] at h
 | _::_,[],_,h,_=>by simp [leL] at h
 | _::_,_::_,[],_,k=>by simp [leL] at k
theorem a9A:∀ a:List Int,leL a a=true
 | []=>rfl
 | x::a=>by simp [leL,a9A a]
theorem a5J {lim:List Int} {kv L:KV} (h:KvOk lim kv) (hn:∀ p∈L,nnL p.1=true) {B:List Int} (hB:leL B lim=true) {c:Int} :
  a1f (raises lim kv L) B<=c↔a1f kv B<=c/\∀ p∈L,leL p.1 B=true->mnM p.2<=c:=by
 rw [b5m (h.raises hn),b5m h]
 constructor
 ·rintro ⟨h0,h1⟩
  refine ⟨⟨h0,fun k hk=>(a6Z.1 (h1 k hk)).1⟩,fun p hp hl=>(a6Z.1 (h1 p.1 hl)).2 p hp rfl (a2C hl hB)⟩
 ·rintro ⟨⟨h0,h1⟩,h2⟩
  refine ⟨h0,fun k hk=>a6Z.2 ⟨h1 k hk,fun p hp he _=>h2 p hp (by rw [he]; exact hk)⟩⟩
end Go.Kv
namespace Go.Kv
open Go.Sx
theorem b4s (kv:KV) (B:List Int):a1f kv B=0\/∃ p∈kv,leL p.1 B=true/\p.2=a1f kv B:=by
 rcases Int.lt_or_le 0 (a1f kv B) with h | h
 ·refine .inr (Classical.byContradiction fun hn=>?_)
  have:a1f kv B<=a1f kv B-1:=a6g.2 ⟨by omega,fun p hp hl=>by
   have h1:=(a6g (c:=a1f kv B)).1 (Q5 _) |>.2 p hp hl
   have h2:p.2≠a1f kv B:=fun he=>hn ⟨p,hp,hl,he⟩
   omega⟩
  omega
 ·exact .inl (Qm h (a1y kv B))
theorem a9L {kv:KV} {B:List Int} {p:List Int × Int} (hp:p∈kv) (hl:leL p.1 B=true):p.2<=a1f kv B:=((a6g (c:=a1f kv B)).1 (Q5 _)).2 p hp hl
theorem b6F {kv:KV} {A B:List Int} (h:leL A B=true):a1f kv A<=a1f kv B:=a6g.2 ⟨a1y kv B,fun _ hp hl=>a9L hp (a2C hl h)⟩
theorem b5M {lim:List Int} {kv:KV} (h:KvOk lim kv) (B:List Int):a1f kv B<=1000000:=a6g.2 ⟨by omega,fun p hp _=>(h.all p hp).2.1⟩
def a3Q (a b:List Int):List Int:=Qa (·-·) a b
theorem c3T:∀ {p q D E:List Int},leL p D=true->leL q E=true->leL (a2X p q) (a2X D E)=true
 | [],_,[],_,_,_=>by simp [a2X,leL]
 | x::p,y::q,d::D,e::E,h,k=>by
  simp only [leL,Q0,decide_eq_true_eq,a2X,Q3] at *
  exact ⟨by omega,c3T h.2 k.2⟩
 | _::_,[],_::_,[],_,_=>by simp [a2X,leL]
 | [],_,_::_,_,h,_=>by simp [leL] at h
 | _::_,_,[],_,h,_=>by simp [leL] at h
 | _::_,[],_::_,_::_,_,k=>by simp [leL] at k
 | _::_,_::_,_::_,[],_,k=>by simp [leL] at k
theorem c3z:∀ {D B:List Int},leL D B=true->a2X D (a3Q B D)=B
 | [],[],_=>rfl
 | x::D,y::B,h=>by
  simp only [leL,Q0,decide_eq_true_eq] at h
  have:=c3z h.2
  simp only [a2X,a3Q,Q3] at *
  rw [this]
  congr 1
  omega
 | [],_::_,h=>by simp [leL] at h
 | _::_,[],h=>by simp [leL] at h
theorem c6u:∀ {p q B:List Int},leL (a2X p q) B=true->p.length=B.length->q.length=B.length->leL q (a3Q B p)=true
 | [],[],[],_,_,_=>rfl
 | x::p,y::q,z::B,h,h1,h2=>by
  simp only [a2X,Q3,leL,Q0,decide_eq_true_eq] at h
  simp only [a3Q,Q3,leL,Q0,decide_eq_true_eq]
  exact ⟨by omega,c6u h.2 (by simpa using h1) (by simpa using h2)⟩
 | [],_::_,[],_,_,h2=>by simp at h2
 | _::_,_,[],_,h1,_=>by simp at h1
 | [],_,_::_,_,h1,_=>by simp at h1
 | _::_,[],_::_,_,_,h2=>by simp at h2
theorem c3O:∀ {p q B:List Int},leL (a2X p q) B=true->nnL q=true->p.length=B.length->q.length=B.length->leL p B=true
 | [],_,[],_,_,_,_=>rfl
 | x::p,y::q,z::B,h,hq,h1,h2=>by
  simp only [a2X,Q3,leL,Q0,decide_eq_true_eq] at h
  simp only [nnL,Q8,Q0,decide_eq_true_eq] at hq
  simp only [leL,Q0,decide_eq_true_eq]
  exact ⟨by omega,c3O h.2 (by simpa [nnL] using hq.2) (by simpa using h1) (by simpa using h2)⟩
 | _::_,_,[],_,_,h1,_=>by simp at h1
 | [],_,_::_,_,_,h1,_=>by simp at h1
 | _::_,[],_::_,_,_,_,h2=>by simp at h2
theorem a2N {v c:Int}:mnM v<=c↔v<=c\/1000000<=c:=by unfold mnM; split<;>omega
theorem b0h:∀ {a b:List Int},leL a b=true->a.length=b.length
 | [],[],_=>rfl
 | x::a,y::b,h=>by simp only [leL,Q0] at h; simp [b0h h.2]
 | [],_::_,h=>by simp [leL] at h
 | _::_,[],h=>by simp [leL] at h
theorem c0V:∀ {D B:List Int},leL D B=true->nnL (a3Q B D)=true
 | [],[],_=>rfl
 | x::D,y::B,h=>by
  simp only [leL,Q0,decide_eq_true_eq] at h
  have:=c0V h.2
  simp only [nnL,a3Q,Q3,Q8,Q0,decide_eq_true_eq] at *
  exact ⟨by omega,this⟩
 | [],_::_,h=>by simp [leL] at h
 | _::_,[],h=>by simp [leL] at h
end Go.Kv
namespace Go.Bun
open Go.Sx
def offs:Int->List (Int × Int)->List Int
 | _,[]=>[]
 | st,p::r=>(if 0 < p.2 then [st] else [])++offs (st*(p.1+1)) r
def Bd.offs (s b:Bd):List Int:=Go.Bun.offs 1 [(s.f,b.f),(s.e,b.e),(s.d,b.d),(s.c,b.c),(s.b,b.b),(s.a,b.a)]
theorem dif (x t m r:Int):(x-t)*m+r=(x*m+r)-t*m:=by rw [Int.sub_mul]; omega
theorem a9b {s b b':Bd} {n:Nat} {st:Int} (hn:(n:Int) < s.cnt) (hb:s.unr n=b) (hb':b'.Ok) (hle:b'.Le s) (hh:s.horner b'=s.horner b-st) (hst:0 < st) :
  ∃ m:Nat,(n:Int)-st=m/\m < n/\s.unr m=b':=by
 have h0:s.cnt≠0:=by omega
 obtain ⟨m,h1,h2,h3⟩:=b7U h0 hb' hle
 have:=a8q hn
 rw [hb] at this
 exact ⟨m,by omega,by omega,h3⟩
theorem c1l {x:Int} (h:0<=x/\x<=4):0 < x+1:=by omega
theorem a7N {s:Bd} {n:Nat} (hn:(n:Int) < s.cnt) {b:Bd} (hb:s.unr n=b) :
  (∀ st∈s.offs b,∃ m:Nat,(n:Int)-st=m/\m < n/\(s.unr m).Le b/\s.unr m≠b/\0 < st) /\
  ∀ x:Bd,x.Ok->x.Le b->x=b\/∃ st∈s.offs b,∃ m:Nat,(n:Int)-st=m/\m < n/\x.Le (s.unr m):=by
 have h0:s.cnt≠0:=by omega
 have hs:=Bd.ok_of_cnt h0
 obtain ⟨hbo,hbl⟩:=a3m hs n
 rw [hb] at hbo hbl
 obtain ⟨A,B,C,D,E,F⟩:=s
 obtain ⟨a,b',c,d,e,f⟩:=b
 simp only [Bd.Ok,Bd.Le] at hs hbo hbl
 have pB:=c1l hs.2.1
 have pC:=c1l hs.2.2.1
 have pD:=c1l hs.2.2.2.1
 have pE:=c1l hs.2.2.2.2.1
 have pF:=c1l hs.2.2.2.2.2
 have t4:0 < 1*(F+1):=by omega
 have t3:0 < 1*(F+1)*(E+1):=Q9 t4 pE
 have t2:0 < 1*(F+1)*(E+1)*(D+1):=Q9 t3 pD
 have t1:0 < 1*(F+1)*(E+1)*(D+1)*(C+1):=Q9 t2 pC
 have t0:0 < 1*(F+1)*(E+1)*(D+1)*(C+1)*(B+1):=Q9 t1 pB
 have k5:0 < f->∃ m:Nat,(n:Int)-1=m/\m < n/\Bd.unr ⟨A,B,C,D,E,F⟩ m=⟨a,b',c,d,e,f-1⟩:=fun h=>a9b hn hb (by simp only [Bd.Ok]; omega) (by simp only [Bd.Le]; omega) (by simp only [Bd.horner]; omega) (by omega)
 have k4:0 < e->∃ m:Nat,(n:Int)-1*(F+1)=m/\m < n/\Bd.unr ⟨A,B,C,D,E,F⟩ m=⟨a,b',c,d,e-1,f⟩:=fun h=>a9b hn hb (by simp only [Bd.Ok]; omega) (by simp only [Bd.Le]; omega) (by
  simp only [Bd.horner]
  rw [<- dif]; congr 2; omega) t4
 have k3:0 < d->∃ m:Nat,(n:Int)-1*(F+1)*(E+1)=m/\m < n/\Bd.unr ⟨A,B,C,D,E,F⟩ m=⟨a,b',c,d-1,e,f⟩:=fun h=>a9b hn hb (by simp only [Bd.Ok]; omega) (by simp only [Bd.Le]; omega) (by
  simp only [Bd.horner]
  rw [show (1*(F+1)*(E+1):Int)=1*(E+1)*(F+1) by ac_rfl,<- dif,<- dif]; congr 4; omega) t3
 have k2:0 < c->∃ m:Nat,(n:Int)-1*(F+1)*(E+1)*(D+1)=m/\m < n/\Bd.unr ⟨A,B,C,D,E,F⟩ m=⟨a,b',c-1,d,e,f⟩:=fun h=>a9b hn hb (by simp only [Bd.Ok]; omega) (by simp only [Bd.Le]; omega) (by
  simp only [Bd.horner]
  rw [show (1*(F+1)*(E+1)*(D+1):Int)=1*(D+1)*(E+1)*(F+1) by ac_rfl,<- dif,<- dif,<- dif]; congr 6; omega) t2
 have k1:0 < b'->∃ m:Nat,(n:Int)-1*(F+1)*(E+1)*(D+1)*(C+1)=m/\m < n/\Bd.unr ⟨A,B,C,D,E,F⟩ m=⟨a,b'-1,c,d,e,f⟩:=fun h=>a9b hn hb (by simp only [Bd.Ok]; omega) (by simp only [Bd.Le]; omega) (by
  simp only [Bd.horner]
  rw [show (1*(F+1)*(E+1)*(D+1)*(C+1):Int)=1*(C+1)*(D+1)*(E+1)*(F+1) by ac_rfl,<- dif,<- dif,<- dif,<- dif]; congr 8; omega) t1
 have k0:0 < a->∃ m:Nat,(n:Int)-1*(F+1)*(E+1)*(D+1)*(C+1)*(B+1)=m/\m < n/\Bd.unr ⟨A,B,C,D,E,F⟩ m=⟨a-1,b',c,d,e,f⟩:=fun h=>a9b hn hb (by simp only [Bd.Ok]; omega) (by simp only [Bd.Le]; omega) (by
  simp only [Bd.horner]
  rw [show (1*(F+1)*(E+1)*(D+1)*(C+1)*(B+1):Int)=1*(B+1)*(C+1)*(D+1)*(E+1)*(F+1) by ac_rfl,<- dif,<- dif,<- dif,<- dif,<- dif]; congr 10; omega) t0
 constructor
 ·intro st hst
  simp only [Bd.offs,offs,Qr,Qd] at hst
  have mk:∀ (c:Prop) [Decidable c] (x:Int),st∈(if c then [x] else [])->c/\st=x:=by
   intro c _ x h
   split at h
   ·rename_i hc; exact ⟨hc,Qb.1 h⟩
   ·cases h
  rcases hst with h | h | h | h | h | h
  all_goals obtain ⟨h1,rfl⟩:=mk _ _ h
  ·obtain ⟨m,e1,e2,e3⟩:=k5 h1
   exact ⟨m,e1,e2,by rw [e3]; simp only [Bd.Le]; omega,by rw [e3]; simp only [ne_eq,Bd.mk.injEq]; omega,by omega⟩
  ·obtain ⟨m,e1,e2,e3⟩:=k4 h1
   exact ⟨m,e1,e2,by rw [e3]; simp only [Bd.Le]; omega,by rw [e3]; simp only [ne_eq,Bd.mk.injEq]; omega,t4⟩
  ·obtain ⟨m,e1,e2,e3⟩:=k3 h1
   exact ⟨m,e1,e2,by rw [e3]; simp only [Bd.Le]; omega,by rw [e3]; simp only [ne_eq,Bd.mk.injEq]; omega,t3⟩
  ·obtain ⟨m,e1,e2,e3⟩:=k2 h1
   exact ⟨m,e1,e2,by rw [e3]; simp only [Bd.Le]; omega,by rw [e3]; simp only [ne_eq,Bd.mk.injEq]; omega,t2⟩
  ·obtain ⟨m,e1,e2,e3⟩:=k1 h1
   exact ⟨m,e1,e2,by rw [e3]; simp only [Bd.Le]; omega,by rw [e3]; simp only [ne_eq,Bd.mk.injEq]; omega,t1⟩
  ·obtain ⟨m,e1,e2,e3⟩:=k0 h1
   exact ⟨m,e1,e2,by rw [e3]; simp only [Bd.Le]; omega,by rw [e3]; simp only [ne_eq,Bd.mk.injEq]; omega,t0⟩
 ·rintro ⟨x0,x1,x2,x3,x4,x5⟩ hx0 hx
  simp only [Bd.Ok] at hx0
  simp only [Bd.Le] at hx
  by_cases h:(⟨x0,x1,x2,x3,x4,x5⟩:Bd)=⟨a,b',c,d,e,f⟩
  ·exact .inl h
  refine .inr ?_
  simp only [Bd.mk.injEq] at h
  simp only [Bd.offs,offs,Qr,Qd]
  by_cases g5:x5 < f/\0 < f
  ·obtain ⟨m,e1,e2,e3⟩:=k5 g5.2
   exact ⟨1,by simp [g5.2],m,e1,e2,by rw [e3]; simp only [Bd.Le]; omega⟩
  by_cases g4:x4 < e/\0 < e
  ·obtain ⟨m,e1,e2,e3⟩:=k4 g4.2
   exact ⟨1*(F+1),by simp [g4.2],m,e1,e2,by rw [e3]; simp only [Bd.Le]; omega⟩
  by_cases g3:x3 < d/\0 < d
  ·obtain ⟨m,e1,e2,e3⟩:=k3 g3.2
   exact ⟨1*(F+1)*(E+1),by simp [g3.2],m,e1,e2,by rw [e3]; simp only [Bd.Le]; omega⟩
  by_cases g2:x2 < c/\0 < c
  ·obtain ⟨m,e1,e2,e3⟩:=k2 g2.2
   exact ⟨1*(F+1)*(E+1)*(D+1),by simp [g2.2],m,e1,e2,by rw [e3]; simp only [Bd.Le]; omega⟩
  by_cases g1:x1 < b'/\0 < b'
  ·obtain ⟨m,e1,e2,e3⟩:=k1 g1.2
   exact ⟨1*(F+1)*(E+1)*(D+1)*(C+1),by simp [g1.2],m,e1,e2,by rw [e3]; simp only [Bd.Le]; omega⟩
  by_cases g0:x0 < a/\0 < a
  ·obtain ⟨m,e1,e2,e3⟩:=k0 g0.2
   exact ⟨1*(F+1)*(E+1)*(D+1)*(C+1)*(B+1),by simp [g0.2],m,e1,e2,by rw [e3]; simp only [Bd.Le]; omega⟩
  omega
end Go.Bun
namespace Go.Kv
open Go.Sx Go.Bun
theorem a7e {x b:Bd}:leL x.l b.l=true↔x.Le b:=by
 obtain ⟨a,b',c,d,e,f⟩:=b
 obtain ⟨x0,x1,x2,x3,x4,x5⟩:=x
 simp only [leL,Bd.l,Bd.Le,Q0,decide_eq_true_eq,and_true]
theorem c0x {x:Bd} (h:x.Ok):nnL x.l=true:=by
 obtain ⟨x0,x1,x2,x3,x4,x5⟩:=x
 simp only [Bd.Ok] at h
 simp only [nnL,Bd.l,Q8,List.all_nil,Bool.and_true,Q0,decide_eq_true_eq]
 omega
theorem c6x {l:List Int} (h:l.length=6):∃ x:Bd,l=x.l:=by
 match l,h with
 | [a,b,c,d,e,f],_=>exact ⟨⟨a,b,c,d,e,f⟩,rfl⟩
theorem c8G {x b:Bd} (h:nnL x.l=true) (hl:x.Le b) (hb:b.Ok):x.Ok:=by
 obtain ⟨a,b',c,d,e,f⟩:=b
 obtain ⟨x0,x1,x2,x3,x4,x5⟩:=x
 simp only [nnL,Bd.l,Q8,List.all_nil,Bool.and_true,Q0,decide_eq_true_eq] at h
 simp only [Bd.Ok,Bd.Le] at *
 omega
theorem c7i {lim:List Int} {kv:KV} (h:KvOk lim kv) {s:Bd} {n:Nat} (hn:(n:Int) < s.cnt) {c:Int} :
  a1f kv (s.unr n).l<=c↔0<=c/\gv kv (s.unr n).l<=c/\∀ st∈s.offs (s.unr n),a1f kv (s.unr ((n:Int)-st)).l<=c:=by
 obtain ⟨h1,h2⟩:=a7N hn rfl
 have hb:=a3m (Bd.ok_of_cnt (s:=s) (by omega)) n
 constructor
 ·intro ht
  refine ⟨Int.le_trans (a1y _ _) ht,((b5m h).1 ht).2 _ (a9A _),fun st hst=>?_⟩
  obtain ⟨m,e1,e2,e3,_⟩:=h1 st hst
  rw [e1]
  exact Int.le_trans (b6F (a7e.2 e3)) ht
 ·rintro ⟨h0,hg,ho⟩
  rw [b5m h]
  refine ⟨h0,fun k hk=>?_⟩
  have hkl:k.length=6:=by rw [b0h hk]; rfl
  obtain ⟨x,rfl⟩:=c6x hkl
  by_cases hnn:nnL x.l=true
  ·rcases h2 x (c8G hnn (a7e.1 hk) hb.1) (a7e.1 hk) with rfl | ⟨st,hst,m,e1,e2,e3⟩
   ·exact hg
   ·have:=ho st hst
    rw [e1] at this
    exact ((b5m h).1 this).2 _ (a7e.2 e3)
  ·have:gv kv x.l=0:=by
    unfold gv
    cases hl:a0F kv x.l with
    | none=>rfl
    | some v=>exact absurd (h.all _ ((lookQ_some h.nd).1 hl)).2.2.2 hnn
   omega
end Go.Kv
namespace Go.Sx
theorem c7H {Φ:Fns} {S:Sys} {n m:Nat} (h:n<=m) (a:List PV) (σ:List MO):OLe (S.run Φ n a σ) (S.run Φ m a σ):=by
 unfold Sys.run
 split
 ·exact .refl _
 split
 ·exact .refl _
 ·refine .bind (.refl _) fun r=>.bind (.refl _) fun r=>?_
  split
  ·exact .refl _
  ·exact fun r hr=>Sys.loop_mono h hr
theorem b7X {T:Nat->Option Sys}:∀ n,FLe (a0e T n) (a0e T (n+1))
 | 0=>fun f a m=>by simp only [a0e]; exact .none _
 | n+1=>fun f a m=>by
  show OLe ((T f).bind fun S=>S.run (a0e T n) n a m) ((T f).bind fun S=>S.run (a0e T (n+1)) (n+1) a m)
  refine .bind (.refl _) fun S=>fun r hr=>?_
  exact c1q (b7X n) S (n+1) a m r (c7H (by omega) a m r hr)
theorem c7R {T:Nat->Option Sys} {n m:Nat} (h:n<=m) {f:Nat} {a:List PV} {σ:List MO} {r:PV × List MO} (hr:a0e T n f a σ=some r):a0e T m f a σ=some r:=by
 induction m with
 | zero =>
  have h0:n=0:=by omega
  rw [h0] at hr; exact hr
 | succ m ih =>
  rcases Nat.lt_or_ge n (m+1) with h1 | h1
  ·exact b7X m f a σ r (ih (by omega))
  ·obtain rfl:n=m+1:=by omega
   exact hr
end Go.Sx
namespace Go.Sx
end Go.Sx
namespace Go.Kv
open Go.Sx Go.Bun
end Go.Kv
