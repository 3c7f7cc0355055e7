/- Books of offers: what lasts. -/
import Derived.Test.YtflcopaopimlpaaHBp
set_option linter.unusedSimpArgs false
set_option linter.unusedVariables false
open List renaming getElem?_eq_some_iff → Q0, getElem?_set_ne → Q1, replicate → Q2, all_eq_true → Q4, length_set → Q6, getElem?_set_self → Q7, length_map → Q8, getElem?_replicate → Q9, map_cons → Qa, getElem?_append_right → Qb, range → Qd, mem_of_getElem? → Qh, getElem?_of_mem → Qj, pairwise_iff_getElem → Qk, length_range → Qm, length_append → Qn, length_cons → Qp, mem_append → Qq
open Option.some renaming injEq → Q3
open Bool renaming and_true → Q5, and_eq_true → Qe, and_self → Qf, true_and → Qg
set_option maxRecDepth 100000
namespace Go.Proofs.Ytflcopaopimlpaa
open Go.Sx Go.Kv
structure BInv (σ:List MO) (P B C A:PV) (hb hl:Nat) (hs:List Nat) (kvs:List KV):Prop where
 book:σ[hb]?=some (.cells [P,B,C,A,.rsl hl hs.length 1] 68)
 row:σ[hl]?=some (.row (hs.map fun h=>[.mp h]) 1 69)
 maps:∀ (i h:Nat),hs[i]?=some h->∃ kv ver,kvs[i]?=some kv/\σ[h]?=some (.mq kv ver)/\Asc kv/\kv.length<=40
 len:kvs.length=hs.length
 nd:hs.Nodup
structure RInv (σ:List MO) (P B C A:PV) (xb hx:Nat) (k:Bool) (T TR:Nat) (els:List PV) (kvs:List KV):Prop where
 book:σ[xb]?=some (.cells [P,B,C,A,a6k k hx els.length] TR)
 lst:σ[hx]?=some (a2K k T els)
 el:∀ (i:Nat) (E:PV),els[i]?=some E->∃ kv,kvs[i]?=some kv/\E.rowsOf 8=some ((kv.map (kvO i)).map O8.row)/\Asc kv/\kv.length<=40
 len:kvs.length=els.length
 ne:xb≠hx
section
variable {σ:List MO} {P B C A:PV} {hb hl:Nat} {hs:List Nat} {kvs:List KV}
theorem BInv.bkMs (h:BInv σ P B C A hb hl hs kvs):bkMs σ hb=some hs:=by
 unfold Go.Proofs.Ytflcopaopimlpaa.bkMs
 rw [h.book]
 simp only [h.row,Q8,if_true]
 exact b7T hs
theorem BInv.bkL (h:BInv σ P B C A hb hl hs kvs):BkL σ hb hs [P,B,C,A,.rsl hl hs.length 1] (.rsl hl hs.length 1):=by
 obtain ⟨l,L,k⟩:=a9W h.bkMs
 obtain ⟨p,b,c,a,T,he,h0⟩:=k.five
 rw [h.book] at h0
 simp only [Q3,MO.cells.injEq,List.cons.injEq,and_true] at h0
 obtain ⟨⟨rfl,rfl,rfl,rfl,rfl⟩,rfl⟩:=h0
 subst he
 exact k
theorem BInv.frame {σ':List MO} (h:BInv σ P B C A hb hl hs kvs) (e1:σ'[hb]?=σ[hb]?) (e2:σ'[hl]?=σ[hl]?) (e3:∀ x∈hs,σ'[x]?=σ[x]?):BInv σ' P B C A hb hl hs kvs where
 book:=by rw [e1]; exact h.book
 row:=by rw [e2]; exact h.row
 maps i x hx:=by rw [e3 x (Qh hx)]; exact h.maps i x hx
 len:=h.len
 nd:=h.nd
theorem BInv.ne (h:BInv σ P B C A hb hl hs kvs) {x:Nat} (hx:x∈hs):x≠hb/\x≠hl:=by
 obtain ⟨i,hi⟩:=Qj hx
 obtain ⟨kv,ver,_,h2,_⟩:=h.maps i x hi
 constructor
 ·rintro rfl; rw [h.book] at h2; cases h2
 ·rintro rfl; rw [h.row] at h2; cases h2
theorem BInv.put (h:BInv σ P B C A hb hl hs kvs) {j x:Nat} (hj:hs[j]?=some x) {kv:KV} (ha:Asc kv) (hl40:kv.length<=40) (ver:Nat):BInv (σ.set x (.mq kv ver)) P B C A hb hl hs (kvs.set j kv):=by
 obtain ⟨n1,n2⟩:=h.ne (Qh hj)
 obtain ⟨kv0,ver0,_,g2,_⟩:=h.maps j x hj
 have hxl:=(Q0.1 g2).1
 have hjl:=(Q0.1 hj).1
 have hlen:=h.len
 refine ⟨by rw [Q1 n1]; exact h.book,by rw [Q1 n2]; exact h.row,fun i y hi=>?_,by rw [Q6]; exact h.len,h.nd⟩
 by_cases he:i=j
 ·subst he
  rw [hj] at hi
  simp only [Q3] at hi; subst hi
  exact ⟨kv,ver,Q7 (by omega),Q7 hxl,ha,hl40⟩
 ·have hne:x≠y:=fun hxy=>he (by
   obtain ⟨i1,i2⟩:=Q0.1 hi
   obtain ⟨j1,j2⟩:=Q0.1 hj
   rcases Nat.lt_or_gt_of_ne he with hlt | hlt
   ·exact absurd (i2.trans (hxy.symm.trans j2.symm)) (Qk.1 h.nd i j i1 j1 hlt)
   ·exact absurd (j2.trans (hxy.trans i2.symm)) (Qk.1 h.nd j i j1 i1 hlt))
  obtain ⟨kv',ver',m1,m2,m3,m4⟩:=h.maps i y hi
  exact ⟨kv',ver',by rw [Q1 (Ne.symm he)]; exact m1,by rw [Q1 hne]; exact m2,m3,m4⟩
end
section
variable {σ:List MO} {P B C A:PV} {xb hx T TR:Nat} {k:Bool} {els:List PV} {kvs:List KV}
theorem RInv.frame {σ':List MO} (h:RInv σ P B C A xb hx k T TR els kvs) (e1:σ'[xb]?=σ[xb]?) (e2:σ'[hx]?=σ[hx]?):RInv σ' P B C A xb hx k T TR els kvs:=⟨by rw [e1]; exact h.book,by rw [e2]; exact h.lst,h.el,h.len,h.ne⟩
theorem RInv.put (h:RInv σ P B C A xb hx k T TR els kvs) {j:Nat} (hj:j < els.length) {E:PV} {kv:KV} (hE:E.rowsOf 8=some ((kv.map (kvO j)).map O8.row)) (ha:Asc kv) (hl:kv.length<=40):RInv (σ.set hx (a2K k T (els.set j E))) P B C A xb hx k T TR (els.set j E) (kvs.set j kv):=by
 have hxl:=(Q0.1 h.lst).1
 have hlen:=h.len
 refine ⟨by rw [Q1 h.ne.symm,Q6]; exact h.book,Q7 hxl,fun i F hi=>?_,by rw [Q6,Q6]; exact h.len,h.ne⟩
 by_cases he:j=i
 ·subst he
  rw [Q7 hj] at hi
  simp only [Q3] at hi; subst hi
  exact ⟨kv,Q7 (by omega),hE,ha,hl⟩
 ·rw [Q1 he] at hi
  obtain ⟨kv',m1,m2,m3,m4⟩:=h.el i F hi
  exact ⟨kv',by rw [Q1 he]; exact m1,m2,m3,m4⟩
end
theorem c6o {k:Nat} {p b c a:PV} (j:Nat) {i:Nat} (hi:i<=j) (σ:List MO) (hk:σ.length=k):(σ++nbO k p b c a (j+1))[nh k i]?=some (.mq [] 0):=by
 subst hk
 rw [nbO,Qb (by unfold nh; split<;>omega)]
 by_cases h0:i=0
 ·subst h0
  rw [show nh σ.length 0=σ.length+1 from rfl,show σ.length+1-σ.length=1 by omega]; rfl
 ·rw [show nh σ.length i=σ.length+2+i by unfold nh; rw [if_neg h0],show σ.length+2+i-σ.length=(i-1)+3 by omega]
  simp only [List.getElem?_cons_succ]
  rw [Q9,if_pos (by omega)]
theorem c0k (σ:List MO) (P B C A:PV) (j:Nat):BInv (σ++nbO σ.length P B C A (j+1)) P B C A σ.length (σ.length+2) ((Qd (j+1)).map (nh σ.length)) (Q2 (j+1) []) where
 book:=by rw [Q8,Qm]; simp [nbO]
 row:=by simp [nbO,a6c]
 maps i h hi:=by
  rw [List.getElem?_map] at hi
  cases hr:(Qd (j+1))[i]? with
  | none=>rw [hr] at hi; cases hi
  | some i' =>
   rw [hr] at hi
   simp only [Option.map_some,Q3] at hi
   have h1:=(Q0.1 hr).1
   rw [Qm] at h1
   have h2:i'=i:=by rw [List.getElem?_range h1] at hr; simpa using hr.symm
   subst h2 hi
   exact ⟨[],0,by rw [Q9,if_pos h1],c6o j (by omega) σ rfl,Asc.nil,by simp⟩
 len:=by simp
 nd:=by
  rw [List.nodup_iff_pairwise_ne,List.pairwise_map]
  refine (List.pairwise_lt_range (n:=j+1)).imp fun h=>?_
  unfold nh
  repeat' split
  all_goals omega
theorem c4A (σ:List MO) (P B C A:PV) (n TR:Nat):RInv (σ++[.cells (Q2 n .nilS) 41,.cells [P,B,C,A,.msl σ.length 0 n n 1] TR]) P B C A (σ.length+1) σ.length false 41 TR (Q2 n .nilS) (Q2 n []) where
 book:=by rw [Qb (by omega)]; simp [a6k]
 lst:=by rw [Qb (by omega)]; simp [a2K]
 el i E hi:=by
  rw [Q9] at hi
  split at hi
  ·rename_i h1
   simp only [Q3] at hi; subst hi
   exact ⟨[],by rw [Q9,if_pos h1],rfl,Asc.nil,by simp⟩
  ·cases hi
 len:=by simp
 ne:=by omega
end Go.Proofs.Ytflcopaopimlpaa
set_option maxRecDepth 100000
namespace Go.Proofs.Ytflcopaopimlpaa
open Go.Sx Go.Kv
def oW (o:O8):W6:=⟨o.w0,o.w1,o.w2,o.w3,o.w4,o.w5⟩
theorem c7g (o:O8):wl (oW o)=o.w:=rfl
def a3D (kvs:List KV) (o:O8):List KV:=kvs.set o.b.toNat (a7l (kvs.getD o.b.toNat []) (oW o) o.v)
theorem b7C (kvs:List KV) (o:O8):(a3D kvs o).length=kvs.length:=by simp [a3D]
theorem b7V (l:List O8):∀ kvs:List KV,(l.foldl a3D kvs).length=kvs.length:=by
 induction l with
 | nil=>intro kvs; rfl
 | cons o l ih=>intro kvs; rw [List.foldl_cons,ih,b7C]
end Go.Proofs.Ytflcopaopimlpaa
set_option maxRecDepth 100000
namespace Go.Proofs.Ytflcopaopimlpaa
open Go.Sx Go.Kv
theorem c0Q {σ:List MO} {x:Nat} {o:MO} (h:σ.all (MO.low σ.length)=true) (ho:o.low σ.length=true):(σ.set x o).all (MO.low (σ.set x o).length)=true:=by
 rw [Q6]
 refine Q4.2 fun y hy=>?_
 rcases List.mem_or_eq_of_mem_set hy with hy | rfl
 ·exact Q4.1 h y hy
 ·exact ho
theorem b8P (k:Nat):∀ l:List O8,PV.lowss k (l.map O8.row)=true
 | []=>rfl
 | o::l=>by simp only [Qa,PV.lowss,b8P k l,Q5]; rfl
theorem c4e {E:PV} {l:List O8} (h:E.rowsOf 8=some (l.map O8.row)) (k:Nat):E.low k=true:=by
 unfold PV.rowsOf at h
 split at h
 ·rfl
 ·split at h
  ·simp only [Q3] at h; subst h; exact b8P k l
  ·cases h
 ·cases h
theorem b8R {k:Nat} {E:PV} (hE:E.low k=true):∀ {els:List PV} {j:Nat},PV.lows k els=true->PV.lows k (els.set j E)=true
 | [],_,_=>rfl
 | e::els,0,h=>by simp only [PV.lows,Qe] at h; simp only [List.set_cons_zero,PV.lows,hE,h.2,Qf]
 | e::els,j+1,h=>by simp only [PV.lows,Qe] at h; simp only [List.set_cons_succ,PV.lows,h.1,b8R hE h.2,Qf]
theorem b7M {k:Nat}:∀ {els:List PV},PV.lowss k (els.map fun e=>[e])=PV.lows k els
 | []=>rfl
 | e::els=>by simp only [Qa,PV.lowss,PV.lows,Q5,b7M (els:=els)]
theorem c0w {k:Nat} {b:Bool} {T:Nat} {els:List PV}:(a2K b T els).low k=PV.lows k els:=by
 cases b
 ·rfl
 ·show PV.lowss k (els.map fun e=>[e])=_; exact b7M
theorem b7z {ps:List Pr} {bs:List Bd} {cs ad:List Tri} {kv:KV} {i:Int} {b:W6} {v:Int} (ha:Asc kv) (hk:kv.length<=40) (h:a6g ps bs cs ad kv i b v=0):(a7l kv b v).length<=40:=by
 unfold a7l
 rw [b9J ha]
 split
 ·exact hk
 ·rename_i hl
  unfold a6g at h
  repeat' split at h
  all_goals first | (cases h; done) | skip
  ·rename_i h6
   simp only [Qe,Bool.not_eq_true',decide_eq_true_eq,not_and,Nat.not_le] at h6
   have:=h6 (by simpa using hl)
   omega
  ·rename_i h3; exact absurd h h3
section
variable (σ:List MO) (ps:List Pr) (bs:List Bd) (cs ad:List Tri) (P B C A:PV) (hP:P.rowsOf 5=some (ps.map Pr.row)) (hB:B.rowsOf 4=some (bs.map Bd.row)) (hC:C.rowsOf 3=some (cs.map Tri.row)) (hA:A.rowsOf 3=some (ad.map Tri.row)) (hlow:σ.all (MO.low σ.length)=true) (hv:a5j ps bs cs ad=0) (n:Nat) (hn:1300<=n)
end
end Go.Proofs.Ytflcopaopimlpaa
set_option maxRecDepth 100000
namespace Go.Proofs.Ytflcopaopimlpaa
open Go.Sx Go.Kv
structure Three (σ:List MO) (P B C A:PV) (ha la hb lb xb hx TR:Nat) (as' bs':List Nat) (els:List PV) (ka kb kx:List KV):Prop where
 a:BInv σ P B C A ha la as' ka
 b:BInv σ P B C A hb lb bs' kb
 x:RInv σ P B C A xb hx false 41 TR els kx
 dj:∀ y∈as',y ∉ bs'
 n1:hx≠ha
 n2:hx≠hb
 low:σ.all (MO.low σ.length)=true
section
variable {σ:List MO} {P B C A:PV} {ha la hb lb xb hx TR:Nat} {as' bs':List Nat} {els:List PV} {ka kb kx:List KV}
theorem BInv.mq {hb hl:Nat} {hs:List Nat} {kvs:List KV} (h:BInv σ P B C A hb hl hs kvs) {y:Nat} (hy:y∈hs):∃ kv ver,σ[y]?=some (.mq kv ver):=by
 obtain ⟨i,hi⟩:=Qj hy
 obtain ⟨kv,ver,_,h2,_⟩:=h.maps i y hi
 exact ⟨kv,ver,h2⟩
end
section
variable (TW:Nat->Option Sx.Sys) (n:Nat) (up:∀ {f:Nat} {a:List PV} {m:List MO} {r:PV × List MO},a0B Tab n f a m=some r->a0B TW n f a m=some r) (aw:∀ σ,a0B TW n a0V [] σ=some (.bool true,σ))
variable (ps:List Pr) (bs:List Bd) (cs ad:List Tri) (P B C A:PV) (hP:P.rowsOf 5=some (ps.map Pr.row)) (hB:B.rowsOf 4=some (bs.map Bd.row)) (hC:C.rowsOf 3=some (cs.map Tri.row)) (hA:A.rowsOf 3=some (ad.map Tri.row)) (hv:a5j ps bs cs ad=0) (hn:1300<=n)
variable (l:List O8) (E:PV) (hE:E.rowsOf 8=some (l.map O8.row)) (hl30:l.length<=30) {ha la hb lb xb hx TR:Nat} {as' bs':List Nat}
theorem c3O (σ:List MO) (is:List Int) (b:List Bool) (vs:List PV) (z:Bool):a0D { i:=is,b:=b,v:=vs,m:=σ,k:=0 } false (.bool z)=some (.bool z,[]):=by
 unfold a0D
 dsimp only
 split
 ·rename_i h
  have h:σ=[]:=by
   rcases h with h | h
   ·cases h
   ·exact List.length_eq_zero_iff.1 h
  rw [h]
 ·rw [List.take_zero]; rfl
end
end Go.Proofs.Ytflcopaopimlpaa
set_option maxRecDepth 100000
namespace Go.Proofs.Ytflcopaopimlpaa
open Go.Sx Go.Kv
theorem b9a {m:Nat}:∀ (kvs:List KV) (i:Nat),(∀ kv∈kvs,kv.length<=m)->(a6h i kvs).length<=kvs.length*m
 | [],_,_=>by simp [a6h]
 | kv::r,i,h=>by
  have h1:=b9a r (i+1) (fun x hx=>h x (by simp [hx]))
  have h2:=h kv (by simp)
  rw [a6h,Qn,Q8,Qp,Nat.add_mul,Nat.one_mul]
  omega
section
variable (TW:Nat->Option Sx.Sys) (n:Nat) (up:∀ {f:Nat} {a:List PV} {m:List MO} {r:PV × List MO},a0B Tab n f a m=some r->a0B TW n f a m=some r) (aw:∀ σ,a0B TW n a0V [] σ=some (.bool true,σ))
variable (ps:List Pr) (bs:List Bd) (cs ad:List Tri) (P B C A:PV) (hP:P.rowsOf 5=some (ps.map Pr.row)) (hB:B.rowsOf 4=some (bs.map Bd.row)) (hC:C.rowsOf 3=some (cs.map Tri.row)) (hA:A.rowsOf 3=some (ad.map Tri.row)) (hv:a5j ps bs cs ad=0) (hn:1300<=n)
variable (l:List O8) (E:PV) (hE:E.rowsOf 8=some (l.map O8.row)) (hl30:l.length<=30) {ha la hb lb xb hx TR:Nat} {as' bs':List Nat}
end
end Go.Proofs.Ytflcopaopimlpaa
set_option maxRecDepth 100000
namespace Go.Proofs.Ytflcopaopimlpaa
open Go.Sx Go.Kv
theorem BInv.app {σ:List MO} {P B C A:PV} {hb hl:Nat} {hs:List Nat} {kvs:List KV} (h:BInv σ P B C A hb hl hs kvs) (X:List MO):BInv (σ++X) P B C A hb hl hs kvs:=by
 have up:∀ {i:Nat} {o:MO},σ[i]?=some o->(σ++X)[i]?=σ[i]?:=fun h=>List.getElem?_append_left (Q0.1 h).1
 exact h.frame (up h.book) (up h.row) fun x hx=>by obtain ⟨_,_,hm⟩:=h.mq hx; exact up hm
theorem b7I {α:Type} {row:α->List PV} {k:Nat} (h:∀ x,PV.lows k (row x)=true):∀ l:List α,PV.lowss k (l.map row)=true
 | []=>rfl
 | x::l=>by simp only [Qa,PV.lowss,h x,b7I h l,Qf]
theorem c0l {σ:List MO} (hlow:σ.all (MO.low σ.length)=true) {P B C A:PV} (hp:∀ k,P.low k=true) (hb:∀ k,B.low k=true) (hc:∀ k,C.low k=true) (ha:∀ k,A.low k=true) (j:Nat):(σ++nbO σ.length P B C A (j+1)).all (MO.low (σ++nbO σ.length P B C A (j+1)).length)=true:=by
 have hlen:(σ++nbO σ.length P B C A (j+1)).length=σ.length+3+j:=by simp [nbO]; omega
 rw [hlen]
 refine Q4.2 fun o ho=>?_
 rcases Qq.1 ho with ho | ho
 ·exact MO.low_mono (by omega) (Q4.1 hlow o ho)
 ·simp only [nbO,List.mem_cons] at ho
  rcases ho with rfl | rfl | rfl | ho
  ·show PV.lows _ _=true
   simp only [PV.lows,hp,hb,hc,ha,PV.low,Qg,Q5,decide_eq_true_eq]; omega
  ·rfl
  ·show PV.lowss _ ((Qd (j+1)).map fun i=>[PV.mp (nh σ.length i)])=true
   have:∀ l:List Nat,(∀ i∈l,i<=j)->PV.lowss (σ.length+3+j) (l.map fun i=>[PV.mp (nh σ.length i)])=true:=by
    intro l
    induction l with
    | nil=>intro _; rfl
    | cons i l ih =>
     intro h
     have h1:=h i (by simp)
     simp only [Qa,PV.lowss,PV.lows,PV.low,ih (fun x hx=>h x (by simp [hx])),Q5,decide_eq_true_eq]
     unfold nh; split<;>omega
   exact this _ fun i hi=>by have:=List.mem_range.1 hi; omega
  ·rw [(List.mem_replicate.1 ho).2]; rfl
theorem b9h (k:Nat):∀ n,PV.lows k (Q2 n .nilS)=true
 | 0=>rfl
 | n+1=>by simp only [List.replicate_succ,PV.lows,b9h k n,Q5]; rfl
theorem c5c {σ:List MO} (hlow:σ.all (MO.low σ.length)=true) {P B C A:PV} (hp:∀ k,P.low k=true) (hb:∀ k,B.low k=true) (hc:∀ k,C.low k=true) (ha:∀ k,A.low k=true) (n T:Nat):(σ++[MO.cells (Q2 n .nilS) 41,.cells [P,B,C,A,.msl σ.length 0 n n 1] T]).all (MO.low (σ++[MO.cells (Q2 n .nilS) 41,.cells [P,B,C,A,.msl σ.length 0 n n 1] T]).length)=true:=by
 rw [Qn]
 refine Q4.2 fun o ho=>?_
 rcases Qq.1 ho with ho | ho
 ·exact MO.low_mono (by omega) (Q4.1 hlow o ho)
 ·simp only [List.mem_cons,List.not_mem_nil,or_false] at ho
  rcases ho with rfl | rfl
  ·exact b9h _ n
  ·show PV.lows _ _=true
   simp only [PV.lows,hp,hb,hc,ha,PV.low,Qg,Q5,decide_eq_true_eq,Qp,List.length_nil]; omega
theorem b6o {α:Type} {row:α->List PV} (h:∀ x k,PV.lows k (row x)=true) (n:Nat) (l:List α) (k:Nat):(PV.sl n (l.map row)).low k=true:=b7I (fun x=>h x k) l
theorem b6E {α:Type} (sz:Nat) (row:α->List PV) (l:List α) (h:l.length<=1000000):clB sz (.sl sz (l.map row))=true:=by
 simp only [clB,decide_true,Qg,decide_eq_true_eq,Q8]; exact h
end Go.Proofs.Ytflcopaopimlpaa
