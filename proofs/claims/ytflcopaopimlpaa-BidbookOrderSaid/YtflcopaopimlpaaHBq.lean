/- Books of offers: what lasts. -/
import Derived.Test.YtflcopaopimlpaaHBp
set_option linter.unusedSimpArgs false
set_option linter.unusedVariables false
open Go.Sx.BE renaming safe → ξ2, pe → ξ3, all → ξz
open Go.Sx.IE renaming pe → ξ4
open Go.Sx renaming PEnv.at → ξ5
open Go.Sx.PEnv renaming push → ξt
open List renaming getD_cons_zero → ξ6, getD_cons_succ → ξ7, getElem?_cons_zero → ξ8, getElem?_cons_succ → ξ9, drop_zero → ξf, length_cons → ξg, length_nil → ξh, take_succ_cons → ξm, take_zero → ξn, cons_append → ξu, nil_append → ξv, append_nil → ξw, map_cons → ξD, map_nil → ξE
open Go.Sx renaming a0y → ξa, a0A → ξb, a0o → ξc, a0z → ξd, a0w → ξo, a0p → ξp, a0x → ξq, a0r → ξF, a0t → ξG, a0n → ξH, a0j → ξI, a0s → ξJ, a0q → ξK, a0g → ξL, a0v → ξM, a0i → ξN, a0m → ξO, a0e → ξP, a0h → ξQ, a0u → ξR, a0a → ξS, a0k → ξT, a0f → ξU, a0b → ξV, a0c → ξW, a0d → ξX, a0l → ξY
open Nat renaming add_zero → ξe, le_refl → ξi
open Bool renaming false_eq_true → ξl, and_self → ξA, not_true → ξB, not_false → ξC
open Option renaming map_some → ξr, bind_some → ξs
open Go.Sx.SV renaming pvs → ξx, pv → ξy
open List renaming getElem?_set_ne → Q0, replicate → Q1, getElem?_eq_some_iff → Q2, mem_of_getElem? → Q3, range → Q5, length_map → Q6, foldl_cons → Q7, all_eq_true → Q8, length_nil → Q9, length_set → Qb, getElem?_set_self → Qd, getD → Qe, getElem?_of_mem → Qg, getElem?_replicate → Qh, map_cons → Qj, mem_replicate → Qm, getElem?_append_right → Qn, mem_or_eq_of_mem_set → Qp, drop_length → Qr, mem_append → Qs, pairwise_iff_getElem → Qu, length_range → Qv, getElem_mem → Qy, getElem?_eq_getElem → Qz, length_append → QA, length_cons → QB, drop_zero → QC
open Option renaming bind_some → Q4, map_some → Qw
open Option.some renaming injEq → Qa
open Bool renaming and_true → Qf, and_eq_true → Qk, and_self → Qq, true_and → Qt
set_option maxRecDepth 100000
namespace Go.Proofs.Ytflcopaopimlpaa
open Go.Sx Go.Kv
structure BInv (σ:List MO) (P B C A:PV) (hb hl:Nat) (hs:List Nat) (kvs:List KV):Prop where
 book:σ[hb]?=some (.cells [P,B,C,A,.rsl hl hs.length 1] 68)
 row:σ[hl]?=some (.row (hs.map fun h=>[.mp h]) 1 69)
 maps:∀ (i h:Nat),hs[i]?=some h->∃ kv ver,kvs[i]?=some kv/\σ[h]?=some (.mq kv ver)/\Asc kv/\kv.length<=40
 len:kvs.length=hs.length
 nd:hs.Nodup
structure RInv (σ:List MO) (P B C A:PV) (xb hx:Nat) (k:Bool) (T TR:Nat) (els:List PV) (kvs:List KV):Prop where
 book:σ[xb]?=some (.cells [P,B,C,A,a6k k hx els.length] TR)
 lst:σ[hx]?=some (a2K k T els)
 el:∀ (i:Nat) (E:PV),els[i]?=some E->∃ kv,kvs[i]?=some kv/\E.rowsOf 8=some ((kv.map (kvO i)).map O8.row)/\Asc kv/\kv.length<=40
 len:kvs.length=els.length
 ne:xb≠hx
section
variable {σ:List MO} {P B C A:PV} {hb hl:Nat} {hs:List Nat} {kvs:List KV}
theorem BInv.bkMs (h:BInv σ P B C A hb hl hs kvs):bkMs σ hb=some hs:=by
 unfold Go.Proofs.Ytflcopaopimlpaa.bkMs
 rw [h.book]
 simp only [h.row,Q6,if_true]
 exact b7T hs
theorem BInv.bkL (h:BInv σ P B C A hb hl hs kvs):BkL σ hb hs [P,B,C,A,.rsl hl hs.length 1] (.rsl hl hs.length 1):=by
 obtain ⟨l,L,k⟩:=a9W h.bkMs
 obtain ⟨p,b,c,a,T,he,h0⟩:=k.five
 rw [h.book] at h0
 simp only [Qa,MO.cells.injEq,List.cons.injEq,and_true] at h0
 obtain ⟨⟨rfl,rfl,rfl,rfl,rfl⟩,rfl⟩:=h0
 subst he
 exact k
theorem BInv.frame {σ':List MO} (h:BInv σ P B C A hb hl hs kvs) (e1:σ'[hb]?=σ[hb]?) (e2:σ'[hl]?=σ[hl]?) (e3:∀ x∈hs,σ'[x]?=σ[x]?):BInv σ' P B C A hb hl hs kvs where
 book:=by rw [e1]; exact h.book
 row:=by rw [e2]; exact h.row
 maps i x hx:=by rw [e3 x (Q3 hx)]; exact h.maps i x hx
 len:=h.len
 nd:=h.nd
theorem BInv.ne (h:BInv σ P B C A hb hl hs kvs) {x:Nat} (hx:x∈hs):x≠hb/\x≠hl:=by
 obtain ⟨i,hi⟩:=Qg hx
 obtain ⟨kv,ver,_,h2,_⟩:=h.maps i x hi
 constructor
 ·rintro rfl; rw [h.book] at h2; cases h2
 ·rintro rfl; rw [h.row] at h2; cases h2
theorem BInv.put (h:BInv σ P B C A hb hl hs kvs) {j x:Nat} (hj:hs[j]?=some x) {kv:KV} (ha:Asc kv) (hl40:kv.length<=40) (ver:Nat):BInv (σ.set x (.mq kv ver)) P B C A hb hl hs (kvs.set j kv):=by
 obtain ⟨n1,n2⟩:=h.ne (Q3 hj)
 obtain ⟨kv0,ver0,_,g2,_⟩:=h.maps j x hj
 have hxl:=(Q2.1 g2).1
 have hjl:=(Q2.1 hj).1
 have hlen:=h.len
 refine ⟨by rw [Q0 n1]; exact h.book,by rw [Q0 n2]; exact h.row,fun i y hi=>?_,by rw [Qb]; exact h.len,h.nd⟩
 by_cases he:i=j
 ·subst he
  rw [hj] at hi
  simp only [Qa] at hi; subst hi
  exact ⟨kv,ver,Qd (by omega),Qd hxl,ha,hl40⟩
 ·have hne:x≠y:=fun hxy=>he (by
   obtain ⟨i1,i2⟩:=Q2.1 hi
   obtain ⟨j1,j2⟩:=Q2.1 hj
   rcases Nat.lt_or_gt_of_ne he with hlt | hlt
   ·exact absurd (i2.trans (hxy.symm.trans j2.symm)) (Qu.1 h.nd i j i1 j1 hlt)
   ·exact absurd (j2.trans (hxy.trans i2.symm)) (Qu.1 h.nd j i j1 i1 hlt))
  obtain ⟨kv',ver',m1,m2,m3,m4⟩:=h.maps i y hi
  exact ⟨kv',ver',by rw [Q0 (Ne.symm he)]; exact m1,by rw [Q0 hne]; exact m2,m3,m4⟩
end
section
variable {σ:List MO} {P B C A:PV} {xb hx T TR:Nat} {k:Bool} {els:List PV} {kvs:List KV}
theorem RInv.frame {σ':List MO} (h:RInv σ P B C A xb hx k T TR els kvs) (e1:σ'[xb]?=σ[xb]?) (e2:σ'[hx]?=σ[hx]?):RInv σ' P B C A xb hx k T TR els kvs:=⟨by rw [e1]; exact h.book,by rw [e2]; exact h.lst,h.el,h.len,h.ne⟩
theorem RInv.put (h:RInv σ P B C A xb hx k T TR els kvs) {j:Nat} (hj:j < els.length) {E:PV} {kv:KV} (hE:E.rowsOf 8=some ((kv.map (kvO j)).map O8.row)) (ha:Asc kv) (hl:kv.length<=40):RInv (σ.set hx (a2K k T (els.set j E))) P B C A xb hx k T TR (els.set j E) (kvs.set j kv):=by
 have hxl:=(Q2.1 h.lst).1
 have hlen:=h.len
 refine ⟨by rw [Q0 h.ne.symm,Qb]; exact h.book,Qd hxl,fun i F hi=>?_,by rw [Qb,Qb]; exact h.len,h.ne⟩
 by_cases he:j=i
 ·subst he
  rw [Qd hj] at hi
  simp only [Qa] at hi; subst hi
  exact ⟨kv,Qd (by omega),hE,ha,hl⟩
 ·rw [Q0 he] at hi
  obtain ⟨kv',m1,m2,m3,m4⟩:=h.el i F hi
  exact ⟨kv',by rw [Q0 he]; exact m1,m2,m3,m4⟩
end
theorem c6o {k:Nat} {p b c a:PV} (j:Nat) {i:Nat} (hi:i<=j) (σ:List MO) (hk:σ.length=k):(σ++nbO k p b c a (j+1))[nh k i]?=some (.mq [] 0):=by
 subst hk
 rw [nbO,Qn (by unfold nh; split<;>omega)]
 by_cases h0:i=0
 ·subst h0
  rw [show nh σ.length 0=σ.length+1 from rfl,show σ.length+1-σ.length=1 by omega]; rfl
 ·rw [show nh σ.length i=σ.length+2+i by unfold nh; rw [if_neg h0],show σ.length+2+i-σ.length=(i-1)+3 by omega]
  simp only [List.getElem?_cons_succ]
  rw [Qh,if_pos (by omega)]
theorem c0k (σ:List MO) (P B C A:PV) (j:Nat):BInv (σ++nbO σ.length P B C A (j+1)) P B C A σ.length (σ.length+2) ((Q5 (j+1)).map (nh σ.length)) (Q1 (j+1) []) where
 book:=by rw [Q6,Qv]; simp [nbO]
 row:=by simp [nbO,a6c]
 maps i h hi:=by
  rw [List.getElem?_map] at hi
  cases hr:(Q5 (j+1))[i]? with
  | none=>rw [hr] at hi; cases hi
  | some i' =>
   rw [hr] at hi
   simp only [Qw,Qa] at hi
   have h1:=(Q2.1 hr).1
   rw [Qv] at h1
   have h2:i'=i:=by rw [List.getElem?_range h1] at hr; simpa using hr.symm
   subst h2 hi
   exact ⟨[],0,by rw [Qh,if_pos h1],c6o j (by omega) σ rfl,Asc.nil,by simp⟩
 len:=by simp
 nd:=by
  rw [List.nodup_iff_pairwise_ne,List.pairwise_map]
  refine (List.pairwise_lt_range (n:=j+1)).imp fun h=>?_
  unfold nh
  repeat' split
  all_goals omega
theorem c4A (σ:List MO) (P B C A:PV) (n TR:Nat):RInv (σ++[.cells (Q1 n .nilS) 41,.cells [P,B,C,A,.msl σ.length 0 n n 1] TR]) P B C A (σ.length+1) σ.length false 41 TR (Q1 n .nilS) (Q1 n []) where
 book:=by rw [Qn (by omega)]; simp [a6k]
 lst:=by rw [Qn (by omega)]; simp [a2K]
 el i E hi:=by
  rw [Qh] at hi
  split at hi
  ·rename_i h1
   simp only [Qa] at hi; subst hi
   exact ⟨[],by rw [Qh,if_pos h1],rfl,Asc.nil,by simp⟩
  ·cases hi
 len:=by simp
 ne:=by omega
end Go.Proofs.Ytflcopaopimlpaa
set_option maxRecDepth 100000
namespace Go.Proofs.Ytflcopaopimlpaa
open Go.Sx Go.Kv
def oW (o:O8):W6:=⟨o.w0,o.w1,o.w2,o.w3,o.w4,o.w5⟩
theorem c7g (o:O8):wl (oW o)=o.w:=rfl
def a3D (kvs:List KV) (o:O8):List KV:=kvs.set o.b.toNat (a7l (kvs.getD o.b.toNat []) (oW o) o.v)
theorem b7C (kvs:List KV) (o:O8):(a3D kvs o).length=kvs.length:=by simp [a3D]
theorem b7V (l:List O8):∀ kvs:List KV,(l.foldl a3D kvs).length=kvs.length:=by
 induction l with
 | nil=>intro kvs; rfl
 | cons o l ih=>intro kvs; rw [Q7,ih,b7C]
def lkF (kvs:List KV) (i:Nat) (k:List Int):Option Int:=(kvs[i]?).bind fun kv=>a0K kv k
def a7A (F:Nat->List Int->Option Int) (o:O8):Nat->List Int->Option Int:=fun i k=>if i=o.b.toNat/\k=o.w then some (mxI ((F i k).getD 0) o.v) else F i k
theorem c6u {kvs:List KV} {o:O8} (h:o.b.toNat < kvs.length):lkF (a3D kvs o)=a7A (lkF kvs) o:=by
 funext i k
 unfold lkF a3D a7A a7l
 rw [c7g]
 have hg:kvs[o.b.toNat]?=some (kvs.getD o.b.toNat []):=by simp [Qe,h]
 by_cases hi:i=o.b.toNat
 ·subst hi
  rw [Qd h,Q4,b6l]
  dsimp only
  rw [hg,Q4]
  by_cases hk:k=o.w
  ·rw [if_pos hk,if_pos ⟨rfl,hk⟩,hk]
  ·rw [if_neg hk,if_neg (fun x=>hk x.2)]
 ·rw [Q0 (fun x=>hi x.symm),if_neg (fun x=>hi x.1)]
theorem b7a:∀ (l:List O8) (kvs:List KV),(∀ o∈l,o.b.toNat < kvs.length)->lkF (l.foldl a3D kvs)=l.foldl a7A (lkF kvs)
 | [],_,_=>rfl
 | o::l,kvs,h=>by
  rw [Q7,Q7,b7a l (a3D kvs o) (fun x hx=>by rw [b7C]; exact h x (by simp [hx])),c6u (h o (by simp))]
theorem c3y (a b c:Int):mxI (mxI a b) c=mxI (mxI a c) b:=by unfold mxI; repeat' split; all_goals omega
theorem c1X (F:Nat->List Int->Option Int) (x y:O8):a7A (a7A F x) y=a7A (a7A F y) x:=by
 funext i k
 unfold a7A
 by_cases h1:i=x.b.toNat/\k=x.w<;>by_cases h2:i=y.b.toNat/\k=y.w
 ·simp only [if_pos h1,if_pos h2,Option.getD_some]; rw [c3y]
 ·simp only [if_pos h1,if_neg h2]
 ·simp only [if_neg h1,if_pos h2]
 ·simp only [if_neg h1,if_neg h2]
theorem c3h {l l':List O8} (h:l.Perm l'):∀ F,l.foldl a7A F=l'.foldl a7A F:=by
 induction h with
 | nil=>intro F; rfl
 | cons x _ ih=>intro F; exact ih _
 | swap x y l=>intro F; simp only [Q7]; rw [c1X]
 | trans _ _ i1 i2=>intro F; rw [i1,i2]
theorem c6n {a b:KV} (ha:Asc a) (hb:Asc b) (h:∀ k,a0K a k=a0K b k):a=b:=b4O ha hb (c0N ha.nd hb.nd h)
theorem c5H {a b:List KV} (hl:a.length=b.length) (ha:∀ kv∈a,Asc kv) (hb:∀ kv∈b,Asc kv) (h:lkF a=lkF b):a=b:=by
 apply List.ext_getElem hl
 intro i h1 h2
 refine c6n (ha _ (Qy h1)) (hb _ (Qy h2)) fun k=>?_
 have:=congrFun (congrFun h i) k
 unfold lkF at this
 rw [Qz h1,Qz h2] at this
 simpa using this
theorem c2Q {kvs:List KV} (h:∀ kv∈kvs,Asc kv) (o:O8):∀ kv∈a3D kvs o,Asc kv:=by
 intro kv hk
 rcases Qp hk with hk | rfl
 ·exact h kv hk
 ·refine Asc.put ?_ rfl _
  unfold Qe
  cases hg:kvs[o.b.toNat]? with
  | none=>exact Asc.nil
  | some x=>exact h x (Q3 hg)
theorem b3L:∀ (l:List O8) (kvs:List KV),(∀ kv∈kvs,Asc kv)->∀ kv∈l.foldl a3D kvs,Asc kv
 | [],_,h=>h
 | o::l,kvs,h=>b3L l _ (c2Q h o)
theorem c1Z {l l':List O8} (hp:l.Perm l') {kvs:List KV} (hb:∀ o∈l,o.b.toNat < kvs.length) (ha:∀ kv∈kvs,Asc kv):l.foldl a3D kvs=l'.foldl a3D kvs :=
 c5H (by rw [b7V,b7V]) (b3L l kvs ha) (b3L l' kvs ha) (by
  rw [b7a l kvs hb,b7a l' kvs (fun o ho=>hb o (hp.mem_iff.2 ho)),c3h hp])
theorem b5H {kvs:List KV} {m:Nat} (ha:∀ kv∈kvs,Asc kv) (h:∀ kv∈kvs,kv.length<=m) (o:O8):∀ kv∈a3D kvs o,kv.length<=m+1:=by
 intro kv hk
 rcases Qp hk with hk | rfl
 ·have:=h kv hk; omega
 ·have hx:Asc (kvs.getD o.b.toNat [])/\(kvs.getD o.b.toNat []).length<=m:=by
   unfold Qe
   cases hg:kvs[o.b.toNat]? with
   | none=>exact ⟨Asc.nil,by simp⟩
   | some x=>exact ⟨ha x (Q3 hg),h x (Q3 hg)⟩
  unfold a7l
  rw [b9J hx.1]
  split<;>omega
theorem b4z {ps:List Pr} {bs:List Bd} {cs ad:List Tri} {kv:KV} {i:Int} {b:W6} {v:Int} (h:a6g ps bs cs ad kv i b v=0) {kv':KV} (hk:kv'.length < 40):a6g ps bs cs ad kv' i b v=0:=by
 unfold a6g at *
 by_cases h1:ltB v 1=true
 ·rw [if_pos h1] at h; cases h
 rw [if_neg h1] at h ⊢
 by_cases h2:ltB 1000000 v=true
 ·rw [if_pos h2] at h; cases h
 rw [if_neg h2] at h ⊢
 by_cases h3:a7W ps bs cs ad i b=0
 ·rw [if_pos h3] at h ⊢
  by_cases h4:w0B b=true
  ·rw [if_pos h4] at h; cases h
  rw [if_neg h4] at h ⊢
  split at h
  ·cases h
  ·rename_i h5
   rw [if_neg h5,if_neg (by simp; intro _; omega)]
 ·rw [if_neg h3] at h; exact absurd h h3
end Go.Proofs.Ytflcopaopimlpaa
set_option maxRecDepth 100000
namespace Go.Proofs.Ytflcopaopimlpaa
open Go.Sx Go.Kv
theorem c0Q {σ:List MO} {x:Nat} {o:MO} (h:σ.all (MO.low σ.length)=true) (ho:o.low σ.length=true):(σ.set x o).all (MO.low (σ.set x o).length)=true:=by
 rw [Qb]
 refine Q8.2 fun y hy=>?_
 rcases Qp hy with hy | rfl
 ·exact Q8.1 h y hy
 ·exact ho
theorem b8P (k:Nat):∀ l:List O8,PV.lowss k (l.map O8.row)=true
 | []=>rfl
 | o::l=>by simp only [Qj,PV.lowss,b8P k l,Qf]; rfl
theorem c4e {E:PV} {l:List O8} (h:E.rowsOf 8=some (l.map O8.row)) (k:Nat):E.low k=true:=by
 unfold PV.rowsOf at h
 split at h
 ·rfl
 ·split at h
  ·simp only [Qa] at h; subst h; exact b8P k l
  ·cases h
 ·cases h
theorem b8R {k:Nat} {E:PV} (hE:E.low k=true):∀ {els:List PV} {j:Nat},PV.lows k els=true->PV.lows k (els.set j E)=true
 | [],_,_=>rfl
 | e::els,0,h=>by simp only [PV.lows,Qk] at h; simp only [List.set_cons_zero,PV.lows,hE,h.2,Qq]
 | e::els,j+1,h=>by simp only [PV.lows,Qk] at h; simp only [List.set_cons_succ,PV.lows,h.1,b8R hE h.2,Qq]
theorem b7M {k:Nat}:∀ {els:List PV},PV.lowss k (els.map fun e=>[e])=PV.lows k els
 | []=>rfl
 | e::els=>by simp only [Qj,PV.lowss,PV.lows,Qf,b7M (els:=els)]
theorem c0w {k:Nat} {b:Bool} {T:Nat} {els:List PV}:(a2K b T els).low k=PV.lows k els:=by
 cases b
 ·rfl
 ·show PV.lowss k (els.map fun e=>[e])=_; exact b7M
theorem b7z {ps:List Pr} {bs:List Bd} {cs ad:List Tri} {kv:KV} {i:Int} {b:W6} {v:Int} (ha:Asc kv) (hk:kv.length<=40) (h:a6g ps bs cs ad kv i b v=0):(a7l kv b v).length<=40:=by
 unfold a7l
 rw [b9J ha]
 split
 ·exact hk
 ·rename_i hl
  unfold a6g at h
  repeat' split at h
  all_goals first | (cases h; done) | skip
  ·rename_i h6
   simp only [Qk,Bool.not_eq_true',decide_eq_true_eq,not_and,Nat.not_le] at h6
   have:=h6 (by simpa using hl)
   omega
  ·rename_i h3; exact absurd h h3
section
variable (σ:List MO) (ps:List Pr) (bs:List Bd) (cs ad:List Tri) (P B C A:PV) (hP:P.rowsOf 5=some (ps.map Pr.row)) (hB:B.rowsOf 4=some (bs.map Bd.row)) (hC:C.rowsOf 3=some (cs.map Tri.row)) (hA:A.rowsOf 3=some (ad.map Tri.row)) (hlow:σ.all (MO.low σ.length)=true) (hv:a5j ps bs cs ad=0) (n:Nat) (hn:1300<=n)
include hP hB hC hA hlow hv hn in
theorem c2O {hb hl:Nat} {hs:List Nat} {kvs:List KV} (h:BInv σ P B C A hb hl hs kvs) (hsl:hs.length=bs.length) (o:O8) (h0:0<=o.b) (h1:o.b < (bs.length:Int)) (he:a6g ps bs cs ad (kvs.getD o.b.toNat []) o.b (oW o) o.v=0) :
  ∃ x∈hs,∃ kv ver,a0B Tab n a5t [.ref hb 0,.int .i64 o.b,.agg (oW o).pv,.int .i64 o.v] σ=some (.int .i64 0,σ.set x (.mq kv ver))/\BInv (σ.set x (.mq kv ver)) P B C A hb hl hs (a3D kvs o)/\(σ.set x (.mq kv ver)).all (MO.low (σ.set x (.mq kv ver)).length)=true:=by
 obtain ⟨j,hj⟩:∃ j:Nat,o.b=(j:Int):=⟨o.b.toNat,by omega⟩
 obtain ⟨x,hx⟩:=a0W (show j < hs.length by omega)
 obtain ⟨kv,ver,g1,g2,g3,g4⟩:=h.maps j x hx
 have hjt:o.b.toNat=j:=by omega
 have hg:kvs.getD o.b.toNat []=kv:=by rw [hjt]; simp [Qe,g1]
 rw [hg] at he
 have:=c6m σ ps bs cs ad P B C A hP hB hC hA n hlow hv h.bkL hsl hx g2 g3.wide (oW o) o.v hn
 rw [hj] at he
 rw [if_pos he,he,<- hj] at this
 refine ⟨x,Q3 hx,_,_,this,?_,c0Q hlow rfl⟩
 unfold a3D
 rw [hg,hjt]
 exact h.put hx (g3.put rfl _) (b7z g3 g4 he) _
include hP hB hC hA hlow hv hn in
theorem c2t {xb hx T TR:Nat} {k:Bool} {els:List PV} {kvs:List KV} (h:RInv σ P B C A xb hx k T TR els kvs) (hel:els.length=bs.length) (o:O8) :
  (∃ e:Int,¬ e=0/\a0B Tab n a1N [.ref xb 0,.int .i64 o.b,.agg (oW o).pv,.int .i64 o.v] σ=some (.int .i64 e,σ)) \/
  (0<=o.b/\o.b < (bs.length:Int)/\a6g ps bs cs ad (kvs.getD o.b.toNat []) o.b (oW o) o.v=0/\∃ els':List PV,els'.length=els.length/\a0B Tab n a1N [.ref xb 0,.int .i64 o.b,.agg (oW o).pv,.int .i64 o.v] σ=some (.int .i64 0,σ.set hx (a2K k T els'))/\RInv (σ.set hx (a2K k T els')) P B C A xb hx k T TR els' (a3D kvs o)/\(σ.set hx (a2K k T els')).all (MO.low (σ.set hx (a2K k T els')).length)=true):=by
 by_cases hi:(leB 0 o.b&&ltB o.b (els.length:Int))=true
 case neg =>
  exact .inl ⟨6,by decide,c6x σ k xb hx TR P B C A els h.book n (by simpa using hi) (oW o) o.v (by omega)⟩
 rw [Qk,a2n,a0U] at hi
 obtain ⟨j,hj⟩:∃ j:Nat,o.b=(j:Int):=⟨o.b.toNat,by omega⟩
 obtain ⟨E,hE⟩:=a0W (show j < els.length by omega)
 obtain ⟨kv,g1,g2,g3,g4⟩:=h.el j E hE
 have hjt:o.b.toNat=j:=by omega
 have hg:kvs.getD o.b.toNat []=kv:=by rw [hjt]; simp [Qe,g1]
 obtain ⟨E',r1,r2⟩:=c4Z σ k xb hx T TR ps bs cs ad P B C A hP hB hC hA els h.book h.lst n hv hel hE g2 g3 g4 (oW o) o.v hn
 by_cases he:a6g ps bs cs ad kv (j:Int) (oW o) o.v=0
 ·rw [if_pos he,he,<- hj] at r2
  refine .inr ⟨hi.1,by omega,by rw [hg,hj]; exact he,els.set j E',by rw [Qb],r2,?_,c0Q hlow ?_⟩
  ·unfold a3D
   rw [hg,hjt]
   exact h.put (by omega) r1 (g3.put rfl _) (b7z g3 g4 he)
  ·rw [c0w]
   have hl:=Q8.1 hlow _ (Q3 h.lst)
   rw [c0w] at hl
   exact b8R (c4e r1 _) hl
 ·rw [if_neg he,<- hj] at r2
  exact .inl ⟨_,by rw [hj]; exact he,r2⟩
end
end Go.Proofs.Ytflcopaopimlpaa
set_option maxRecDepth 100000
namespace Go.Proofs.Ytflcopaopimlpaa
open Go.Sx Go.Kv
structure Three (σ:List MO) (P B C A:PV) (ha la hb lb xb hx TR:Nat) (as' bs':List Nat) (els:List PV) (ka kb kx:List KV):Prop where
 a:BInv σ P B C A ha la as' ka
 b:BInv σ P B C A hb lb bs' kb
 x:RInv σ P B C A xb hx false 41 TR els kx
 dj:∀ y∈as',y ∉ bs'
 n1:hx≠ha
 n2:hx≠hb
 low:σ.all (MO.low σ.length)=true
section
variable {σ:List MO} {P B C A:PV} {ha la hb lb xb hx TR:Nat} {as' bs':List Nat} {els:List PV} {ka kb kx:List KV}
theorem BInv.mq {hb hl:Nat} {hs:List Nat} {kvs:List KV} (h:BInv σ P B C A hb hl hs kvs) {y:Nat} (hy:y∈hs):∃ kv ver,σ[y]?=some (.mq kv ver):=by
 obtain ⟨i,hi⟩:=Qg hy
 obtain ⟨kv,ver,_,h2,_⟩:=h.maps i y hi
 exact ⟨kv,ver,h2⟩
theorem Three.setA (h:Three σ P B C A ha la hb lb xb hx TR as' bs' els ka kb kx) {y:Nat} (hy:y∈as') {o:MO} {ka':List KV} (h1:BInv (σ.set y o) P B C A ha la as' ka') (h2:(σ.set y o).all (MO.low (σ.set y o).length)=true):Three (σ.set y o) P B C A ha la hb lb xb hx TR as' bs' els ka' kb kx:=by
 obtain ⟨kv,ver,hm⟩:=h.a.mq hy
 refine ⟨h1,h.b.frame ?_ ?_ fun z hz=>?_,h.x.frame ?_ ?_,h.dj,h.n1,h.n2,h2⟩
 ·exact Q0 (by rintro rfl; rw [h.b.book] at hm; cases hm)
 ·exact Q0 (by rintro rfl; rw [h.b.row] at hm; cases hm)
 ·exact Q0 (by rintro rfl; exact h.dj _ hy hz)
 ·exact Q0 (by rintro rfl; rw [h.x.book] at hm; cases hm)
 ·exact Q0 (by rintro rfl; rw [h.x.lst] at hm; cases hm)
theorem Three.setB (h:Three σ P B C A ha la hb lb xb hx TR as' bs' els ka kb kx) {y:Nat} (hy:y∈bs') {o:MO} {kb':List KV} (h1:BInv (σ.set y o) P B C A hb lb bs' kb') (h2:(σ.set y o).all (MO.low (σ.set y o).length)=true):Three (σ.set y o) P B C A ha la hb lb xb hx TR as' bs' els ka kb' kx:=by
 obtain ⟨kv,ver,hm⟩:=h.b.mq hy
 refine ⟨h.a.frame ?_ ?_ fun z hz=>?_,h1,h.x.frame ?_ ?_,h.dj,h.n1,h.n2,h2⟩
 ·exact Q0 (by rintro rfl; rw [h.a.book] at hm; cases hm)
 ·exact Q0 (by rintro rfl; rw [h.a.row] at hm; cases hm)
 ·exact Q0 (by rintro rfl; exact h.dj _ hz hy)
 ·exact Q0 (by rintro rfl; rw [h.x.book] at hm; cases hm)
 ·exact Q0 (by rintro rfl; rw [h.x.lst] at hm; cases hm)
theorem Three.setX (h:Three σ P B C A ha la hb lb xb hx TR as' bs' els ka kb kx) {els':List PV} {kx':List KV} (h1:RInv (σ.set hx (a2K false 41 els')) P B C A xb hx false 41 TR els' kx') (h2:(σ.set hx (a2K false 41 els')).all (MO.low (σ.set hx (a2K false 41 els')).length)=true):Three (σ.set hx (a2K false 41 els')) P B C A ha la hb lb xb hx TR as' bs' els' ka kb kx':=by
 have hl:=h.x.lst
 have ne:∀ {y:Nat} {kv:KV} {ver:Nat},σ[y]?=some (.mq kv ver)->hx≠y:=fun hm=>by rintro rfl; rw [hl] at hm; cases hm
 refine ⟨h.a.frame (Q0 h.n1) ?_ fun z hz=>?_,h.b.frame (Q0 h.n2) ?_ fun z hz=>?_,h1,h.dj,h.n1,h.n2,h2⟩
 ·exact Q0 (by rintro rfl; rw [h.a.row] at hl; cases hl)
 ·obtain ⟨_,_,hm⟩:=h.a.mq hz; exact Q0 (ne hm)
 ·exact Q0 (by rintro rfl; rw [h.b.row] at hl; cases hl)
 ·obtain ⟨_,_,hm⟩:=h.b.mq hz; exact Q0 (ne hm)
end
section
variable (TW:Nat->Option Sx.Sys) (n:Nat) (up:∀ {f:Nat} {a:List PV} {m:List MO} {r:PV × List MO},a0B Tab n f a m=some r->a0B TW n f a m=some r) (aw:∀ σ,a0B TW n a0V [] σ=some (.bool true,σ))
variable (ps:List Pr) (bs:List Bd) (cs ad:List Tri) (P B C A:PV) (hP:P.rowsOf 5=some (ps.map Pr.row)) (hB:B.rowsOf 4=some (bs.map Bd.row)) (hC:C.rowsOf 3=some (cs.map Tri.row)) (hA:A.rowsOf 3=some (ad.map Tri.row)) (hv:a5j ps bs cs ad=0) (hn:1300<=n)
variable (l:List O8) (E:PV) (hE:E.rowsOf 8=some (l.map O8.row)) (hl30:l.length<=30) {ha la hb lb xb hx TR:Nat} {as' bs':List Nat}
def a7Y (σ:List MO) (E:PV) (a b x:Nat) (i:Int):PEnv:={ i:=[i],b:=[],v:=[E,.ref a 0,.ref b 0,.ref x 0],m:=σ,k:=0 }
theorem c3O (σ:List MO) (is:List Int) (b:List Bool) (vs:List PV) (z:Bool):a0D { i:=is,b:=b,v:=vs,m:=σ,k:=0 } false (.bool z)=some (.bool z,[]):=by
 unfold a0D
 dsimp only
 split
 ·rename_i h
  have h:σ=[]:=by
   rcases h with h | h
   ·cases h
   ·exact List.length_eq_zero_iff.1 h
  rw [h]
 ·rw [List.take_zero]; rfl
def Met (ps:List Pr) (bs:List Bd) (cs ad:List Tri) (o:O8):Prop:=0<=o.b/\o.b < (bs.length:Int)/\∃ kv,a6g ps bs cs ad kv o.b (oW o) o.v=0
include up aw hP hB hC hA hv hn hE in
theorem c5l:∀ d i,i+d=l.length->∀ (σ:List MO) (els:List PV) (ka kb kx:List KV),Three σ P B C A ha la hb lb xb hx TR as' bs' els ka kb kx->els.length=bs.length->(∀ o∈l.take i,Met ps bs cs ad o)->l.length<=1000 ->
  ∀ fuel,(saleroomlaw16_BidbookOrder_S.loop (a0B TW n) (fuel+d+1) 0 (a7Y σ E ha hb xb (i:Int))=some (.bool true,[])) \/
   ((∀ o∈l,Met ps bs cs ad o)/\∃ σ' els',Three σ' P B C A ha la hb lb xb hx TR as' bs' els' ka kb ((l.drop i).foldl a3D kx)/\els'.length=bs.length/\saleroomlaw16_BidbookOrder_S.loop (a0B TW n) (fuel+d+1) 0 (a7Y σ E ha hb xb (i:Int))=saleroomlaw16_BidbookOrder_S.loop (a0B TW n) fuel 1 (a7Y σ' E ha hb xb 0)):=by
 obtain ⟨p1,p2,p3⟩:=a0C hE
 rw [Q6] at p1
 intro d
 induction d with
 | zero =>
  intro i hi σ els ka kb kx h hel hm _ fuel
  rw [Nat.add_zero] at hi; subst hi
  refine .inr ⟨by rw [List.take_length] at hm; exact hm,σ,els,by rw [Qr]; exact h,hel,?_⟩
  have hd:decide (l.length < l.length)=false:=by simp
  rw [Sys.loop,show saleroomlaw16_BidbookOrder_S.loops[0]?=some a1p from rfl]
  simp -implicitDefEqProofs only [Q4,a7Y,a1p,↓reduceIte,eq_self,ξF,ξG,ξH,ξI,ξJ,ξK,ξL,ξM,ξN,ξO,ξP,ξQ,ξR,ξS,ξT,ξU,ξV,ξW,ξX,ξY,ξ2,ξ3,ξ4,ξ5,ξ6,ξ7,ξ8,ξ9,ξa,ξb,ξc,ξd,ξe,ξf,ξg,ξh,Nat.reduceAdd,ξi,if_true,if_false,ξl,ξm,ξn,ξo,ξp,ξq,ξr,ξs,ξt,ξu,ξv,ξw,ξx,ξy,ξz,ξA,ξB,ξC,ξD,ξE,p1,p2,a0F,hd]
 | succ d ih =>
  intro i hi σ els ka kb kx h hel hm hi1 fuel
  obtain ⟨o,ho⟩:=a0W (show i < l.length by omega)
  have hd:decide (i < l.length)=true:=decide_eq_true (by omega)
  have q0:=a0G (off:=0) hE (a2T ho)
  have q1:=a0G (off:=1) hE (a2T ho)
  have q7:=a0G (off:=7) hE (a2T ho)
  obtain ⟨d1,d7⟩:=dr8 (.int .i64 o.b) (.int .i64 o.w0) (.int .i64 o.w1) (.int .i64 o.w2) (.int .i64 o.w3) (.int .i64 o.w4) (.int .i64 o.w5) (.int .i64 o.v)
  have hup:=a1y (show i<=1000000000 by omega)
  have aw1:=aw σ
  simp only [a0V] at aw1
  have hr:=c3O σ
  rw [show fuel+(d+1)+1=(fuel+d+1)+1 from rfl,Sys.loop,show saleroomlaw16_BidbookOrder_S.loops[0]?=some a1p from rfl]
  rcases c2t σ ps bs cs ad P B C A hP hB hC hA h.low hv n hn h.x hel o with ⟨e,he,hp⟩ | ⟨g1,g2,g3,els',g4,hp,g5,g6⟩
  ·have hp:=up hp
   simp only [a1N,W6.pv,oW] at hp
   have e0:eqB e 0=false:=decide_eq_false he
   refine .inl ?_
   simp -implicitDefEqProofs only [Q4,a7Y,a1p,↓reduceIte,eq_self,ξF,ξG,ξH,ξI,ξJ,ξK,ξL,ξM,ξN,ξO,ξP,ξQ,ξR,ξS,ξT,ξU,ξV,ξW,ξX,ξY,ξ2,ξ3,ξ4,ξ5,ξ6,ξ7,ξ8,ξ9,ξa,ξb,ξc,ξd,ξe,ξf,ξg,ξh,Nat.reduceAdd,ξi,if_true,if_false,ξl,ξm,ξn,ξo,ξp,ξq,ξr,ξs,ξt,ξu,ξv,ξw,ξx,ξy,ξz,ξA,ξB,ξC,ξD,ξE,p1,p2,a0F,hd,le0,q0,q1,q7,a4z,d1,d7,Nat.reduceLeDiff,hp,e0,aw1,hr]
  ·have hp:=up hp
   simp only [a1N,W6.pv,oW] at hp
   have e0:eqB 0 0=true:=rfl
   have st:∀ R,(saleroomlaw16_BidbookOrder_S.loop (a0B TW n) (fuel+d+1) 0 (a7Y (σ.set hx (a2K false 41 els')) E ha hb xb ((i:Int)+1))=R)->((PT.ev (a0B TW n) a1p (a7Y σ E ha hb xb (i:Int))).bind fun x=>match x with
     | Res.ret r σ=>some (r,σ)
     | Res.jump q' ρ'=>saleroomlaw16_BidbookOrder_S.loop (a0B TW n) (fuel+d+1) q' ρ')=R:=by
    intro R hR
    rw [<- hR]
    simp -implicitDefEqProofs only [Q4,a7Y,a1p,↓reduceIte,eq_self,ξF,ξG,ξH,ξI,ξJ,ξK,ξL,ξM,ξN,ξO,ξP,ξQ,ξR,ξS,ξT,ξU,ξV,ξW,ξX,ξY,ξ2,ξ3,ξ4,ξ5,ξ6,ξ7,ξ8,ξ9,ξa,ξb,ξc,ξd,ξe,ξf,ξg,ξh,Nat.reduceAdd,ξi,if_true,if_false,ξl,ξm,ξn,ξo,ξp,ξq,ξr,ξs,ξt,ξu,ξv,ξw,ξx,ξy,ξz,ξA,ξB,ξC,ξD,ξE,p1,p2,a0F,hd,le0,q0,q1,q7,a4z,d1,d7,Nat.reduceLeDiff,hp,e0,if_pos hup]
   have ih:=ih (i+1) (by omega) _ els' ka kb _ (h.setX g5 g6) (by omega) (by
    intro o' ho'
    rw [List.take_add_one,ho] at ho'
    rcases Qs.1 ho' with h1 | h1
    ·exact hm o' h1
    ·have:o'=o:=by simpa using h1
     rw [this]; exact ⟨g1,g2,_,g3⟩) (by omega) fuel
   rw [a0Q] at ih
   rcases ih with ih | ⟨ih1,σ',els'',ih2,ih3,ih4⟩
   ·exact .inl (st _ ih)
   ·refine .inr ⟨ih1,σ',els'',?_,ih3,st _ ih4⟩
    rw [a3v ho,Q7]; exact ih2
end
end Go.Proofs.Ytflcopaopimlpaa
set_option maxRecDepth 100000
namespace Go.Proofs.Ytflcopaopimlpaa
open Go.Sx Go.Kv
theorem b9a {m:Nat}:∀ (kvs:List KV) (i:Nat),(∀ kv∈kvs,kv.length<=m)->(a6h i kvs).length<=kvs.length*m
 | [],_,_=>by simp [a6h]
 | kv::r,i,h=>by
  have h1:=b9a r (i+1) (fun x hx=>h x (by simp [hx]))
  have h2:=h kv (by simp)
  rw [a6h,QA,Q6,QB,Nat.add_mul,Nat.one_mul]
  omega
section
variable (TW:Nat->Option Sx.Sys) (n:Nat) (up:∀ {f:Nat} {a:List PV} {m:List MO} {r:PV × List MO},a0B Tab n f a m=some r->a0B TW n f a m=some r) (aw:∀ σ,a0B TW n a0V [] σ=some (.bool true,σ))
variable (ps:List Pr) (bs:List Bd) (cs ad:List Tri) (P B C A:PV) (hP:P.rowsOf 5=some (ps.map Pr.row)) (hB:B.rowsOf 4=some (bs.map Bd.row)) (hC:C.rowsOf 3=some (cs.map Tri.row)) (hA:A.rowsOf 3=some (ad.map Tri.row)) (hv:a5j ps bs cs ad=0) (hn:1300<=n)
variable (l:List O8) (E:PV) (hE:E.rowsOf 8=some (l.map O8.row)) (hl30:l.length<=30) {ha la hb lb xb hx TR:Nat} {as' bs':List Nat}
include up aw hP hB hC hA hv hn hE hl30 in
theorem c4Q (hN:bs.length<=10) (hmet:∀ o∈l,Met ps bs cs ad o) (hla:as'.length=bs.length) (hlb:bs'.length=bs.length) {els:List PV} {kx:List KV} (hel:els.length=bs.length):∀ d i,i+d=l.length->∀ (σ:List MO) (ka kb:List KV),Three σ P B C A ha la hb lb xb hx TR as' bs' els ka kb kx ->
  (∀ kv∈ka,kv.length<=i)->(∀ kv∈kb,kv.length<=i)->(l.drop i).foldl a3D ka=kx->(l.reverse.drop i).foldl a3D kb=kx->∀ fuel,saleroomlaw16_BidbookOrder_S.loop (a0B TW n) (fuel+d+1) 1 (a7Y σ E ha hb xb (i:Int))=some (.bool true,[]):=by
 obtain ⟨p1,p2,p3⟩:=a0C hE
 rw [Q6] at p1
 intro d
 induction d with
 | zero =>
  intro i hi σ ka kb h _ sa hka hkb fuel
  rw [Nat.add_zero] at hi; subst hi
  have hka:ka=kx:=by rw [Qr] at hka; exact hka
  have hkb:kb=kx:=by rw [show l.length=l.reverse.length by simp,Qr] at hkb; exact hkb
  subst hka hkb
  have hd:decide (l.length < l.length)=false:=by simp
  have w:∀ {hb hl:Nat} {hs:List Nat},BInv σ P B C A hb hl hs kb->∀ (i h:Nat),hs[i]?=some h->∃ kv ver,kb[i]?=some kv/\σ[h]?=some (.mq kv ver)/\Asc kv/\kv.length<=1000:=fun hv i h hi=>by
   obtain ⟨kv,ver,m1,m2,m3,m4⟩:=hv.maps i h hi
   exact ⟨kv,ver,m1,m2,m3,by omega⟩
  obtain ⟨X1,x1,x2⟩:=c0z σ h.low ha as' h.a.bkMs kb h.a.len (w h.a) (by omega) n (by omega)
  obtain ⟨X2,y1,y2⟩:=c0z σ h.low hb bs' h.b.bkMs kb h.b.len (w h.b) (by omega) n (by omega)
  obtain ⟨X3,z1,z2⟩:=c4g σ false xb hx 41 TR P B C A els h.x.book h.x.lst kb h.x.len (fun i E hi=>by
   obtain ⟨kv,m1,m2,m3,m4⟩:=h.x.el i E hi
   exact ⟨kv,m1,m2,by omega⟩) (by omega) n (by omega)
  have hsz:(a6h 0 kb).length<=1000:=by
   have:=b9a (m:=l.length) kb 0 sa
   rw [h.x.len] at this
   have h2:els.length*l.length<=10*30:=Nat.mul_le_mul (by omega) hl30
   omega
  have c1:=b9k σ (a6h 0 kb) X1 X2 x1 y1 hsz n (by omega)
  have c2:=b9k σ (a6h 0 kb) X1 X3 x1 z1 hsz n (by omega)
  obtain ⟨_,_,o1⟩:=a0C x1
  obtain ⟨_,_,o2⟩:=a0C y1
  obtain ⟨_,_,o3⟩:=a0C z1
  have x2:=up x2
  have y2:=up y2
  have z2:=up z2
  have c1:=up c1
  have c2:=up c2
  have aw1:=aw σ
  have hr:=c3O σ
  simp only [a0V,a7K,a5p,a6P] at aw1 x2 y2 z2 c1 c2
  rw [Sys.loop,show saleroomlaw16_BidbookOrder_S.loops[1]?=some a1K from rfl]
  simp -implicitDefEqProofs only [Q4,a7Y,a1K,↓reduceIte,eq_self,ξF,ξG,ξH,ξI,ξJ,ξK,ξL,ξM,ξN,ξO,ξP,ξQ,ξR,ξS,ξT,ξU,ξV,ξW,ξX,ξY,ξ2,ξ3,ξ4,ξ5,ξ6,ξ7,ξ8,ξ9,ξa,ξb,ξc,ξd,ξe,ξf,ξg,ξh,Nat.reduceAdd,ξi,if_true,if_false,ξl,ξm,ξn,ξo,ξp,ξq,ξr,ξs,ξt,ξu,ξv,ξw,ξx,ξy,ξz,ξA,ξB,ξC,ξD,ξE,p1,p2,a0F,hd,x2,y2,z2,c1,c2,o1,o2,o3,aw1,hr]
 | succ d ih =>
  intro i hi σ ka kb h sa sb hka hkb fuel
  obtain ⟨o,ho⟩:=a0W (show i < l.length by omega)
  obtain ⟨u,hu⟩:=a0W (show l.length-1-i < l.length by omega)
  have hur:l.reverse[i]?=some u:=by rw [List.getElem?_reverse (by omega)]; exact hu
  have hd:decide (i < l.length)=true:=decide_eq_true (by omega)
  have hdm:decide (l.length-1-i < l.length)=true:=decide_eq_true (by omega)
  have q0:=a0G (off:=0) hE (a2T ho)
  have q1:=a0G (off:=1) hE (a2T ho)
  have q7:=a0G (off:=7) hE (a2T ho)
  have r0:=a0G (off:=0) hE (a2T hu)
  have r1:=a0G (off:=1) hE (a2T hu)
  have r7:=a0G (off:=7) hE (a2T hu)
  obtain ⟨d1,d7⟩:=dr8 (.int .i64 o.b) (.int .i64 o.w0) (.int .i64 o.w1) (.int .i64 o.w2) (.int .i64 o.w3) (.int .i64 o.w4) (.int .i64 o.w5) (.int .i64 o.v)
  obtain ⟨e1,e7⟩:=dr8 (.int .i64 u.b) (.int .i64 u.w0) (.int .i64 u.w1) (.int .i64 u.w2) (.int .i64 u.w3) (.int .i64 u.w4) (.int .i64 u.w5) (.int .i64 u.v)
  have hup:=a1y (show i<=1000000000 by omega)
  have hmi:(l.length:Int)-1-(i:Int)=((l.length-1-i:Nat):Int):=by omega
  have i1:=a1q (z:=(l.length:Int)-1) (by omega)
  have i2:=a1q (z:=((l.length-1-i:Nat):Int)) (by omega)
  have e0:eqB 0 0=true:=rfl
  obtain ⟨m1,m2,kvo,m3⟩:=hmet o (Q3 ho)
  obtain ⟨t1,t2,kvu,t3⟩:=hmet u (Q3 hu)
  have small:∀ {kvs:List KV} (j:Nat),(∀ kv∈kvs,kv.length<=i)->(kvs.getD j []).length < 40:=fun {kvs} j hs=>by
   unfold Qe
   cases hg:kvs[j]? with
   | none=>simp
   | some x=>have:=hs x (Q3 hg); simp; omega
  have ascA:∀ kv∈ka,Asc kv:=fun kv hk=>by
   obtain ⟨j,hj⟩:=Qg hk
   have hj1:=(Q2.1 hj).1
   obtain ⟨x,hx'⟩:=a0W (show j < as'.length by rw [<- h.a.len]; exact hj1)
   obtain ⟨kv',ver,a1,_,a3,_⟩:=h.a.maps j x hx'
   rw [hj] at a1; cases a1; exact a3
  have ascB':∀ kv∈kb,Asc kv:=fun kv hk=>by
   obtain ⟨j,hj⟩:=Qg hk
   have hj1:=(Q2.1 hj).1
   obtain ⟨x,hx'⟩:=a0W (show j < bs'.length by rw [<- h.b.len]; exact hj1)
   obtain ⟨kv',ver,a1,_,a3,_⟩:=h.b.maps j x hx'
   rw [hj] at a1; cases a1; exact a3
  obtain ⟨y1,hy1,kv1,ver1,P1,I1,L1⟩:=c2O σ ps bs cs ad P B C A hP hB hC hA h.low hv n hn h.a hla o m1 m2 (b4z m3 (small _ sa))
  have h':=h.setA hy1 I1 L1
  obtain ⟨y2,hy2,kv2,ver2,P2,I2,L2⟩:=c2O _ ps bs cs ad P B C A hP hB hC hA h'.low hv n hn h'.b hlb u t1 t2 (b4z t3 (small _ sb))
  have h'':=h'.setB hy2 I2 L2
  have P1:=up P1
  have P2:=up P2
  simp only [a5t,W6.pv,oW] at P1 P2
  have ih:=ih (i+1) (by omega) _ _ _ h'' (b5H ascA sa o) (b5H ascB' sb u) (by rw [<- hka,a3v ho,Q7]) (by rw [<- hkb,a3v hur,Q7]) fuel
  rw [a0Q] at ih
  rw [<- ih,show fuel+(d+1)+1=(fuel+d+1)+1 from rfl,Sys.loop,show saleroomlaw16_BidbookOrder_S.loops[1]?=some a1K from rfl]
  simp -implicitDefEqProofs only [Q4,a7Y,a1K,↓reduceIte,eq_self,ξF,ξG,ξH,ξI,ξJ,ξK,ξL,ξM,ξN,ξO,ξP,ξQ,ξR,ξS,ξT,ξU,ξV,ξW,ξX,ξY,ξ2,ξ3,ξ4,ξ5,ξ6,ξ7,ξ8,ξ9,ξa,ξb,ξc,ξd,ξe,ξf,ξg,ξh,Nat.reduceAdd,ξi,if_true,if_false,ξl,ξm,ξn,ξo,ξp,ξq,ξr,ξs,ξt,ξu,ξv,ξw,ξx,ξy,ξz,ξA,ξB,ξC,ξD,ξE,p1,p2,a0F,hd,hdm,le0,hmi,if_pos i1,if_pos i2,q0,q1,q7,r0,r1,r7,a4z,d1,d7,e1,e7,Nat.reduceLeDiff,P1,P2,e0,if_pos hup]
end
end Go.Proofs.Ytflcopaopimlpaa
set_option maxRecDepth 100000
namespace Go.Proofs.Ytflcopaopimlpaa
open Go.Sx Go.Kv
theorem BInv.app {σ:List MO} {P B C A:PV} {hb hl:Nat} {hs:List Nat} {kvs:List KV} (h:BInv σ P B C A hb hl hs kvs) (X:List MO):BInv (σ++X) P B C A hb hl hs kvs:=by
 have up:∀ {i:Nat} {o:MO},σ[i]?=some o->(σ++X)[i]?=σ[i]?:=fun h=>List.getElem?_append_left (Q2.1 h).1
 exact h.frame (up h.book) (up h.row) fun x hx=>by obtain ⟨_,_,hm⟩:=h.mq hx; exact up hm
theorem b7I {α:Type} {row:α->List PV} {k:Nat} (h:∀ x,PV.lows k (row x)=true):∀ l:List α,PV.lowss k (l.map row)=true
 | []=>rfl
 | x::l=>by simp only [Qj,PV.lowss,h x,b7I h l,Qq]
theorem c0l {σ:List MO} (hlow:σ.all (MO.low σ.length)=true) {P B C A:PV} (hp:∀ k,P.low k=true) (hb:∀ k,B.low k=true) (hc:∀ k,C.low k=true) (ha:∀ k,A.low k=true) (j:Nat):(σ++nbO σ.length P B C A (j+1)).all (MO.low (σ++nbO σ.length P B C A (j+1)).length)=true:=by
 have hlen:(σ++nbO σ.length P B C A (j+1)).length=σ.length+3+j:=by simp [nbO]; omega
 rw [hlen]
 refine Q8.2 fun o ho=>?_
 rcases Qs.1 ho with ho | ho
 ·exact MO.low_mono (by omega) (Q8.1 hlow o ho)
 ·simp only [nbO,List.mem_cons] at ho
  rcases ho with rfl | rfl | rfl | ho
  ·show PV.lows _ _=true
   simp only [PV.lows,hp,hb,hc,ha,PV.low,Qt,Qf,decide_eq_true_eq]; omega
  ·rfl
  ·show PV.lowss _ ((Q5 (j+1)).map fun i=>[PV.mp (nh σ.length i)])=true
   have:∀ l:List Nat,(∀ i∈l,i<=j)->PV.lowss (σ.length+3+j) (l.map fun i=>[PV.mp (nh σ.length i)])=true:=by
    intro l
    induction l with
    | nil=>intro _; rfl
    | cons i l ih =>
     intro h
     have h1:=h i (by simp)
     simp only [Qj,PV.lowss,PV.lows,PV.low,ih (fun x hx=>h x (by simp [hx])),Qf,decide_eq_true_eq]
     unfold nh; split<;>omega
   exact this _ fun i hi=>by have:=List.mem_range.1 hi; omega
  ·rw [(Qm.1 ho).2]; rfl
theorem b9h (k:Nat):∀ n,PV.lows k (Q1 n .nilS)=true
 | 0=>rfl
 | n+1=>by simp only [List.replicate_succ,PV.lows,b9h k n,Qf]; rfl
theorem c5c {σ:List MO} (hlow:σ.all (MO.low σ.length)=true) {P B C A:PV} (hp:∀ k,P.low k=true) (hb:∀ k,B.low k=true) (hc:∀ k,C.low k=true) (ha:∀ k,A.low k=true) (n T:Nat):(σ++[MO.cells (Q1 n .nilS) 41,.cells [P,B,C,A,.msl σ.length 0 n n 1] T]).all (MO.low (σ++[MO.cells (Q1 n .nilS) 41,.cells [P,B,C,A,.msl σ.length 0 n n 1] T]).length)=true:=by
 rw [QA]
 refine Q8.2 fun o ho=>?_
 rcases Qs.1 ho with ho | ho
 ·exact MO.low_mono (by omega) (Q8.1 hlow o ho)
 ·simp only [List.mem_cons,List.not_mem_nil,or_false] at ho
  rcases ho with rfl | rfl
  ·exact b9h _ n
  ·show PV.lows _ _=true
   simp only [PV.lows,hp,hb,hc,ha,PV.low,Qt,Qf,decide_eq_true_eq,QB,Q9]; omega
theorem b6o {α:Type} {row:α->List PV} (h:∀ x k,PV.lows k (row x)=true) (n:Nat) (l:List α) (k:Nat):(PV.sl n (l.map row)).low k=true:=b7I (fun x=>h x k) l
theorem b6E {α:Type} (sz:Nat) (row:α->List PV) (l:List α) (h:l.length<=1000000):clB sz (.sl sz (l.map row))=true:=by
 simp only [clB,decide_true,Qt,decide_eq_true_eq,Q6]; exact h
theorem c3v (P B C A:PV) (hp:∀ k,P.low k=true) (hb:∀ k,B.low k=true) (hc:∀ k,C.low k=true) (ha:∀ k,A.low k=true) (j TR:Nat) :
  ∀ σ1 σ2,σ1=[]++nbO 0 P B C A (j+1)->σ2=σ1++nbO σ1.length P B C A (j+1)->Three (σ2++[.cells (Q1 (j+1) .nilS) 41,.cells [P,B,C,A,.msl σ2.length 0 (j+1) (j+1) 1] TR]) P B C A 0 2 σ1.length (σ1.length+2) (σ2.length+1) σ2.length TR ((Q5 (j+1)).map (nh 0)) ((Q5 (j+1)).map (nh σ1.length)) (Q1 (j+1) .nilS) (Q1 (j+1) []) (Q1 (j+1) []) (Q1 (j+1) [])/\σ1.all (MO.low σ1.length)=true/\σ2.all (MO.low σ2.length)=true:=by
 intro σ1 σ2 h1 h2
 have l1:σ1.all (MO.low σ1.length)=true:=by rw [h1]; exact c0l (σ:=[]) rfl hp hb hc ha j
 have l2:σ2.all (MO.low σ2.length)=true:=by rw [h2]; exact c0l l1 hp hb hc ha j
 have a1:BInv σ1 P B C A 0 2 ((Q5 (j+1)).map (nh 0)) (Q1 (j+1) []):=by rw [h1]; exact c0k [] P B C A j
 have b2:BInv σ2 P B C A σ1.length (σ1.length+2) ((Q5 (j+1)).map (nh σ1.length)) (Q1 (j+1) []):=by rw [h2]; exact c0k σ1 P B C A j
 have a2:BInv σ2 P B C A 0 2 ((Q5 (j+1)).map (nh 0)) (Q1 (j+1) []):=by rw [h2]; exact a1.app _
 have hl2:σ1.length < σ2.length:=(Q2.1 b2.book).1
 have hl1:0 < σ1.length:=(Q2.1 a1.book).1
 refine ⟨⟨a2.app _,b2.app _,c4A σ2 P B C A (j+1) TR,fun y hy hy2=>?_,by omega,by omega,c5c l2 hp hb hc ha _ _⟩,l1,l2⟩
 obtain ⟨_,_,hm⟩:=a1.mq hy
 have:=(Q2.1 hm).1
 obtain ⟨i,_,rfl⟩:=List.mem_map.1 hy2
 unfold nh at this
 split at this<;>omega
end Go.Proofs.Ytflcopaopimlpaa
set_option maxRecDepth 100000
namespace Go.Proofs.Ytflcopaopimlpaa
open Go.Sx Go.Kv
theorem c2v (TW:Nat->Option Sx.Sys) (n:Nat) (up:∀ {f:Nat} {a:List PV} {m:List MO} {r:PV × List MO},a0B Tab n f a m=some r->a0B TW n f a m=some r) (aw:∀ σ,a0B TW n a0V [] σ=some (.bool true,σ))
  (hT:TW a3h=some saleroomlaw16_BidbookOrder_S) (hn:1400<=n) (ps:List Pr) (bs:List Bd) (cs ad:List Tri) (l:List O8) :
  a0B TW (n+1) a3h [.agg [.sl 5 (ps.map Pr.row),.sl 4 (bs.map Bd.row),.sl 3 (cs.map Tri.row),.sl 3 (ad.map Tri.row)],.sl 8 (l.map O8.row)] []=some (.bool true,[]):=by
 generalize hPe:PV.sl 5 (ps.map Pr.row)=P
 generalize hBe:PV.sl 4 (bs.map Bd.row)=B
 generalize hCe:PV.sl 3 (cs.map Tri.row)=C
 generalize hAe:PV.sl 3 (ad.map Tri.row)=A
 generalize hEe:PV.sl 8 (l.map O8.row)=E
 have hP:P.rowsOf 5=some (ps.map Pr.row):=by rw [<- hPe]; exact a1v _ _
 have hB:B.rowsOf 4=some (bs.map Bd.row):=by rw [<- hBe]; exact a1v _ _
 have hC:C.rowsOf 3=some (cs.map Tri.row):=by rw [<- hCe]; exact a1v _ _
 have hA:A.rowsOf 3=some (ad.map Tri.row):=by rw [<- hAe]; exact a1v _ _
 have hE:E.rowsOf 8=some (l.map O8.row):=by rw [<- hEe]; exact a1v _ _
 have wP:∀ k,P.low k=true:=fun k=>by rw [<- hPe]; exact b6o (fun _ _=>rfl) _ _ _
 have wB:∀ k,B.low k=true:=fun k=>by rw [<- hBe]; exact b6o (fun _ _=>rfl) _ _ _
 have wC:∀ k,C.low k=true:=fun k=>by rw [<- hCe]; exact b6o (fun _ _=>rfl) _ _ _
 have wA:∀ k,A.low k=true:=fun k=>by rw [<- hAe]; exact b6o (fun _ _=>rfl) _ _ _
 obtain ⟨p1,p2,p3⟩:=a0C hP
 obtain ⟨b1,b2,b3⟩:=a0C hB
 obtain ⟨c1,c2,c3⟩:=a0C hC
 obtain ⟨a1,a2,a3⟩:=a0C hA
 obtain ⟨q1,q2,q3⟩:=a0C hE
 rw [Q6] at p1 b1 q1
 have aw0:=aw []
 have k0:=up (a5m [] ps bs cs ad P B C A hP hB hC hA n (by omega))
 have hr:∀ is b vs z,a0D { i:=is,b:=b,v:=vs,m:=[],k:=0 } false (.bool z)=some (.bool z,[]):=fun is b vs z=>c3O [] is b vs z
 simp only [a0V,a2B] at aw0 k0
 rw [a0B,hT]
 simp only [Q4,Sys.run]
 show ((a0E [.sh (.agg [_,_,_,_]),.sh (.one _)] _).bind _)=_
 simp -implicitDefEqProofs only [a0E,a0x,a0w,Qw,Q4,List.append_nil,List.nil_append,List.cons_append,if_true,p3,b3,c3,a3,q3]
 show (PT.ev _ a1t _).bind _=_
 have dich:∀ x:Bool,x=true\/x=false:=fun x=>by cases x<;>simp
 rcases dich (ltB 30 (l.length:Int)) with e1 | e1
 ·simp -implicitDefEqProofs only [a1t,↓reduceIte,eq_self,ξF,ξG,ξH,ξI,ξJ,ξK,ξL,ξM,ξN,ξO,ξP,ξQ,ξR,ξS,ξT,ξU,ξV,ξW,ξX,ξY,ξ2,ξ3,ξ4,ξ5,ξ6,ξ7,ξ8,ξ9,ξa,ξb,ξc,ξd,ξe,ξf,ξg,ξh,Nat.reduceAdd,ξi,if_true,if_false,ξl,ξm,ξn,ξo,ξp,ξq,ξr,ξs,ξt,ξu,ξv,ξw,ξx,ξy,ξz,ξA,ξB,ξC,ξD,ξE,q1,q2,e1,aw0,hr,Q9]
 rcases dich (ltB 10 (bs.length:Int)) with e2 | e2
 ·simp -implicitDefEqProofs only [a1t,↓reduceIte,eq_self,ξF,ξG,ξH,ξI,ξJ,ξK,ξL,ξM,ξN,ξO,ξP,ξQ,ξR,ξS,ξT,ξU,ξV,ξW,ξX,ξY,ξ2,ξ3,ξ4,ξ5,ξ6,ξ7,ξ8,ξ9,ξa,ξb,ξc,ξd,ξe,ξf,ξg,ξh,Nat.reduceAdd,ξi,if_true,if_false,ξl,ξm,ξn,ξo,ξp,ξq,ξr,ξs,ξt,ξu,ξv,ξw,ξx,ξy,ξz,ξA,ξB,ξC,ξD,ξE,q1,q2,b1,b2,e1,e2,aw0,hr,Q9]
 rcases dich (ltB 8 (ps.length:Int)) with e3 | e3
 ·simp -implicitDefEqProofs only [a1t,↓reduceIte,eq_self,ξF,ξG,ξH,ξI,ξJ,ξK,ξL,ξM,ξN,ξO,ξP,ξQ,ξR,ξS,ξT,ξU,ξV,ξW,ξX,ξY,ξ2,ξ3,ξ4,ξ5,ξ6,ξ7,ξ8,ξ9,ξa,ξb,ξc,ξd,ξe,ξf,ξg,ξh,Nat.reduceAdd,ξi,if_true,if_false,ξl,ξm,ξn,ξo,ξp,ξq,ξr,ξs,ξt,ξu,ξv,ξw,ξx,ξy,ξz,ξA,ξB,ξC,ξD,ξE,q1,q2,b1,b2,p1,p2,e1,e2,e3,aw0,hr,Q9]
 by_cases hv:a5j ps bs cs ad=0
 case neg =>
  have e4:eqB (a5j ps bs cs ad) 0=false:=decide_eq_false hv
  simp -implicitDefEqProofs only [a1t,↓reduceIte,eq_self,ξF,ξG,ξH,ξI,ξJ,ξK,ξL,ξM,ξN,ξO,ξP,ξQ,ξR,ξS,ξT,ξU,ξV,ξW,ξX,ξY,ξ2,ξ3,ξ4,ξ5,ξ6,ξ7,ξ8,ξ9,ξa,ξb,ξc,ξd,ξe,ξf,ξg,ξh,Nat.reduceAdd,ξi,if_true,if_false,ξl,ξm,ξn,ξo,ξp,ξq,ξr,ξs,ξt,ξu,ξv,ξw,ξx,ξy,ξz,ξA,ξB,ξC,ξD,ξE,q1,q2,b1,b2,p1,p2,e1,e2,e3,k0,e4,aw0,hr,Q9]
 rw [a0I] at e1 e2
 obtain ⟨v1,v2,v3,v4⟩:=b3k hv
 obtain ⟨hl6,hr6⟩:=a7M v1
 obtain ⟨h6,_⟩:=b8A hl6 hr6 v4
 have hb1:1<=bs.length:=by
  rcases Nat.eq_zero_or_pos bs.length with h | h
  ·unfold a8D at v2; rw [h,if_pos (show eqB ((0:Nat):Int) 0=true from rfl)] at v2; cases v2
  ·exact h
 obtain ⟨j,hj⟩:∃ j,bs.length=j+1:=⟨bs.length-1,by omega⟩
 have u1:clB 5 P=true:=by rw [<- hPe]; exact b6E _ _ _ (by omega)
 have u2:clB 4 B=true:=by rw [<- hBe]; exact b6E _ _ _ (by omega)
 have u3:clB 3 C=true:=by rw [<- hCe]; exact b6E _ _ _ (by omega)
 have u4:clB 3 A=true:=by rw [<- hAe]; exact b6E _ _ _ (by omega)
 have n1:=up (c0n [] ps bs cs ad P B C A hP hB hC hA n hv (by omega) u1 u2 u3 u4 (by omega))
 generalize hs1:([]:List MO)++nbO ([]:List MO).length P B C A bs.length=σ1 at n1
 have n2:=up (c0n σ1 ps bs cs ad P B C A hP hB hC hA n hv (by omega) u1 u2 u3 u4 (by omega))
 generalize hs2:σ1++nbO σ1.length P B C A bs.length=σ2 at n2
 have n3:=up (c3N σ2 ps bs cs ad P B C A hP hB hC hA n hv (by omega) (by omega))
 obtain ⟨T3,_,_⟩:=c3v P B C A wP wB wC wA j 72 σ1 σ2 (by rw [<- hs1,hj]; rfl) (by rw [<- hs2,hj])
 rw [<- hj] at T3
 generalize hs3:σ2++[MO.cells (Q1 bs.length .nilS) 41,.cells [P,B,C,A,.msl σ2.length 0 bs.length bs.length 1] 72]=σ3 at n3 T3
 obtain ⟨f,hf⟩:∃ f,n=(f+l.length+1)+l.length+1:=⟨n-l.length-1-l.length-1,by omega⟩
 have fin:saleroomlaw16_BidbookOrder_S.loop (a0B TW n) n 0 (a7Y σ3 E 0 σ1.length (σ2.length+1) 0)=some (.bool true,[]):=by
  have L0:=c5l TW n up aw ps bs cs ad P B C A hP hB hC hA hv (by omega) l E hE l.length 0 (by omega) σ3 _ _ _ _ T3 (by simp) (by simp) (by omega) (f+l.length+1)
  rw [<- hf] at L0
  rcases L0 with L0 | ⟨met,σ',els',T4,hel,L0⟩
  ·exact L0
  ·refine L0.trans ?_
   rw [QC] at T4
   refine c4Q TW n up aw ps bs cs ad P B C A hP hB hC hA hv (by omega) l E hE (by omega) (by omega) met (by simp) (by simp) hel l.length 0 (by omega) σ' _ _ T4 ?_ ?_ rfl ?_ f
   ·intro kv hk; rw [(Qm.1 hk).2]; simp
   ·intro kv hk; rw [(Qm.1 hk).2]; simp
   ·rw [QC]
    exact (c1Z (List.reverse_perm l).symm (fun o ho=>by obtain ⟨g1,g2,_⟩:=met o ho; simp; omega) (fun kv hk=>by rw [(Qm.1 hk).2]; exact Asc.nil)).symm
 have g1:∀ h,PV.isKind 4 (.ref h 0)=true:=fun _=>rfl
 have g3:∀ h,PV.isNil (.ref h 0)=false:=fun _=>rfl
 have g4:∀ h,PV.nilOk (.ref h 0)=true:=fun _=>rfl
 have g5:∀ h,PV.one (.ref h 0)=true:=fun _=>rfl
 rw [hv] at k0
 simp only [b2I,a7f,Q9] at n1 n2 n3
 have e1':ltB 30 (l.length:Int)=false:=by rw [a0I]; exact e1
 have e2':ltB 10 (bs.length:Int)=false:=by rw [a0I]; exact e2
 have e0:eqB 0 0=true:=rfl
 simp -implicitDefEqProofs only [a1t,↓reduceIte,eq_self,ξF,ξG,ξH,ξI,ξJ,ξK,ξL,ξM,ξN,ξO,ξP,ξQ,ξR,ξS,ξT,ξU,ξV,ξW,ξX,ξY,ξ2,ξ3,ξ4,ξ5,ξ6,ξ7,ξ8,ξ9,ξa,ξb,ξc,ξd,ξe,ξf,ξg,ξh,Nat.reduceAdd,ξi,if_true,if_false,ξl,ξm,ξn,ξo,ξp,ξq,ξr,ξs,ξt,ξu,ξv,ξw,ξx,ξy,ξz,ξA,ξB,ξC,ξD,ξE,q1,q2,b1,b2,p1,p2,e1',e2',e3,k0,e0,n1,n2,n3,a1w,g1,g3,g4,g5,q3,Q9]
 exact fin
end Go.Proofs.Ytflcopaopimlpaa
