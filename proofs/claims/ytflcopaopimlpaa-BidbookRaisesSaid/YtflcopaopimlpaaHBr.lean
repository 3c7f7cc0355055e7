/- Books of offers: Value; the reference's Offers and Remove. -/
import Derived.Test.YtflcopaopimlpaaHBq
set_option linter.unusedSimpArgs false
set_option linter.unusedVariables false
open Go.Sx.BE renaming safe → Z2, pe → Z3, all → Zz
open Go.Sx.IE renaming pe → Z4
open Go.Sx renaming PEnv.at → Z5
open Go.Sx.PEnv renaming push → Zt
open List renaming getD_cons_zero → Z6, getD_cons_succ → Z7, getElem?_cons_zero → Z8, getElem?_cons_succ → Z9, drop_zero → Zf, length_cons → Zg, length_nil → Zh, take_succ_cons → Zm, take_zero → Zn, cons_append → Zu, nil_append → Zv, append_nil → Zw, map_cons → ZD, map_nil → ZE
open Go.Sx renaming a0y → Za, a0A → Zb, a0o → Zc, a0z → Zd, a0w → Zo, a0p → Zp, a0x → Zq, a0r → ZF, a0t → ZG, a0n → ZH, a0j → ZI, a0s → ZJ, a0q → ZK, a0g → ZL, a0v → ZM, a0i → ZN, a0m → ZO, a0e → ZP, a0h → ZQ, a0u → ZR, a0a → ZS, a0k → ZT, a0f → ZU, a0b → ZV, a0c → ZW, a0d → ZX, a0l → ZY
open Nat renaming add_zero → Ze, le_refl → Zi
open Bool renaming false_eq_true → Zl, and_self → ZA, not_true → ZB, not_false → ZC
open Option renaming map_some → Zr, bind_some → Zs
open Go.Sx.SV renaming pvs → Zx, pv → Zy
open Option renaming bind_some → Q0, map_some → Q6, bind_eq_bind → Qq, pure_def → Qr, getD_some → Qy
open Nat renaming zero_add → Q1, le_refl → Qu, sub_self → Qv, add_sub_cancel_left → QK, one_ne_zero → QN
open List renaming drop_succ_cons → Q2, getElem?_eq_some_iff → Q3, nil_append → Q4, cons_append → Q5, length_map → Q7, append_nil → Q8, getElem?_append_right → Qa, getElem?_map → Qd, getElem?_cons_zero → Qe, getElem?_cons_succ → Qf, mem_cons → Qg, all_eq_true → Qh, getElem?_append_left → Qj, mapM_cons → Qk, mapM_nil → Qm, reverse_cons → Qn, reverse_nil → Qp, range → Qt, map_cons → Qw, drop_sublist → QA, mem_of_mem_drop → QB, length_set → QC, mem_of_getElem? → QD, exists_cons_of_ne_nil → QH, length_range → QJ, mem_append → QL, length_nil → QM, set_append_right → QP
open Option.some renaming injEq → Q9
open Bool renaming and_true → Qb, true_and → Qs, and_eq_true → Qz, false_eq_true → QE
set_option maxRecDepth 100000
namespace Go.Proofs.Ytflcopaopimlpaa
open Go.Sx Go.Kv
section
variable (σ:List MO) {P B C A:PV} {hb hl:Nat} {hs:List Nat} {kvs:List KV} (h:BInv σ P B C A hb hl hs kvs) (n:Nat)
include h in
theorem d2Y {j x:Nat} (hj:hs[j]?=some x) {kv:KV} {ver:Nat} (hkv:σ[x]?=some (.mq kv ver)) (hw:a4E 6 kv=true) (b:W6) (hn:2<=n) :
  a0B Tab n c1g [.ref hb 0,.int .i64 (j:Int),.agg b.pv] σ=some (.tup [.int .i64 ((a0K kv (wl b)).getD 0),.bool (a0K kv (wl b)).isSome],σ):=by
 obtain ⟨n,rfl⟩:∃ k,n=k+1+1:=⟨n-2,by omega⟩
 have hjl:j < hs.length:=(Q3.1 hj).1
 have hL:=h.bkL
 have k1:=b9o (T:=Tab) rfl n hL (j:Int)
 rw [show (leB 0 (j:Int)&&ltB (j:Int) (hs.length:Int))=true by rw [Qz,a2n,a0U]; omega] at k1
 obtain ⟨loc,hloc,hrd⟩:=hL.rd j x hj
 have hr:=hrd { i:=[],b:=[],v:=[],m:=σ,k:=0 } (fun _ _=>rfl)
 simp -implicitDefEqProofs only [↓reduceIte,eq_self,ZF,ZG,ZH,ZI,ZJ,ZK,ZL,ZM,ZN,ZO,ZP,ZQ,ZR,ZS,ZT,ZU,ZV,ZW,ZX,ZY,Z2,Z3,Z4,Z5,Z6,Z7,Z8,Z9,Za,Zb,Zc,Zd,Ze,Zf,Zg,Zh,Nat.reduceAdd,Zi,if_true,if_false,Zl,Zm,Zn,Zo,Zp,Zq,Zr,Zs,Zt,Zu,Zv,Zw,Zx,Zy,Zz,ZA,ZB,ZC,ZD,ZE,MO.list,Nat.reduceLeDiff] at hr
 have hdh:ltB (j:Int) (hs.length:Int)=true:=by rw [a0U]; omega
 have g1:PV.isKind 1 (.ref hb 0)=true:=rfl
 have om:(PV.mp x).one=true:=rfl
 have h0:=h.book
 rw [a0B]
 simp only [d2O,Q0,Sys.run,W6.pv,wl]
 show ((a0E [.sh (.one _),.sh (.one _),.sh (.agg [_,_,_,_,_,_])] _).bind _)=_
 simp -implicitDefEqProofs only [a0E,a0x,a0w,Q6,Q0,Q8,Q4,Q5,if_true,PV.one]
 show (PT.ev _ b1K _).bind _=_
 simp -implicitDefEqProofs only [b1K,↓reduceIte,eq_self,ZF,ZG,ZH,ZI,ZJ,ZK,ZL,ZM,ZN,ZO,ZP,ZQ,ZR,ZS,ZT,ZU,ZV,ZW,ZX,ZY,Z2,Z3,Z4,Z5,Z6,Z7,Z8,Z9,Za,Zb,Zc,Zd,Ze,Zf,Zg,Zh,Nat.reduceAdd,Zi,if_true,if_false,Zl,Zm,Zn,Zo,Zp,Zq,Zr,Zs,Zt,Zu,Zv,Zw,Zx,Zy,Zz,ZA,ZB,ZC,ZD,ZE,k1,g1,h0,MO.list,Nat.reduceLeDiff,Q1,Q2,hL.one,hL.len,hdh,le0,hloc,hr,om,c4V,hkv,hw,if_true,a0D,or_true]
end
section
variable (σ:List MO) {P B C A:PV} {xb hx T TR:Nat} {k:Bool} {els:List PV} {kvs:List KV} (h:RInv σ P B C A xb hx k T TR els kvs) (n:Nat)
include h in
theorem d2U {j:Nat} {E:PV} (hj:els[j]?=some E) {l:List O8} (hE:E.rowsOf 8=some (l.map O8.row)) (hl:l.length<=1000) (hn:1<=n) :
  a0B Tab n d2z [.ref xb 0,.int .i64 (j:Int)] σ=some (.sl 8 (l.map O8.row),σ):=by
 obtain ⟨n,rfl⟩:∃ k,n=k+1:=⟨n-1,by omega⟩
 have hjl:j < els.length:=(Q3.1 hj).1
 obtain ⟨l1,l2,l3⟩:=b4W k hx els
 obtain ⟨q1,q2,q3⟩:=a0C hE
 obtain ⟨loc,hloc,hr⟩:=c3g σ k hx T els h.lst hj q3
 simp -implicitDefEqProofs only [↓reduceIte,eq_self,ZF,ZG,ZH,ZI,ZJ,ZK,ZL,ZM,ZN,ZO,ZP,ZQ,ZR,ZS,ZT,ZU,ZV,ZW,ZX,ZY,Z2,Z3,Z4,Z5,Z6,Z7,Z8,Z9,Za,Zb,Zc,Zd,Ze,Zf,Zg,Zh,Nat.reduceAdd,Zi,if_true,if_false,Zl,Zm,Zn,Zo,Zp,Zq,Zr,Zs,Zt,Zu,Zv,Zw,Zx,Zy,Zz,ZA,ZB,ZC,ZD,ZE,MO.list,Nat.reduceLeDiff] at hr
 have hdh:ltB (j:Int) (els.length:Int)=true:=by rw [a0U]; omega
 have hdl:leB (els.length:Int) (j:Int)=false:=by rw [a3H]; omega
 have hd0:ltB (j:Int) 0=false:=by rw [a0I]; omega
 have g1:PV.isKind 1 (.ref xb 0)=true:=rfl
 have h0:=h.book
 have hc:(l.map O8.row).length<=1000000:=by simp; omega
 rw [a0B]
 simp only [d2D,Q0,Sys.run]
 show ((a0E [.sh (.one _),.sh (.one _)] _).bind _)=_
 simp -implicitDefEqProofs only [a0E,a0x,a0w,Q6,Q0,Q8,Q4,Q5,if_true,PV.one]
 show (PT.ev _ d2x _).bind _=_
 simp -implicitDefEqProofs only [d2x,↓reduceIte,eq_self,ZF,ZG,ZH,ZI,ZJ,ZK,ZL,ZM,ZN,ZO,ZP,ZQ,ZR,ZS,ZT,ZU,ZV,ZW,ZX,ZY,Z2,Z3,Z4,Z5,Z6,Z7,Z8,Z9,Za,Zb,Zc,Zd,Ze,Zf,Zg,Zh,Nat.reduceAdd,Zi,if_true,if_false,Zl,Zm,Zn,Zo,Zp,Zq,Zr,Zs,Zt,Zu,Zv,Zw,Zx,Zy,Zz,ZA,ZB,ZC,ZD,ZE,a1f,Qk,Qm,Qn,Qp,Qq,Qr,g1,h0,MO.list,Nat.reduceLeDiff,Q1,Q2,l1,l2,l3,hdh,hdl,hd0,le0,hloc,hr,q3,hE,a1v,if_pos hc,a0D,or_true]
end
end Go.Proofs.Ytflcopaopimlpaa
set_option maxRecDepth 100000
namespace Go.Proofs.Ytflcopaopimlpaa
open Go.Sx Go.Kv
theorem d1V {kv:KV} (ha:Asc kv) {i:Nat} {p:List Int × Int} (hp:kv[i]?=some p):a3q (kv.drop i) p.1=kv.drop (i+1):=by
 rw [a3v hp]
 have hd:Asc (kv.drop i):=⟨ha.lt.sublist (QA i kv),fun q hq=>ha.six q (QB hq)⟩
 rw [a3v hp] at hd
 have h1:=List.pairwise_cons.1 hd.lt
 unfold a3q
 rw [List.filter_cons_of_neg (by simp),List.filter_eq_self]
 intro q hq
 have:=h1.1 q hq
 simp only [Bool.not_eq_true',decide_eq_false_iff_not]
 intro he; rw [he,a3E] at this; cases this
theorem d1t {kv:KV} (ha:Asc kv) (i:Nat):Asc (kv.drop i):=⟨ha.lt.sublist (QA i kv),fun q hq=>ha.six q (QB hq)⟩
section
variable (σ:List MO) {P B C A:PV} {hb hl:Nat} {hs:List Nat} {kvs:List KV} (h:BInv σ P B C A hb hl hs kvs) (n:Nat)
variable {j x:Nat} (hj:hs[j]?=some x) {kv:KV} {ver:Nat} (hkv:σ[x]?=some (.mq kv ver)) (ha:Asc kv) (h40:kv.length<=40)
def d1K (σ:List MO) (hb:Nat) (E:PV) (k:Nat) (j c N i:Int):PEnv:={ i:=[j,c,N,i],b:=[],v:=[.ref hb 0,E],m:=σ,k:=k }
include h hj hkv ha h40 in
theorem d2m (E:PV) (hE:E.rowsOf 8=some ((kv.map (kvO j)).map O8.row)) (c:Int):∀ d i,i+d=kv.length->∀ fuel,
  bidbook_Book_Remove_S.loop (a0B Tab n) (fuel+d+1) 0 (d1K (σ.set x (.mq (kv.drop i) (ver+i))) hb E σ.length (j:Int) c (kv.length:Int) (i:Int))=some (.tup [.int .i64 c,.int .i64 0],σ.set x (.mq [] (ver+kv.length))):=by
 obtain ⟨p1,p2,p3⟩:=a0C hE
 have hlen:∀ o:MO,(σ.set x o).length=σ.length:=fun o=>QC
 intro d
 induction d with
 | zero =>
  intro i hi fuel
  rw [Nat.add_zero] at hi; subst hi
  have hd:decide (kv.length < kv.length)=false:=by simp
  rw [Sys.loop,show bidbook_Book_Remove_S.loops[0]?=some b0l from rfl,List.drop_length]
  simp -implicitDefEqProofs only [Q0,d1K,b0l,↓reduceIte,eq_self,ZF,ZG,ZH,ZI,ZJ,ZK,ZL,ZM,ZN,ZO,ZP,ZQ,ZR,ZS,ZT,ZU,ZV,ZW,ZX,ZY,Z2,Z3,Z4,Z5,Z6,Z7,Z8,Z9,Za,Zb,Zc,Zd,Ze,Zf,Zg,Zh,Nat.reduceAdd,Zi,if_true,if_false,Zl,Zm,Zn,Zo,Zp,Zq,Zr,Zs,Zt,Zu,Zv,Zw,Zx,Zy,Zz,ZA,ZB,ZC,ZD,ZE,a0F,hd,a0D,hlen,or_true]
 | succ d ih =>
  intro i hi fuel
  obtain ⟨p,hp⟩:=a0W (show i < kv.length by omega)
  have h6:=ha.six p (QD hp)
  obtain ⟨a,b,c',d',e,f,hk⟩:=b6V h6
  have hx:(kv.map (kvO (j:Int)))[i]?=some (kvO j p):=by rw [Qd,hp]; rfl
  have hq:=a0G (off:=0) hE (a2T hx)
  have hI:BInv (σ.set x (.mq (kv.drop i) (ver+i))) P B C A hb hl hs (kvs.set j (kv.drop i)):=h.put hj (d1t ha i) (by simp; omega) _
  have hL:=hI.bkL
  obtain ⟨loc,hloc,hrd⟩:=hL.rd j x hj
  have hr:=hrd { i:=[],b:=[],v:=[],m:=σ.set x (.mq (kv.drop i) (ver+i)),k:=0 } (fun _ _=>rfl)
  simp -implicitDefEqProofs only [↓reduceIte,eq_self,ZF,ZG,ZH,ZI,ZJ,ZK,ZL,ZM,ZN,ZO,ZP,ZQ,ZR,ZS,ZT,ZU,ZV,ZW,ZX,ZY,Z2,Z3,Z4,Z5,Z6,Z7,Z8,Z9,Za,Zb,Zc,Zd,Ze,Zf,Zg,Zh,Nat.reduceAdd,Zi,if_true,if_false,Zl,Zm,Zn,Zo,Zp,Zq,Zr,Zs,Zt,Zu,Zv,Zw,Zx,Zy,Zz,ZA,ZB,ZC,ZD,ZE,MO.list,Nat.reduceLeDiff] at hr
  have hjl:j < hs.length:=(Q3.1 hj).1
  have hdh:ltB (j:Int) (hs.length:Int)=true:=by rw [a0U]; omega
  have g1:PV.isKind 1 (.ref hb 0)=true:=rfl
  have om:(PV.mp x).one=true:=rfl
  have h0:=hI.book
  have hxl:=(Q3.1 hkv).1
  have hm:(σ.set x (.mq (kv.drop i) (ver+i)))[x]?=some (.mq (kv.drop i) (ver+i)):=List.getElem?_set_self hxl
  have hw:=(d1t ha i).wide
  have hd:decide (i < kv.length)=true:=decide_eq_true (by omega)
  have hup:=a1y (show i<=1000000000 by omega)
  have ih:=ih (i+1) (by omega) fuel
  rw [a0Q,<- d1V ha hp,hk] at ih
  have hrow:(kvO (j:Int) p).row=[.int .i64 (j:Int),.int .i64 a,.int .i64 b,.int .i64 c',.int .i64 d',.int .i64 e,.int .i64 f,.int .i64 p.2]:=by
   simp only [kvO,hk,a4z]; rfl
  have hss:∀ o o':MO,(σ.set x o).set x o'=σ.set x o':=fun o o'=>List.set_set ..
  simp only [d1K] at ih ⊢
  rw [<- ih,show fuel+(d+1)+1=(fuel+d+1)+1 from rfl,Sys.loop,show bidbook_Book_Remove_S.loops[0]?=some b0l from rfl]
  rw [Q7,Q7] at p1
  simp -implicitDefEqProofs only [Q0,b0l,↓reduceIte,eq_self,ZF,ZG,ZH,ZI,ZJ,ZK,ZL,ZM,ZN,ZO,ZP,ZQ,ZR,ZS,ZT,ZU,ZV,ZW,ZX,ZY,Z2,Z3,Z4,Z5,Z6,Z7,Z8,Z9,Za,Zb,Zc,Zd,Ze,Zf,Zg,Zh,Nat.reduceAdd,Zi,if_true,if_false,Zl,Zm,Zn,Zo,Zp,Zq,Zr,Zs,Zt,Zu,Zv,Zw,Zx,Zy,Zz,ZA,ZB,ZC,ZD,ZE,p1,p2,a0F,hd,le0,hq,hrow,g1,h0,MO.list,Nat.reduceLeDiff,Q1,Q2,hL.one,hL.len,hdh,hloc,hr,om,d1T,hm,hw,hss,if_true,if_pos hup,Nat.add_assoc]
include h hj hkv ha h40 in
theorem d1P (hlow:σ.all (MO.low σ.length)=true) (hn:1010<=n):a0B Tab n c0p [.ref hb 0,.int .i64 (j:Int)] σ=some (.tup [.int .i64 (kv.length:Int),.int .i64 0],σ.set x (.mq [] (ver+kv.length))):=by
 obtain ⟨n,rfl⟩:∃ k,n=k+1+1:=⟨n-2,by omega⟩
 have hjl:j < hs.length:=(Q3.1 hj).1
 have hL:=h.bkL
 have k1:=b9o (T:=Tab) rfl n hL (j:Int)
 rw [show (leB 0 (j:Int)&&ltB (j:Int) (hs.length:Int))=true by rw [Qz,a2n,a0U]; omega] at k1
 obtain ⟨loc,hloc,hrd⟩:=hL.rd j x hj
 have hr:=hrd { i:=[],b:=[],v:=[],m:=σ,k:=0 } (fun _ _=>rfl)
 simp -implicitDefEqProofs only [↓reduceIte,eq_self,ZF,ZG,ZH,ZI,ZJ,ZK,ZL,ZM,ZN,ZO,ZP,ZQ,ZR,ZS,ZT,ZU,ZV,ZW,ZX,ZY,Z2,Z3,Z4,Z5,Z6,Z7,Z8,Z9,Za,Zb,Zc,Zd,Ze,Zf,Zg,Zh,Nat.reduceAdd,Zi,if_true,if_false,Zl,Zm,Zn,Zo,Zp,Zq,Zr,Zs,Zt,Zu,Zv,Zw,Zx,Zy,Zz,ZA,ZB,ZC,ZD,ZE,MO.list,Nat.reduceLeDiff] at hr
 have hdh:ltB (j:Int) (hs.length:Int)=true:=by rw [a0U]; omega
 have g1:PV.isKind 1 (.ref hb 0)=true:=rfl
 have om:(PV.mp x).one=true:=rfl
 have h0:=h.book
 obtain ⟨r1,r2⟩:=c2h (j:Int) kv
 obtain ⟨r3,r4,r5⟩:=a0C r1
 rw [Q7,Q7] at r3
 obtain ⟨kv',ver',m1,m2,m3,m4⟩:=h.maps j x hj
 rw [hkv] at m2
 simp only [Q9,MO.mq.injEq] at m2
 obtain ⟨rfl,rfl⟩:=m2
 have k2:=c2D σ hlow hb hs h.bkMs kvs (fun i y hi=>by
  obtain ⟨kv,ver,g1,g2,g3,g4⟩:=h.maps i y hi
  exact ⟨kv,ver,g1,g2,g3,by omega⟩) (n+1) m1 hjl (by omega)
 obtain ⟨f,hf⟩:∃ f,n+1=f+kv.length+1:=⟨n-kv.length,by omega⟩
 have k3:=d2m σ h (n+1) hj hkv ha h40 (b2l (j:Int) kv) r1 (kv.length:Int) kv.length 0 (by omega) f
 rw [<- hf,show kv.drop 0=kv from rfl,show ver+0=ver from rfl,c4f hkv] at k3
 simp only [d1K] at k3
 simp only [a6v] at k2
 rw [a0B]
 simp only [d0M,Q0,Sys.run]
 show ((a0E [.sh (.one _),.sh (.one _)] _).bind _)=_
 simp -implicitDefEqProofs only [a0E,a0x,a0w,Q6,Q0,Q8,Q4,Q5,if_true,PV.one]
 show (PT.ev _ b1v _).bind _=_
 simp -implicitDefEqProofs only [b1v,↓reduceIte,eq_self,ZF,ZG,ZH,ZI,ZJ,ZK,ZL,ZM,ZN,ZO,ZP,ZQ,ZR,ZS,ZT,ZU,ZV,ZW,ZX,ZY,Z2,Z3,Z4,Z5,Z6,Z7,Z8,Z9,Za,Zb,Zc,Zd,Ze,Zf,Zg,Zh,Nat.reduceAdd,Zi,if_true,if_false,Zl,Zm,Zn,Zo,Zp,Zq,Zr,Zs,Zt,Zu,Zv,Zw,Zx,Zy,Zz,ZA,ZB,ZC,ZD,ZE,k1,g1,h0,MO.list,Nat.reduceLeDiff,Q1,Q2,hL.one,hL.len,hdh,le0,hloc,hr,om,a6f,hkv,k2,r2,r3,r4,if_true]
 exact k3
end
end Go.Proofs.Ytflcopaopimlpaa
set_option maxRecDepth 100000
namespace Go.Proofs.Ytflcopaopimlpaa
open Go.Sx Go.Kv
section
variable (σ:List MO) {P B C A:PV} {xb hx T TR:Nat} {k:Bool} {els:List PV} {kvs:List KV} (h:RInv σ P B C A xb hx k T TR els kvs) (n:Nat)
include h in
theorem d1J {j:Nat} {E:PV} (hj:els[j]?=some E) {l:List O8} (hE:E.rowsOf 8=some (l.map O8.row)) (hn:1<=n) :
  a0B Tab n c9W [.ref xb 0,.int .i64 (j:Int)] σ=some (.tup [.int .i64 (l.length:Int),.int .i64 0],σ.set hx (a2K k T (els.set j .nilS))):=by
 obtain ⟨n,rfl⟩:∃ k,n=k+1:=⟨n-1,by omega⟩
 have hjl:j < els.length:=(Q3.1 hj).1
 obtain ⟨l1,l2,l3⟩:=b4W k hx els
 obtain ⟨q1,q2,q3⟩:=a0C hE
 rw [Q7] at q1
 obtain ⟨loc,hloc,hr⟩:=c3g σ k hx T els h.lst hj q3
 have hdh:ltB (j:Int) (els.length:Int)=true:=by rw [a0U]; omega
 have hdl:leB (els.length:Int) (j:Int)=false:=by rw [a3H]; omega
 have hd0:ltB (j:Int) 0=false:=by rw [a0I]; omega
 have g1:PV.isKind 1 (.ref xb 0)=true:=rfl
 have h0:=h.book
 have hls:=h.lst
 have on:PV.one .nilS=true:=rfl
 have hlen:∀ o:MO,(σ.set hx o).length=σ.length:=fun o=>QC
 rw [a0B]
 simp only [d0F,Q0,Sys.run]
 show ((a0E [.sh (.one _),.sh (.one _)] _).bind _)=_
 simp -implicitDefEqProofs only [a0E,a0x,a0w,Q6,Q0,Q8,Q4,Q5,if_true,PV.one]
 show (PT.ev _ c9R _).bind _=_
 cases k with
 | false =>
  simp only [a6k,a2K,QE,if_false] at h0 hls hloc l1 l2 l3 ⊢
  have w1:a1z (j:Int) 1 0 (.msl hx 0 els.length els.length 1)=some (.obj hx j):=c0X hjl
  rw [w1] at hloc
  simp only [Q9] at hloc; subst hloc
  simp -implicitDefEqProofs only [↓reduceIte,eq_self,ZF,ZG,ZH,ZI,ZJ,ZK,ZL,ZM,ZN,ZO,ZP,ZQ,ZR,ZS,ZT,ZU,ZV,ZW,ZX,ZY,Z2,Z3,Z4,Z5,Z6,Z7,Z8,Z9,Za,Zb,Zc,Zd,Ze,Zf,Zg,Zh,Nat.reduceAdd,Zi,if_true,if_false,Zl,Zm,Zn,Zo,Zp,Zq,Zr,Zs,Zt,Zu,Zv,Zw,Zx,Zy,Zz,ZA,ZB,ZC,ZD,ZE,MO.list,Nat.reduceLeDiff,hls] at hr
  have w2:∀ x,a3T els j [x]=els.set j x:=c6v hjl
  have w3:j+1<=els.length:=hjl
  simp -implicitDefEqProofs only [c9R,↓reduceIte,eq_self,ZF,ZG,ZH,ZI,ZJ,ZK,ZL,ZM,ZN,ZO,ZP,ZQ,ZR,ZS,ZT,ZU,ZV,ZW,ZX,ZY,Z2,Z3,Z4,Z5,Z6,Z7,Z8,Z9,Za,Zb,Zc,Zd,Ze,Zf,Zg,Zh,Nat.reduceAdd,Zi,if_true,if_false,Zl,Zm,Zn,Zo,Zp,Zq,Zr,Zs,Zt,Zu,Zv,Zw,Zx,Zy,Zz,ZA,ZB,ZC,ZD,ZE,g1,h0,hls,MO.list,Nat.reduceLeDiff,Q1,Q2,l1,l2,l3,hdh,hdl,hd0,le0,w1,w2,w3,hr,q1,q2,q3,on,if_true,a0D,hlen,or_true]
 | true =>
  simp only [a6k,a2K,if_true] at h0 hls hloc l1 l2 l3 ⊢
  have w1:a1z (j:Int) 1 0 (.rsl hx els.length 1)=some (.elt hx els.length j 1 0):=c0D hjl
  rw [w1] at hloc
  simp only [Q9] at hloc; subst hloc
  simp -implicitDefEqProofs only [↓reduceIte,eq_self,ZF,ZG,ZH,ZI,ZJ,ZK,ZL,ZM,ZN,ZO,ZP,ZQ,ZR,ZS,ZT,ZU,ZV,ZW,ZX,ZY,Z2,Z3,Z4,Z5,Z6,Z7,Z8,Z9,Za,Zb,Zc,Zd,Ze,Zf,Zg,Zh,Nat.reduceAdd,Zi,if_true,if_false,Zl,Zm,Zn,Zo,Zp,Zq,Zr,Zs,Zt,Zu,Zv,Zw,Zx,Zy,Zz,ZA,ZB,ZC,ZD,ZE,MO.list,Nat.reduceLeDiff,hls] at hr
  have w6:(els.map fun e=>[e]).length=els.length:=Q7 ..
  have hje:els[j]=E:=(Q3.1 hj).2
  have w7:(els.map fun e=>[e])[j]?=some [E]:=by rw [Qd,hj]; rfl
  have w8:∀ x y:PV,a3T [x] 0 [y]=[y]:=fun _ _=>rfl
  have w9:∀ x,(els.map fun e=>[e]).set j [x]=(els.set j x).map fun e=>[e]:=fun x=>by rw [List.map_set]
  simp -implicitDefEqProofs only [c9R,↓reduceIte,eq_self,ZF,ZG,ZH,ZI,ZJ,ZK,ZL,ZM,ZN,ZO,ZP,ZQ,ZR,ZS,ZT,ZU,ZV,ZW,ZX,ZY,Z2,Z3,Z4,Z5,Z6,Z7,Z8,Z9,Za,Zb,Zc,Zd,Ze,Zf,Zg,Zh,Nat.reduceAdd,Zi,if_true,if_false,Zl,Zm,Zn,Zo,Zp,Zq,Zr,Zs,Zt,Zu,Zv,Zw,Zx,Zy,Zz,ZA,ZB,ZC,ZD,ZE,g1,h0,hls,MO.list,Nat.reduceLeDiff,Q1,Q2,l1,l2,l3,hdh,hdl,hd0,le0,w1,w6,w7,w8,w9,MO.elts,and_self,hr,hje,q1,q2,q3,on,if_true,a0D,hlen,or_true,List.all_cons,List.all_nil,Qb]
end
end Go.Proofs.Ytflcopaopimlpaa
set_option maxRecDepth 100000
namespace Go.Proofs.Ytflcopaopimlpaa
open Go.Sx Go.Kv
section
variable (σ:List MO) {P B C A:PV} {hb hl:Nat} {hs:List Nat} {kvs:List KV} (h:BInv σ P B C A hb hl hs kvs) (n:Nat)
include h in
theorem d1O {i:Int} (hi:(leB 0 i&&ltB i (hs.length:Int))=false) (hn:2<=n) :
  a0B Tab n c0p [.ref hb 0,.int .i64 i] σ=some (.tup [.int .i64 0,.int .i64 6],σ):=by
 obtain ⟨n,rfl⟩:∃ k,n=k+1+1:=⟨n-2,by omega⟩
 have k1:=b9o (T:=Tab) rfl n h.bkL i
 rw [hi] at k1
 rw [a0B]
 simp only [d0M,Q0,Sys.run]
 show ((a0E [.sh (.one _),.sh (.one _)] _).bind _)=_
 simp -implicitDefEqProofs only [a0E,a0x,a0w,Q6,Q0,Q8,Q4,Q5,if_true,PV.one]
 show (PT.ev _ b1v _).bind _=_
 simp -implicitDefEqProofs only [b1v,↓reduceIte,eq_self,ZF,ZG,ZH,ZI,ZJ,ZK,ZL,ZM,ZN,ZO,ZP,ZQ,ZR,ZS,ZT,ZU,ZV,ZW,ZX,ZY,Z2,Z3,Z4,Z5,Z6,Z7,Z8,Z9,Za,Zb,Zc,Zd,Ze,Zf,Zg,Zh,Nat.reduceAdd,Zi,if_true,if_false,Zl,Zm,Zn,Zo,Zp,Zq,Zr,Zs,Zt,Zu,Zv,Zw,Zx,Zy,Zz,ZA,ZB,ZC,ZD,ZE,k1,a0D,or_true,if_true]
include h in
theorem d2X (hlow:σ.all (MO.low σ.length)=true) {i:Int} (hi:(leB 0 i&&ltB i (hs.length:Int))=false) (hn:1<=n) :
  a0B Tab n a6v [.ref hb 0,.int .i64 i] σ=some (.nilS,σ):=by
 obtain ⟨n,rfl⟩:∃ k,n=k+1:=⟨n-1,by omega⟩
 show b1B [.ref hb 0,.int .i64 i] σ=_
 simp only [b1B,h.bkMs,Q0,hlow,if_true,hi,QE,if_false]
end
section
variable (σ:List MO) {P B C A:PV} {xb hx T TR:Nat} {k:Bool} {els:List PV} {kvs:List KV} (h:RInv σ P B C A xb hx k T TR els kvs) (n:Nat)
theorem d2q {i:Int} {N:Nat} (hi:(leB 0 i&&ltB i (N:Int))=false):ltB i 0=true\/(ltB i 0=false/\leB (N:Int) i=true):=by
 by_cases h0:i < 0
 ·exact .inl (by rw [a0U]; exact h0)
 ·refine .inr ⟨by rw [a0I]; exact h0,?_⟩
  have h1:leB 0 i=true:=by rw [a2n]; omega
  rw [h1,Qs,a0I] at hi
  rw [a2n]; omega
include h in
theorem d2T {i:Int} (hi:(leB 0 i&&ltB i (els.length:Int))=false) (hn:1<=n) :
  a0B Tab n d2z [.ref xb 0,.int .i64 i] σ=some (.nilS,σ):=by
 obtain ⟨n,rfl⟩:∃ k,n=k+1:=⟨n-1,by omega⟩
 obtain ⟨l1,l2,l3⟩:=b4W k hx els
 have g1:PV.isKind 1 (.ref xb 0)=true:=rfl
 have h0:=h.book
 rw [a0B]
 simp only [d2D,Q0,Sys.run]
 show ((a0E [.sh (.one _),.sh (.one _)] _).bind _)=_
 simp -implicitDefEqProofs only [a0E,a0x,a0w,Q6,Q0,Q8,Q4,Q5,if_true,PV.one]
 show (PT.ev _ d2x _).bind _=_
 rcases d2q hi with e1 | ⟨e1,e2⟩
 ·simp -implicitDefEqProofs only [d2x,↓reduceIte,eq_self,ZF,ZG,ZH,ZI,ZJ,ZK,ZL,ZM,ZN,ZO,ZP,ZQ,ZR,ZS,ZT,ZU,ZV,ZW,ZX,ZY,Z2,Z3,Z4,Z5,Z6,Z7,Z8,Z9,Za,Zb,Zc,Zd,Ze,Zf,Zg,Zh,Nat.reduceAdd,Zi,if_true,if_false,Zl,Zm,Zn,Zo,Zp,Zq,Zr,Zs,Zt,Zu,Zv,Zw,Zx,Zy,Zz,ZA,ZB,ZC,ZD,ZE,e1,a0D,or_true,if_true]
 ·simp -implicitDefEqProofs only [d2x,↓reduceIte,eq_self,ZF,ZG,ZH,ZI,ZJ,ZK,ZL,ZM,ZN,ZO,ZP,ZQ,ZR,ZS,ZT,ZU,ZV,ZW,ZX,ZY,Z2,Z3,Z4,Z5,Z6,Z7,Z8,Z9,Za,Zb,Zc,Zd,Ze,Zf,Zg,Zh,Nat.reduceAdd,Zi,if_true,if_false,Zl,Zm,Zn,Zo,Zp,Zq,Zr,Zs,Zt,Zu,Zv,Zw,Zx,Zy,Zz,ZA,ZB,ZC,ZD,ZE,e1,e2,g1,h0,MO.list,Nat.reduceLeDiff,Q1,Q2,l1,l2,l3,a0D,or_true,if_true]
include h in
theorem d1H {i:Int} (hi:(leB 0 i&&ltB i (els.length:Int))=false) (hn:1<=n) :
  a0B Tab n c9W [.ref xb 0,.int .i64 i] σ=some (.tup [.int .i64 0,.int .i64 6],σ):=by
 obtain ⟨n,rfl⟩:∃ k,n=k+1:=⟨n-1,by omega⟩
 obtain ⟨l1,l2,l3⟩:=b4W k hx els
 have g1:PV.isKind 1 (.ref xb 0)=true:=rfl
 have h0:=h.book
 rw [a0B]
 simp only [d0F,Q0,Sys.run]
 show ((a0E [.sh (.one _),.sh (.one _)] _).bind _)=_
 simp -implicitDefEqProofs only [a0E,a0x,a0w,Q6,Q0,Q8,Q4,Q5,if_true,PV.one]
 show (PT.ev _ c9R _).bind _=_
 rcases d2q hi with e1 | ⟨e1,e2⟩
 ·simp -implicitDefEqProofs only [c9R,↓reduceIte,eq_self,ZF,ZG,ZH,ZI,ZJ,ZK,ZL,ZM,ZN,ZO,ZP,ZQ,ZR,ZS,ZT,ZU,ZV,ZW,ZX,ZY,Z2,Z3,Z4,Z5,Z6,Z7,Z8,Z9,Za,Zb,Zc,Zd,Ze,Zf,Zg,Zh,Nat.reduceAdd,Zi,if_true,if_false,Zl,Zm,Zn,Zo,Zp,Zq,Zr,Zs,Zt,Zu,Zv,Zw,Zx,Zy,Zz,ZA,ZB,ZC,ZD,ZE,e1,a0D,or_true,if_true]
 ·simp -implicitDefEqProofs only [c9R,↓reduceIte,eq_self,ZF,ZG,ZH,ZI,ZJ,ZK,ZL,ZM,ZN,ZO,ZP,ZQ,ZR,ZS,ZT,ZU,ZV,ZW,ZX,ZY,Z2,Z3,Z4,Z5,Z6,Z7,Z8,Z9,Za,Zb,Zc,Zd,Ze,Zf,Zg,Zh,Nat.reduceAdd,Zi,if_true,if_false,Zl,Zm,Zn,Zo,Zp,Zq,Zr,Zs,Zt,Zu,Zv,Zw,Zx,Zy,Zz,ZA,ZB,ZC,ZD,ZE,e1,e2,g1,h0,MO.list,Nat.reduceLeDiff,Q1,Q2,l1,l2,l3,a0D,or_true,if_true]
end
end Go.Proofs.Ytflcopaopimlpaa
set_option maxRecDepth 100000
namespace Go.Proofs.Ytflcopaopimlpaa
open Go.Sx Go.Kv
theorem d1n:∀ (kvs:List KV) (i:Nat) (kv:KV),kvs[i]?=some kv->(b2x kvs)[2*i]?=some (MO.mq kv kv.length)
 | [],_,_,h=>by cases h
 | a::l,0,kv,h=>by simp only [Qe,Q9] at h; subst h; rfl
 | a::l,i+1,kv,h=>by
  have:=d1n l i kv (by simpa using h)
  rw [show b2x (a::l)=MO.mq a a.length::MO.dead::b2x l from rfl,show 2*(i+1)=2*i+1+1 by omega,Qf,Qf]
  exact this
theorem d2o (σ:List MO) (pre:List PV) {kvs:List KV} {i:Nat} {kv:KV} (h:kvs[i]?=some kv):(σ++cpO σ.length pre kvs)[hnd σ.length i]?=some (.mq kv kv.length):=by
 cases kvs with
 | nil=>cases h
 | cons a l =>
  rw [Qa (by unfold hnd; split<;>omega),cpO]
  cases i with
  | zero =>
   simp only [Qe,Q9] at h; subst h
   rw [show hnd σ.length 0-σ.length=0+1 by simp [hnd]]; rfl
  | succ i =>
   rw [show hnd σ.length (i+1)-σ.length=2*i+1+1+1+1 by unfold hnd; rw [if_neg (by omega)]; omega]
   simp only [Qf]
   exact d1n l i kv (by simpa using h)
theorem d2e (k:Nat) {i j:Nat} (h:i < j):hnd k i≠hnd k j:=by
 unfold hnd
 repeat' split
 all_goals omega
theorem d1B (σ:List MO) (P B C A:PV) {kvs:List KV} (hne:kvs≠[]) (ha:∀ kv∈kvs,Asc kv/\kv.length<=40):BInv (σ++cpO σ.length [P,B,C,A] kvs) P B C A σ.length (σ.length+3) ((Qt kvs.length).map (hnd σ.length)) kvs:=by
 obtain ⟨a,l,rfl⟩:=QH hne
 refine ⟨?_,?_,fun i h hi=>?_,by simp,?_⟩
 ·rw [Q7,QJ,Qa (Qu _),Qv]; rfl
 ·rw [Qa (by omega),QK]
  simp only [cpO,Qf,Qe,Q9,MO.row.injEq,and_true]
  rw [a7D,List.map_map]; rfl
 ·rw [Qd] at hi
  cases hr:(Qt (a::l).length)[i]? with
  | none=>rw [hr] at hi; cases hi
  | some i' =>
   rw [hr] at hi
   simp only [Q6,Q9] at hi
   have h1:=(Q3.1 hr).1
   rw [QJ] at h1
   have h2:i'=i:=by rw [List.getElem?_range h1] at hr; simpa using hr.symm
   subst h2 hi
   obtain ⟨kv,hk⟩:=a0W h1
   obtain ⟨g1,g2⟩:=ha kv (QD hk)
   exact ⟨kv,kv.length,hk,d2o σ _ hk,g1,g2⟩
 ·rw [List.nodup_iff_pairwise_ne,List.pairwise_map]
  exact (List.pairwise_lt_range (n:=(a::l).length)).imp fun h=>d2e _ h
theorem d1m (k:Nat):∀ (kvs:List KV) (o:MO),o∈b2x kvs->o.low k=true
 | [],_,h=>by cases h
 | a::l,o,h=>by
  rw [show b2x (a::l)=MO.mq a a.length::MO.dead::b2x l from rfl,Qg,Qg] at h
  rcases h with rfl | rfl | h
  ·rfl
  ·rfl
  ·exact d1m k l o h
theorem d1E {σ:List MO} (hlow:σ.all (MO.low σ.length)=true) {P B C A:PV} (hp:∀ k,P.low k=true) (hb:∀ k,B.low k=true) (hc:∀ k,C.low k=true) (ha:∀ k,A.low k=true) {kvs:List KV} (hne:kvs≠[]):(σ++cpO σ.length [P,B,C,A] kvs).all (MO.low (σ++cpO σ.length [P,B,C,A] kvs).length)=true:=by
 obtain ⟨a,l,rfl⟩:=QH hne
 have hlen:(σ++cpO σ.length [P,B,C,A] (a::l)).length=σ.length+4+2*l.length:=by
  rw [List.length_append,cpO]; simp only [List.length_cons,c2M]; omega
 rw [hlen]
 refine Qh.2 fun o ho=>?_
 rcases QL.1 ho with ho | ho
 ·exact MO.low_mono (by omega) (Qh.1 hlow o ho)
 ·simp only [cpO,Qg] at ho
  rcases ho with rfl | rfl | rfl | rfl | ho
  ·show PV.lows _ _=true
   simp only [Q5,Q4,PV.lows,hp,hb,hc,ha,PV.low,Qs,Qb,decide_eq_true_eq]; omega
  ·rfl
  ·rfl
  ·show PV.lowss _ ((Qt (l.length+1)).map fun i=>[PV.mp (hnd σ.length i)])=true
   have:∀ m:List Nat,(∀ i∈m,i<=l.length)->PV.lowss (σ.length+4+2*l.length) (m.map fun i=>[PV.mp (hnd σ.length i)])=true:=by
    intro m
    induction m with
    | nil=>intro _; rfl
    | cons i m ih =>
     intro h
     have h1:=h i (by simp)
     simp only [Qw,PV.lowss,PV.lows,PV.low,ih (fun x hx=>h x (by simp [hx])),Qb,decide_eq_true_eq]
     unfold hnd; split<;>omega
   exact this _ fun i hi=>by have:=List.mem_range.1 hi; omega
  ·exact d1m _ l o ho
theorem d1s {σ:List MO}:∀ {hs:List Nat} {kvs:List KV},kvs.length=hs.length->(∀ (i h:Nat),hs[i]?=some h->∃ kv ver,kvs[i]?=some kv/\σ[h]?=some (.mq kv ver)/\Asc kv/\kv.length<=40)->b6n σ hs=some kvs
 | [],[],_,_=>rfl
 | [],_::_,h,_=>by cases h
 | _::_,[],h,_=>by cases h
 | h::hs,a::l,hl,hm=>by
  obtain ⟨kv,ver,g1,g2,g3,g4⟩:=hm 0 h rfl
  simp only [Qe,Q9] at g1; subst g1
  have ih:=d1s (σ:=σ) (hs:=hs) (kvs:=l) (by simpa using hl) (fun i x hi=>by simpa using hm (i+1) x (by simpa using hi))
  have:c4M σ h=some a:=by unfold c4M; rw [g2]; simp only; rw [if_pos ⟨c0Z g3,by omega⟩]
  rw [b6n,this,Q0,ih]; rfl
section
variable (σ:List MO) {P B C A:PV} {hb hl:Nat} {hs:List Nat} {kvs:List KV} (h:BInv σ P B C A hb hl hs kvs) (n:Nat)
include h in
theorem d1z (h1:clB 5 P=true) (h2:clB 4 B=true) (h3:clB 3 C=true) (h4:clB 3 A=true) (hN:hs.length<=100) (hn:1<=n):a0B Tab n c2g [.ref hb 0] σ=some (.ref σ.length 0,σ++cpO σ.length [P,B,C,A] kvs):=by
 obtain ⟨n,rfl⟩:∃ k,n=k+1:=⟨n-1,by omega⟩
 have hlen:=h.len
 show c1d [.ref hb 0] σ=_
 simp only [c1d,h.bkMs,Q0,h.book,h1,h2,h3,h4,Bool.and_self,if_true,d1s h.len h.maps]
 rw [if_pos (by omega)]
end
end Go.Proofs.Ytflcopaopimlpaa
set_option maxRecDepth 100000
namespace Go.Proofs.Ytflcopaopimlpaa
open Go.Sx Go.Kv
def rcO (k TR:Nat) (pre els:List PV):List MO :=
 if els=[] then [.cells (pre++[.nilS]) TR] else [.cells (pre++[.rsl (k+1) els.length 1]) TR,.row (els.map fun e=>[e]) 1 41]
def rcL (k n:Nat):PV:=if n=0 then .nilS else .rsl (k+1) n 1
theorem d1q (σ:List MO) (TR:Nat) (pre els:List PV):(σ++rcO σ.length TR pre els)[σ.length]?=some (.cells (pre++[rcL σ.length els.length]) TR):=by
 rw [Qa (Qu _),Qv]
 unfold rcO rcL
 by_cases h:els=[]
 ·subst h; rfl
 ·rw [if_neg h,if_neg (by simpa using h)]; rfl
def cpE (e:PV):PV:=.sl 8 ((e.rowsOf 8).getD [])
section
variable (σ:List MO) {P B C A:PV} {xb hx T TR:Nat} {k:Bool} {els:List PV} {kvs:List KV} (h:RInv σ P B C A xb hx k T TR els kvs) (n:Nat)
def d1v (k:Nat) (M:List MO) (xb:Nat) (j:Int):PEnv:={ i:=[j],b:=[],v:=[.ref xb 0,.ref k 0],m:=M,k:=k }
set_option maxHeartbeats 2000000 in
include h in
theorem d2a {j:Nat} {E:PV} (hj:els[j]?=some E) (hjn:j<=1000) {r:List (List PV)} (hE:E.rowsOf 8=some r) (hr1:r.length<=1000) (done:List PV) (hd:done.length=j) :
  c9S.ev (a0B Tab n) (d1v σ.length (σ++rcO σ.length 72 [P,B,C,A] done) xb (j:Int))=some (.jump 0 (d1v σ.length (σ++rcO σ.length 72 [P,B,C,A] (done++[.sl 8 r])) xb ((j:Int)+1))):=by
 obtain ⟨l1,l2,l3⟩:=b4W k hx els
 have hjl:j < els.length:=(Q3.1 hj).1
 obtain ⟨q1,q2,q3⟩:=a0C hE
 have hxb:=(Q3.1 h.book).1
 have hxx:=(Q3.1 h.lst).1
 have f1:=d1q σ 72 [P,B,C,A] done
 have f2:(σ++rcO σ.length 72 [P,B,C,A] done)[xb]?=some (.cells [P,B,C,A,a6k k hx els.length] TR):=by rw [Qj hxb]; exact h.book
 have f3:(σ++rcO σ.length 72 [P,B,C,A] done)[hx]?=some (a2K k T els):=by rw [Qj hxx]; exact h.lst
 obtain ⟨loc,hloc,hr⟩:=c3g _ k hx T els f3 hj q3
 simp -implicitDefEqProofs only [↓reduceIte,eq_self,ZF,ZG,ZH,ZI,ZJ,ZK,ZL,ZM,ZN,ZO,ZP,ZQ,ZR,ZS,ZT,ZU,ZV,ZW,ZX,ZY,Z2,Z3,Z4,Z5,Z6,Z7,Z8,Z9,Za,Zb,Zc,Zd,Ze,Zf,Zg,Zh,Nat.reduceAdd,Zi,if_true,if_false,Zl,Zm,Zn,Zo,Zp,Zq,Zr,Zs,Zt,Zu,Zv,Zw,Zx,Zy,Zz,ZA,ZB,ZC,ZD,ZE,MO.list,Nat.reduceLeDiff] at hr
 have g1:PV.isKind 1 (.ref xb 0)=true:=rfl
 have hdh:ltB (j:Int) (els.length:Int)=true:=by rw [a0U]; omega
 have hup:=a1y (show j<=1000000000 by omega)
 have s1:∀ x y,a3T [P,B,C,A,y] 4 [x]=[P,B,C,A,x]:=fun _ _=>rfl
 have c1:r.length<=1000000:=by omega
 have hne:done++[PV.sl 8 r]≠[]:=by simp
 have ol:PV.one (.sl 8 r)=true:=rfl
 rw [hd] at f1
 unfold d1v
 cases j with
 | zero =>
  have hd0:done=[]:=List.length_eq_zero_iff.1 hd
  have f5:((σ++rcO σ.length 72 [P,B,C,A] done)++[MO.row [[PV.sl 8 r]] 1 41])[σ.length]?=some (.cells [P,B,C,A,.nilS] 72):=by
   rw [Qj (by rw [hd0]; simp [rcO]),f1]; rfl
  have f6:((σ++rcO σ.length 72 [P,B,C,A] done)++[MO.row [[PV.sl 8 r]] 1 41]).set σ.length (.cells [P,B,C,A,.rsl (σ.length+1) 1 1] 72)=σ++rcO σ.length 72 [P,B,C,A] (done++[.sl 8 r]):=by
   rw [hd0]; simp [rcO]
  have f7:(σ++rcO σ.length 72 [P,B,C,A] done).length=σ.length+1:=by rw [hd0]; simp [rcO]
  have on:PV.one .nilS=true:=rfl
  rw [show [P,B,C,A]++[rcL σ.length 0]=[P,B,C,A,.nilS] from rfl] at f1
  generalize σ++rcO σ.length 72 [P,B,C,A] done=M at *
  generalize σ++rcO σ.length 72 [P,B,C,A] (done++[.sl 8 r])=M' at *
  simp -implicitDefEqProofs only [c9S,↓reduceIte,eq_self,ZF,ZG,ZH,ZI,ZJ,ZK,ZL,ZM,ZN,ZO,ZP,ZQ,ZR,ZS,ZT,ZU,ZV,ZW,ZX,ZY,Z2,Z3,Z4,Z5,Z6,Z7,Z8,Z9,Za,Zb,Zc,Zd,Ze,Zf,Zg,Zh,Nat.reduceAdd,Zi,if_true,if_false,Zl,Zm,Zn,Zo,Zp,Zq,Zr,Zs,Zt,Zu,Zv,Zw,Zx,Zy,Zz,ZA,ZB,ZC,ZD,ZE,g1,f2,MO.list,Nat.reduceLeDiff,Q1,Q2,l1,l2,l3,hdh]
  repeat' (first | with_reducible rfl | apply c6h | simp -implicitDefEqProofs only [↓reduceIte,eq_self,ZF,ZG,ZH,ZI,ZJ,ZK,ZL,ZM,ZN,ZO,ZP,ZQ,ZR,ZS,ZT,ZU,ZV,ZW,ZX,ZY,Z2,Z3,Z4,Z5,Z6,Z7,Z8,Z9,Za,Zb,Zc,Zd,Ze,Zf,Zg,Zh,Nat.reduceAdd,Zi,if_true,if_false,Zl,Zm,Zn,Zo,Zp,Zq,Zr,Zs,Zt,Zu,Zv,Zw,Zx,Zy,Zz,ZA,ZB,ZC,ZD,ZE,a1f,Qk,Qm,Qn,Qp,Qq,Qr,g1,f1,f2,MO.list,Nat.reduceLeDiff,Q1,Q2,l1,l2,l3,hdh,le0,hloc,hr,q3,on,ol,hE,if_pos c1,a1v,QM,QN,f5,f6,f7,s1,if_pos hup] | unfold d0r | unfold d0v | unfold d0u | unfold d0z | unfold d0y | unfold d0x | unfold d0s | unfold d0t | unfold d0w | unfold d0f | unfold c9X | unfold d0g | unfold d0b | unfold d0l | unfold d0h | unfold d0e | unfold d0j | unfold d0i | unfold d0p | unfold d0a | unfold d0c | unfold d0m | unfold c9Y | unfold d0q | unfold d0k | unfold d0n | unfold d0d | unfold d0o)
 | succ j =>
  have hdn:done≠[]:=by intro h0; rw [h0] at hd; cases hd
  have f4:(σ++rcO σ.length 72 [P,B,C,A] done)[σ.length+1]?=some (.row (done.map fun e=>[e]) 1 41):=by
   rw [Qa (by omega),rcO,if_neg hdn,show σ.length+1-σ.length=0+1 by omega]; rfl
  have f5:∀ o,((σ++rcO σ.length 72 [P,B,C,A] done).set (σ.length+1) o)[σ.length]?=some (.cells [P,B,C,A,.rsl (σ.length+1) (j+1) 1] 72):=fun o=>by
   rw [List.getElem?_set_ne (by omega),f1]; rfl
  have f6:((σ++rcO σ.length 72 [P,B,C,A] done).set (σ.length+1) (.row (done.map (fun e=>[e])++[[PV.sl 8 r]]) 1 41)).set σ.length (.cells [P,B,C,A,.rsl (σ.length+1) (j+1+1) 1] 72)=σ++rcO σ.length 72 [P,B,C,A] (done++[.sl 8 r]):=by
   unfold rcO
   rw [if_neg hdn,if_neg hne,QP _ _ (by omega),QP _ _ (Qu _),Qv,QK]
   simp [hd]
  have ld:(done.map fun e=>[e]).length=j+1:=by rw [Q7]; exact hd
  have cnd:(done.map fun e=>[e]).length=j+1/\True/\True/\True/\j+1+1<=1000000:=⟨ld,trivial,trivial,trivial,by omega⟩
  have on:PV.one (.rsl (σ.length+1) (j+1) 1)=true:=rfl
  rw [show [P,B,C,A]++[rcL σ.length (j+1)]=[P,B,C,A,.rsl (σ.length+1) (j+1) 1] from rfl] at f1
  generalize σ++rcO σ.length 72 [P,B,C,A] done=M at *
  generalize σ++rcO σ.length 72 [P,B,C,A] (done++[.sl 8 r])=M' at *
  simp -implicitDefEqProofs only [c9S,↓reduceIte,eq_self,ZF,ZG,ZH,ZI,ZJ,ZK,ZL,ZM,ZN,ZO,ZP,ZQ,ZR,ZS,ZT,ZU,ZV,ZW,ZX,ZY,Z2,Z3,Z4,Z5,Z6,Z7,Z8,Z9,Za,Zb,Zc,Zd,Ze,Zf,Zg,Zh,Nat.reduceAdd,Zi,if_true,if_false,Zl,Zm,Zn,Zo,Zp,Zq,Zr,Zs,Zt,Zu,Zv,Zw,Zx,Zy,Zz,ZA,ZB,ZC,ZD,ZE,g1,f2,MO.list,Nat.reduceLeDiff,Q1,Q2,l1,l2,l3,hdh]
  repeat' (first | with_reducible rfl | apply c6h | simp -implicitDefEqProofs only [↓reduceIte,eq_self,ZF,ZG,ZH,ZI,ZJ,ZK,ZL,ZM,ZN,ZO,ZP,ZQ,ZR,ZS,ZT,ZU,ZV,ZW,ZX,ZY,Z2,Z3,Z4,Z5,Z6,Z7,Z8,Z9,Za,Zb,Zc,Zd,Ze,Zf,Zg,Zh,Nat.reduceAdd,Zi,if_true,if_false,Zl,Zm,Zn,Zo,Zp,Zq,Zr,Zs,Zt,Zu,Zv,Zw,Zx,Zy,Zz,ZA,ZB,ZC,ZD,ZE,a1f,Qk,Qm,Qn,Qp,Qq,Qr,g1,f1,f2,f4,MO.list,Nat.reduceLeDiff,Q1,Q2,l1,l2,l3,hdh,le0,hloc,hr,q3,on,ol,hE,if_pos c1,a1v,QM,QN,ld,true_and,and_true,if_pos (show j<=999998 by omega),f5,f6,s1,if_pos hup] | unfold d0r | unfold d0v | unfold d0u | unfold d0z | unfold d0y | unfold d0x | unfold d0s | unfold d0t | unfold d0w | unfold d0f | unfold c9X | unfold d0g | unfold d0b | unfold d0l | unfold d0h | unfold d0e | unfold d0j | unfold d0i | unfold d0p | unfold d0a | unfold d0c | unfold d0m | unfold c9Y | unfold d0q | unfold d0k | unfold d0n | unfold d0d | unfold d0o)
include h in
theorem d2i (hN:els.length<=1000):∀ d j,j+d=els.length->∀ fuel,saleroomref16_Book_Copy_S.loop (a0B Tab n) (fuel+d+1) 0 (d1v σ.length (σ++rcO σ.length 72 [P,B,C,A] ((els.take j).map cpE)) xb (j:Int))=some (.ref σ.length 0,σ++rcO σ.length 72 [P,B,C,A] (els.map cpE)):=by
 obtain ⟨l1,l2,l3⟩:=b4W k hx els
 have hxb:=(Q3.1 h.book).1
 intro d
 induction d with
 | zero =>
  intro j hj fuel
  rw [Nat.add_zero] at hj; subst hj
  have hd:decide (els.length < els.length)=false:=by simp
  have g1:PV.isKind 1 (.ref xb 0)=true:=rfl
  have ho:PV.on 0 (.ref σ.length 0)=some (.ref σ.length 0):=rfl
  have f2:(σ++rcO σ.length 72 [P,B,C,A] (els.map cpE))[xb]?=some (.cells [P,B,C,A,a6k k hx els.length] TR):=by rw [Qj hxb]; exact h.book
  rw [List.take_length,Sys.loop,show saleroomref16_Book_Copy_S.loops[0]?=some c9S from rfl]
  simp -implicitDefEqProofs only [Q0,d1v,c9S,↓reduceIte,eq_self,ZF,ZG,ZH,ZI,ZJ,ZK,ZL,ZM,ZN,ZO,ZP,ZQ,ZR,ZS,ZT,ZU,ZV,ZW,ZX,ZY,Z2,Z3,Z4,Z5,Z6,Z7,Z8,Z9,Za,Zb,Zc,Zd,Ze,Zf,Zg,Zh,Nat.reduceAdd,Zi,if_true,if_false,Zl,Zm,Zn,Zo,Zp,Zq,Zr,Zs,Zt,Zu,Zv,Zw,Zx,Zy,Zz,ZA,ZB,ZC,ZD,ZE,g1,f2,MO.list,Nat.reduceLeDiff,Q1,Q2,l1,l2,l3,a0F,hd,ho,a0D,true_or,if_true]
 | succ d ih =>
  intro j hj fuel
  obtain ⟨E,hE⟩:=a0W (show j < els.length by omega)
  obtain ⟨kv,_,k2,_,k4⟩:=h.el j E hE
  have st:=d2a σ h n hE (by omega) k2 (by simp; omega) ((els.take j).map cpE) (by simp; omega)
  have hc:(els.take j).map cpE++[.sl 8 ((kv.map (kvO (j:Int))).map O8.row)]=(els.take (j+1)).map cpE:=by
   rw [List.take_add_one,hE,List.map_append]
   simp only [Option.toList_some,Qw,List.map_nil,cpE,k2,Qy]
  rw [hc,<- a0Q] at st
  rw [show fuel+(d+1)+1=(fuel+d+1)+1 from rfl,Sys.loop,show saleroomref16_Book_Copy_S.loops[0]?=some c9S from rfl,Q0,st]
  exact ih (j+1) (by omega) fuel
include h in
theorem d1W (hN:els.length<=1000) (hp:P.one=true) (hb:B.one=true) (hc:C.one=true) (ha:A.one=true) (hn:1010<=n):a0B Tab n d0K [.ref xb 0] σ=some (.ref σ.length 0,σ++rcO σ.length 72 [P,B,C,A] (els.map cpE)):=by
 obtain ⟨n,rfl⟩:∃ k,n=k+1:=⟨n-1,by omega⟩
 obtain ⟨f,hf⟩:∃ f,n=f+els.length+1:=⟨n-els.length-1,by omega⟩
 have k1:=d2i σ h n hN els.length 0 (by omega) f
 rw [<- hf,List.take_zero,List.map_nil] at k1
 have g1:PV.isKind 1 (.ref xb 0)=true:=rfl
 have h0:=h.book
 rw [a0B]
 simp only [d0X,Q0,Sys.run]
 show ((a0E [.sh (.one _)] _).bind _)=_
 simp -implicitDefEqProofs only [a0E,a0x,a0w,Q6,Q0,Q8,Q4,Q5,if_true,PV.one]
 show (PT.ev _ d0C _).bind _=_
 simp -implicitDefEqProofs only [d0C,↓reduceIte,eq_self,ZF,ZG,ZH,ZI,ZJ,ZK,ZL,ZM,ZN,ZO,ZP,ZQ,ZR,ZS,ZT,ZU,ZV,ZW,ZX,ZY,Z2,Z3,Z4,Z5,Z6,Z7,Z8,Z9,Za,Zb,Zc,Zd,Ze,Zf,Zg,Zh,Nat.reduceAdd,Zi,if_true,if_false,Zl,Zm,Zn,Zo,Zp,Zq,Zr,Zs,Zt,Zu,Zv,Zw,Zx,Zy,Zz,ZA,ZB,ZC,ZD,ZE,g1,h0,MO.list,Nat.reduceLeDiff,Q1,Q2,hp,hb,hc,ha]
 exact k1
end
theorem d2b {σ:List MO} {P B C A:PV} {xb hx T TR:Nat} {k:Bool} {els:List PV} {kvs:List KV} (h:RInv σ P B C A xb hx k T TR els kvs) (hne:els≠[]):RInv (σ++rcO σ.length 72 [P,B,C,A] (els.map cpE)) P B C A σ.length (σ.length+1) true 41 72 (els.map cpE) kvs where
 book:=by
  rw [d1q]
  unfold rcL a6k
  rw [if_neg (by simpa using hne),if_pos rfl]; rfl
 lst:=by
  rw [Qa (by omega),rcO,if_neg (by simpa using hne),show σ.length+1-σ.length=0+1 by omega]
  rfl
 el i E hi:=by
  rw [Qd,Option.map_eq_some_iff] at hi
  obtain ⟨E0,h0,rfl⟩:=hi
  obtain ⟨kv,k1,k2,k3,k4⟩:=h.el i E0 h0
  exact ⟨kv,k1,by unfold cpE; rw [k2,Qy,a1v],k3,k4⟩
 len:=by rw [Q7]; exact h.len
 ne:=by omega
theorem d2n {σ:List MO} (hlow:σ.all (MO.low σ.length)=true) {P B C A:PV} {xb hx T TR:Nat} {k:Bool} {els:List PV} {kvs:List KV} (h:RInv σ P B C A xb hx k T TR els kvs) (hp:∀ k,P.low k=true) (hb:∀ k,B.low k=true) (hc:∀ k,C.low k=true) (ha:∀ k,A.low k=true) (hne:els≠[]):(σ++rcO σ.length 72 [P,B,C,A] (els.map cpE)).all (MO.low (σ++rcO σ.length 72 [P,B,C,A] (els.map cpE)).length)=true:=by
 have hne':els.map cpE≠[]:=by simpa using hne
 have hlen:(σ++rcO σ.length 72 [P,B,C,A] (els.map cpE)).length=σ.length+2:=by rw [rcO,if_neg hne']; simp
 rw [hlen]
 refine Qh.2 fun o ho=>?_
 rcases QL.1 ho with ho | ho
 ·exact MO.low_mono (by omega) (Qh.1 hlow o ho)
 ·rw [rcO,if_neg hne'] at ho
  simp only [Qg,List.not_mem_nil,or_false] at ho
  rcases ho with rfl | rfl
  ·show PV.lows _ _=true
   simp only [Q5,Q4,PV.lows,hp,hb,hc,ha,PV.low,Qs,Qb,decide_eq_true_eq]; omega
  ·show PV.lowss _ ((els.map cpE).map fun e=>[e])=true
   rw [b7M]
   have:∀ l:List PV,(∀ E∈l,∃ o:List O8,E.rowsOf 8=some (o.map O8.row))->PV.lows (σ.length+2) (l.map cpE)=true:=by
    intro l
    induction l with
    | nil=>intro _; rfl
    | cons e l ih =>
     intro hm
     obtain ⟨o,ho⟩:=hm e (by simp)
     simp only [Qw,PV.lows,ih (fun x hx=>hm x (by simp [hx])),Qb]
     exact c4e (l:=o) (by unfold cpE; rw [ho,Qy,a1v]) _
   refine this els fun E hE=>?_
   obtain ⟨i,hi⟩:=List.getElem?_of_mem hE
   obtain ⟨kv,_,k2,_⟩:=h.el i E hi
   exact ⟨_,k2⟩
end Go.Proofs.Ytflcopaopimlpaa
