/- The cycle that is followed back. -/
import Derived.Test.YtggjcdnailppoaaHRva
import Derived.Test.YtggjcdnailppoaaHGx
set_option linter.unusedSimpArgs false
set_option linter.unusedVariables false
open Go.Sx.PT renaming ev → Z1
open Go.Sx.BE renaming safe → Z2, pe → Z3, all → Zz
open Go.Sx.IE renaming pe → Z4
open Go.Sx renaming PEnv.at → Z5
open Go.Sx.PEnv renaming push → Zt
open List renaming getD_cons_zero → Z6, getD_cons_succ → Z7, getElem?_cons_zero → Z8, getElem?_cons_succ → Z9, drop_zero → Zf, length_cons → Zg, length_nil → Zh, take_succ_cons → Zm, take_zero → Zn, cons_append → Zu, nil_append → Zv, append_nil → Zw, map_cons → ZD, map_nil → ZE
open Go.Sx renaming a0i → Za, a0k → Zb, a0b → Zc, a0j → Zd, a0c → Zo, a0a → Zp, a0d → Zq, a0z → ZF, a0B → ZG, a0r → ZH, a0q → ZI, a0x → ZJ, a0w → ZK, a0o → ZL, a0A → ZM, a0p → ZN, a0u → ZO, a0m → ZP, a0v → ZQ, a0y → ZR, a0g → ZS, a0s → ZT, a0l → ZU, a0f → ZV, a0e → ZW, a0h → ZX, a0t → ZY
open Nat renaming add_zero → Ze, le_refl → Zi
open Bool renaming false_eq_true → Zl, and_self → ZA, not_true → ZB, not_false → ZC
open Option renaming map_some → Zr, bind_some → Zs
open Go.Sx.SV renaming pvs → Zx, pv → Zy
open List renaming replicate → Q0, range → Q2, mem_range → Q6, mem_map → Q8, length_map → Q9, mem_of_getElem? → Qa, append_assoc → Qg, range_succ → Qh, mapM_cons → Qk, replicate_succ' → Qp, set_append_right → Qq
open Option renaming bind_some → Q1, getD_none → Qe, getD_some → Qj, bind_eq_bind → Qm, pure_def → Qn
open Nat renaming zero_add → Q3, add_zero → Q4, mul_one → Q5, le_add_left → Q7, zero_mul → Qb, succ_mul → Qd, le_refl → Qf
set_option maxRecDepth 100000
namespace Go.Proofs.Ytggjcdnailppoaa
open Go.Sx Go.Bf
def a1j (f:Nat->Int) (z j k:Nat):List Int:=(Q2 k).map fun i=>(a0C f z (j+i):Int)
theorem b2g (f:Nat->Int) (z j:Nat):a1j f z j 0=[]:=rfl
theorem a4Z (f:Nat->Int) (z j k:Nat):(a1j f z j k).length=k:=by simp [a1j]
theorem b2O (f:Nat->Int) (z j k:Nat):a1j f z j (k+1)=a1j f z j k++[(a0C f z (j+k):Int)]:=by simp [a1j,Qh]
theorem a9T {f:Nat->Int} {z j k:Nat} {x:Int}:x∈a1j f z j k↔∃ i,i < k/\x=(a0C f z (j+i):Int):=by
 simp only [a1j,Q8,Q6]
 constructor
 ·rintro ⟨i,h,rfl⟩; exact ⟨i,h,rfl⟩
 ·rintro ⟨i,h,rfl⟩; exact ⟨i,h,rfl⟩
theorem b8l {f:Nat->Int} {z k:Nat} (hn:((Q2 k).map (a0C f z)).Nodup) {a b:Nat} (ha:a < k) (hb:b < k) (e:a0C f z a=a0C f z b):a=b:=by
 have ga:((Q2 k).map (a0C f z))[a]?=some (a0C f z a):=by simp [ha]
 have gb:((Q2 k).map (a0C f z))[b]?=some (a0C f z a):=by simp [hb,e]
 exact (List.getElem?_inj (by simpa using ha) hn).1 (by rw [ga,gb])
section
variable (σ:List MO) (n:Nat) (h:Nat) (fl:List Int) (T:Nat) (hm:σ[h]?=some (.cells (a0X fl) T))
variable {g:Nat->Nat->Int} {v:Nat->Int} {c t:Nat->Nat} {z:Nat} (hf:Go.Bf.Fin fl.length g v (at' fl) c t z)
def st0 (k:Nat):PEnv:={ i:=[(a0C (at' fl) z k:Int)],b:=[],v:=[.msl h 0 fl.length fl.length 1,.mp σ.length],m:=σ++[.mp (a1j (at' fl) z 0 k) (Q0 k (.bool true)) .i64],k:=σ.length }
def st1 (w:PV) (m:List MO) (x:Nat):PEnv:={ i:=[(x:Int)],b:=[],v:=[.msl h 0 fl.length fl.length 1,.mp σ.length,w],m:=σ++m,k:=σ.length }
include hm hf in
theorem b6u (k fuel:Nat) (hk:k<=fl.length) (hn:((Q2 k).map (a0C (at' fl) z)).Nodup) :
  (a0C (at' fl) z k ∉ (Q2 k).map (a0C (at' fl) z)->revealed_cycle_S.loop (a0n Tab n) (fuel+1) 0 (st0 σ h fl (z:=z) k)=revealed_cycle_S.loop (a0n Tab n) fuel 0 (st0 σ h fl (z:=z) (k+1))) /\
  (a0C (at' fl) z k∈(Q2 k).map (a0C (at' fl) z)->revealed_cycle_S.loop (a0n Tab n) (fuel+1) 0 (st0 σ h fl (z:=z) k)=revealed_cycle_S.loop (a0n Tab n) fuel 1 (st1 σ h fl .nilS [.mp [] [] .i64] (a0C (at' fl) z k))):=by
 have hl:=b0g (a1j (at' fl) z 0 k) (.bool true) (a0C (at' fl) z k:Int)
 rw [a4Z] at hl
 have hmem:((a0C (at' fl) z k:Int)∈a1j (at' fl) z 0 k)↔a0C (at' fl) z k∈(Q2 k).map (a0C (at' fl) z):=by
  rw [a9T,Q8]
  constructor
  ·rintro ⟨i,hi,e⟩; exact ⟨i,Q6.2 hi,by rw [Q3] at e; omega⟩
  ·rintro ⟨i,hi,e⟩; exact ⟨i,Q6.1 hi,by rw [Q3,e]⟩
 constructor
 ·intro hx
  have hx':=fun q=>hx (hmem.1 q)
  rw [if_neg hx'] at hl
  have hp:=b4S (a1j (at' fl) z 0 k) (.bool true) (a0C (at' fl) z k:Int) hx'
  rw [a4Z] at hp
  have hkn:=hf.short hk hn hx
  have a1:=hf.at_lt k (by omega)
  have hlink:=(hf.link hkn).1
  have hk1:=b2O (at' fl) z 0 k
  rw [Q3] at hk1
  rw [st0,st0,hk1]
  rw [Sys.loop,show revealed_cycle_S.loops[0]?=some a2x from rfl]
  generalize a0C (at' fl) z (k+1)=y at *
  generalize a0C (at' fl) z k=x at *
  have hg:fl[x]?=some (y:Int):=by rw [b0C a1.1,hlink]
  have hd:=a6o hg
  have he:=a4a (h:=h) (o:=0) (cap:=fl.length) (sz:=1) (off:=0) a1.1
  have q1:(leB 0 (x:Int)&&decide (x < fl.length))=true:=by simp [leB,a1.1]
  have gm:=fun r=>b5W (r:=r) hm
  simp -implicitDefEqProofs only [Q1,a2x,↓reduceIte,eq_self,Z1,Z2,Z3,Z4,Z5,Z6,Z7,Z8,Z9,Za,Zb,Zc,Zd,Ze,Zf,Zg,Zh,Nat.reduceAdd,Zi,if_true,if_false,Zl,Zm,Zn,Zo,Zp,Zq,Zr,Zs,Zt,Zu,Zv,Zw,Zx,Zy,Zz,ZA,ZB,ZC,ZD,ZE,a7o,a9b,hl,hp,Qe,PV.len,a0E,if_pos q1,he,gm,MO.list,Q5,Q3,hd,Q7]
 ·intro hx
  rw [if_pos (hmem.2 hx)] at hl
  rw [st0,st1]
  rw [Sys.loop,show revealed_cycle_S.loops[0]?=some a2x from rfl]
  simp -implicitDefEqProofs only [Q1,a2x,↓reduceIte,eq_self,Z1,Z2,Z3,Z4,Z5,Z6,Z7,Z8,Z9,Za,Zb,Zc,Zd,Ze,Zf,Zg,Zh,Nat.reduceAdd,Zi,if_true,if_false,Zl,Zm,Zn,Zo,Zp,Zq,Zr,Zs,Zt,Zu,Zv,Zw,Zx,Zy,Zz,ZA,ZB,ZC,ZD,ZE,a7o,a9b,hl,Qj]
include hm hf in
theorem c1c (d:Nat):∀ k,fl.length-k<=d->k<=fl.length->((Q2 k).map (a0C (at' fl) z)).Nodup->∃ j k',k<=k'/\j < k'/\k'<=fl.length/\((Q2 k').map (a0C (at' fl) z)).Nodup/\a0C (at' fl) z k'=a0C (at' fl) z j /\
  ∀ fuel,revealed_cycle_S.loop (a0n Tab n) (fuel+(k'-k)+1) 0 (st0 σ h fl (z:=z) k)=revealed_cycle_S.loop (a0n Tab n) fuel 1 (st1 σ h fl .nilS [.mp [] [] .i64] (a0C (at' fl) z j)):=by
 induction d with
 | zero =>
  intro k h1 h2 hn
  by_cases hx:a0C (at' fl) z k∈(Q2 k).map (a0C (at' fl) z)
  ·obtain ⟨j,hj,e⟩:=Q8.1 hx
   refine ⟨j,k,Qf _,Q6.1 hj,h2,hn,e.symm,fun fuel=>?_⟩
   rw [Nat.sub_self,Q4,(b6u σ n h fl T hm hf k fuel h2 hn).2 hx,e]
  ·have:=hf.short h2 hn hx; omega
 | succ d ih =>
  intro k h1 h2 hn
  by_cases hx:a0C (at' fl) z k∈(Q2 k).map (a0C (at' fl) z)
  ·obtain ⟨j,hj,e⟩:=Q8.1 hx
   refine ⟨j,k,Qf _,Q6.1 hj,h2,hn,e.symm,fun fuel=>?_⟩
   rw [Nat.sub_self,Q4,(b6u σ n h fl T hm hf k fuel h2 hn).2 hx,e]
  ·have hk:=hf.short h2 hn hx
   have hn1:((Q2 (k+1)).map (a0C (at' fl) z)).Nodup:=by
    rw [Qh,List.map_append,List.nodup_append]
    refine ⟨hn,by simp,?_⟩
    intro a ha b hb
    simp only [List.map_cons,List.map_nil,List.mem_singleton] at hb
    rintro rfl
    subst hb
    exact hx ha
   obtain ⟨j,k',e1,e2,e3,e4,e5,e6⟩:=ih (k+1) (by omega) (by omega) hn1
   refine ⟨j,k',by omega,e2,e3,e4,e5,fun fuel=>?_⟩
   rw [show fuel+(k'-k)+1=(fuel+(k'-(k+1))+1)+1 by omega,(b6u σ n h fl T hm hf k _ h2 hn).1 hx,e6]
def back (j k:Nat):List MO:=.mp (a1j (at' fl) z j k) (Q0 k (.bool true)) .i64::(if k=0 then [] else [.row (a2i (a1j (at' fl) z j k)) 1 3])
def a5Q (k:Nat):PV:=if k=0 then .nilS else .rsl (σ.length+1) k 1
include hm hf in
theorem c0l (j L k fuel:Nat) (hfl:fl.length<=1000) (hk:k < L) (hL:j+L<=fl.length) (hn:((Q2 (j+L)).map (a0C (at' fl) z)).Nodup) :
  revealed_cycle_S.loop (a0n Tab n) (fuel+1) 1 (st1 σ h fl (a5Q σ k) (back fl (z:=z) j k) (a0C (at' fl) z (j+k)))=revealed_cycle_S.loop (a0n Tab n) fuel 1 (st1 σ h fl (a5Q σ (k+1)) (back fl (z:=z) j (k+1)) (a0C (at' fl) z (j+k+1))):=by
 have hl:=b0g (a1j (at' fl) z j k) (.bool true) (a0C (at' fl) z (j+k):Int)
 rw [a4Z] at hl
 have hx':¬ ((a0C (at' fl) z (j+k):Int)∈a1j (at' fl) z j k):=by
  rw [a9T]
  rintro ⟨i,hi,e⟩
  have:=b8l hn (a:=j+k) (b:=j+i) (by omega) (by omega) (by omega)
  omega
 rw [if_neg hx'] at hl
 have hp:=b4S (a1j (at' fl) z j k) (.bool true) (a0C (at' fl) z (j+k):Int) hx'
 rw [a4Z] at hp
 have a1:=hf.at_lt (j+k) (by omega)
 have hlink:=(hf.link (i:=j+k) (by omega)).1
 have hk1:=b2O (at' fl) z j k
 have hrl:(a2i (a1j (at' fl) z j k)).length=k:=by simp [a2i,a4Z]
 have hrs:a2i (a1j (at' fl) z j (k+1))=a2i (a1j (at' fl) z j k)++[[.int .i64 (a0C (at' fl) z (j+k):Int)]]:=by rw [hk1]; simp [a2i]
 have gm:=fun r=>b5W (r:=r) hm
 have hb1:a5Q σ (k+1)=.rsl (σ.length+1) (k+1) 1:=if_neg (by omega)
 have hb2:back fl (z:=z) j (k+1)=[.mp (a1j (at' fl) z j (k+1)) (Q0 (k+1) (.bool true)) .i64,.row (a2i (a1j (at' fl) z j (k+1))) 1 3]:=by rw [back,if_neg (by omega)]
 rw [hb1,hb2,hrs,hk1,st1,st1]
 rw [Sys.loop,show revealed_cycle_S.loops[1]?=some a1V from rfl]
 generalize a0C (at' fl) z (j+k+1)=y at *
 generalize a0C (at' fl) z (j+k)=x at *
 have hg:fl[x]?=some (y:Int):=by rw [b0C a1.1,hlink]
 have hd:=a6o hg
 have he:=a4a (h:=h) (o:=0) (cap:=fl.length) (sz:=1) (off:=0) a1.1
 have q1:(leB 0 (x:Int)&&decide (x < fl.length))=true:=by simp [leB,a1.1]
 by_cases hk0:k=0
 ·subst hk0
  simp only [a5Q,back,if_true,st1]
  simp only [b2g] at hl hp
  simp -implicitDefEqProofs only [Q1,a1V,↓reduceIte,eq_self,Z1,Z2,Z3,Z4,Z5,Z6,Z7,Z8,Z9,Za,Zb,Zc,Zd,Ze,Zf,Zg,Zh,Nat.reduceAdd,Zi,if_true,if_false,Zl,Zm,Zn,Zo,Zp,Zq,Zr,Zs,Zt,Zu,Zv,Zw,Zx,Zy,Zz,ZA,ZB,ZC,ZD,ZE,a7o,a9b,b8Q,b8Z,hl,hp,Qe,PV.len,a1s,Qk,List.mapM_nil,Qm,Qn,PV.rowsOf,Nat.reduceLeDiff,Nat.reduceEqDiff,Nat.succ_ne_zero,a0E,if_pos q1,he,gm,MO.list,Q5,Q3,hd,Q7,a2i,b2g,List.map_nil]
 ·have hb3:a5Q σ k=.rsl (σ.length+1) k 1:=if_neg hk0
  have hb4:back fl (z:=z) j k=[.mp (a1j (at' fl) z j k) (Q0 k (.bool true)) .i64,.row (a2i (a1j (at' fl) z j k)) 1 3]:=by rw [back,if_neg hk0]
  rw [hb3,hb4]
  have q2:k+1<=1000000:=by omega
  have o1:(1<=1000000)=True:=eq_true (by decide)
  have o2:(1=0)=False:=eq_false (by decide)
  simp -implicitDefEqProofs only [Q1,a1V,↓reduceIte,eq_self,Z1,Z2,Z3,Z4,Z5,Z6,Z7,Z8,Z9,Za,Zb,Zc,Zd,Ze,Zf,Zg,Zh,Nat.reduceAdd,Zi,if_true,if_false,Zl,Zm,Zn,Zo,Zp,Zq,Zr,Zs,Zt,Zu,Zv,Zw,Zx,Zy,Zz,ZA,ZB,ZC,ZD,ZE,a7o,a9b,a8M,b4m,hl,hp,Qe,PV.len,a1s,Qk,List.mapM_nil,Qm,Qn,PV.rowsOf,hrl,q2,o1,o2,and_self,a0E,if_pos q1,he,gm,MO.list,Q5,Q3,hd,Q7]
include hm hf in
theorem c0p (j L:Nat) (hfl:fl.length<=1000) (hL:j+L<=fl.length) (hn:((Q2 (j+L)).map (a0C (at' fl) z)).Nodup):∀ d k,k+d=L->∀ fuel,
  revealed_cycle_S.loop (a0n Tab n) (fuel+d) 1 (st1 σ h fl (a5Q σ k) (back fl (z:=z) j k) (a0C (at' fl) z (j+k)))=revealed_cycle_S.loop (a0n Tab n) fuel 1 (st1 σ h fl (a5Q σ L) (back fl (z:=z) j L) (a0C (at' fl) z (j+L))):=by
 intro d
 induction d with
 | zero=>intro k hk fuel; rw [Q4] at hk; subst hk; rfl
 | succ d ih =>
  intro k hk fuel
  rw [show fuel+(d+1)=(fuel+d)+1 from rfl,c0l σ n h fl T hm hf j L k _ hfl (by omega) hL hn]
  exact ih (k+1) (by omega) fuel
def st2 (ys:List Int) (i:Nat):PEnv:={ i:=[(ys.length:Int),(i:Int)],b:=[],v:=[.rsl (σ.length+1) ys.length 1,.msl (σ.length+2) 0 ys.length ys.length 1],m:=σ++[.mp ys (Q0 ys.length (.bool true)) .i64,.row (a2i ys) 1 3,.cells (a0X (Q0 (ys.length-i) 0++(ys.take i).reverse)) 3],k:=σ.length }
theorem c0k (ys:List Int) (i fuel:Nat) (hy:ys.length<=1000) (hi:i < ys.length) :
  revealed_cycle_S.loop (a0n Tab n) (fuel+1) 2 (st2 σ ys i)=revealed_cycle_S.loop (a0n Tab n) fuel 2 (st2 σ ys (i+1)):=by
 obtain ⟨y,hy'⟩:∃ y,ys[i]?=some y:=⟨_,List.getElem?_eq_getElem hi⟩
 have hir:(a2i ys)[i]?=some [.int .i64 y]:=by simp [a2i,hy']
 have hrl:(a2i ys).length=ys.length:=by simp [a2i]
 have hrep:(Q0 (ys.length-i) 0++(ys.take i).reverse).set (ys.length-1-i) y=Q0 (ys.length-(i+1)) 0++(ys.take (i+1)).reverse:=by
  rw [List.take_add_one,hy',show ys.length-i=(ys.length-(i+1))+1 by omega,Qp,Qg,show ys.length-1-i=(Q0 (ys.length-(i+1)) (0:Int)).length by simp; omega]
  rw [Qq _ _ (Qf _)]
  simp
 have hlen:(Q0 (ys.length-i) 0++(ys.take i).reverse).length=ys.length:=by simp; omega
 have hset:=a7p (l:=Q0 (ys.length-i) 0++(ys.take i).reverse) (i:=ys.length-1-i) y (by rw [hlen]; omega)
 rw [hrep] at hset
 rw [st2,st2,Sys.loop,show revealed_cycle_S.loops[2]?=some a2y from rfl]
 have hcl:(a0X (Q0 (ys.length-i) 0++(ys.take i).reverse)).length=ys.length:=by rw [a7q,hlen]
 generalize a0X (Q0 (ys.length-i) 0++(ys.take i).reverse)=o at *
 generalize a0X (Q0 (ys.length-(i+1)) 0++(ys.take (i+1)).reverse)=o' at *
 have q1:(leB 0 (i:Int)&&true)=true:=by simp [leB]
 have q2:(leB (-9223372036854775808) ((ys.length:Int)-1)&&leB ((ys.length:Int)-1) 9223372036854775807)=true:=by simp [leB]; omega
 have e1:(ys.length:Int)-1-(i:Int)=((ys.length-1-i:Nat):Int):=by omega
 have q3:(leB (-9223372036854775808) ((ys.length-1-i:Nat):Int)&&leB ((ys.length-1-i:Nat):Int) 9223372036854775807)=true:=by simp [leB]; omega
 have q4:(leB 0 ((ys.length-1-i:Nat):Int)&&decide (ys.length-1-i < ys.length))=true:=by simp [leB]; omega
 have q5:(leB (-9223372036854775808) ((i:Int)+1)&&leB ((i:Int)+1) 9223372036854775807)=true:=by simp [leB]; omega
 have l1:=b7F (h:=σ.length+1) (sz:=1) (off:=0) hi
 have l2:=a4a (h:=σ.length+2) (o:=0) (cap:=ys.length) (sz:=1) (off:=0) (i:=ys.length-1-i) (len:=ys.length) (by omega)
 have hle:ys.length-1-i+1<=ys.length:=by omega
 have e2:((i+1:Nat):Int)=(i:Int)+1:=by omega
 have hd:decide (i < ys.length)=true:=decide_eq_true hi
 generalize ys.length-1-i=w at *
 simp -implicitDefEqProofs only [Q1,a2y,↓reduceIte,eq_self,Z1,Z2,Z3,Z4,Z5,Z6,Z7,Z8,Z9,Za,Zb,Zc,Zd,Ze,Zf,Zg,Zh,Nat.reduceAdd,Zi,if_true,if_false,Zl,Zm,Zn,Zo,Zp,Zq,Zr,Zs,Zt,Zu,Zv,Zw,Zx,Zy,Zz,ZA,ZB,ZC,ZD,ZE,a0E,hd,PV.len,PV.isKind,if_pos q1,if_pos q2,e1,if_pos q3,if_pos q4,if_pos q5,l1,l2,a8M,b8S,c0j,MO.elts,hrl,hir,and_self,hcl,hle,Q5,Q3,hset,e2]
theorem c1M (ys:List Int) (hy:ys.length<=1000):∀ d i,i+d=ys.length->∀ fuel,
  revealed_cycle_S.loop (a0n Tab n) (fuel+d) 2 (st2 σ ys i)=revealed_cycle_S.loop (a0n Tab n) fuel 2 (st2 σ ys ys.length):=by
 intro d
 induction d with
 | zero=>intro i hi fuel; rw [Q4] at hi; subst hi; rfl
 | succ d ih =>
  intro i hi fuel
  rw [show fuel+(d+1)=(fuel+d)+1 from rfl,c0k σ n ys i _ hy (by omega)]
  exact ih (i+1) (by omega) fuel
theorem c1D (hσ:a7F σ) (ys:List Int) (fuel:Nat):revealed_cycle_S.loop (a0n Tab n) (fuel+1) 2 (st2 σ ys ys.length)=some (.sl 1 (a2i ys.reverse),σ):=by
 have hd:decide (ys.length < ys.length)=false:=by simp
 have hz:Q0 (ys.length-ys.length) (0:Int)++(ys.take ys.length).reverse=ys.reverse:=by simp
 have hl:ys.length=ys.reverse.length:=by simp
 have hr:=b5q ys.reverse
 rw [st2,hz,Sys.loop,show revealed_cycle_S.loops[2]?=some a2y from rfl]
 simp -implicitDefEqProofs only [Q1,a2y,↓reduceIte,eq_self,Z1,Z2,Z3,Z4,Z5,Z6,Z7,Z8,Z9,Za,Zb,Zc,Zd,Ze,Zf,Zg,Zh,Nat.reduceAdd,Zi,if_true,if_false,Zl,Zm,Zn,Zo,Zp,Zq,Zr,Zs,Zt,Zu,Zv,Zw,Zx,Zy,Zz,ZA,ZB,ZC,ZD,ZE,a0E,hd]
 have hm3:(σ++[.mp ys (Q0 ys.length (.bool true)) .i64,.row (a2i ys) 1 3,.cells (a0X ys.reverse) 3]:List MO).length=σ.length+3:=by simp
 have h1:¬ (false=true\/σ.length+3=σ.length):=by simp
 have h2:¬ (σ.length+2 < σ.length):=by omega
 rw [<- hl] at hr
 simp -implicitDefEqProofs only [a0P,hm3,if_neg h1,List.take_left',hσ σ.length,PV.frz,if_neg h2,a4N,b8S,b6w,MO.list,hr,List.take_append,↓reduceIte,eq_self,Z1,Z2,Z3,Z4,Z5,Z6,Z7,Z8,Z9,Za,Zb,Zc,Zd,Ze,Zf,Zg,Zh,Nat.reduceAdd,Zi,if_true,if_false,Zl,Zm,Zn,Zo,Zp,Zq,Zr,Zs,Zt,Zu,Zv,Zw,Zx,Zy,Zz,ZA,ZB,ZC,ZD,ZE]
 simp [hσ σ.length]
end
end Go.Proofs.Ytggjcdnailppoaa
set_option maxRecDepth 100000
namespace Go.Proofs.Ytggjcdnailppoaa
open Go.Sx Go.Bf
theorem b7G (σ:List MO) (hσ:a7F σ) (h:Nat) (fl:List Int) (T:Nat) (hm:σ[h]?=some (.cells (a0X fl) T)) (hfl:fl.length<=1000)
  {g:Nat->Nat->Int} {v:Nat->Int} {c t:Nat->Nat} {z:Nat} (hf:Go.Bf.Fin fl.length g v (at' fl) c t z) (n:Nat) (hnn:fl.length*3+10<=n) :
  ∃ j k,j < k/\k<=fl.length/\a0C (at' fl) z k=a0C (at' fl) z j /\
   a0n Tab n a6T [.msl h 0 fl.length fl.length 1,.int .i64 (z:Int)] σ=some (.sl 1 (a2i (a1j (at' fl) z j (k-j)).reverse),σ):=by
 obtain ⟨n,rfl⟩:∃ k,n=k+1:=⟨n-1,by omega⟩
 obtain ⟨j,k,_,hjk,hk,hn,he,h0⟩:=c1c σ n h fl T hm hf fl.length 0 (by omega) (Nat.zero_le _) (by simp)
 refine ⟨j,k,hjk,hk,he,?_⟩
 have hl:=a4Z (at' fl) z j (k-j)
 have h1:=fun fuel=>c0p σ n h fl T hm hf j (k-j) hfl (by omega) (by rw [show j+(k-j)=k by omega]; exact hn) (k-j) 0 (by omega) fuel
 have h2:=fun fuel=>c1M σ n (a1j (at' fl) z j (k-j)) (by omega) (k-j) 0 (by omega) fuel
 have h3:=c1D σ n hσ (a1j (at' fl) z j (k-j))
 have hc:∀ fuel,revealed_cycle_S.loop (a0n Tab n) (fuel+1) 1 (st1 σ h fl (a5Q σ (k-j)) (back fl (z:=z) j (k-j)) (a0C (at' fl) z (j+(k-j))))=revealed_cycle_S.loop (a0n Tab n) fuel 2 (st2 σ (a1j (at' fl) z j (k-j)) 0):=by
  intro fuel
  have hk0:k-j≠0:=by omega
  have hb3:a5Q σ (k-j)=.rsl (σ.length+1) (k-j) 1:=if_neg hk0
  have hb4:back fl (z:=z) j (k-j)=[.mp (a1j (at' fl) z j (k-j)) (Q0 (k-j) (.bool true)) .i64,.row (a2i (a1j (at' fl) z j (k-j))) 1 3]:=by rw [back,if_neg hk0]
  have hlk:=b0g (a1j (at' fl) z j (k-j)) (.bool true) (a0C (at' fl) z k:Int)
  rw [hl,if_pos (a9T.2 ⟨0,by omega,by rw [he]; rfl⟩)] at hlk
  have hrep:=b7g (k-j) 0
  have hle:(k-j:Nat)<=1000000:=by omega
  rw [hb3,hb4,show j+(k-j)=k by omega,st1,st2,Sys.loop,show revealed_cycle_S.loops[1]?=some a1V from rfl,hl]
  generalize a1j (at' fl) z j (k-j)=ks at *
  have e1:Q0 (k-j-0) (0:Int)++(ks.take 0).reverse=Q0 (k-j) 0:=by simp
  have q1:(0<=((k-j:Nat):Int)/\((k-j:Nat):Int)<=1000000/\(8:Nat)<=100000000):=⟨by omega,by omega,by omega⟩
  rw [e1]
  generalize k-j=L at *
  have hm2:∀ A B:MO,(σ++[A,B]).length=σ.length+2:=fun A B=>by simp
  have hm3:∀ A B C:MO,(σ++[A,B])++[C]=σ++[A,B,C]:=fun A B C=>by simp
  simp -implicitDefEqProofs only [Q1,a1V,↓reduceIte,eq_self,Z1,Z2,Z3,Z4,Z5,Z6,Z7,Z8,Z9,Za,Zb,Zc,Zd,Ze,Zf,Zg,Zh,Nat.reduceAdd,Zi,if_true,if_false,Zl,Zm,Zn,Zo,Zp,Zq,Zr,Zs,Zt,Zu,Zv,Zw,Zx,Zy,Zz,ZA,ZB,ZC,ZD,ZE,a7o,a9b,hlk,Qj,PV.isKind,PV.len,Int.toNat_natCast,if_pos q1,hrep,hm2,hm3]
  rfl
 have e0:st0 σ h fl (z:=z) 0={ i:=[(z:Int)],b:=[],v:=[.msl h 0 fl.length fl.length 1,.mp σ.length],m:=σ++[.mp [] [] .i64],k:=σ.length }:=rfl
 have e1:st1 σ h fl .nilS [.mp [] [] .i64] (a0C (at' fl) z j)=st1 σ h fl (a5Q σ 0) (back fl (z:=z) j 0) (a0C (at' fl) z (j+0)):=rfl
 have tot:revealed_cycle_S.loop (a0n Tab n) n 0 (st0 σ h fl (z:=z) 0)=some (.sl 1 (a2i (a1j (at' fl) z j (k-j)).reverse),σ):=by
  have hfu:n=(((((n-k-(k-j)-(k-j)-3)+1)+(k-j))+1)+(k-j))+(k-0)+1:=by omega
  rw [hl] at h3
  generalize n-k-(k-j)-(k-j)-3=fu at *
  have hx:=h0 (((((fu)+1)+(k-j))+1)+(k-j))
  rw [<- hfu] at hx
  rw [hx,e1,h1,hc,h2,hl]; exact h3 fu
 rw [e0] at tot
 simp only [a0n,a9X,Q1,Sys.run]
 show ((a0D [.sh (.one _),.sh (.one _)] _).bind _)=_
 simp -implicitDefEqProofs only [a0D,a0d,a0c,Option.map_some,Q1,List.append_nil,List.nil_append,List.cons_append,if_true,PV.one]
 show (PT.ev _ a4P _).bind _=_
 simp -implicitDefEqProofs only [a4P,↓reduceIte,eq_self,Z1,Z2,Z3,Z4,Z5,Z6,Z7,Z8,Z9,Za,Zb,Zc,Zd,Ze,Zf,Zg,Zh,Nat.reduceAdd,Zi,if_true,if_false,Zl,Zm,Zn,Zo,Zp,Zq,Zr,Zs,Zt,Zu,Zv,Zw,Zx,Zy,Zz,ZA,ZB,ZC,ZD,ZE]
 exact tot
end Go.Proofs.Ytggjcdnailppoaa
set_option maxRecDepth 100000
namespace Go.Proofs.Ytggjcdnailppoaa
open Go.Sx Go.Bf
def lst (σ:List MO) (P:PV) (N:Nat) (vs fs:List Int) (is:List Int):PEnv :=
 { i:=is,b:=[],v:=[P,.msl σ.length 0 N N 1,.msl (σ.length+1) 0 N N 1],m:=σ++[.cells (a0X vs) 2,.cells (a0X fs) 3],k:=σ.length }
def gN (l:List Ch) (x y:Nat):Int:=a4n (a5t l (x:Int)) (a5t l (y:Int))
theorem chN {l:List Ch} {x:Nat} (h:x < l.length):l[x]?=some (a5t l (x:Int)):=by simp [a5t,h]
theorem b8s (h o len cap sz:Nat):(PV.msl h o len cap sz).len=len:=rfl
theorem c1r (σ:List MO) (l:List Ch) (P:PV) (hP:P.rowsOf 12=some (l.map Ch.row)) (hok:∀ x∈l,x.ok) (hl:l.length<=1000) (n:Nat) (hn:2<=n) (vs fs:List Int) (hvs:vs.length=l.length) (hfs:fs.length=l.length)
  (ch r:Int) (a b fuel:Nat) (ha:a < l.length) (hb:b < l.length) (h1:-1000000000000<=at' vs a/\at' vs a<=1000000000000) :
  revealed_lowered_S.loop (a0n Tab n) (fuel+1) 3 (lst σ P l.length vs fs [ch,(a:Int),(l.length:Int),r,(l.length:Int),(l.length:Int),(b:Int)]) =
   if at' vs a+gN l a b < at' vs b then revealed_lowered_S.loop (a0n Tab n) fuel 3 (lst σ P l.length (vs.set b (at' vs a+gN l a b)) (fs.set b (a:Int)) [(b:Int),(a:Int),(l.length:Int),r,(l.length:Int),(l.length:Int),((b+1:Nat):Int)])
   else revealed_lowered_S.loop (a0n Tab n) fuel 3 (lst σ P l.length vs fs [ch,(a:Int),(l.length:Int),r,(l.length:Int),(l.length:Int),((b+1:Nat):Int)]):=by
 obtain ⟨p1,p2,p3⟩:=a0O hP
 rw [Q9] at p1
 have ex:=chN ha
 have ey:=chN hb
 have hxo:=hok _ (Qa ex)
 have hyo:=hok _ (Qa ey)
 have gb:=b2R hxo hyo
 have c1:=b0l (σ++[.cells (a0X vs) 2,.cells (a0X fs) 3]) _ _ hxo hyo n hn
 have lx:=a0U (off:=0) hP (a1O ex)
 have ly:=a0U (off:=0) hP (a1O ey)
 have dva:=a6o (b0C (l:=vs) (i:=a) (by omega))
 have dvb:=a6o (b0C (l:=vs) (i:=b) (by omega))
 have ma:=a4a (h:=σ.length) (o:=0) (cap:=l.length) (sz:=1) (off:=0) ha
 have mb:=a4a (h:=σ.length) (o:=0) (cap:=l.length) (sz:=1) (off:=0) hb
 have mb2:=a4a (h:=σ.length+1) (o:=0) (cap:=l.length) (sz:=1) (off:=0) hb
 have hgN:gN l a b=a4n (a5t l (a:Int)) (a5t l (b:Int)):=rfl
 rw [hgN]
 generalize a5t l (a:Int)=x at *
 generalize a5t l (b:Int)=y at *
 generalize a4n x y=gg at *
 generalize hw:at' vs a+gg=w at *
 have sv:=a7p (l:=vs) (i:=b) w (by omega)
 have sf:=a7p (l:=fs) (i:=b) (a:Int) (by omega)
 have lv:b+1<=(a0X vs).length:=by rw [a7q]; omega
 have lf:b+1<=(a0X fs).length:=by rw [a7q]; omega
 generalize hV':a0X (vs.set b w)=V' at *
 generalize hF':a0X (fs.set b (a:Int))=F' at *
 have q1:(leB 0 (a:Int)&&decide (a < l.length))=true:=by simp [leB,ha]
 have q2:(leB 0 (b:Int)&&decide (b < l.length))=true:=by simp [leB,hb]
 have q2':(leB 0 (b:Int)&&true)=true:=by simp [leB]
 have q3:(leB (-9223372036854775808) w&&leB w 9223372036854775807)=true:=by simp [leB]; omega
 have q4:(leB (-9223372036854775808) ((b:Int)+1)&&leB ((b:Int)+1) 9223372036854775807)=true:=by simp [leB]; omega
 have e2:((b+1:Nat):Int)=(b:Int)+1:=by omega
 have o1:((1:Nat)<=1)=True:=eq_true (by decide)
 simp only [a3T,a1B] at c1
 rw [e2]
 by_cases hlt:w < at' vs b
 ·have e3:ltB w (at' vs b)=true:=a1E.2 hlt
  have hev:a1d.ev (a0n Tab n) (lst σ P l.length vs fs [ch,(a:Int),(l.length:Int),r,(l.length:Int),(l.length:Int),(b:Int)])=some (.jump 3 { i:=[(b:Int),(a:Int),(l.length:Int),r,(l.length:Int),(l.length:Int),(b:Int)+1],b:=[],v:=[P,.msl σ.length 0 l.length l.length 1,.msl (σ.length+1) 0 l.length l.length 1],m:=σ++[.cells V' 2,.cells F' 3],k:=σ.length }):=by
   unfold a1d
   have hd:decide (b < l.length)=true:=decide_eq_true hb
   repeat' (first | with_reducible rfl | apply b5Z | simp -implicitDefEqProofs only [↓reduceIte,eq_self,ZF,ZG,ZH,ZI,ZJ,ZK,ZL,ZM,ZN,ZO,ZP,ZQ,ZR,ZS,ZT,ZU,ZV,ZW,ZX,ZY,Z2,Z3,Z4,Z5,Z6,Z7,Z8,Z9,Za,Zb,Zc,Zd,Ze,Zf,Zg,Zh,Nat.reduceAdd,Zi,if_true,if_false,Zl,Zm,Zn,Zo,Zp,Zq,Zr,Zs,Zt,Zu,Zv,Zw,Zx,Zy,Zz,ZA,ZB,ZC,ZD,ZE,lst,hd,if_pos q2',p1,p2,b8s,a0E,if_pos q1,if_pos q2,if_pos q3,if_pos q4,lx,ly,ma,mb,mb2,a1B,c1,a7o,a8M,a9b,b4m,MO.list,Q5,Q3,dva,dvb,Q7,hw,e3,lv,lf,o1,sv,sf] | unfold a2R | unfold a2Q)
  rw [if_pos hlt,Sys.loop,show revealed_lowered_S.loops[3]?=some a1d from rfl,Q1,hev,Q1]
  simp only [lst,hV',hF']
 ·have e3:ltB w (at' vs b)=false:=a3X.2 hlt
  have hev:a1d.ev (a0n Tab n) (lst σ P l.length vs fs [ch,(a:Int),(l.length:Int),r,(l.length:Int),(l.length:Int),(b:Int)])=some (.jump 3 (lst σ P l.length vs fs [ch,(a:Int),(l.length:Int),r,(l.length:Int),(l.length:Int),(b:Int)+1])):=by
   unfold a1d
   have hd:decide (b < l.length)=true:=decide_eq_true hb
   repeat' (first | with_reducible rfl | apply b5Z | simp -implicitDefEqProofs only [↓reduceIte,eq_self,ZF,ZG,ZH,ZI,ZJ,ZK,ZL,ZM,ZN,ZO,ZP,ZQ,ZR,ZS,ZT,ZU,ZV,ZW,ZX,ZY,Z2,Z3,Z4,Z5,Z6,Z7,Z8,Z9,Za,Zb,Zc,Zd,Ze,Zf,Zg,Zh,Nat.reduceAdd,Zi,if_true,if_false,Zl,Zm,Zn,Zo,Zp,Zq,Zr,Zs,Zt,Zu,Zv,Zw,Zx,Zy,Zz,ZA,ZB,ZC,ZD,ZE,lst,hd,if_pos q2',p1,p2,b8s,a0E,if_pos q1,if_pos q2,if_pos q3,if_pos q4,lx,ly,ma,mb,mb2,a1B,c1,a7o,a8M,a9b,b4m,MO.list,Q5,Q3,dva,dvb,Q7,hw,e3] | unfold a2R | unfold a2Q)
  rw [if_neg hlt,Sys.loop,show revealed_lowered_S.loops[3]?=some a1d from rfl,Q1,hev,Q1]
end Go.Proofs.Ytggjcdnailppoaa
set_option maxRecDepth 100000
namespace Go.Proofs.Ytggjcdnailppoaa
open Go.Sx Go.Bf
structure LS (l:List Ch) (vs fs:List Int) (ch:Int) (T R a b:Nat):Prop where
 hv:vs.length=l.length
 hf:fs.length=l.length
 inv:∃ c t,Inv l.length (gN l) (at' vs) (at' fs) c t T R a b/\((ch=-1/\∀ x,x < l.length->c x≠R)\/∃ z:Nat,z < l.length/\ch=(z:Int)/\c z=R)
theorem b5S {l:List Int} {b:Nat} (x:Int) (h:b < l.length):at' (l.set b x)=upd (at' l) b x:=by
 funext i; rw [b9B x h]; rfl
theorem b9k (l:List Ch) (x:Nat):gN l x x=0:=by unfold gN a4n; omega
theorem c0f {l:List Ch} (hok:∀ x∈l,x.ok) {x y:Nat} (hx:x < l.length) (hy:y < l.length):-24000000<=gN l x y/\gN l x y<=24000000 :=
 b2R (hok _ (Qa (chN hx))) (hok _ (Qa (chN hy)))
section
variable (σ:List MO) (l:List Ch) (P:PV) (hP:P.rowsOf 12=some (l.map Ch.row)) (hok:∀ x∈l,x.ok) (hl:l.length<=30) (n:Nat) (hn:2<=n)
include hP hok hl hn in
theorem b9V (r:Int) (vs fs:List Int) (ch:Int) (T R a b:Nat) (h:LS l vs fs ch T R a b) (hR:1<=R) (hT:T+1<=27000) (ha:a < l.length) (hb:b < l.length) :
  ∃ vs' fs' ch',LS l vs' fs' ch' (T+1) R a (b+1)/\∀ fuel,revealed_lowered_S.loop (a0n Tab n) (fuel+1) 3 (lst σ P l.length vs fs [ch,(a:Int),(l.length:Int),r,(l.length:Int),(l.length:Int),(b:Int)]) =
   revealed_lowered_S.loop (a0n Tab n) fuel 3 (lst σ P l.length vs' fs' [ch',(a:Int),(l.length:Int),r,(l.length:Int),(l.length:Int),((b+1:Nat):Int)]):=by
 obtain ⟨hv,hf,c,t,hi,hch⟩:=h
 have hlow:=hi.low a ha
 have step:=fun fuel=>c1r σ l P hP hok (by omega) n hn vs fs hv hf ch r a b fuel ha hb (by omega)
 by_cases hlt:at' vs a+gN l a b < at' vs b
 ·simp only [if_pos hlt] at step
  refine ⟨_,_,_,⟨by simp [hv],by simp [hf],upd c b R,upd t b (T+1),?_,.inr ⟨b,hb,rfl,a2b _ _ _⟩⟩,step⟩
  rw [b5S _ (by omega),b5S _ (by omega)]
  exact hi.lower ha hb hR (c0f hok ha hb).1 (b9k l a) hlt
 ·simp only [if_neg hlt] at step
  exact ⟨vs,fs,ch,⟨hv,hf,c,t,hi.keep (by omega),hch⟩,step⟩
include hP hok hl hn in
theorem c1O (r:Int) (R a:Nat) (hR:1<=R) (ha:a < l.length):∀ d b vs fs ch T,b+d=l.length->LS l vs fs ch T R a b->T+d<=27000 ->
  ∃ vs' fs' ch',LS l vs' fs' ch' (T+d) R (a+1) 0/\∀ fuel,revealed_lowered_S.loop (a0n Tab n) (fuel+d+1) 3 (lst σ P l.length vs fs [ch,(a:Int),(l.length:Int),r,(l.length:Int),(l.length:Int),(b:Int)]) =
   revealed_lowered_S.loop (a0n Tab n) fuel 2 (lst σ P l.length vs' fs' [ch',(l.length:Int),r,(l.length:Int),((a+1:Nat):Int)]):=by
 intro d
 induction d with
 | zero =>
  intro b vs fs ch T hb h hT
  obtain rfl:b=l.length:=by omega
  obtain ⟨hv,hf,c,t,hi,hch⟩:=h
  refine ⟨vs,fs,ch,⟨hv,hf,c,t,hi.row,hch⟩,fun fuel=>?_⟩
  have hd:decide (l.length < l.length)=false:=by simp
  have q4:(leB (-9223372036854775808) ((a:Int)+1)&&leB ((a:Int)+1) 9223372036854775807)=true:=by simp [leB]; omega
  rw [Q4,Sys.loop,show revealed_lowered_S.loops[3]?=some a1d from rfl]
  simp -implicitDefEqProofs only [Q1,a1d,↓reduceIte,eq_self,ZF,ZG,ZH,ZI,ZJ,ZK,ZL,ZM,ZN,ZO,ZP,ZQ,ZR,ZS,ZT,ZU,ZV,ZW,ZX,ZY,Z2,Z3,Z4,Z5,Z6,Z7,Z8,Z9,Za,Zb,Zc,Zd,Ze,Zf,Zg,Zh,Nat.reduceAdd,Zi,if_true,if_false,Zl,Zm,Zn,Zo,Zp,Zq,Zr,Zs,Zt,Zu,Zv,Zw,Zx,Zy,Zz,ZA,ZB,ZC,ZD,ZE,lst,a0E,hd,if_pos q4,show ((a+1:Nat):Int)=(a:Int)+1 from by omega]
 | succ d ih =>
  intro b vs fs ch T hb h hT
  obtain ⟨vs1,fs1,ch1,h1,s1⟩:=b9V σ l P hP hok hl n hn r vs fs ch T R a b h hR (by omega) ha (by omega)
  obtain ⟨vs2,fs2,ch2,h2,s2⟩:=ih (b+1) vs1 fs1 ch1 (T+1) (by omega) h1 (by omega)
  refine ⟨vs2,fs2,ch2,by rw [show T+(d+1)=T+1+d by omega]; exact h2,fun fuel=>?_⟩
  rw [show fuel+(d+1)+1=(fuel+d+1)+1 by omega,s1,s2]
include hP hok hl hn in
theorem c0a (r:Int) (R:Nat) (hR:1<=R):∀ d a vs fs ch T,a+d=l.length->LS l vs fs ch T R a 0->T+d*l.length<=27000 ->
  ∃ vs' fs' ch',LS l vs' fs' ch' (T+d*l.length) R l.length 0/\∀ fuel,revealed_lowered_S.loop (a0n Tab n) (fuel+d*(l.length+2)) 2 (lst σ P l.length vs fs [ch,(l.length:Int),r,(l.length:Int),(a:Int)]) =
   revealed_lowered_S.loop (a0n Tab n) fuel 2 (lst σ P l.length vs' fs' [ch',(l.length:Int),r,(l.length:Int),(l.length:Int)]):=by
 intro d
 obtain ⟨p1,p2,p3⟩:=a0O hP
 rw [Q9] at p1
 induction d with
 | zero =>
  intro a vs fs ch T ha h hT
  obtain rfl:a=l.length:=by omega
  refine ⟨vs,fs,ch,by rw [Qb,Q4]; exact h,fun fuel=>?_⟩
  rw [Qb,Q4]
 | succ d ih =>
  intro a vs fs ch T ha h hT
  have e1:(d+1)*l.length=d*l.length+l.length:=Qd _ _
  have e2:(d+1)*(l.length+2)=d*(l.length+2)+(l.length+2):=Qd _ _
  obtain ⟨vs1,fs1,ch1,h1,s1⟩:=c1O σ l P hP hok hl n hn r R a hR (by omega) l.length 0 vs fs ch T (by omega) h (by omega)
  obtain ⟨vs2,fs2,ch2,h2,s2⟩:=ih (a+1) vs1 fs1 ch1 (T+l.length) (by omega) h1 (by omega)
  refine ⟨vs2,fs2,ch2,by rw [e1,show T+(d*l.length+l.length)=T+l.length+d*l.length by omega]; exact h2,fun fuel=>?_⟩
  rw [e2,show fuel+(d*(l.length+2)+(l.length+2))=((fuel+d*(l.length+2))+l.length+1)+1 by omega,<- s2,<- s1]
  have hd:decide (a < l.length)=true:=decide_eq_true (by omega)
  rw [Sys.loop,show revealed_lowered_S.loops[2]?=some a1u from rfl]
  simp -implicitDefEqProofs only [Q1,a1u,↓reduceIte,eq_self,ZF,ZG,ZH,ZI,ZJ,ZK,ZL,ZM,ZN,ZO,ZP,ZQ,ZR,ZS,ZT,ZU,ZV,ZW,ZX,ZY,Z2,Z3,Z4,Z5,Z6,Z7,Z8,Z9,Za,Zb,Zc,Zd,Ze,Zf,Zg,Zh,Nat.reduceAdd,Zi,if_true,if_false,Zl,Zm,Zn,Zo,Zp,Zq,Zr,Zs,Zt,Zu,Zv,Zw,Zx,Zy,Zz,ZA,ZB,ZC,ZD,ZE,lst,a0E,hd,p1,p2]
  rfl
end
end Go.Proofs.Ytggjcdnailppoaa
set_option maxRecDepth 100000
namespace Go.Proofs.Ytggjcdnailppoaa
open Go.Sx Go.Bf
structure LR (l:List Ch) (vs fs:List Int) (ch:Int) (T r:Nat):Prop where
 hv:vs.length=l.length
 hf:fs.length=l.length
 inv:∃ c t,Inv l.length (gN l) (at' vs) (at' fs) c t T (r+1) 0 0/\(∀ x,x < l.length->c x<=r)/\((r=0/\ch=-1)\/∃ z:Nat,z < l.length/\ch=(z:Int)/\c z=r)
def b9R (σ:List MO) (l:List Ch) (res:PV × List MO):Prop :=
 (∃ vs fs:List Int,vs.length=l.length/\fs.length=l.length/\(∀ x y,x < l.length->y < l.length->at' vs y<=at' vs x+gN l x y)/\(∀ x,x < l.length->-648000000000<=at' vs x/\at' vs x<=0) /\
  res=(.tup [.msl σ.length 0 l.length l.length 1,.nilS],σ++[.cells (a0X vs) 2,.cells (a0X fs) 3])) \/
 (∃ (vs fs:List Int) (c t:Nat->Nat) (z j k:Nat),vs.length=l.length/\fs.length=l.length/\Go.Bf.Fin l.length (gN l) (at' vs) (at' fs) c t z/\j < k/\k<=l.length/\a0C (at' fs) z k=a0C (at' fs) z j /\
  res=(.tup [.nilS,.sl 1 (a2i (a1j (at' fs) z j (k-j)).reverse)],σ++[.cells (a0X vs) 2,.cells (a0X fs) 3]))
section
variable (σ:List MO) (hσ:a7F σ) (l:List Ch) (P:PV) (hP:P.rowsOf 12=some (l.map Ch.row)) (hok:∀ x∈l,x.ok) (hl:l.length<=30) (n:Nat) (hn:110<=n)
theorem b9q (x:Nat) (T:Nat) (hT:T<=27000) (v:Int) (h:-(24000000*(T:Int))<=v/\v<=0):-648000000000<=v/\v<=0:=by omega
include hσ hP hok hl hn in
theorem b5h:∀ d r vs fs ch T,r+d=l.length->LR l vs fs ch T r->T<=r*(l.length*l.length) ->
  ∃ res,b9R σ l res/\∀ fuel,revealed_lowered_S.loop (a0n Tab n) (fuel+d*(l.length*(l.length+2)+2)+1) 1 (lst σ P l.length vs fs [ch,(l.length:Int),(r:Int)])=some res:=by
 intro d
 obtain ⟨p1,p2,p3⟩:=a0O hP
 rw [Q9] at p1
 have hNN:l.length*(l.length*l.length)<=27000:=by
  calc l.length*(l.length*l.length)<=30*(30*30):=Nat.mul_le_mul hl (Nat.mul_le_mul hl hl)
   _=27000:=rfl
 induction d with
 | zero =>
  intro r vs fs ch T hr h hT
  obtain rfl:r=l.length:=by omega
  obtain ⟨hv,hf,c,t,hi,hc,hch⟩:=h
  have hd:decide (l.length < l.length)=false:=by simp
  rcases hch with ⟨h0,rfl⟩ | ⟨z,hz,rfl,hcz⟩
  ·refine ⟨_,.inl ⟨vs,fs,hv,hf,fun x y hx=>by omega,fun x hx=>by omega,rfl⟩,fun fuel=>?_⟩
   have e1:ltB (-1) 0=true:=rfl
   rw [Qb,Q4,Sys.loop,show revealed_lowered_S.loops[1]?=some a1t from rfl]
   simp -implicitDefEqProofs only [Q1,a1t,↓reduceIte,eq_self,ZF,ZG,ZH,ZI,ZJ,ZK,ZL,ZM,ZN,ZO,ZP,ZQ,ZR,ZS,ZT,ZU,ZV,ZW,ZX,ZY,Z2,Z3,Z4,Z5,Z6,Z7,Z8,Z9,Za,Zb,Zc,Zd,Ze,Zf,Zg,Zh,Nat.reduceAdd,Zi,if_true,if_false,Zl,Zm,Zn,Zo,Zp,Zq,Zr,Zs,Zt,Zu,Zv,Zw,Zx,Zy,Zz,ZA,ZB,ZC,ZD,ZE,lst,a0E,hd,e1,a0P,true_or]
  ·have hfin:Go.Bf.Fin l.length (gN l) (at' vs) (at' fs) c t z:=⟨hi.par,hi.uniq,hz,by omega⟩
   have e1:ltB (z:Int) 0=false:=by rw [a3X]; omega
   have hfl:a7F (σ++[.cells (a0X vs) 2,.cells (a0X fs) 3]):=by
    have:=(hσ.snoc vs 2).snoc fs 3
    rw [Qg] at this; exact this
   rw [<- hf] at hfin
   obtain ⟨j,k,hjk,hk,he,hev⟩:=b7G (σ++[.cells (a0X vs) 2,.cells (a0X fs) 3]) hfl (σ.length+1) fs 3 (a8M _ _ _ _) (by omega) hfin n (by omega)
   rw [hf] at hfin hev
   refine ⟨_,.inr ⟨vs,fs,c,t,z,j,k,hv,hf,hfin,hjk,by omega,he,rfl⟩,fun fuel=>?_⟩
   simp only [a6T] at hev
   have ho:∀ rows,(PV.sl 1 rows).one=true:=fun _=>rfl
   rw [Qb,Q4,Sys.loop,show revealed_lowered_S.loops[1]?=some a1t from rfl]
   simp -implicitDefEqProofs only [Q1,a1t,↓reduceIte,eq_self,ZF,ZG,ZH,ZI,ZJ,ZK,ZL,ZM,ZN,ZO,ZP,ZQ,ZR,ZS,ZT,ZU,ZV,ZW,ZX,ZY,Z2,Z3,Z4,Z5,Z6,Z7,Z8,Z9,Za,Zb,Zc,Zd,Ze,Zf,Zg,Zh,Nat.reduceAdd,Zi,if_true,if_false,Zl,Zm,Zn,Zo,Zp,Zq,Zr,Zs,Zt,Zu,Zv,Zw,Zx,Zy,Zz,ZA,ZB,ZC,ZD,ZE,lst,a0E,hd,e1,hev,ho,a0P,true_or]
 | succ d ih =>
  intro r vs fs ch T hr h hT
  obtain ⟨hv,hf,c,t,hi,hc,hch⟩:=h
  have hT2:T+l.length*l.length<=(r+1)*(l.length*l.length):=by rw [Qd]; omega
  have hT3:(r+1)*(l.length*l.length)<=l.length*(l.length*l.length):=Nat.mul_le_mul_right _ (by omega)
  have hLS:LS l vs fs (-1) T (r+1) 0 0:=⟨hv,hf,c,t,hi,.inl ⟨rfl,fun x hx=>by have:=hc x hx; omega⟩⟩
  obtain ⟨vs1,fs1,ch1,h1,s1⟩:=c0a σ l P hP hok hl n (by omega) (r:Int) (r+1) (by omega) l.length 0 vs fs (-1) T (by omega) hLS (by omega)
  obtain ⟨hv1,hf1,c1,t1,hi1,hch1⟩:=h1
  have hd:decide (r < l.length)=true:=decide_eq_true (by omega)
  have hd2:decide (l.length < l.length)=false:=by simp
  have first:∀ fuel,revealed_lowered_S.loop (a0n Tab n) ((fuel+l.length*(l.length+2))+1) 1 (lst σ P l.length vs fs [ch,(l.length:Int),(r:Int)])=revealed_lowered_S.loop (a0n Tab n) fuel 2 (lst σ P l.length vs1 fs1 [ch1,(l.length:Int),(r:Int),(l.length:Int),(l.length:Int)]):=by
   intro fuel
   rw [<- s1,Sys.loop,show revealed_lowered_S.loops[1]?=some a1t from rfl]
   simp -implicitDefEqProofs only [Q1,a1t,↓reduceIte,eq_self,ZF,ZG,ZH,ZI,ZJ,ZK,ZL,ZM,ZN,ZO,ZP,ZQ,ZR,ZS,ZT,ZU,ZV,ZW,ZX,ZY,Z2,Z3,Z4,Z5,Z6,Z7,Z8,Z9,Za,Zb,Zc,Zd,Ze,Zf,Zg,Zh,Nat.reduceAdd,Zi,if_true,if_false,Zl,Zm,Zn,Zo,Zp,Zq,Zr,Zs,Zt,Zu,Zv,Zw,Zx,Zy,Zz,ZA,ZB,ZC,ZD,ZE,lst,a0E,hd,p1,p2]
   rfl
  have e2:(d+1)*(l.length*(l.length+2)+2)=d*(l.length*(l.length+2)+2)+(l.length*(l.length+2)+2):=Qd _ _
  rcases hch1 with ⟨rfl,hno⟩ | ⟨z,hz,rfl,hcz⟩
  ·have hst:=hi1.stable hno
   refine ⟨_,.inl ⟨vs1,fs1,hv1,hf1,hst,fun x hx=>b9q x _ (by omega) _ (hi1.low x hx),rfl⟩,fun fuel=>?_⟩
   have e1:ltB (-1) 0=true:=rfl
   rw [e2,show fuel+(d*(l.length*(l.length+2)+2)+(l.length*(l.length+2)+2))+1=((fuel+d*(l.length*(l.length+2)+2)+1+1)+l.length*(l.length+2))+1 by omega,first]
   rw [Sys.loop,show revealed_lowered_S.loops[2]?=some a1u from rfl]
   simp -implicitDefEqProofs only [Q1,a1u,↓reduceIte,eq_self,ZF,ZG,ZH,ZI,ZJ,ZK,ZL,ZM,ZN,ZO,ZP,ZQ,ZR,ZS,ZT,ZU,ZV,ZW,ZX,ZY,Z2,Z3,Z4,Z5,Z6,Z7,Z8,Z9,Za,Zb,Zc,Zd,Ze,Zf,Zg,Zh,Nat.reduceAdd,Zi,if_true,if_false,Zl,Zm,Zn,Zo,Zp,Zq,Zr,Zs,Zt,Zu,Zv,Zw,Zx,Zy,Zz,ZA,ZB,ZC,ZD,ZE,lst,a0E,hd2,e1,a0P,true_or]
  ·have e1:ltB (z:Int) 0=false:=by rw [a3X]; omega
   have hLR:LR l vs1 fs1 (z:Int) (T+l.length*l.length) (r+1):=⟨hv1,hf1,c1,t1,hi1.round,hi1.cle,.inr ⟨z,hz,rfl,hcz⟩⟩
   obtain ⟨res,hres,hev⟩:=ih (r+1) vs1 fs1 (z:Int) _ (by omega) hLR hT2
   refine ⟨res,hres,fun fuel=>?_⟩
   have q4:(leB (-9223372036854775808) ((r:Int)+1)&&leB ((r:Int)+1) 9223372036854775807)=true:=by simp [leB]; omega
   rw [e2,show fuel+(d*(l.length*(l.length+2)+2)+(l.length*(l.length+2)+2))+1=((fuel+d*(l.length*(l.length+2)+2)+1+1)+l.length*(l.length+2))+1 by omega,first]
   rw [<- hev fuel,Sys.loop,show revealed_lowered_S.loops[2]?=some a1u from rfl]
   simp -implicitDefEqProofs only [Q1,a1u,↓reduceIte,eq_self,ZF,ZG,ZH,ZI,ZJ,ZK,ZL,ZM,ZN,ZO,ZP,ZQ,ZR,ZS,ZT,ZU,ZV,ZW,ZX,ZY,Z2,Z3,Z4,Z5,Z6,Z7,Z8,Z9,Za,Zb,Zc,Zd,Ze,Zf,Zg,Zh,Nat.reduceAdd,Zi,if_true,if_false,Zl,Zm,Zn,Zo,Zp,Zq,Zr,Zs,Zt,Zu,Zv,Zw,Zx,Zy,Zz,ZA,ZB,ZC,ZD,ZE,lst,a0E,hd2,e1,if_pos q4]
   rw [show ((r+1:Nat):Int)=(r:Int)+1 from by omega]
include hP hl in
theorem c1W:∀ d i,i+d=l.length->∀ fuel,revealed_lowered_S.loop (a0n Tab n) (fuel+d+1) 0 (lst σ P l.length (Q0 l.length 0) (Q0 i (-1)++Q0 d 0) [(l.length:Int),(i:Int)])=revealed_lowered_S.loop (a0n Tab n) fuel 1 (lst σ P l.length (Q0 l.length 0) (Q0 l.length (-1)) [-1,(l.length:Int),0]):=by
 intro d
 obtain ⟨p1,p2,p3⟩:=a0O hP
 rw [Q9] at p1
 induction d with
 | zero =>
  intro i hi fuel
  obtain rfl:i=l.length:=by omega
  have hd2:decide (l.length < l.length)=false:=by simp
  rw [Sys.loop,show revealed_lowered_S.loops[0]?=some a2c from rfl]
  simp -implicitDefEqProofs only [Q1,a2c,↓reduceIte,eq_self,ZF,ZG,ZH,ZI,ZJ,ZK,ZL,ZM,ZN,ZO,ZP,ZQ,ZR,ZS,ZT,ZU,ZV,ZW,ZX,ZY,Z2,Z3,Z4,Z5,Z6,Z7,Z8,Z9,Za,Zb,Zc,Zd,Ze,Zf,Zg,Zh,Nat.reduceAdd,Zi,if_true,if_false,Zl,Zm,Zn,Zo,Zp,Zq,Zr,Zs,Zt,Zu,Zv,Zw,Zx,Zy,Zz,ZA,ZB,ZC,ZD,ZE,lst,a0E,hd2,p1,p2,List.replicate_zero]
 | succ d ih =>
  intro i hi fuel
  have hd:decide (i < l.length)=true:=decide_eq_true (by omega)
  have q1:(leB 0 (i:Int)&&true)=true:=by simp [leB]
  have q4:(leB (-9223372036854775808) ((i:Int)+1)&&leB ((i:Int)+1) 9223372036854775807)=true:=by simp [leB]; omega
  have mb2:=a4a (h:=σ.length+1) (o:=0) (cap:=l.length) (sz:=1) (off:=0) (i:=i) (len:=l.length) (by omega)
  have hset:(Q0 i (-1:Int)++Q0 (d+1) 0).set i (-1)=Q0 (i+1) (-1)++Q0 d 0:=by
   rw [List.replicate_succ,Qp,Qg]
   have:=Qq (s:=Q0 i (-1:Int)) (t:=0::Q0 d 0) i (-1) (by simp)
   rw [this]; simp
  have sf:=a7p (l:=Q0 i (-1:Int)++Q0 (d+1) 0) (i:=i) (-1) (by simp)
  rw [hset] at sf
  have lf:i+1<=(a0X (Q0 i (-1:Int)++Q0 (d+1) 0)).length:=by rw [a7q]; simp
  have:=ih (i+1) (by omega) fuel
  rw [<- this,show fuel+(d+1)+1=(fuel+d+1)+1 by omega,Sys.loop,show revealed_lowered_S.loops[0]?=some a2c from rfl]
  generalize a0X (Q0 l.length 0)=A at *
  simp only [lst]
  generalize a0X (Q0 i (-1:Int)++Q0 (d+1) 0)=B at *
  generalize a0X (Q0 (i+1) (-1:Int)++Q0 d 0)=B' at *
  simp -implicitDefEqProofs only [Q1,a2c,↓reduceIte,eq_self,ZF,ZG,ZH,ZI,ZJ,ZK,ZL,ZM,ZN,ZO,ZP,ZQ,ZR,ZS,ZT,ZU,ZV,ZW,ZX,ZY,Z2,Z3,Z4,Z5,Z6,Z7,Z8,Z9,Za,Zb,Zc,Zd,Ze,Zf,Zg,Zh,Nat.reduceAdd,Zi,if_true,if_false,Zl,Zm,Zn,Zo,Zp,Zq,Zr,Zs,Zt,Zu,Zv,Zw,Zx,Zy,Zz,ZA,ZB,ZC,ZD,ZE,a0E,hd,b8s,if_pos q1,if_pos q4,mb2,a8M,b4m,Q5,Q3,lf,sf,show ((i+1:Nat):Int)=(i:Int)+1 from by omega]
end
end Go.Proofs.Ytggjcdnailppoaa
set_option maxRecDepth 100000
namespace Go.Proofs.Ytggjcdnailppoaa
open Go.Sx Go.Bf
section
variable (σ:List MO) (hσ:a7F σ) (l:List Ch) (P:PV) (hP:P.rowsOf 12=some (l.map Ch.row)) (hok:∀ x∈l,x.ok) (hl:l.length<=30) (n:Nat) (hn:110<=n)
variable (vs fs:List Int) (hvs:vs.length=l.length) (hb:∀ x,x < l.length->-648000000000<=at' vs x/\at' vs x<=0)
end
end Go.Proofs.Ytggjcdnailppoaa
set_option maxRecDepth 100000
namespace Go.Proofs.Ytggjcdnailppoaa
open Go.Sx Go.Bf
section
variable (σ:List MO) (hσ:a7F σ) (N:Nat) (hN:N<=30) (n:Nat) (r:Int) (vs fs:List Int) (hvs:vs.length=N) (hr:0<=r/\r<=648024000000) (hb:∀ x,x < N->-648000000000<=at' vs x/\at' vs x<=0)
end
section
variable (σ:List MO) (hσ:a7F σ) (l:List Ch) (P:PV) (hP:P.rowsOf 12=some (l.map Ch.row)) (hl:l.length<=30) (n:Nat) (hn:30000<=n)
end
end Go.Proofs.Ytggjcdnailppoaa
set_option maxRecDepth 100000
namespace Go.Proofs.Ytggjcdnailppoaa
open Go.Sx Go.Bf
end Go.Proofs.Ytggjcdnailppoaa
