/- slices.DeleteFunc at offers without value: the library's text, walked. -/
import Derived.Test.YtggjcdnailppoaaHRcb
import Derived.Sort.WalkB12
import Derived.Lib.SliceRun
import Derived.Test.YtggjcdnailppoaaHBo
set_option linter.unusedSimpArgs false
set_option linter.unusedVariables false
open Go.Sx.BE renaming safe → Z2, pe → Z3, all → Zz
open Go.Sx.IE renaming pe → Z4
open Go.Sx renaming PEnv.at → Z5
open Go.Sx.PEnv renaming push → Zt
open List renaming getD_cons_zero → Z6, getD_cons_succ → Z7, getElem?_cons_zero → Z8, getElem?_cons_succ → Z9, drop_zero → Zf, length_cons → Zg, length_nil → Zh, take_succ_cons → Zm, take_zero → Zn, cons_append → Zu, nil_append → Zv, append_nil → Zw, map_cons → ZD, map_nil → ZE
open Go.Sx renaming a0i → Za, a0k → Zb, a0b → Zc, a0j → Zd, a0c → Zo, a0a → Zp, a0d → Zq, a0z → ZF, a0B → ZG, a0r → ZH, a0q → ZI, a0x → ZJ, a0w → ZK, a0o → ZL, a0A → ZM, a0p → ZN, a0u → ZO, a0m → ZP, a0v → ZQ, a0y → ZR, a0g → ZS, a0s → ZT, a0l → ZU, a0f → ZV, a0e → ZW, a0h → ZX, a0t → ZY
open Nat renaming add_zero → Ze, le_refl → Zi
open Bool renaming false_eq_true → Zl, and_self → ZA, not_true → ZB, not_false → ZC
open Option renaming map_some → Zr, bind_some → Zs
open Go.Sx.SV renaming pvs → Zx, pv → Zy
open List renaming length_map → Q0, getElem?_eq_some_iff → Q2, getElem?_eq_getElem → Q3, mem_append → Q4, mem_singleton → Q6, map_append → Q7, mem_map → Q8, length_take → Q9, replicate → Qa, length_nil → Qd, findIdx?_eq_some_iff_getElem → Qe, append_nil → Qf, findIdx?_eq_none_iff → Qh, map_cons → Qj, length_append → Qk, getElem?_map → Qm, getElem?_of_mem → Qn, getElem?_append_right → Qp, length_replicate → Qq, mem_of_getElem? → Qs, take_add_one → Qu, take_append_drop → Qv, flatten_append → Qw, getElem?_append_left → Qy, flatten_cons → Qz, length_set → QA, mapM_cons → QB, mapM_nil → QC, reverse_cons → QD, reverse_nil → QE, getD → QL, nil_append → QM, filter_append → QS, take_length → QV, length_filter_le → QW, getElem?_cons_zero → QY, length_drop → QZ, cons_append → X0, drop_zero → X1, pairwise_append → X3, pairwise_map → X4, filter_eq_self → X7, eq_replicate_iff → X8, set_cons_zero → Xa, take_append_of_le_length → Xb, take_of_length_le → Xc, drop_length → Xe, all_eq_true → Xg, length_cons → Xj, foldl_cons → Xk, getElem_mem → Xn, getElem?_set_ne → Xp, append_assoc → Xq
open Option renaming bind_some → Q1, map_some → Qg, bind_eq_bind → QH, pure_def → QJ
open Nat renaming le_refl → Q5, add_zero → Qt, zero_add → QK, zero_le → QP, not_lt_zero → QQ, add_sub_cancel_left → QU, lt_succ_iff_lt_or_eq → X6, one_ne_zero → X9, mul_le_mul_left → Xh
open Array renaming getElem?_eq_getElem → Qb, getElem?_eq_some_iff → X5
open Option.some renaming injEq → Qr
open Bool renaming false_eq_true → QN, and_eq_true → Xd, not_eq_true → Xf
open Prod.mk renaming injEq → QX
open Int renaming toNat_natCast → X2
namespace Go.Proofs.Ytggjcdnailppoaa
open Go.Shelf Go.RowKit Go.Lib Go.Sort Go.Sx Go.Proofs
theorem c4k (x:O8) (W:World):Calls Try.prog 29 #[.agg (O8.enc x).toArray] W fun e w'=>e=.returned (.bool (x.v == 0))/\Below W.heap.size W w':=by
 obtain ⟨b,w0,w1,w2,w3,w4,w5,v⟩:=x
 simp only [O8.enc]
 have mixed:Try.prog.follows Departure.mixedOrders=true:=by kernel_rfl
 go_enter Try.func29,Try.ntmps29
 go_wp2
 go_ret
 exact ⟨rfl,(Below.refl _ W).alloc (Q5 _) _⟩
theorem c4o {w:World} {b T:Nat} {cur:Array Value} (hb:w.heap[b]?=some (.cells cur T (0,0))) {l:List O8} (hcur:∀ (j:Nat) (u:Value),(l.map O8.enc).flatten[j]?=some u->cur[j]?=some u) {i:Nat} {x:O8} (hx:l[i]?=some x) :
  w.cell? ⟨b,i*8,none⟩=some (.int .i64 x.b)/\w.cell? ⟨b,i*8+1,none⟩=some (.int .i64 x.w0)/\w.cell? ⟨b,i*8+2,none⟩=some (.int .i64 x.w1)/\w.cell? ⟨b,i*8+3,none⟩=some (.int .i64 x.w2) /\
  w.cell? ⟨b,i*8+4,none⟩=some (.int .i64 x.w3)/\w.cell? ⟨b,i*8+5,none⟩=some (.int .i64 x.w4)/\w.cell? ⟨b,i*8+6,none⟩=some (.int .i64 x.w5)/\w.cell? ⟨b,i*8+7,none⟩=some (.int .i64 x.v):=by
 have he:(l.map O8.enc)[i]?=some (O8.enc x):=by rw [Qm,hx]; rfl
 have key:∀ (t:Nat) (u:Value),(O8.enc x)[t]?=some u->w.cell? ⟨b,i*8+t,none⟩=some u:=fun t u ht =>
  b6b hb (hcur _ _ (a3J 8 (l.map O8.enc) (fun e he=>by obtain ⟨y,_,rfl⟩:=Q8.1 he; rfl) i (O8.enc x) t u he ht))
 exact ⟨key 0 _ rfl,key 1 _ rfl,key 2 _ rfl,key 3 _ rfl,key 4 _ rfl,key 5 _ rfl,key 6 _ rfl,key 7 _ rfl⟩
def c3n (l:List O8):Int:=match l.findIdx? (fun x=>x.v == 0) with | some i=>(i:Int) | none=>-1
theorem c4B {l:List O8} {k:Nat} {x:O8} (hx:l[k]?=some x) (hv:(x.v == 0)=true) (h:∀ (j:Nat) (y:O8),j < k->l[j]?=some y->(y.v == 0)=false):c3n l=(k:Int):=by
 have:l.findIdx? (fun x=>x.v == 0)=some k:=by
  rw [Qe]
  obtain ⟨hk,rfl⟩:=Q2.1 hx
  exact ⟨hk,hv,fun j hj=>by have:=h j _ hj (Q3 (by omega)); simpa using this⟩
 unfold c3n; rw [this]
theorem c4n {l:List O8} (h:∀ (j:Nat) (y:O8),j < l.length->l[j]?=some y->(y.v == 0)=false):c3n l=-1:=by
 have:l.findIdx? (fun x=>x.v == 0)=none:=by
  rw [Qh]
  intro x hx
  obtain ⟨j,hj⟩:=Qn hx
  exact h j x (Q2.1 hj).1 hj
 unfold c3n; rw [this]
theorem Below.less {B B':Nat} {w w':World} (h:Below B w w') (hb:B'<=B):Below B' w w':=⟨h.os,h.tape,h.output,h.size,fun k hk=>h.block k (by omega)⟩
set_option maxHeartbeats 4000000 in
set_option maxRecDepth 1000000 in
theorem c3Z (w:World) (b T cap:Nat) (cur:Array Value) (l:List O8) (hb:w.heap[b]?=some (.cells cur T (0,0))) (hcur:∀ (j:Nat) (u:Value),(l.map O8.enc).flatten[j]?=some u->cur[j]?=some u) (hl6:l.length<=1000000) :
  Calls Try.prog 47 #[.slice (some ⟨b,0,none⟩) l.length cap,.func (.func 29) #[] #[]] w fun e w'=>e=.returned (.int .i64 (c3n l))/\Below w.heap.size w w':=by
 have mixed:Try.prog.follows Departure.mixedOrders=true:=by kernel_rfl
 have hbl:=(X5.1 hb).1
 have HB:Aside (w.heap[b]?=some (.cells cur T (0,0))):=hb
 have HC:Aside (∀ (j:Nat) (u:Value),(l.map O8.enc).flatten[j]?=some u->cur[j]?=some u):=hcur
 clear hb hcur
 have eg:=enters_of Try.func29 (by kernel_rfl) rfl
 go_enter Try.func47,Try.ntmps47
 go_wp2
 go_loopg [5,8] l.length (fun gg _ s8 wr=>∃ kk:Nat,kk<=l.length/\l.length-kk<=gg/\s8=.int .i64 kk/\Below w.heap.size w wr/\Aside (∀ (j:Nat) (x:O8),j < kk->l[j]?=some x->(x.v == 0)=false))
 case atStart=>exact ⟨0,QP _,by omega,rfl,Below.refl _ w,fun j x hj=>absurd hj (QQ _)⟩
 case round =>
  obtain ⟨kk,hkk,hg,rfl,hbel,A⟩:=hrel
  by_cases hlt:kk < l.length
  ·have hltz:(kk:Int) < (l.length:Int):=by omega
   obtain ⟨x,hx⟩:∃ x,l[kk]?=some x:=⟨_,Q3 hlt⟩
   have hbw:wr.heap[b]?=some (.cells cur T (0,0)):=by rw [hbel.block b hbl]; exact HB.out
   obtain ⟨c0,c1,c2,c3,c4,c5,c6,c7⟩:=c4o hbw HC.out hx
   have hcall:=c4k x wr
   simp only [O8.enc] at hcall
   have X:Aside (l[kk]?=some x):=hx
   have BL:Aside (Below w.heap.size w wr):=hbel
   have SZ:=hbel.size
   clear hbw hx hbel
   cases hq:(x.v == 0) with
   | true =>
    rw [hq] at hcall
    go_wp2_with (refine hcall.mono ?_; rintro e w' ⟨rfl,hb2⟩)
    go_ret
    exact ⟨by rw [c4B X.out hq A.out]; rfl,BL.out.trans (Below.less hb2 SZ)⟩
   | false =>
    rw [hq] at hcall
    go_wp2_with (refine hcall.mono ?_; rintro e w' ⟨rfl,hb2⟩)
    go_roundg (l.length-(kk+1))
    case measure=>omega
    case rel=>exact ⟨kk+1,by omega,Q5 _,by go_num,BL.out.trans (Below.less hb2 SZ),(show Aside _ from fun j y hj hy=>by
      rcases X6.1 hj with h | rfl
      ·exact A.out j y h hy
      ·rw [X.out] at hy; cases hy; exact hq)⟩
  ·have hltz:¬ (kk:Int) < (l.length:Int):=by omega
   have:kk=l.length:=by omega
   subst this
   go_wp2
   go_ret
   exact ⟨by rw [c4n A.out]; rfl,hbel⟩
end Go.Proofs.Ytggjcdnailppoaa
namespace Go.Proofs.Ytggjcdnailppoaa
open Go.Shelf Go.RowKit Go.Lib Go.Sort Go.Sx Go.Proofs
def keepO (x:O8):Bool:=!(x.v == 0)
structure DK (cur0:Array Value) (l:List O8) (cur:Array Value) (i j:Nat):Prop where
 sz:cur.size=cur0.size
 low:∀ (t:Nat) (u:Value),(((l.take j).filter keepO).map O8.enc).flatten[t]?=some u->cur[t]?=some u
 hi:∀ (t:Nat) (u:Value),((l.drop j).map O8.enc).flatten[t]?=some u->cur[j*8+t]?=some u
 top:∀ t:Nat,l.length*8<=t->cur[t]?=cur0[t]?
 len:((l.take j).filter keepO).length=i
theorem c3R {α:Type} {l:List α} {k:Nat} {x:α} (h:l[k]?=some x):l.drop k=x::l.drop (k+1):=by
 obtain ⟨hk,rfl⟩:=Q2.1 h
 exact List.drop_eq_getElem_cons hk
theorem DK.start {cur:Array Value} {l:List O8} {k:Nat} {x:O8} (hcur:∀ (j:Nat) (u:Value),(l.map O8.enc).flatten[j]?=some u->cur[j]?=some u) (hx:l[k]?=some x) (hv:keepO x=false) (h:∀ (j:Nat) (y:O8),j < k->l[j]?=some y->keepO y=true):DK cur l cur k (k+1):=by
 have hkl:=(Q2.1 hx).1
 have hall:(l.take k).filter keepO=l.take k:=by
  rw [X7]
  intro y hy
  obtain ⟨j,hj⟩:=Qn hy
  rw [List.getElem?_take] at hj
  split at hj
  ·exact h j y (by assumption) hj
  ·cases hj
 have hf:(l.take (k+1)).filter keepO=l.take k:=by
  rw [Qu,hx,QS,hall]
  simp [hv]
 have hlt:(l.take k).length=k:=by rw [Q9]; omega
 refine ⟨rfl,fun t u ht=>?_,fun t u ht=>?_,fun _ _=>rfl,by rw [hf,hlt]⟩
 ·rw [hf] at ht
  apply hcur
  rw [<- Qv k l,Q7,Qw,Qy (Q2.1 ht).1]
  exact ht
 ·apply hcur
  rw [<- Qv (k+1) l,Q7,Qw,Qp (by rw [a1I,Q9]; omega),a1I,Q9,Nat.min_eq_left (by omega),QU]
  exact ht
theorem DK.skip {cur0 cur:Array Value} {l:List O8} {i j:Nat} {x:O8} (h:DK cur0 l cur i j) (hx:l[j]?=some x) (hv:keepO x=false):DK cur0 l cur i (j+1):=by
 have hf:(l.take (j+1)).filter keepO=(l.take j).filter keepO:=by
  rw [Qu,hx,QS]
  simp [hv]
 refine ⟨h.sz,by rw [hf]; exact h.low,fun t u ht=>?_,h.top,by rw [hf]; exact h.len⟩
 have:=h.hi (8+t) u (by rw [c3R hx,Qj,Qz,Qp (by rw [a8l]; omega),a8l,QU]; exact ht)
 rw [show (j+1)*8+t=j*8+(8+t) by omega]
 exact this
theorem DK.keep {cur0 cur:Array Value} {l:List O8} {i j:Nat} {x:O8} (h:DK cur0 l cur i j) (hij:i < j) (hsz:l.length*8<=cur0.size) (hx:l[j]?=some x) (hv:keepO x=true):DK cur0 l (a6N cur (i*8) (O8.enc x)) (i+1) (j+1):=by
 have hjl:=(Q2.1 hx).1
 have hsz2:=h.sz
 have hf:(l.take (j+1)).filter keepO=(l.take j).filter keepO++[x]:=by
  rw [Qu,hx,QS]
  simp [hv]
 have hlen:=h.len
 have hg:∀ t,(a6N cur (i*8) (O8.enc x))[t]?=if i*8<=t/\t < i*8+8 then (O8.enc x)[t-i*8]? else cur[t]?:=fun t=>b1q _ _ _ t (by rw [a8l]; omega)
 refine ⟨by rw [a5b]; exact h.sz,fun t u ht=>?_,fun t u ht=>?_,fun t ht=>?_,by rw [hf,Qk,hlen]; rfl⟩
 ·rw [hf,Q7,Qw] at ht
  rw [hg]
  by_cases h1:t < i*8
  ·rw [Qy (by rw [a1I,hlen]; exact h1)] at ht
   rw [if_neg (by omega)]
   exact h.low t u ht
  ·rw [Qp (by rw [a1I,hlen]; omega),a1I,hlen] at ht
   simp only [Qj,List.map_nil,Qz,List.flatten_nil,Qf] at ht
   have:=(Q2.1 ht).1
   rw [a8l] at this
   rw [if_pos (by omega)]
   exact ht
 ·have:=h.hi (8+t) u (by rw [c3R hx,Qj,Qz,Qp (by rw [a8l]; omega),a8l,QU]; exact ht)
  rw [hg,if_neg (by omega),show (j+1)*8+t=j*8+(8+t) by omega]
  exact this
 ·rw [hg,if_neg (by omega)]
  exact h.top t ht
theorem DK.row {cur0 cur:Array Value} {l:List O8} {i j:Nat} {x:O8} (h:DK cur0 l cur i j) (hx:l[j]?=some x) {w:World} {b T:Nat} (hb:w.heap[b]?=some (.cells cur T (0,0))) :
  w.cell? ⟨b,j*8,none⟩=some (.int .i64 x.b)/\w.cell? ⟨b,j*8+1,none⟩=some (.int .i64 x.w0)/\w.cell? ⟨b,j*8+2,none⟩=some (.int .i64 x.w1)/\w.cell? ⟨b,j*8+3,none⟩=some (.int .i64 x.w2) /\
  w.cell? ⟨b,j*8+4,none⟩=some (.int .i64 x.w3)/\w.cell? ⟨b,j*8+5,none⟩=some (.int .i64 x.w4)/\w.cell? ⟨b,j*8+6,none⟩=some (.int .i64 x.w5)/\w.cell? ⟨b,j*8+7,none⟩=some (.int .i64 x.v):=by
 have key:∀ (t:Nat) (u:Value),(O8.enc x)[t]?=some u->w.cell? ⟨b,j*8+t,none⟩=some u:=fun t u ht =>
  b6b hb (h.hi t u (by rw [c3R hx,Qj,Qz,Qy (Q2.1 ht).1]; exact ht))
 exact ⟨key 0 _ rfl,key 1 _ rfl,key 2 _ rfl,key 3 _ rfl,key 4 _ rfl,key 5 _ rfl,key 6 _ rfl,key 7 _ rfl⟩
structure Below' (w w':World) (b:Nat):Prop where
 os:w'.os=w.os
 tape:w'.tape=w.tape
 output:w'.output=w.output
 size:w.heap.size<=w'.heap.size
 block:∀ k,k < w.heap.size->k≠b->w'.heap[k]?=w.heap[k]?
theorem c4r (x:O8) (wr:World) {w3:World} (h:Below (wr.alloc (.cells (O8.enc x).toArray 33 (0,0))).heap.size (wr.alloc (.cells (O8.enc x).toArray 33 (0,0))) w3):w3.heap[wr.heap.size]?=some (.cells (O8.enc x).toArray 33 (0,0)):=by
 rw [h.block _ (by show wr.heap.size < (wr.heap.push _).size; simp)]
 show (wr.heap.push _)[wr.heap.size]?=_
 simp
theorem c4u (x:O8) (wr:World) {w3:World} (h:Below (wr.alloc (.cells (O8.enc x).toArray 33 (0,0))).heap.size (wr.alloc (.cells (O8.enc x).toArray 33 (0,0))) w3) :
  w3.cell? ⟨wr.heap.size,0,none⟩=some (.int .i64 x.b)/\w3.cell? ⟨wr.heap.size,1,none⟩=some (.int .i64 x.w0)/\w3.cell? ⟨wr.heap.size,2,none⟩=some (.int .i64 x.w1)/\w3.cell? ⟨wr.heap.size,3,none⟩=some (.int .i64 x.w2) /\
  w3.cell? ⟨wr.heap.size,4,none⟩=some (.int .i64 x.w3)/\w3.cell? ⟨wr.heap.size,5,none⟩=some (.int .i64 x.w4)/\w3.cell? ⟨wr.heap.size,6,none⟩=some (.int .i64 x.w5)/\w3.cell? ⟨wr.heap.size,7,none⟩=some (.int .i64 x.v):=by
 have hb:=c4r x wr h
 exact ⟨b6b hb rfl,b6b hb rfl,b6b hb rfl,b6b hb rfl,b6b hb rfl,b6b hb rfl,b6b hb rfl,b6b hb rfl⟩
theorem c2U {wr w3:World} {o:Obj} {b:Nat} {x:Option Obj} (h:Below (wr.alloc o).heap.size (wr.alloc o) w3) (hb:b < wr.heap.size) (hx:wr.heap[b]?=x):w3.heap[b]?=x:=by
 rw [h.block b (by show b < (wr.heap.push _).size; simp; omega),<- hx]
 show (wr.heap.push _)[b]?=_
 simp [Array.getElem?_push,Nat.ne_of_lt hb]
theorem Below'.step {w wr w3:World} {o:Obj} {b:Nat} (h:Below' w wr b) (h3:Below (wr.alloc o).heap.size (wr.alloc o) w3):Below' w w3 b:=by
 have hs:(wr.alloc o).heap.size=wr.heap.size+1:=by show (wr.heap.push _).size=_; simp
 have h1:=h.size
 have h2:=h3.size
 rw [hs] at h2
 refine ⟨h3.os.trans h.os,h3.tape.trans h.tape,h3.output.trans h.output,by omega,fun k hk hne=>?_⟩
 rw [c2U h3 (by omega) rfl]
 exact h.block k hk hne
theorem Below'.set {w w3:World} {b:Nat} (h:Below' w w3 b) (o:Nat) (vs:List Value):Below' w (w3.setCells b o vs) b:=by
 obtain ⟨a1,a2,a3⟩:=a6f b vs o w3
 exact ⟨a1.trans h.os,a2.trans h.tape,a3.trans h.output,by rw [a6e]; exact h.size,fun k hk hne=>by rw [a5F b _ _ _ _ hne]; exact h.block k hk hne⟩
theorem c4i (n:Nat):(Builtin.zeroCells (Value.agg (O8.enc O8.zero).toArray).cells n).toList=((Qa n O8.zero).map O8.enc).flatten:=by
 have h1:(Builtin.zeroCells (Value.agg (O8.enc O8.zero).toArray).cells n).toList=Qa (n*8) (.int .i64 0):=by
  rw [b9a,X8]
  refine ⟨by simp [Builtin.zeroCells,a8l],fun v hv=>?_⟩
  simp only [Builtin.zeroCells,Array.toList_map,Q8] at hv
  obtain ⟨i,_,rfl⟩:=hv
  have hlt:i % (O8.enc O8.zero).toArray.size < 8:=Nat.mod_lt _ (by decide)
  generalize i % (O8.enc O8.zero).toArray.size=r at hlt
  match r,hlt with
  | 0,_ | 1,_ | 2,_ | 3,_ | 4,_ | 5,_ | 6,_ | 7,_=>rfl
  | r+8,h=>omega
 have h2:((Qa n O8.zero).map O8.enc).flatten=Qa (n*8) (.int .i64 0):=by
  rw [X8]
  refine ⟨by rw [a1I,Qq],fun v hv=>?_⟩
  obtain ⟨x,hx,hv⟩:=List.mem_flatten.1 hv
  obtain ⟨y,hy,rfl⟩:=Q8.1 hx
  rw [(List.mem_replicate.1 hy).2] at hv
  simp only [O8.enc,O8.zero,List.mem_cons,List.not_mem_nil,or_false,or_self] at hv
  exact hv
 rw [h1,h2]
theorem c3Y {l:List O8} (h:l.findIdx? (fun x=>x.v == 0)=none):l.filter keepO=l:=by
 rw [X7]
 intro x hx
 have:=Qh.1 h x hx
 simp [keepO,this]
theorem c4z {w:World} {b T i:Nat} {cur:Array Value} (hb:w.heap[b]?=some (.cells cur T (0,0))) (hi:i*8+8<=cur.size) :
  w.frozen? ⟨b,i*8,none⟩=false/\w.frozen? ⟨b,i*8+1,none⟩=false/\w.frozen? ⟨b,i*8+2,none⟩=false/\w.frozen? ⟨b,i*8+3,none⟩=false/\w.frozen? ⟨b,i*8+4,none⟩=false/\w.frozen? ⟨b,i*8+5,none⟩=false/\w.frozen? ⟨b,i*8+6,none⟩=false/\w.frozen? ⟨b,i*8+7,none⟩=false :=
 ⟨(b3l hb (by omega)).2,(b3l hb (by omega)).2,(b3l hb (by omega)).2,(b3l hb (by omega)).2,(b3l hb (by omega)).2,(b3l hb (by omega)).2,(b3l hb (by omega)).2,(b3l hb (by omega)).2⟩
theorem c4h {w:World} {b T i:Nat} {cur:Array Value} (hb:w.heap[b]?=some (.cells cur T (0,0))) (hi:i*8+8<=cur.size) :
  ∃ y0 y1 y2 y3 y4 y5 y6 y7,w.cell? ⟨b,i*8,none⟩=some y0/\w.cell? ⟨b,i*8+1,none⟩=some y1/\w.cell? ⟨b,i*8+2,none⟩=some y2/\w.cell? ⟨b,i*8+3,none⟩=some y3/\w.cell? ⟨b,i*8+4,none⟩=some y4/\w.cell? ⟨b,i*8+5,none⟩=some y5/\w.cell? ⟨b,i*8+6,none⟩=some y6/\w.cell? ⟨b,i*8+7,none⟩=some y7 :=
 ⟨_,_,_,_,_,_,_,_,b6b hb (Qb (by omega)),b6b hb (Qb (by omega)),b6b hb (Qb (by omega)),b6b hb (Qb (by omega)),b6b hb (Qb (by omega)),b6b hb (Qb (by omega)),b6b hb (Qb (by omega)),b6b hb (Qb (by omega))⟩
def dfO (l:List O8):List O8:=l.filter keepO++Qa (l.length-(l.filter keepO).length) O8.zero
set_option maxHeartbeats 8000000 in
set_option maxRecDepth 1000000 in
theorem c3O (w:World) (b T cap:Nat) (cur:Array Value) (l:List O8) (hb:w.heap[b]?=some (.cells cur T (0,0))) (hcur:∀ (j:Nat) (u:Value),(l.map O8.enc).flatten[j]?=some u->cur[j]?=some u) (hsz:cur.size=cap*8) (hlc:l.length<=cap) (hcm:cap<=maxLen) (hl6:l.length<=1000000) :
  Calls Try.prog 28 #[.slice (some ⟨b,0,none⟩) l.length cap,.func (.func 29) #[] #[]] w fun e w'=>e=.returned (.slice (some ⟨b,0,none⟩) (l.filter keepO).length cap)/\w'.os=w.os/\w'.tape=w.tape/\w'.output=w.output/\w.heap.size<=w'.heap.size/\(∀ k,k < w.heap.size->k≠b->w'.heap[k]?=w.heap[k]?) /\
   ∃ cur':Array Value,w'.heap[b]?=some (.cells cur' T (0,0))/\cur'.size=cur.size/\(∀ (t:Nat) (u:Value),((dfO l).map O8.enc).flatten[t]?=some u->cur'[t]?=some u)/\∀ t:Nat,l.length*8<=t->cur'[t]?=cur[t]?:=by
 have hm:cap<=9223372036854775807:=hcm
 have mixed:Try.prog.follows Departure.mixedOrders=true:=by kernel_rfl
 have hbl:=(X5.1 hb).1
 have hIF:=c3Z w b T cap cur l hb hcur hl6
 have HB:Aside (w.heap[b]?=some (.cells cur T (0,0))):=hb
 have HC:Aside (∀ (j:Nat) (u:Value),(l.map O8.enc).flatten[j]?=some u->cur[j]?=some u):=hcur
 have HS:Aside (cur.size=cap*8):=hsz
 clear hb hcur hsz
 rcases hidx:l.findIdx? (fun x=>x.v == 0) with _ | k0
 ·have e1:c3n l=-1:=by unfold c3n; rw [hidx]
  rw [e1] at hIF
  have E:Aside (l.findIdx? (fun x=>x.v == 0)=none):=hidx
  clear hidx e1
  go_enter Try.func28,Try.ntmps28
  go_wp2_with (refine hIF.mono ?_; rintro e w' ⟨rfl,hb2⟩)
  go_ret
  have hf:=c3Y E.out
  refine ⟨by rw [hf]; rfl,hb2.os,hb2.tape,hb2.output,hb2.size,fun k hk _=>hb2.block k hk,cur,by rw [hb2.block b hbl]; exact HB.out,rfl,?_,fun _ _=>rfl⟩
  unfold dfO
  rw [hf,Nat.sub_self,List.replicate_zero,Qf]
  exact HC.out
 ·have e1:c3n l=(k0:Int):=by unfold c3n; rw [hidx]
  rw [e1] at hIF
  have E:Aside (l.findIdx? (fun x=>x.v == 0)=some k0):=hidx
  have hk0:k0 < l.length:=(Qe.1 hidx).1
  have hne1:((k0:Int) == -1)=false:=beq_eq_false_iff_ne.2 (by omega)
  clear hidx e1
  go_enter Try.func28,Try.ntmps28
  go_wp2_with (refine hIF.mono ?_; rintro e w' ⟨rfl,hb2⟩)
  have hw0:w'.heap[b]?=some (.cells cur T (0,0)):=by rw [hb2.block b hbl]; exact HB.out
  go_loopg [5,6,7] l.length (fun gg s5 s6 _ wr=>∃ (i j:Nat) (cj:Array Value),s5=.int .i64 i/\s6=.int .i64 j/\i < j/\j<=l.length/\l.length-j<=gg/\Below' w wr b/\wr.heap[b]?=some (.cells cj T (0,0))/\Aside (DK cur l cj i j))
  case atStart =>
   have hx0:=(Qe.1 E.out)
   refine ⟨k0,k0+1,cur,rfl,by go_num,by omega,by omega,by omega,⟨hb2.os,hb2.tape,hb2.output,hb2.size,fun k hk _=>hb2.block k hk⟩,hw0,(show Aside _ from ?_)⟩
   obtain ⟨h1,h2,h3⟩:=hx0
   refine DK.start HC.out (Q3 h1) (by unfold keepO; rw [h2]; rfl) fun j y hj hy=>?_
   obtain ⟨hjl,rfl⟩:=Q2.1 hy
   have:=h3 j hj
   unfold keepO
   simpa using this
  case round =>
   obtain ⟨i,j,cj,rfl,rfl,hij,hjd,hgg,hbel,hbw,I2⟩:=hrel
   by_cases hlt:j < l.length
   ·have hltz:(j:Int) < (l.length:Int):=by omega
    obtain ⟨x,hx⟩:∃ x,l[j]?=some x:=⟨_,Q3 hlt⟩
    obtain ⟨c0,c1,c2,c3,c4,c5,c6,c7⟩:=I2.out.row hx hbw
    have X:Aside (l[j]?=some x):=hx
    clear hx
    have SZ:=hbel.size
    have hcall:=c4k x (wr.alloc (.cells (O8.enc x).toArray 33 (0,0)))
    simp only [O8.enc] at hcall
    have hbl2:b < wr.heap.size:=Nat.lt_of_lt_of_le hbl SZ
    have hisz:i*8+8<=cj.size:=by have:=I2.out.sz; have:=HS.out; omega
    have BE:Aside (Below' w wr b):=hbel
    have BW:Aside (wr.heap[b]?=some (.cells cj T (0,0))):=hbw
    clear hbel hbw
    cases hq:(x.v == 0) with
    | false =>
     rw [hq] at hcall
     go_wp2_with (refine hcall.mono ?_; rintro e w3 ⟨rfl,hb3⟩; obtain ⟨v0,v1,v2,v3,v4,v5,v6,v7⟩:=c4u x wr hb3; obtain ⟨f0,f1,f2,f3,f4,f5,f6,f7⟩:=c4z (i:=i) (c2U hb3 hbl2 BW.out) hisz; obtain ⟨y0,y1,y2,y3,y4,y5,y6,y7,z0,z1,z2,z3,z4,z5,z6,z7⟩:=c4h (i:=i) (c2U hb3 hbl2 BW.out) hisz)
     go_roundg (l.length-(j+1))
     case measure=>omega
     case rel =>
      refine ⟨i+1,j+1,a6N cj (i*8) (O8.enc x),by go_num,by go_num,by omega,by omega,Q5 _,(BE.out.step hb3).set (i*8) (O8.enc x),a5E b (O8.enc x) (i*8) _ _ _ w3 (c2U hb3 hbl2 BW.out),(show Aside _ from ?_)⟩
      exact I2.out.keep hij (by have:=HS.out; omega) X.out (by unfold keepO; rw [hq]; rfl)
    | true =>
     rw [hq] at hcall
     go_wp2_with (refine hcall.mono ?_; rintro e w3 ⟨rfl,hb3⟩)
     go_roundg (l.length-(j+1))
     case measure=>omega
     case rel=>exact ⟨i,j+1,cj,rfl,by go_num,by omega,by omega,Q5 _,BE.out.step hb3,c2U hb3 hbl2 BW.out,(show Aside _ from I2.out.skip X.out (by unfold keepO; rw [hq]; rfl))⟩
   ·obtain rfl:j=l.length:=by omega
    have hltz:¬ (l.length:Int) < (l.length:Int):=by omega
    have hii:i<=l.length:=by omega
    have hic:i<=cap:=by omega
    have hic0:¬ cap=i:=by omega
    obtain ⟨Z,hZ⟩:∃ Z,Z=((Qa (l.length-i) O8.zero).map O8.enc).flatten:=⟨_,rfl⟩
    have hcl:∀ ty c,(Builtin.clear_ #[25] ty #[.slice (some ⟨b,i*8,none⟩) (l.length-i) c]).run Try.prog wr=.ok (.tuple #[]) (wr.setCells b (i*8) Z):=by
     intro ty c
     rw [hZ]
     have hs2:=I2.out.sz
     have hs3:=HS.out
     rw [b5z wr 25 33 ty _ (O8.enc O8.zero) Try.underlying25 c0h b9a (b3h _) b (i*8) (l.length-i) c (by omega) (fun t ht=>(b3l hbw (by simp only [a8l] at ht; omega)).1) (fun t ht=>(b3l hbw (by simp only [a8l] at ht; omega)).2),c4i]
    have BE:Aside (Below' w wr b):=hbel
    have BW:Aside (wr.heap[b]?=some (.cells cj T (0,0))):=hbw
    have hZa:Aside (Z=((Qa (l.length-i) O8.zero).map O8.enc).flatten):=hZ
    clear hbel hbw hZ
    go_wp2
    go_ret
    have hZ:=hZa.out
    have hd:=I2.out
    have hlen:=hd.len
    rw [QV] at hlen
    have h2:=BE.out.set (i*8) Z
    have hs2:=hd.sz
    have hs3:=HS.out
    have hg:∀ t,(a6N cj (i*8) Z)[t]?=if i*8<=t/\t < i*8+(l.length-i)*8 then ((Qa (l.length-i) O8.zero).map O8.enc).flatten[t-i*8]? else cj[t]?:=fun t=>by
     rw [hZ,b1q _ _ _ t (by rw [a1I,Qq]; omega),a1I,Qq]
    refine ⟨by rw [hlen]; rfl,h2.os,h2.tape,h2.output,h2.size,h2.block,_,a5E b _ (i*8) _ _ _ wr BW.out,by rw [a5b]; exact hs2,fun t u ht=>?_,fun t ht=>?_⟩
    ·rw [hg]
     unfold dfO at ht
     rw [hlen,Q7,Qw] at ht
     by_cases h1:t < i*8
     ·rw [if_neg (by omega)]
      rw [Qy (by rw [a1I,hlen]; exact h1)] at ht
      exact hd.low t u (by rw [QV]; exact ht)
     ·rw [Qp (by rw [a1I,hlen]; omega),a1I,hlen] at ht
      have:=(Q2.1 ht).1
      rw [a1I,Qq] at this
      rw [if_pos (by omega)]
      exact ht
    ·rw [hg,if_neg (by omega)]
     exact hd.top t ht
end Go.Proofs.Ytggjcdnailppoaa
set_option maxRecDepth 100000
namespace Go.Proofs.Ytggjcdnailppoaa
open Go.Sx Go.RowKit
theorem c2X (l:List O8):(dfO l).length=l.length:=by
 have:=QW keepO l
 simp only [dfO,Qk,Qq]; omega
def dfW (cur:Array Value) (l:List O8):Array Value:=a6N cur 0 ((dfO l).map O8.enc).flatten
def dfF:List PV->List MO->Option (PV × List MO)
 | [.rsl h len sz,.fn g []],σ=>match σ[h]? with
  | some (.row rows sz' T)=>(a5g rows).bind fun l=>if g=29/\rows.length=len/\sz=8/\sz'=8/\len<=1000000 then some (.rpl h (l.filter keepO).length len 8,σ.set h (.row ((dfO l).map O8.row) 8 T)) else none
  | _=>none
 | [.nilS,.fn g []],σ=>if g=29 then some (.nilS,σ) else none
 | _,_=>none
section
open Go.Shelf Go.Lib Go.Sort Go.Proofs
set_option maxHeartbeats 2000000 in
theorem c4a (a:Option Addr) (cap:Nat) (w:World):Calls Try.prog 47 #[.slice a 0 cap,.func (.func 29) #[] #[]] w fun e w'=>e=.returned (.int .i64 (-1))/\w'=w:=by
 have mixed:Try.prog.follows Departure.mixedOrders=true:=by kernel_rfl
 go_enter Try.func47,Try.ntmps47
 go_wp2
 go_loopg [5,8] 0 (fun _ _ s8 wr=>s8=.int .i64 0/\wr=w)
 case atStart=>exact ⟨rfl,rfl⟩
 case round =>
  obtain ⟨rfl,rfl⟩:=hrel
  go_wp2
  go_ret
  exact ⟨rfl,rfl⟩
set_option maxHeartbeats 2000000 in
theorem c3N (a:Option Addr) (cap:Nat) (w:World):Calls Try.prog 28 #[.slice a 0 cap,.func (.func 29) #[] #[]] w fun e w'=>e=.returned (.slice a 0 cap)/\w'=w:=by
 have mixed:Try.prog.follows Departure.mixedOrders=true:=by kernel_rfl
 have hIF:=c4a a cap w
 go_enter Try.func28,Try.ntmps28
 go_wp2_with (refine hIF.mono ?_; rintro e w' ⟨rfl,rfl⟩)
 go_ret
 exact ⟨rfl,rfl⟩
end
theorem c4d {cur:Array Value} {l:List O8} (hl:l.length*8<=cur.size) (t:Nat):(dfW cur l)[t]?=if t < l.length*8 then ((dfO l).map O8.enc).flatten[t]? else cur[t]?:=by
 have:=b1q ((dfO l).map O8.enc).flatten 0 cur t (by rw [a1I,c2X]; omega)
 rw [a1I,c2X] at this
 rw [dfW,this]
 by_cases h:t < l.length*8
 ·rw [if_pos (by omega),if_pos h,Nat.sub_zero]
 ·rw [if_neg (by omega),if_neg h]
theorem c4Q:CtP Try.prog 28 dfF:=by
 intro aa σ r σ' h
 refine ⟨enters_of Try.func28 (by kernel_rfl) rfl,fun s m vs hm hcoh hv w hs hok=>?_⟩
 unfold dfF at h
 split at h
 ·rename_i σ0 hd len sz g
  split at h
  case h_2=>cases h
  rename_i rows sz' T h0
  rw [Option.bind_eq_some_iff] at h
  obtain ⟨l,hl,h⟩:=h
  split at h
  case isFalse=>cases h
  rename_i hc
  obtain ⟨rfl,hc1,rfl,rfl,hc3⟩:=hc
  simp only [Qr,QX] at h
  obtain ⟨rfl,rfl⟩:=h
  have hrows:=a8Y hl
  obtain ⟨x0,h1,cur,g2,a1,a2,⟨cap0,a31,a32,a33⟩,a4,xs,a5,a6,a7⟩:=hm.obj h0
  obtain ⟨b,o⟩:=x0
  simp only at g2; subst g2
  have hI:=a1b h0 h1
  simp only [Reps,Rep] at hv
  obtain ⟨v1,_,rfl,⟨hpos,b1,cap,rfl,b',n',r',k1,k2,k3⟩,v2,_,rfl,⟨cs,rfl,rfl⟩,rfl⟩:=hv
  rw [hI] at k1
  simp only [a1i,a1D,Qr,QX] at k1
  obtain ⟨rfl,rfl,rfl⟩:=k1
  obtain ⟨rfl,q1,q2⟩:=k3 hc1
  have hcc:cap=cap0:=by omega
  subst hcc
  have hll:l.length=len:=by rw [<- hc1,hrows,Q0]
  subst hrows
  have hx1:=a9v a5
  subst hx1
  have hb:=hok.is _ (Qs h1)
  simp only at hb
  have hle8:l.length*8<=cur.size:=by rw [a31]; exact Nat.mul_le_mul_right _ (by omega)
  have hcall:=c3O w b T cap cur l hb a7 a31 (by omega) a33 (by omega)
  rw [hll] at hcall
  refine b8d hm hcoh hs hok h0 h1 (by rw [Q0,Q0,c2X]) (cur':=dfW cur l) (by rw [dfW,a5b]) (b5K _) (a9l (dfO l)) (fun x hx=>by obtain ⟨y,_,rfl⟩:=Q8.1 hx; rfl) (fun j u hj=>?_) (v:=.slice (some ⟨b,0,none⟩) (l.filter keepO).length cap) ?_ (hcall.mono ?_)
  ·have hjl:=(Q2.1 hj).1
   rw [a1I,c2X] at hjl
   rw [c4d hle8,if_pos hjl]; exact hj
  ·have hfl:=QW keepO l
   simp only [Rep]
   refine ⟨by omega,by omega,b,cap,rfl,_,_,_,hI,?_,fun _=>⟨rfl,?_,?_⟩⟩
   ·rw [hc1]; exact Q5 _
   ·simp only [a1D]; exact a31
   ·omega
  ·rintro e w' ⟨rfl,w1,w2,w3,w4,w5,cur',c1,c2,c3,c4⟩
   refine ⟨rfl,w1,w2,w3,w4,?_,w5⟩
   have:cur'=dfW cur l:=by
    apply Array.ext_getElem?
    intro t
    rw [c4d hle8]
    by_cases ht:t < l.length*8
    ·rw [if_pos ht]
     have:t < ((dfO l).map O8.enc).flatten.length:=by rw [a1I,c2X]; exact ht
     rw [Q3 this]
     exact c3 t _ (Q3 this)
    ·rw [if_neg ht]; exact c4 t (by omega)
   rw [c1,this]
 ·rename_i σ0 g
  split at h
  case isFalse=>cases h
  rename_i hg
  subst hg
  simp only [Qr,QX] at h
  obtain ⟨rfl,rfl⟩:=h
  simp only [Reps,Rep] at hv
  obtain ⟨v1,_,rfl,rfl,v2,_,rfl,⟨cs,rfl,rfl⟩,rfl⟩:=hv
  refine (c3N none 0 w).mono ?_
  rintro e w' ⟨rfl,rfl⟩
  exact ⟨_,s,m,rfl,Grows.refl _ _,Hp.le_refl s,hs,(fun b o u h1 h2=>by rw [h1] at h2; cases h2),⟨Q5 _,fun i x hx=>.inl ⟨x,hx,rfl⟩⟩,hok,Le2.refl _ _,rfl,hm,hcoh⟩
 ·cases h
end Go.Proofs.Ytggjcdnailppoaa
set_option maxRecDepth 100000
namespace Go.Proofs.Ytggjcdnailppoaa
open Go.Sx Go.RowKit
def c4U:List PV->List MO->Option (PV × List MO):=a0n Tab 100 a3D
def c2T (f:Nat):Option Sx.Sys :=
 if f=b7C then some relcap_Clockbids_S else if f=a2d then some (prim c0B) else if f=a3D then some (prim c4U)
 else if f=28 then some (prim dfF)
 else if f=30 then some c2u else none
theorem c4I:∀ f S,c2T f=some S->SysOk Try.prog f S:=by
 intro f S h
 unfold c2T at h
 split at h
 ·rename_i hf; subst hf; cases h; exact a9O
 split at h
 ·rename_i hf; subst hf; cases h; exact ⟨fun _ _ _=>evalF_good b2h 5000 a2d⟩
 split at h
 ·rename_i hf; subst hf; cases h; exact ⟨fun _ _ _=>evalF_good b2h 100 a3D⟩
 split at h
 ·rename_i hf; subst hf; cases h; exact ⟨fun _ _ _=>c4Q⟩
 split at h
 ·rename_i hf; subst hf; cases h; exact a3O
 ·cases h
def c2P (out:List Of) (w:W6) (v:Int):List Of:=match out.findIdx? (fun o=>o.w.beq w) with
 | some k=>out.set k { (out.getD k ⟨0,w,0⟩) with v:=mxI (out.getD k ⟨0,w,0⟩).v v }
 | none=>out++[⟨0,w,v⟩]
def cbV (out:List Of):PV:=if out=[] then .nilS else .rsl 0 out.length 8
def cbM (out:List Of):List MO:=if out=[] then [] else [.row (out.map Of.row) 8 33]
theorem c4m (out:List Of) (w:W6) (v:Int):(c2P out w v).length<=out.length+1:=by
 unfold c2P; split
 ·rw [QA]; omega
 ·simp
def wl6 (w:W6):List Int:=[w.a,w.b,w.c,w.d,w.e,w.f]
theorem c3Q {h i n off:Nat} (hi:i < n):a5v (i:Int) 8 off (.rsl h n 8)=some (.elt h n i 8 off):=by
 simp only [a5v]
 rw [if_pos ⟨by omega,by omega,trivial⟩]
 simp
section
variable (l:List Ch) (P:PV) (hP:P.rowsOf 12=some (l.map Ch.row)) (hl:l.length<=1000) (hok:∀ x∈l,x.ok) (n:Nat)
def cb1 (P:PV) (out:List Of) (c:Ch) (v N idx ln k:Int):PEnv:={ i:=[v,N,idx,ln,k,c.p.a,c.p.b,c.p.c,c.p.d,c.p.e,c.p.f,c.w.a,c.w.b,c.w.c,c.w.d,c.w.e,c.w.f],b:=[],v:=[cbV out,P],m:=cbM out,k:=0 }
def cb0 (P:PV) (out:List Of) (N idx:Int):PEnv:={ i:=[N,idx],b:=[],v:=[cbV out,P],m:=cbM out,k:=0 }
theorem c4M (out:List Of):(cbV out).len=(out.length:Int)/\(cbV out).isKind 0=true/\(cbV out).one=true:=by
 unfold cbV
 split
 ·rename_i h; subst h; exact ⟨rfl,rfl,rfl⟩
 ·exact ⟨rfl,rfl,rfl⟩
theorem c4R (out:List Of) (c:Ch) (v:Int) (N idx:Int) (hidx:0<=idx/\idx<=1000) (ho:out.length<=1000):∀ d k,k+d=out.length->(∀ (j:Nat) (o:Of),j < k->out[j]?=some o->o.w.beq c.w=false)->∀ fuel,
  ∃ f',fuel<=f'/\relcap_Clockbids_S.loop (a0n c2T n) (fuel+d+1) 1 (cb1 P out c v N idx (out.length:Int) (k:Int))=relcap_Clockbids_S.loop (a0n c2T n) f' 0 (cb0 P (c2P out c.w v) N (idx+1)):=by
 intro d
 induction d with
 | zero =>
  intro k hk hno fuel
  rw [Qt] at hk; subst hk
  have hnone:out.findIdx? (fun o=>o.w.beq c.w)=none:=by
   rw [Qh]
   intro o ho
   obtain ⟨j,hj⟩:=Qn ho
   exact hno j o (Q2.1 hj).1 hj
  have hd:decide (out.length < out.length)=false:=by simp
  have hup:=b2G (z:=idx+1) (by omega)
  have hst:c2P out c.w v=out++[⟨0,c.w,v⟩]:=by unfold c2P; rw [hnone]
  refine ⟨fuel,Q5 _,?_⟩
  rw [hst,Qt,Sys.loop,show relcap_Clockbids_S.loops[1]?=some a9M from rfl]
  have hrow:[PV.int .i64 0,.int .i64 c.w.a,.int .i64 c.w.b,.int .i64 c.w.c,.int .i64 c.w.d,.int .i64 c.w.e,.int .i64 c.w.f,.int .i64 v]=(⟨0,c.w,v⟩:Of).row:=rfl
  by_cases he:out=[]
  ·subst he
   have e1:cb1 P [] c v N idx (([]:List Of).length:Int) (([]:List Of).length:Int)={ i:=[v,N,idx,0,0,c.p.a,c.p.b,c.p.c,c.p.d,c.p.e,c.p.f,c.w.a,c.w.b,c.w.c,c.w.d,c.w.e,c.w.f],b:=[],v:=[.nilS,P],m:=[],k:=0 }:=rfl
   have e2:cb0 P ([]++[⟨0,c.w,v⟩]) N (idx+1)={ i:=[N,idx+1],b:=[],v:=[.rsl 0 1 8,P],m:=[.row [(⟨0,c.w,v⟩:Of).row] 8 33],k:=0 }:=rfl
   have hd0:ltB 0 0=false:=by decide
   rw [e1,e2]
   simp -implicitDefEqProofs only [Q1,a9M,↓reduceIte,eq_self,ZF,ZG,ZH,ZI,ZJ,ZK,ZL,ZM,ZN,ZO,ZP,ZQ,ZR,ZS,ZT,ZU,ZV,ZW,ZX,ZY,Z2,Z3,Z4,Z5,Z6,Z7,Z8,Z9,Za,Zb,Zc,Zd,Ze,Zf,Zg,Zh,Nat.reduceAdd,Zi,if_true,if_false,Zl,Zm,Zn,Zo,Zp,Zq,Zr,Zs,Zt,Zu,Zv,Zw,Zx,Zy,Zz,ZA,ZB,ZC,ZD,ZE,a1s,QB,QC,QD,QE,QH,QJ,hd0,hrow,a2I,Qd,QK,X9,Nat.reduceLeDiff,if_pos hup]
  ·have hv:cbV out=.rsl 0 out.length 8:=by unfold cbV; rw [if_neg he]
   have hm:cbM out=[.row (out.map Of.row) 8 33]:=by unfold cbM; rw [if_neg he]
   have hv':cbV (out++[⟨0,c.w,v⟩])=.rsl 0 (out.length+1) 8:=by unfold cbV; rw [if_neg (by simp),Qk]; rfl
   have hm':cbM (out++[⟨0,c.w,v⟩])=[.row (out.map Of.row++[(⟨0,c.w,v⟩:Of).row]) 8 33]:=by unfold cbM; rw [if_neg (by simp),Q7]; rfl
   have ll:(out.map Of.row).length=out.length:=Q0 ..
   have c9:out.length<=999999:=by omega
   simp -implicitDefEqProofs only [Q1,cb1,cb0,hv,hm,hv',hm',a9M,↓reduceIte,eq_self,ZF,ZG,ZH,ZI,ZJ,ZK,ZL,ZM,ZN,ZO,ZP,ZQ,ZR,ZS,ZT,ZU,ZV,ZW,ZX,ZY,Z2,Z3,Z4,Z5,Z6,Z7,Z8,Z9,Za,Zb,Zc,Zd,Ze,Zf,Zg,Zh,Nat.reduceAdd,Zi,if_true,if_false,Zl,Zm,Zn,Zo,Zp,Zq,Zr,Zs,Zt,Zu,Zv,Zw,Zx,Zy,Zz,ZA,ZB,ZC,ZD,ZE,a1s,QB,QC,QD,QE,QH,QJ,a0E,hd,hrow,a2I,Qd,QK,X9,Nat.reduceLeDiff,if_pos hup,ll,true_and,and_true,c9,Xa]
 | succ d ih =>
  intro k hk hno fuel
  obtain ⟨o,ho'⟩:=a4g (show k < out.length by omega)
  have he:out≠[]:=by rintro rfl; cases ho'
  have hd:decide (k < out.length)=true:=decide_eq_true (by omega)
  have hup:=b2G (z:=idx+1) (by omega)
  have huk:=a2r (show k<=1000000000 by omega)
  have hv:cbV out=.rsl 0 out.length 8:=by unfold cbV; rw [if_neg he]
  have hm:cbM out=[.row (out.map Of.row) 8 33]:=by unfold cbM; rw [if_neg he]
  have ll:(out.map Of.row).length=out.length:=Q0 ..
  have lr:(out.map Of.row)[k]?=some o.row:=by rw [Qm,ho']; rfl
  have l1:=c3Q (h:=0) (off:=1) (show k < out.length by omega)
  have l7:=c3Q (h:=0) (off:=7) (show k < out.length by omega)
  obtain ⟨d1,d7⟩:=c0m (.int .i64 o.n) (.int .i64 o.w.a) (.int .i64 o.w.b) (.int .i64 o.w.c) (.int .i64 o.w.d) (.int .i64 o.w.e) (.int .i64 o.w.f) (.int .i64 o.v)
  have hz:(eqB o.w.a c.w.a&&(eqB o.w.b c.w.b&&(eqB o.w.c c.w.c&&(eqB o.w.d c.w.d&&(eqB o.w.e c.w.e&&eqB o.w.f c.w.f)))))=o.w.beq c.w:=rfl
  have rlen:(PV.rsl 0 out.length 8).len=(out.length:Int):=rfl
  have rk:PV.isKind 0 (PV.rsl 0 out.length 8)=true:=rfl
  cases hb:o.w.beq c.w with
  | true =>
   have hf:out.findIdx? (fun o=>o.w.beq c.w)=some k:=by
    rw [Qe]
    obtain ⟨h1,rfl⟩:=Q2.1 ho'
    exact ⟨h1,hb,fun j hj=>by have:=hno j _ hj (Q3 (by omega)); simpa using this⟩
   have hst:c2P out c.w v=out.set k { o with v:=mxI o.v v }:=by
    have hg:out.getD k ⟨0,c.w,0⟩=o:=by simp [QL,ho']
    unfold c2P; rw [hf]
    simp only [hg]
   have hv':cbV (out.set k { o with v:=mxI o.v v })=.rsl 0 out.length 8:=by unfold cbV; rw [if_neg (by intro h; have:=congrArg List.length h; rw [QA,Qd] at this; omega),QA]
   have hm':cbM (out.set k { o with v:=mxI o.v v })=[.row ((out.map Of.row).set k ({ o with v:=mxI o.v v }:Of).row) 8 33]:=by unfold cbM; rw [if_neg (by intro h; have:=congrArg List.length h; rw [QA,Qd] at this; omega),List.map_set]
   have hset:a3Y [PV.int .i64 o.n,.int .i64 o.w.a,.int .i64 o.w.b,.int .i64 o.w.c,.int .i64 o.w.d,.int .i64 o.w.e,.int .i64 o.w.f,.int .i64 o.v] 7 [.int .i64 (mxI o.v v)]=({ o with v:=mxI o.v v }:Of).row:=rfl
   refine ⟨fuel+d+1,by omega,?_⟩
   rw [hst,show fuel+(d+1)+1=(fuel+d+1)+1 from rfl,Sys.loop,show relcap_Clockbids_S.loops[1]?=some a9M from rfl]
   simp -implicitDefEqProofs only [Q1,cb1,cb0,hv,hm,hv',hm',a9M,↓reduceIte,eq_self,ZF,ZG,ZH,ZI,ZJ,ZK,ZL,ZM,ZN,ZO,ZP,ZQ,ZR,ZS,ZT,ZU,ZV,ZW,ZX,ZY,Z2,Z3,Z4,Z5,Z6,Z7,Z8,Z9,Za,Zb,Zc,Zd,Ze,Zf,Zg,Zh,Nat.reduceAdd,Zi,if_true,if_false,Zl,Zm,Zn,Zo,Zp,Zq,Zr,Zs,Zt,Zu,Zv,Zw,Zx,Zy,Zz,ZA,ZB,ZC,ZD,ZE,a0E,hd,le0,rlen,rk,l1,l7,MO.elts,ll,and_self,lr,a2F,d1,d7,Nat.reduceLeDiff,hz,hb,hset,List.all_cons,List.all_nil,Bool.and_true,PV.one,and_true,if_pos hup,Xa]
  | false =>
   have hno':∀ (j:Nat) (o:Of),j < k+1->out[j]?=some o->o.w.beq c.w=false:=fun j y hj hy=>by
    rcases X6.1 hj with h | rfl
    ·exact hno j y h hy
    ·rw [ho'] at hy; cases hy; exact hb
   obtain ⟨f',hf',ih⟩:=ih (k+1) (by omega) hno' fuel
   rw [a2C] at ih
   refine ⟨f',hf',?_⟩
   rw [<- ih,show fuel+(d+1)+1=(fuel+d+1)+1 from rfl,Sys.loop,show relcap_Clockbids_S.loops[1]?=some a9M from rfl]
   simp -implicitDefEqProofs only [Q1,cb1,hv,hm,a9M,↓reduceIte,eq_self,ZF,ZG,ZH,ZI,ZJ,ZK,ZL,ZM,ZN,ZO,ZP,ZQ,ZR,ZS,ZT,ZU,ZV,ZW,ZX,ZY,Z2,Z3,Z4,Z5,Z6,Z7,Z8,Z9,Za,Zb,Zc,Zd,Ze,Zf,Zg,Zh,Nat.reduceAdd,Zi,if_true,if_false,Zl,Zm,Zn,Zo,Zp,Zq,Zr,Zs,Zt,Zu,Zv,Zw,Zx,Zy,Zz,ZA,ZB,ZC,ZD,ZE,a0E,hd,le0,rlen,rk,l1,l7,MO.elts,ll,and_self,lr,a2F,d1,d7,Nat.reduceLeDiff,hz,hb,if_pos huk]
def c2V (out:List Of):List O8:=c2J ((out.map Of.o8).filter keepO)
theorem c3y {out:List Of} (h:(out.map fun o=>wl6 o.w).Nodup):(((out.map Of.o8).filter keepO).map O8.w).Nodup:=by
 refine List.Nodup.sublist ((List.filter_sublist (p:=keepO) (l:=out.map Of.o8)).map O8.w) ?_
 rw [List.map_map]
 exact h
theorem c4O (out:List Of) (N:Int) (hnd:(out.map fun o=>wl6 o.w).Nodup) (ho:out.length<=1000) (fuel:Nat) :
  ∃ X:PV,X.rowsOf 8=some ((c2V out).map O8.row)/\relcap_Clockbids_S.loop (a0n c2T (n+1)) (fuel+1) 0 (cb0 P out N N)=some (X,[]):=by
 have hd:ltB N N=false:=by unfold ltB; exact decide_eq_false (by omega)
 have hT1:∀ a σ,a0n c2T (n+1) 28 a σ=dfF a σ:=fun _ _=>rfl
 have hT2:∀ a σ,a0n c2T (n+1) 30 a σ=c3q 31 a σ:=fun _ _=>rfl
 have hr0:∀ is bs vs p,a0P { i:=is,b:=bs,v:=vs,m:=[],k:=0 } false p=some (p,[]):=fun _ _ _ _=>by simp [a0P]
 by_cases he:out=[]
 ·subst he
  refine ⟨.nilS,rfl,?_⟩
  have k1:dfF [.nilS,.fn 29 []] []=some (.nilS,[]):=rfl
  have k2:c3q 31 [.nilS,.fn 31 []] []=some (.tup [],[]):=rfl
  rw [Sys.loop,show relcap_Clockbids_S.loops[0]?=some a9L from rfl]
  simp -implicitDefEqProofs only [Q1,cb0,cbV,cbM,a9L,↓reduceIte,eq_self,ZF,ZG,ZH,ZI,ZJ,ZK,ZL,ZM,ZN,ZO,ZP,ZQ,ZR,ZS,ZT,ZU,ZV,ZW,ZX,ZY,Z2,Z3,Z4,Z5,Z6,Z7,Z8,Z9,Za,Zb,Zc,Zd,Ze,Zf,Zg,Zh,Nat.reduceAdd,Zi,if_true,if_false,Zl,Zm,Zn,Zo,Zp,Zq,Zr,Zs,Zt,Zu,Zv,Zw,Zx,Zy,Zz,ZA,ZB,ZC,ZD,ZE,hd,hT1,hT2,k1,k2,a1x,PV.one,hr0]
 ·have hv:cbV out=.rsl 0 out.length 8:=by unfold cbV; rw [if_neg he]
  have hm:cbM out=[.row (out.map Of.row) 8 33]:=by unfold cbM; rw [if_neg he]
  have k1:dfF [.rsl 0 out.length 8,.fn 29 []] [.row (out.map Of.row) 8 33]=some (.rpl 0 ((out.map Of.o8).filter keepO).length out.length 8,[.row ((dfO (out.map Of.o8)).map O8.row) 8 33]):=by
   simp only [dfF,QY,b3n,Q1]
   rw [if_pos ⟨trivial,by rw [Q0],trivial,trivial,by omega⟩]
   rfl
  have hfl:=QW keepO (out.map Of.o8)
  rw [Q0] at hfl
  have htk:((dfO (out.map Of.o8)).map O8.row).take ((out.map Of.o8).filter keepO).length=((out.map Of.o8).filter keepO).map O8.row:=by
   unfold dfO
   rw [Q7,Xb (by simp),Xc (by simp)]
  have k2:c3q 31 [.rpl 0 ((out.map Of.o8).filter keepO).length out.length 8,.fn 31 []] [.row ((dfO (out.map Of.o8)).map O8.row) 8 33]=some (.tup [],[.row ((c2V out).map O8.row++((dfO (out.map Of.o8)).map O8.row).drop ((out.map Of.o8).filter keepO).length) 8 33]):=by
   simp only [c3q,QY]
   rw [htk,b3P,Q1,if_pos ⟨trivial,by rw [Q0,c2X,Q0],hfl,trivial,trivial,c4c (c3y hnd),by omega⟩]
   rfl
  have hkl:(c2V out).length=((out.map Of.o8).filter keepO).length:=(c2Q _).length_eq
  have hret:∀ is bs vs,a0P { i:=is,b:=bs,v:=vs,m:=[.row ((c2V out).map O8.row++((dfO (out.map Of.o8)).map O8.row).drop ((out.map Of.o8).filter keepO).length) 8 33],k:=0 } false (.rpl 0 ((out.map Of.o8).filter keepO).length out.length 8)=some (.sl 8 ((c2V out).map O8.row),[]):=by
   intro is bs vs
   obtain ⟨ro,hro⟩:∃ ro:List O8,(c2V out).map O8.row++((dfO (out.map Of.o8)).map O8.row).drop ((out.map Of.o8).filter keepO).length=ro.map O8.row:=⟨c2V out++(dfO (out.map Of.o8)).drop ((out.map Of.o8).filter keepO).length,by rw [Q7,List.map_drop]⟩
   have hlow:∀ (lk:Nat->Option MO) (l:List O8),PV.frzss 0 lk (l.map O8.row)=some (l.map O8.row):=by
    intro lk l
    induction l with
    | nil=>rfl
    | cons x l ih=>simp only [Qj,PV.frzss,O8.row,PV.frzs,PV.frz,Q1,Qg,ih]; rfl
   have hlen:((c2V out).map O8.row++((dfO (out.map Of.o8)).map O8.row).drop ((out.map Of.o8).filter keepO).length).length=out.length:=by
    rw [Qk,Q0,QZ,Q0,c2X,Q0,hkl]; omega
   unfold a0P
   rw [if_neg (by simp)]
   simp only [List.take_zero,List.all_nil,if_true]
   have hk:∀ ρ:PEnv,ρ.k=0->ρ.m=[.row (ro.map O8.row) 8 33]->a4N ρ 3 0=some (.row (ro.map O8.row) 8 33):=fun ρ h1 h2=>by
    simp only [a4N,h1,h2,QY,Q1,hlow,Qg]
   simp only [PV.frz,QQ,if_false]
   rw [hk _ rfl (by rw [hro])]
   simp only [Q1,MO.elts]
   rw [if_pos ⟨by rw [<- hro]; exact hlen,trivial⟩]
   simp only [Qg]
   rw [<- hro,<- hkl,Xb (by simp),Xc (by simp)]
  refine ⟨.sl 8 ((c2V out).map O8.row),a2I _ _,?_⟩
  rw [Sys.loop,show relcap_Clockbids_S.loops[0]?=some a9L from rfl]
  simp -implicitDefEqProofs only [Q1,cb0,hv,hm,a9L,↓reduceIte,eq_self,ZF,ZG,ZH,ZI,ZJ,ZK,ZL,ZM,ZN,ZO,ZP,ZQ,ZR,ZS,ZT,ZU,ZV,ZW,ZX,ZY,Z2,Z3,Z4,Z5,Z6,Z7,Z8,Z9,Za,Zb,Zc,Zd,Ze,Zf,Zg,Zh,Nat.reduceAdd,Zi,if_true,if_false,Zl,Zm,Zn,Zo,Zp,Zq,Zr,Zs,Zt,Zu,Zv,Zw,Zx,Zy,Zz,ZA,ZB,ZC,ZD,ZE,hd,hT1,hT2,k1,k2,a1x,PV.one,hret]
end
end Go.Proofs.Ytggjcdnailppoaa
set_option maxRecDepth 100000
namespace Go.Proofs.Ytggjcdnailppoaa
open Go.Sx Go.RowKit
theorem c3i {x y:W6}:x.beq y=true↔x=y:=by
 obtain ⟨a,b,c,d,e,f⟩:=x
 obtain ⟨a',b',c',d',e',f'⟩:=y
 simp only [W6.beq,Xd,b1K,W6.mk.injEq]
theorem c3D {x y:W6} (h:wl6 x=wl6 y):x=y:=by
 obtain ⟨a,b,c,d,e,f⟩:=x
 obtain ⟨a',b',c',d',e',f'⟩:=y
 simp only [wl6,List.cons.injEq,and_true] at h
 simp [h]
theorem c3S {out:List Of} (w:W6) (v:Int) (h:(out.map fun o=>wl6 o.w).Nodup):((c2P out w v).map fun o=>wl6 o.w).Nodup:=by
 unfold c2P
 split
 ·rename_i k hk
  obtain ⟨h1,h2,_⟩:=Qe.1 hk
  have:(out.set k { (out.getD k ⟨0,w,0⟩) with v:=mxI (out.getD k ⟨0,w,0⟩).v v }).map (fun o=>wl6 o.w)=out.map fun o=>wl6 o.w:=by
   rw [List.map_set]
   apply List.ext_getElem?
   intro j
   rw [List.getElem?_set]
   split
   ·rename_i hj; subst hj
    rw [Q0,if_pos h1,Qm,Q3 h1]
    simp [QL,Q3 h1]
   ·rfl
  rw [this]; exact h
 ·rename_i hk
  rw [Q7,List.nodup_append]
  refine ⟨h,by simp,fun a ha b hb=>?_⟩
  obtain ⟨o,ho,rfl⟩:=Q8.1 ha
  simp only [Qj,List.map_nil,Q6] at hb
  subst hb
  have:=Qh.1 hk o ho
  intro he
  have:=c3D he
  rename_i h3
  rw [this,c3i.2 rfl] at h3
  cases h3
section
variable (l:List Ch) (P:PV) (hP:P.rowsOf 12=some (l.map Ch.row)) (hl:l.length<=900) (n:Nat)
def c3x (l:List Ch) (out:List Of):List Of:=l.foldl (fun out c=>c2P out c.w (a1C c.p c.w)) out
include hP hl in
theorem c4J (hok:∀ x∈l,x.ok):∀ d i,i+d=l.length->∀ out:List Of,out.length<=i->(out.map fun o=>wl6 o.w).Nodup->∀ fuel,1003*(d+1)<=fuel ->
  ∃ X:PV,X.rowsOf 8=some ((c2V (c3x (l.drop i) out)).map O8.row)/\relcap_Clockbids_S.loop (a0n c2T (n+1)) fuel 0 (cb0 P out (l.length:Int) (i:Int))=some (X,[]):=by
 obtain ⟨p1,p2,p3⟩:=a0O hP
 intro d
 induction d with
 | zero =>
  intro i hi out ho hnd fuel hf
  rw [Qt] at hi; subst hi
  obtain ⟨f,rfl⟩:∃ f,fuel=f+1:=⟨fuel-1,by omega⟩
  rw [Xe]
  exact c4O P n out _ hnd (by omega) f
 | succ d ih =>
  intro i hi out ho hnd fuel hf
  obtain ⟨c,hc⟩:=a4g (show i < l.length by omega)
  have hco:=hok c (Qs hc)
  have hd:decide (i < l.length)=true:=decide_eq_true (by omega)
  have hq:=a0U (off:=0) hP (a1O hc)
  have hlen:P.len=(l.length:Int):=by rw [p1,Q0]
  obtain ⟨v1,v2,v3⟩:=c4M out
  have k1:∀ σ,a0n c2T (n+1) a3D [.agg c.p.pv,.agg c.w.pv] σ=some (.int .i64 (a1C c.p c.w),σ):=fun σ=>a2n σ c.p c.w hco.1 hco.2 100 (by omega)
  simp only [a3D,W6.pv] at k1
  obtain ⟨f,rfl⟩:∃ f,fuel=(f+out.length+1)+1:=⟨fuel-out.length-2,by omega⟩
  obtain ⟨f',hf',hin⟩:=c4R P (n+1) out c (a1C c.p c.w) (l.length:Int) (i:Int) (by omega) (by omega) out.length 0 (by omega) (fun j o hj=>absurd hj (QQ _)) f
  have hst:=c4m out c.w (a1C c.p c.w)
  obtain ⟨X,x1,x2⟩:=ih (i+1) (by omega) (c2P out c.w (a1C c.p c.w)) (by omega) (c3S _ _ hnd) f' (by omega)
  rw [a2C] at x2
  refine ⟨X,by rw [x1,a2M hc]; rfl,?_⟩
  rw [<- x2,<- hin,Sys.loop,show relcap_Clockbids_S.loops[0]?=some a9L from rfl]
  have z0:((0:Nat):Int)=0:=rfl
  simp -implicitDefEqProofs only [Q1,cb0,cb1,a9L,↓reduceIte,eq_self,ZF,ZG,ZH,ZI,ZJ,ZK,ZL,ZM,ZN,ZO,ZP,ZQ,ZR,ZS,ZT,ZU,ZV,ZW,ZX,ZY,Z2,Z3,Z4,Z5,Z6,Z7,Z8,Z9,Za,Zb,Zc,Zd,Ze,Zf,Zg,Zh,Nat.reduceAdd,Zi,if_true,if_false,Zl,Zm,Zn,Zo,Zp,Zq,Zr,Zs,Zt,Zu,Zv,Zw,Zx,Zy,Zz,ZA,ZB,ZC,ZD,ZE,a0E,hd,hlen,p2,le0,hq,a1B,k1,v1,v2,z0]
include hP hl in
theorem c3P (hn:1003*1003<=n):∃ X:PV,X.rowsOf 8=some ((if (l.all fun x=>decide x.ok)=true then c2V (c3x l []) else []).map O8.row)/\a0n c2T (n+2) b7C [P] []=some (X,[]):=by
 obtain ⟨p1,p2,p3⟩:=a0O hP
 have hlen:P.len=(l.length:Int):=by rw [p1,Q0]
 have c1:a0n c2T (n+1) a2d [P] []=some (.bool (l.all fun x=>decide x.ok),[]):=b3S [] l P hP 5000 (by omega) (by omega)
 simp only [a2d] at c1
 have hr0:∀ is bs vs p,a0P { i:=is,b:=bs,v:=vs,m:=[],k:=0 } false p=some (p,[]):=fun _ _ _ _=>by simp [a0P]
 have hev:∀ R,(PT.ev (a0n c2T (n+1)) a9R { i:=[],b:=[],v:=[P],m:=[],k:=0 }).bind (fun
   | .ret r σ=>some (r,σ)
   | .jump q ρ=>relcap_Clockbids_S.loop (a0n c2T (n+1)) (n+1) q ρ)=R->a0n c2T (n+2) b7C [P] []=R:=by
  intro R h
  rw [show n+2=(n+1)+1 from rfl,a0n,show c2T b7C=some relcap_Clockbids_S from if_pos rfl]
  simp only [Q1,Sys.run]
  show ((a0D [.sh (.one _)] _).bind _)=_
  simp -implicitDefEqProofs only [a0D,a0d,a0c,Qg,Q1,Qf,QM,X0,if_true,p3]
  exact h
 by_cases ha:(l.all fun x=>decide x.ok)=true
 case neg =>
  rw [if_neg ha]
  rw [Xf] at ha
  refine ⟨.nilS,rfl,hev _ ?_⟩
  simp -implicitDefEqProofs only [a9R,↓reduceIte,eq_self,ZF,ZG,ZH,ZI,ZJ,ZK,ZL,ZM,ZN,ZO,ZP,ZQ,ZR,ZS,ZT,ZU,ZV,ZW,ZX,ZY,Z2,Z3,Z4,Z5,Z6,Z7,Z8,Z9,Za,Zb,Zc,Zd,Ze,Zf,Zg,Zh,Nat.reduceAdd,Zi,if_true,if_false,Zl,Zm,Zn,Zo,Zp,Zq,Zr,Zs,Zt,Zu,Zv,Zw,Zx,Zy,Zz,ZA,ZB,ZC,ZD,ZE,c1,ha,hr0]
 rw [if_pos ha]
 have hok:∀ x∈l,x.ok:=fun x hx=>by simpa using (Xg.1 ha) x hx
 obtain ⟨X,x1,x2⟩:=c4J l P hP hl n hok l.length 0 (by omega) [] (by simp) (by simp) (n+1) (by
  have:1003*(l.length+1)<=1003*1003:=Xh _ (by omega)
  omega)
 rw [X1] at x1
 refine ⟨X,x1,hev _ ?_⟩
 have z0:((0:Nat):Int)=0:=rfl
 simp -implicitDefEqProofs only [a9R,↓reduceIte,eq_self,ZF,ZG,ZH,ZI,ZJ,ZK,ZL,ZM,ZN,ZO,ZP,ZQ,ZR,ZS,ZT,ZU,ZV,ZW,ZX,ZY,Z2,Z3,Z4,Z5,Z6,Z7,Z8,Z9,Za,Zb,Zc,Zd,Ze,Zf,Zg,Zh,Nat.reduceAdd,Zi,if_true,if_false,Zl,Zm,Zn,Zo,Zp,Zq,Zr,Zs,Zt,Zu,Zv,Zw,Zx,Zy,Zz,ZA,ZB,ZC,ZD,ZE,c1,ha,p2,hlen]
 exact x2
end
end Go.Proofs.Ytggjcdnailppoaa
set_option maxRecDepth 100000
namespace Go.Proofs.Ytggjcdnailppoaa
open Go.Sx Go.RowKit
theorem c4p (x y:Int) (l m:List Int):c2q (x::l) (y::m)=if ltB x y=true then -1 else if ltB y x=true then 1 else c2q l m:=by
 unfold c2q ltB
 simp only [ltK]
 by_cases h1:x < y
 ·simp [h1]
 ·by_cases h2:y < x
  ·have h3:¬ x=y:=by omega
   have h4:¬ y=x:=by omega
   simp [h1,h2,h3]
  ·have h3:x=y:=by omega
   subst h3
   simp
theorem c4C:c2q [] []=0:=rfl
theorem c4A (σ:List MO) (a b:W6) (n:Nat) (hn:1<=n):a0n Tab n c2R [.agg a.pv,.agg b.pv] σ=some (.int .i64 (c2q (wl6 a) (wl6 b)),σ):=by
 obtain ⟨n,rfl⟩:∃ k,n=k+1:=⟨n-1,by omega⟩
 simp only [a0n,c3d,Q1,Sys.run,W6.pv]
 show ((a0D [.sh (.agg [_,_,_,_,_,_]),.sh (.agg [_,_,_,_,_,_])] _).bind _)=_
 simp only [a0D,a0d,a0c,Qg,Q1,Qf,QM,X0,if_true]
 show (PT.ev _ c2L _).bind _=_
 simp only [wl6,c4p,c4C]
 simp -implicitDefEqProofs only [c2L,↓reduceIte,eq_self,ZF,ZG,ZH,ZI,ZJ,ZK,ZL,ZM,ZN,ZO,ZP,ZQ,ZR,ZS,ZT,ZU,ZV,ZW,ZX,ZY,Z2,Z3,Z4,Z5,Z6,Z7,Z8,Z9,Za,Zb,Zc,Zd,Ze,Zf,Zg,Zh,Nat.reduceAdd,Zi,if_true,if_false,Zl,Zm,Zn,Zo,Zp,Zq,Zr,Zs,Zt,Zu,Zv,Zw,Zx,Zy,Zz,ZA,ZB,ZC,ZD,ZE,a0P,or_true]
 cases ltB a.a b.a
 case true=>rfl
 cases ltB b.a a.a
 case true=>rfl
 cases ltB a.b b.b
 case true=>rfl
 cases ltB b.b a.b
 case true=>rfl
 cases ltB a.c b.c
 case true=>rfl
 cases ltB b.c a.c
 case true=>rfl
 cases ltB a.d b.d
 case true=>rfl
 cases ltB b.d a.d
 case true=>rfl
 cases ltB a.e b.e
 case true=>rfl
 cases ltB b.e a.e
 case true=>rfl
 cases ltB a.f b.f
 case true=>rfl
 cases ltB b.f a.f
 case true=>rfl
 rfl
def c2M (o:List Of) (a:Nat) (x:Of):List Of:=o.take a++[x]++o.drop a
def c3c (w:W6) (v:Int) (o:List Of):Nat->Nat->List Of
 | 0,a=>c2M o a ⟨0,w,v⟩
 | d+1,a=>match o[a]? with
  | some y=>if ltB (c2q (wl6 y.w) (wl6 w)) 0=true then c3c w v o d (a+1) else if y.w.beq w=true then o else c2M o a ⟨0,w,v⟩
  | none=>c2M o a ⟨0,w,v⟩
def c2N (l:List Ch) (o:List Of) (w:W6):List Of:=if w.isZ=true then o else if a5N l w 0=0 then o else c3c w (a5N l w 0) o o.length 0
theorem c3s {o:List Of} {a:Nat} (h:a<=o.length) (x:Of):(c2M o a x).length=o.length+1:=by
 simp only [c2M,Qk,Q9,QZ,Xj,Qd]; omega
theorem c3W (w:W6) (v:Int) (o:List Of):∀ d a,a+d=o.length->(c3c w v o d a).length<=o.length+1
 | 0,a,h=>by rw [c3c,c3s (by omega)]; exact Q5 _
 | d+1,a,h=>by
  rw [c3c]
  split
  ·split
   ·exact c3W w v o d (a+1) (by omega)
   ·split
    ·omega
    ·rw [c3s (by omega)]; exact Q5 _
  ·rw [c3s (by omega)]; exact Q5 _
theorem c3L (l:List Ch) (o:List Of) (w:W6):(c2N l o w).length<=o.length+1:=by
 unfold c2N
 split
 ·omega
 ·split
  ·omega
  ·exact c3W _ _ o _ 0 (by omega)
section
variable (σ:List MO) (l:List Ch) (P:PV) (hP:P.rowsOf 12=some (l.map Ch.row)) (hl:l.length<=900) (n:Nat)
def r0 (σ:List MO) (P E:PV) (idx:Int):PEnv:={ i:=[idx],b:=[],v:=[P,E],m:=σ,k:=σ.length }
def r1 (σ:List MO) (P E:PV) (w:W6) (idx a v:Int):PEnv:={ i:=[idx,a,v,w.a,w.b,w.c,w.d,w.e,w.f],b:=[false],v:=[P,E],m:=σ,k:=σ.length }
theorem c4b (o:List Of) (E:PV) (hE:E.rowsOf 8=some (o.map Of.row)) (w:W6) (v:Int) (idx:Nat) (hidx:idx<=1000) (ho:o.length<=1000) (hn:1<=n) {a:Nat} (ha:a<=o.length) :
  (∃ y,o[a]?=some y/\ltB (c2q (wl6 y.w) (wl6 w)) 0=true/\c2n.ev (a0n Tab n) (r1 σ P E w (idx:Int) (a:Int) v)=some (.jump 1 (r1 σ P E w (idx:Int) ((a:Int)+1) v))) \/
  (∃ y,o[a]?=some y/\ltB (c2q (wl6 y.w) (wl6 w)) 0=false/\y.w.beq w=true/\c2n.ev (a0n Tab n) (r1 σ P E w (idx:Int) (a:Int) v)=some (.jump 0 (r0 σ P E ((idx:Int)+1)))) \/
  ((∀ y,o[a]?=some y->ltB (c2q (wl6 y.w) (wl6 w)) 0=false/\y.w.beq w=false)/\c2n.ev (a0n Tab n) (r1 σ P E w (idx:Int) (a:Int) v)=some (.jump 0 (r0 σ P (.sl 8 ((c2M o a ⟨0,w,v⟩).map Of.row)) ((idx:Int)+1)))):=by
 obtain ⟨p1,p2,p3⟩:=a0O hE
 rw [Q0] at p1
 have hui:=a2r (show idx<=1000000000 by omega)
 have hua:=a2r (show a<=1000000000 by omega)
 have q1:(0:Int)<=0/\(0:Int)<=(a:Int)/\(a:Int)<=((o.map Of.row).length:Int):=by rw [Q0]; omega
 have q2:(0:Int)<=(a:Int)/\(a:Int)<=((o.map Of.row).length:Int)/\((o.map Of.row).length:Int)<=((o.map Of.row).length:Int):=by rw [Q0]; omega
 have t1:((o.map Of.row).take (a:Int).toNat).drop (0:Int).toNat=(o.take a).map Of.row:=by
  rw [X2,Int.toNat_zero,X1,List.map_take]
 have t2:((o.map Of.row).take (((o.map Of.row).length:Nat):Int).toNat).drop (a:Int).toNat=(o.drop a).map Of.row:=by
  rw [X2,X2,QV,List.map_drop]
 have s1:((o.take a).map Of.row).length<=1000000:=by rw [Q0,Q9]; omega
 have s2:((o.take a).map Of.row).length+1<=1000000:=by rw [Q0,Q9]; omega
 have s2':((o.take a).map Of.row).length<=999999:=by rw [Q0,Q9]; omega
 have s3:((o.take a).map Of.row++[(⟨0,w,v⟩:Of).row]).length+((o.drop a).map Of.row).length<=1000000:=by simp only [Qk,Q0,Q9,QZ,Xj,Qd]; omega
 have hm:(o.take a).map Of.row++[(⟨0,w,v⟩:Of).row]++(o.drop a).map Of.row=(c2M o a ⟨0,w,v⟩).map Of.row:=by rw [c2M,Q7,Q7]; rfl
 have hx:[PV.int .i64 0,.int .i64 w.a,.int .i64 w.b,.int .i64 w.c,.int .i64 w.d,.int .i64 w.e,.int .i64 w.f,.int .i64 v]=(⟨0,w,v⟩:Of).row:=rfl
 have hsl:=a2I 8
 by_cases hlt:a < o.length
 case neg =>
  have hd:decide (a < o.length)=false:=decide_eq_false hlt
  refine .inr (.inr ⟨fun y hy=>absurd (Q2.1 hy).1 hlt,?_⟩)
  unfold r0 r1
  simp -implicitDefEqProofs only [c2n,↓reduceIte,eq_self,ZF,ZG,ZH,ZI,ZJ,ZK,ZL,ZM,ZN,ZO,ZP,ZQ,ZR,ZS,ZT,ZU,ZV,ZW,ZX,ZY,Z2,Z3,Z4,Z5,Z6,Z7,Z8,Z9,Za,Zb,Zc,Zd,Ze,Zf,Zg,Zh,Nat.reduceAdd,Zi,if_true,if_false,Zl,Zm,Zn,Zo,Zp,Zq,Zr,Zs,Zt,Zu,Zv,Zw,Zx,Zy,Zz,ZA,ZB,ZC,ZD,ZE,p1,p2,a0E,hd,hE,a2k,a2v,if_pos q1,if_pos q2,t1,t2]
  repeat' (first | with_reducible rfl | apply b5Z | simp -implicitDefEqProofs only [↓reduceIte,eq_self,ZF,ZG,ZH,ZI,ZJ,ZK,ZL,ZM,ZN,ZO,ZP,ZQ,ZR,ZS,ZT,ZU,ZV,ZW,ZX,ZY,Z2,Z3,Z4,Z5,Z6,Z7,Z8,Z9,Za,Zb,Zc,Zd,Ze,Zf,Zg,Zh,Nat.reduceAdd,Zi,if_true,if_false,Zl,Zm,Zn,Zo,Zp,Zq,Zr,Zs,Zt,Zu,Zv,Zw,Zx,Zy,Zz,ZA,ZB,ZC,ZD,ZE,a1s,QB,QC,QD,QE,QH,QJ,hx,hsl,QK,Qd,QP,Nat.reduceLeDiff,if_pos s1,if_pos s2,s2',if_pos s3,hm,if_pos hui] | unfold c2I | unfold c2D | unfold c2C | unfold c2G | unfold c2H | unfold c2E | unfold c2w | unfold c2v | unfold c2F | unfold c2A | unfold c2z | unfold c2B)
 obtain ⟨y,hy⟩:=a4g hlt
 have hd:decide (a < o.length)=true:=decide_eq_true hlt
 have hq:=a0U (off:=1) hE (a2E hy)
 obtain ⟨d1,_⟩:=c0m (.int .i64 y.n) (.int .i64 y.w.a) (.int .i64 y.w.b) (.int .i64 y.w.c) (.int .i64 y.w.d) (.int .i64 y.w.e) (.int .i64 y.w.f) (.int .i64 y.v)
 have k1:=c4A σ y.w w n hn
 simp only [c2R,W6.pv] at k1
 have hz:(eqB y.w.a w.a&&(eqB y.w.b w.b&&(eqB y.w.c w.c&&(eqB y.w.d w.d&&(eqB y.w.e w.e&&eqB y.w.f w.f)))))=y.w.beq w:=rfl
 have dich:∀ x:Bool,x=true\/x=false:=fun x=>by cases x<;>simp
 rcases dich (ltB (c2q (wl6 y.w) (wl6 w)) 0) with hc | hc
 ·refine .inl ⟨y,hy,hc,?_⟩
  unfold r1
  simp -implicitDefEqProofs only [c2n,↓reduceIte,eq_self,ZF,ZG,ZH,ZI,ZJ,ZK,ZL,ZM,ZN,ZO,ZP,ZQ,ZR,ZS,ZT,ZU,ZV,ZW,ZX,ZY,Z2,Z3,Z4,Z5,Z6,Z7,Z8,Z9,Za,Zb,Zc,Zd,Ze,Zf,Zg,Zh,Nat.reduceAdd,Zi,if_true,if_false,Zl,Zm,Zn,Zo,Zp,Zq,Zr,Zs,Zt,Zu,Zv,Zw,Zx,Zy,Zz,ZA,ZB,ZC,ZD,ZE,p1,p2,a0E,hd,le0,hq,a2F,d1,Nat.reduceLeDiff,k1,hc,if_pos hua]
 rcases dich (y.w.beq w) with hb | hb
 ·refine .inr (.inl ⟨y,hy,hc,hb,?_⟩)
  unfold r0 r1
  simp -implicitDefEqProofs only [c2n,↓reduceIte,eq_self,ZF,ZG,ZH,ZI,ZJ,ZK,ZL,ZM,ZN,ZO,ZP,ZQ,ZR,ZS,ZT,ZU,ZV,ZW,ZX,ZY,Z2,Z3,Z4,Z5,Z6,Z7,Z8,Z9,Za,Zb,Zc,Zd,Ze,Zf,Zg,Zh,Nat.reduceAdd,Zi,if_true,if_false,Zl,Zm,Zn,Zo,Zp,Zq,Zr,Zs,Zt,Zu,Zv,Zw,Zx,Zy,Zz,ZA,ZB,ZC,ZD,ZE,p1,p2,a0E,hd,le0,hq,a2F,d1,Nat.reduceLeDiff,k1,hc,hz,hb,if_pos hui]
 ·refine .inr (.inr ⟨fun z hz=>by rw [hy] at hz; cases hz; exact ⟨hc,hb⟩,?_⟩)
  unfold r0 r1
  simp -implicitDefEqProofs only [c2n,↓reduceIte,eq_self,ZF,ZG,ZH,ZI,ZJ,ZK,ZL,ZM,ZN,ZO,ZP,ZQ,ZR,ZS,ZT,ZU,ZV,ZW,ZX,ZY,Z2,Z3,Z4,Z5,Z6,Z7,Z8,Z9,Za,Zb,Zc,Zd,Ze,Zf,Zg,Zh,Nat.reduceAdd,Zi,if_true,if_false,Zl,Zm,Zn,Zo,Zp,Zq,Zr,Zs,Zt,Zu,Zv,Zw,Zx,Zy,Zz,ZA,ZB,ZC,ZD,ZE,p1,p2,a0E,hd,le0,hq,a2F,d1,Nat.reduceLeDiff,k1,hc,hz,hb,hE,a2k,a2v,if_pos q1,if_pos q2,t1,t2]
  have hx:[PV.int .i64 0,.int .i64 w.a,.int .i64 w.b,.int .i64 w.c,.int .i64 w.d,.int .i64 w.e,.int .i64 w.f,.int .i64 v]=(⟨0,w,v⟩:Of).row:=rfl
  repeat' (first | with_reducible rfl | apply b5Z | simp -implicitDefEqProofs only [↓reduceIte,eq_self,ZF,ZG,ZH,ZI,ZJ,ZK,ZL,ZM,ZN,ZO,ZP,ZQ,ZR,ZS,ZT,ZU,ZV,ZW,ZX,ZY,Z2,Z3,Z4,Z5,Z6,Z7,Z8,Z9,Za,Zb,Zc,Zd,Ze,Zf,Zg,Zh,Nat.reduceAdd,Zi,if_true,if_false,Zl,Zm,Zn,Zo,Zp,Zq,Zr,Zs,Zt,Zu,Zv,Zw,Zx,Zy,Zz,ZA,ZB,ZC,ZD,ZE,a1s,QB,QC,QD,QE,QH,QJ,hx,hsl,QK,Qd,QP,Nat.reduceLeDiff,if_pos s1,if_pos s2,s2',if_pos s3,hm,if_pos hui] | unfold c2I | unfold c2D | unfold c2C | unfold c2G | unfold c2H | unfold c2E | unfold c2w | unfold c2v | unfold c2F | unfold c2A | unfold c2z | unfold c2B)
theorem c4E (o:List Of) (E:PV) (hE:E.rowsOf 8=some (o.map Of.row)) (w:W6) (v:Int) (idx:Nat) (hidx:idx<=1000) (ho:o.length<=1000) (hn:1<=n):∀ d a,a+d=o.length->∀ fuel,
  ∃ (E':PV) (f':Nat),fuel<=f'/\E'.rowsOf 8=some ((c3c w v o d a).map Of.row)/\saleroomref40_Clockbids_S.loop (a0n Tab n) (fuel+d+1) 1 (r1 σ P E w (idx:Int) (a:Int) v)=saleroomref40_Clockbids_S.loop (a0n Tab n) f' 0 (r0 σ P E' ((idx:Int)+1)):=by
 intro d
 induction d with
 | zero =>
  intro a ha fuel
  rcases c4b σ P n o E hE w v idx hidx ho hn (a:=a) (by omega) with ⟨y,hy,_⟩ | ⟨y,hy,_⟩ | ⟨_,h⟩
  ·exact absurd (Q2.1 hy).1 (by omega)
  ·exact absurd (Q2.1 hy).1 (by omega)
  ·refine ⟨_,fuel,Q5 _,a2I 8 _,?_⟩
   rw [Qt,Sys.loop,show saleroomref40_Clockbids_S.loops[1]?=some c2n from rfl,Q1,h]
   rfl
 | succ d ih =>
  intro a ha fuel
  obtain ⟨y,hy⟩:=a4g (show a < o.length by omega)
  have e0:∀ st,saleroomref40_Clockbids_S.loop (a0n Tab n) (fuel+(d+1)+1) 1 st=(c2n.ev (a0n Tab n) st).bind fun
    | .ret r σ=>some (r,σ)
    | .jump q ρ=>saleroomref40_Clockbids_S.loop (a0n Tab n) (fuel+d+1) q ρ:=fun st=>by
   rw [show fuel+(d+1)+1=(fuel+d+1)+1 from rfl,Sys.loop,show saleroomref40_Clockbids_S.loops[1]?=some c2n from rfl,Q1]
   cases c2n.ev (a0n Tab n) st with
   | none=>rfl
   | some r=>cases r<;>rfl
  rcases c4b σ P n o E hE w v idx hidx ho hn (a:=a) (by omega) with ⟨z,hz,hc,h⟩ | ⟨z,hz,hc,hb,h⟩ | ⟨hno,h⟩
  ·rw [hy] at hz; cases hz
   obtain ⟨E',f',h1,h2,h3⟩:=ih (a+1) (by omega) fuel
   rw [a2C] at h3
   refine ⟨E',f',h1,?_,?_⟩
   ·rw [c3c,hy]; simp only [hc,if_true]; exact h2
   ·rw [e0,h,<- h3]; rfl
  ·rw [hy] at hz; cases hz
   refine ⟨E,fuel+d+1,by omega,?_,?_⟩
   ·rw [c3c,hy]; simp only [hc,hb,QN,if_false,if_true]; exact hE
   ·rw [e0,h]; rfl
  ·obtain ⟨hc,hb⟩:=hno y hy
   refine ⟨.sl 8 ((c2M o a ⟨0,w,v⟩).map Of.row),fuel+d+1,by omega,?_,?_⟩
   ·rw [c3c,hy]; simp only [hc,hb,QN,if_false]; exact a2I 8 _
   ·rw [e0,h]; rfl
include hP hl in
theorem c4L (hok:∀ x∈l,x.ok) (hn:3000<=n):∀ d i,i+d=l.length->∀ (o:List Of) (E:PV),E.rowsOf 8=some (o.map Of.row)->o.length<=i->∀ fuel,1003*(d+1)<=fuel ->
  ∃ X:PV,X.rowsOf 8=some (((l.drop i).foldl (fun o c=>c2N l o c.w) o).map Of.row)/\saleroomref40_Clockbids_S.loop (a0n Tab n) fuel 0 (r0 σ P E (i:Int))=some (X,σ):=by
 obtain ⟨p1,p2,p3⟩:=a0O hP
 rw [Q0] at p1
 intro d
 induction d with
 | zero =>
  intro i hi o E hE ho fuel hf
  rw [Qt] at hi; subst hi
  obtain ⟨f,rfl⟩:∃ f,fuel=f+1:=⟨fuel-1,by omega⟩
  have hd:decide (l.length < l.length)=false:=by simp
  refine ⟨E,by rw [Xe]; exact hE,?_⟩
  rw [Sys.loop,show saleroomref40_Clockbids_S.loops[0]?=some c2o from rfl]
  simp -implicitDefEqProofs only [Q1,r0,c2o,↓reduceIte,eq_self,ZF,ZG,ZH,ZI,ZJ,ZK,ZL,ZM,ZN,ZO,ZP,ZQ,ZR,ZS,ZT,ZU,ZV,ZW,ZX,ZY,Z2,Z3,Z4,Z5,Z6,Z7,Z8,Z9,Za,Zb,Zc,Zd,Ze,Zf,Zg,Zh,Nat.reduceAdd,Zi,if_true,if_false,Zl,Zm,Zn,Zo,Zp,Zq,Zr,Zs,Zt,Zu,Zv,Zw,Zx,Zy,Zz,ZA,ZB,ZC,ZD,ZE,p1,p2,a0E,hd,a0P,or_true]
 | succ d ih =>
  intro i hi o E hE ho fuel hf
  obtain ⟨c,hc⟩:=a4g (show i < l.length by omega)
  have hd:decide (i < l.length)=true:=decide_eq_true (by omega)
  have hq:=a0U (off:=6) hP (a1O hc)
  have hup:=a2r (show i<=1000000000 by omega)
  have k1:=b7P σ l P hP [] .nilS rfl (by omega) (by simp) hok c.w n (by omega)
  rw [show fin l (([]:List Of).filter Of.right) c.w=a5N l c.w 0 from rfl] at k1
  simp only [a5e,W6.pv] at k1
  have hz:(eqB c.w.a 0&&(eqB c.w.b 0&&(eqB c.w.c 0&&(eqB c.w.d 0&&(eqB c.w.e 0&&eqB c.w.f 0)))))=c.w.isZ:=rfl
  have dich:∀ x:Bool,x=true\/x=false:=fun x=>by cases x<;>simp
  obtain ⟨f,rfl⟩:∃ f,fuel=(f+o.length+1)+1:=⟨fuel-o.length-2,by omega⟩
  have e0:∀ st,saleroomref40_Clockbids_S.loop (a0n Tab n) ((f+o.length+1)+1) 0 st=(c2o.ev (a0n Tab n) st).bind fun
    | .ret r σ=>some (r,σ)
    | .jump q ρ=>saleroomref40_Clockbids_S.loop (a0n Tab n) (f+o.length+1) q ρ:=fun st=>by
   rw [Sys.loop,show saleroomref40_Clockbids_S.loops[0]?=some c2o from rfl,Q1]
   cases c2o.ev (a0n Tab n) st with
   | none=>rfl
   | some r=>cases r<;>rfl
  have hstep:∃ (E':PV) (f':Nat),f<=f'/\E'.rowsOf 8=some ((c2N l o c.w).map Of.row)/\saleroomref40_Clockbids_S.loop (a0n Tab n) ((f+o.length+1)+1) 0 (r0 σ P E (i:Int))=saleroomref40_Clockbids_S.loop (a0n Tab n) f' 0 (r0 σ P E' ((i:Int)+1)):=by
   unfold c2N
   rcases dich c.w.isZ with z1 | z1
   ·refine ⟨E,f+o.length+1,by omega,by rw [if_pos z1]; exact hE,?_⟩
    have:c2o.ev (a0n Tab n) (r0 σ P E (i:Int))=some (.jump 0 (r0 σ P E ((i:Int)+1))):=by
     unfold r0
     simp -implicitDefEqProofs only [c2o,↓reduceIte,eq_self,ZF,ZG,ZH,ZI,ZJ,ZK,ZL,ZM,ZN,ZO,ZP,ZQ,ZR,ZS,ZT,ZU,ZV,ZW,ZX,ZY,Z2,Z3,Z4,Z5,Z6,Z7,Z8,Z9,Za,Zb,Zc,Zd,Ze,Zf,Zg,Zh,Nat.reduceAdd,Zi,if_true,if_false,Zl,Zm,Zn,Zo,Zp,Zq,Zr,Zs,Zt,Zu,Zv,Zw,Zx,Zy,Zz,ZA,ZB,ZC,ZD,ZE,p1,p2,a0E,hd,le0,hq,a1B,b6z]
     repeat' (first | with_reducible rfl | apply b5Z | simp -implicitDefEqProofs only [↓reduceIte,eq_self,ZF,ZG,ZH,ZI,ZJ,ZK,ZL,ZM,ZN,ZO,ZP,ZQ,ZR,ZS,ZT,ZU,ZV,ZW,ZX,ZY,Z2,Z3,Z4,Z5,Z6,Z7,Z8,Z9,Za,Zb,Zc,Zd,Ze,Zf,Zg,Zh,Nat.reduceAdd,Zi,if_true,if_false,Zl,Zm,Zn,Zo,Zp,Zq,Zr,Zs,Zt,Zu,Zv,Zw,Zx,Zy,Zz,ZA,ZB,ZC,ZD,ZE,k1,hz,z1,if_pos hup] | unfold c2s)
    rw [e0,this]; rfl
   rw [if_neg (by rw [z1]; decide)]
   by_cases hv:a5N l c.w 0=0
   ·have e1:eqB (a5N l c.w 0) 0=true:=decide_eq_true hv
    refine ⟨E,f+o.length+1,by omega,by rw [if_pos hv]; exact hE,?_⟩
    have:c2o.ev (a0n Tab n) (r0 σ P E (i:Int))=some (.jump 0 (r0 σ P E ((i:Int)+1))):=by
     unfold r0
     simp -implicitDefEqProofs only [c2o,↓reduceIte,eq_self,ZF,ZG,ZH,ZI,ZJ,ZK,ZL,ZM,ZN,ZO,ZP,ZQ,ZR,ZS,ZT,ZU,ZV,ZW,ZX,ZY,Z2,Z3,Z4,Z5,Z6,Z7,Z8,Z9,Za,Zb,Zc,Zd,Ze,Zf,Zg,Zh,Nat.reduceAdd,Zi,if_true,if_false,Zl,Zm,Zn,Zo,Zp,Zq,Zr,Zs,Zt,Zu,Zv,Zw,Zx,Zy,Zz,ZA,ZB,ZC,ZD,ZE,p1,p2,a0E,hd,le0,hq,a1B,b6z]
     repeat' (first | with_reducible rfl | apply b5Z | simp -implicitDefEqProofs only [↓reduceIte,eq_self,ZF,ZG,ZH,ZI,ZJ,ZK,ZL,ZM,ZN,ZO,ZP,ZQ,ZR,ZS,ZT,ZU,ZV,ZW,ZX,ZY,Z2,Z3,Z4,Z5,Z6,Z7,Z8,Z9,Za,Zb,Zc,Zd,Ze,Zf,Zg,Zh,Nat.reduceAdd,Zi,if_true,if_false,Zl,Zm,Zn,Zo,Zp,Zq,Zr,Zs,Zt,Zu,Zv,Zw,Zx,Zy,Zz,ZA,ZB,ZC,ZD,ZE,k1,hz,z1,e1,if_pos hup] | unfold c2s)
    rw [e0,this]; rfl
   ·have e1:eqB (a5N l c.w 0) 0=false:=decide_eq_false hv
    rw [if_neg hv]
    obtain ⟨E',f',h1,h2,h3⟩:=c4E σ P n o E hE c.w (a5N l c.w 0) i (by omega) (by omega) (by omega) o.length 0 (by omega) f
    refine ⟨E',f',h1,h2,?_⟩
    have:c2o.ev (a0n Tab n) (r0 σ P E (i:Int))=some (.jump 1 (r1 σ P E c.w (i:Int) 0 (a5N l c.w 0))):=by
     unfold r0 r1
     simp -implicitDefEqProofs only [c2o,↓reduceIte,eq_self,ZF,ZG,ZH,ZI,ZJ,ZK,ZL,ZM,ZN,ZO,ZP,ZQ,ZR,ZS,ZT,ZU,ZV,ZW,ZX,ZY,Z2,Z3,Z4,Z5,Z6,Z7,Z8,Z9,Za,Zb,Zc,Zd,Ze,Zf,Zg,Zh,Nat.reduceAdd,Zi,if_true,if_false,Zl,Zm,Zn,Zo,Zp,Zq,Zr,Zs,Zt,Zu,Zv,Zw,Zx,Zy,Zz,ZA,ZB,ZC,ZD,ZE,p1,p2,a0E,hd,le0,hq,a1B,b6z]
     repeat' (first | with_reducible rfl | apply b5Z | simp -implicitDefEqProofs only [↓reduceIte,eq_self,ZF,ZG,ZH,ZI,ZJ,ZK,ZL,ZM,ZN,ZO,ZP,ZQ,ZR,ZS,ZT,ZU,ZV,ZW,ZX,ZY,Z2,Z3,Z4,Z5,Z6,Z7,Z8,Z9,Za,Zb,Zc,Zd,Ze,Zf,Zg,Zh,Nat.reduceAdd,Zi,if_true,if_false,Zl,Zm,Zn,Zo,Zp,Zq,Zr,Zs,Zt,Zu,Zv,Zw,Zx,Zy,Zz,ZA,ZB,ZC,ZD,ZE,k1,hz,z1,e1] | unfold c2s)
    rw [e0,this,<- h3]; rfl
  obtain ⟨E',f',h1,h2,h3⟩:=hstep
  have hsl:=c3L l o c.w
  obtain ⟨X,x1,x2⟩:=ih (i+1) (by omega) (c2N l o c.w) E' h2 (by omega) f' (by omega)
  rw [a2C] at x2
  exact ⟨X,by rw [x1,a2M hc]; rfl,by rw [h3]; exact x2⟩
include hP hl in
theorem c3B (hn:1003*1003<=n):∃ X:PV,X.rowsOf 8=some ((if (l.all fun x=>decide x.ok)=true then l.foldl (fun o c=>c2N l o c.w) [] else []).map Of.row)/\a0n Tab (n+1) c2r [P] σ=some (X,σ):=by
 obtain ⟨p1,p2,p3⟩:=a0O hP
 have c1:=b1U σ l P hP n (by omega) (by omega)
 simp only [a2G] at c1
 have hev:∀ R,(PT.ev (a0n Tab n) c2x { i:=[],b:=[],v:=[P],m:=σ,k:=σ.length }).bind (fun
   | .ret r σ=>some (r,σ)
   | .jump q ρ=>saleroomref40_Clockbids_S.loop (a0n Tab n) n q ρ)=R->a0n Tab (n+1) c2r [P] σ=R:=by
  intro R h
  rw [a0n]
  simp only [c2Z,Q1,Sys.run]
  show ((a0D [.sh (.one _)] _).bind _)=_
  simp -implicitDefEqProofs only [a0D,a0d,a0c,Qg,Q1,Qf,QM,X0,if_true,p3]
  exact h
 by_cases ha:(l.all fun x=>decide x.ok)=true
 case neg =>
  rw [if_neg ha]
  rw [Xf] at ha
  refine ⟨.nilS,rfl,hev _ ?_⟩
  simp -implicitDefEqProofs only [c2x,↓reduceIte,eq_self,ZF,ZG,ZH,ZI,ZJ,ZK,ZL,ZM,ZN,ZO,ZP,ZQ,ZR,ZS,ZT,ZU,ZV,ZW,ZX,ZY,Z2,Z3,Z4,Z5,Z6,Z7,Z8,Z9,Za,Zb,Zc,Zd,Ze,Zf,Zg,Zh,Nat.reduceAdd,Zi,if_true,if_false,Zl,Zm,Zn,Zo,Zp,Zq,Zr,Zs,Zt,Zu,Zv,Zw,Zx,Zy,Zz,ZA,ZB,ZC,ZD,ZE,c1,ha,a0P,or_true]
 rw [if_pos ha]
 have hok:∀ x∈l,x.ok:=fun x hx=>by simpa using (Xg.1 ha) x hx
 obtain ⟨X,x1,x2⟩:=c4L σ l P hP hl n hok (by omega) l.length 0 (by omega) [] .nilS rfl (by simp) n (by
  have:1003*(l.length+1)<=1003*1003:=Xh _ (by omega)
  omega)
 rw [X1] at x1
 refine ⟨X,x1,hev _ ?_⟩
 simp -implicitDefEqProofs only [c2x,↓reduceIte,eq_self,ZF,ZG,ZH,ZI,ZJ,ZK,ZL,ZM,ZN,ZO,ZP,ZQ,ZR,ZS,ZT,ZU,ZV,ZW,ZX,ZY,Z2,Z3,Z4,Z5,Z6,Z7,Z8,Z9,Za,Zb,Zc,Zd,Ze,Zf,Zg,Zh,Nat.reduceAdd,Zi,if_true,if_false,Zl,Zm,Zn,Zo,Zp,Zq,Zr,Zs,Zt,Zu,Zv,Zw,Zx,Zy,Zz,ZA,ZB,ZC,ZD,ZE,c1,ha]
 exact x2
end
end Go.Proofs.Ytggjcdnailppoaa
set_option maxRecDepth 100000
namespace Go.Proofs.Ytggjcdnailppoaa
open Go.Sx Go.RowKit
theorem c3M (t:List Ch) (c:Ch) (b:W6) (a:Int):a5N (t++[c]) b a=if c.w.beq b=true then mxI (a5N t b a) (a1C c.p b) else a5N t b a:=by simp [a5N,List.foldl_append]
theorem c3C (b:W6):∀ {t:List Ch},(∀ c∈t,c.w≠b)->∀ a:Int,a5N t b a=a
 | [],_,_=>rfl
 | c::t,h,a=>by
  have ih:=c3C b (t:=t) (fun x hx=>h x (by simp [hx])) a
  unfold a5N at ih ⊢
  rw [Xk,if_neg (fun hb=>h c (by simp) (c3i.1 hb))]
  exact ih
structure InvA (t:List Ch) (A:List Of):Prop where
 nd:(A.map fun o=>wl6 o.w).Nodup
 has:∀ c∈t,(⟨0,c.w,a5N t c.w 0⟩:Of)∈A
 only:∀ o∈A,∃ c∈t,o=⟨0,c.w,a5N t c.w 0⟩
theorem c4s {t:List Ch} {A:List Of} (h:InvA t A) {c:Ch} (hco:c.ok):InvA (t++[c]) (c2P A c.w (a1C c.p c.w)):=by
 have hcost:=(a4p hco.1 hco.2).1
 have hnd:=c3S c.w (a1C c.p c.w) h.nd
 have same:∀ b:W6,b≠c.w->a5N (t++[c]) b 0=a5N t b 0:=fun b hb=>by rw [c3M,if_neg (fun h=>hb (c3i.1 h).symm)]
 have mine:a5N (t++[c]) c.w 0=mxI (a5N t c.w 0) (a1C c.p c.w):=by rw [c3M,if_pos (c3i.2 rfl)]
 refine ⟨hnd,?_,?_⟩
 all_goals unfold c2P
 ·
  intro c' hc'
  split
  ·rename_i k hk
   obtain ⟨k1,k2,_⟩:=Qe.1 hk
   have hkw:=c3i.1 k2
   have hgd:A.getD k ⟨0,c.w,0⟩=A[k]:=by simp [QL,Q3 k1]
   obtain ⟨c0,hc0,he0⟩:=h.only A[k] (Xn k1)
   have hw0:c0.w=c.w:=by rw [<- hkw,he0]
   rw [hgd]
   by_cases hcw:c'.w=c.w
   ·have:({ A[k] with v:=mxI A[k].v (a1C c.p c.w) }:Of)=⟨0,c'.w,a5N (t++[c]) c'.w 0⟩:=by
     rw [he0,hcw,mine,hw0]
    rw [<- this]
    exact List.mem_set k1 _
   ·have hct:c'∈t:=by
     rcases Q4.1 hc' with h1 | h1
     ·exact h1
     ·exact absurd (by rw [Q6.1 h1]) hcw
    have hm:=h.has c' hct
    rw [same _ hcw]
    obtain ⟨j,hj⟩:=Qn hm
    have hjk:k≠j:=by
     rintro rfl
     rw [Q3 k1] at hj
     simp only [Qr] at hj
     rw [hj] at hkw
     exact hcw hkw
    exact Qs (i:=j) (by rw [Xp hjk]; exact hj)
  ·rename_i hk
   have hno:∀ x∈t,x.w≠c.w:=fun x hx he=>by
    have:=Qh.1 hk _ (h.has x hx)
    rw [he,c3i.2 rfl] at this
    cases this
   rcases Q4.1 hc' with h1 | h1
   ·rw [same _ (hno c' h1)]
    exact Q4.2 (.inl (h.has c' h1))
   ·have:=Q6.1 h1
    subst this
    rw [mine,c3C _ hno]
    have:mxI 0 (a1C c'.p c'.w)=a1C c'.p c'.w:=by unfold mxI; split<;>omega
    rw [this]
    exact Q4.2 (.inr (by simp))
 ·
  intro o ho
  split at ho
  ·rename_i k hk
   obtain ⟨k1,k2,_⟩:=Qe.1 hk
   have hkw:=c3i.1 k2
   have hgd:A.getD k ⟨0,c.w,0⟩=A[k]:=by simp [QL,Q3 k1]
   obtain ⟨c0,hc0,he0⟩:=h.only A[k] (Xn k1)
   have hw0:c0.w=c.w:=by rw [<- hkw,he0]
   rw [hgd] at ho
   obtain ⟨j,hj⟩:=Qn ho
   by_cases hjk:k=j
   ·subst hjk
    rw [List.getElem?_set_self k1] at hj
    simp only [Qr] at hj
    exact ⟨c,by simp,by rw [<- hj,he0,mine,hw0]⟩
   ·rw [Xp hjk] at hj
    obtain ⟨c1,hc1,he1⟩:=h.only o (Qs hj)
    have hne:c1.w≠c.w:=fun he=>by
     have hjl:=(Q2.1 hj).1
     have:=(List.getElem?_inj (i:=k) (j:=j) (l:=A.map fun o=>wl6 o.w) (by rw [Q0]; exact k1) h.nd).1 (by
      rw [Qm,Qm,hj,Q3 k1]
      simp only [Qg,hkw,he1,he])
     exact hjk this
    exact ⟨c1,by simp [hc1],by rw [same _ hne]; exact he1⟩
  ·rename_i hk
   have hno:∀ x∈t,x.w≠c.w:=fun x hx he=>by
    have:=Qh.1 hk _ (h.has x hx)
    rw [he,c3i.2 rfl] at this
    cases this
   rcases Q4.1 ho with h1 | h1
   ·obtain ⟨c1,hc1,he1⟩:=h.only o h1
    exact ⟨c1,by simp [hc1],by rw [same _ (hno c1 hc1)]; exact he1⟩
   ·refine ⟨c,by simp,?_⟩
    rw [Q6.1 h1,mine,c3C _ hno]
    have:mxI 0 (a1C c.p c.w)=a1C c.p c.w:=by unfold mxI; split<;>omega
    rw [this]
theorem c3K:∀ (s t:List Ch) (A:List Of),(∀ x∈s,x.ok)->InvA t A->InvA (t++s) (c3x s A)
 | [],t,A,_,h=>by rw [Qf]; exact h
 | c::s,t,A,hok,h=>by
  have:=c3K s (t++[c]) _ (fun x hx=>hok x (by simp [hx])) (c4s h (hok c (by simp)))
  rw [Xq] at this
  exact this
def lt6 (a b:W6):Bool:=ltK (wl6 a) (wl6 b)
theorem c4F (a b:W6):ltB (c2q (wl6 a) (wl6 b)) 0=lt6 a b:=c3e _ _
theorem c4N (a:W6):lt6 a a=false:=c2W _
theorem c4P {a b c:W6} (h:lt6 a b=true) (k:lt6 b c=true):lt6 a c=true:=c2O h k
theorem c4K {a b:W6} (h:lt6 a b=false) (hne:a≠b):lt6 b a=true:=by
 cases hk:lt6 b a with
 | true=>rfl
 | false=>exact absurd (c3D (c3v (a:=wl6 a) (b:=wl6 b) rfl h hk)) hne
structure InvR (G:W6->Int) (t:List Ch) (R:List Of):Prop where
 srt:R.Pairwise fun x y=>lt6 x.w y.w=true
 has:∀ c∈t,c.w.isZ=false->G c.w≠0->(⟨0,c.w,G c.w⟩:Of)∈R
 only:∀ o∈R,∃ c∈t,o=⟨0,c.w,G c.w⟩/\c.w.isZ=false/\G c.w≠0
theorem c3J (w:W6) (v:Int) (R:List Of) (hs:R.Pairwise fun x y=>lt6 x.w y.w=true):∀ d a,a+d=R.length->(∀ x∈R.take a,lt6 x.w w=true) ->
  (c3c w v R d a=R/\∃ y∈R,y.w=w)\/(∃ p,c3c w v R d a=c2M R p ⟨0,w,v⟩/\(∀ x∈R.take p,lt6 x.w w=true)/\∀ x∈R.drop p,lt6 w x.w=true)
 | 0,a,h,ha=>.inr ⟨a,rfl,ha,by rw [List.drop_eq_nil_of_le (by omega)]; simp⟩
 | d+1,a,h,ha=>by
  obtain ⟨y,hy⟩:=a4g (show a < R.length by omega)
  rw [c3c,hy]
  simp only [c4F]
  cases hc:lt6 y.w w with
  | true =>
   simp only [if_true]
   refine c3J w v R hs d (a+1) (by omega) fun x hx=>?_
   rw [Qu,hy] at hx
   rcases Q4.1 hx with hx | hx
   ·exact ha x hx
   ·have:x=y:=by simpa using hx
    rw [this]; exact hc
  | false =>
   simp only [QN,if_false]
   cases hb:y.w.beq w with
   | true=>simp only [if_true]; exact .inl ⟨trivial,y,Qs hy,c3i.1 hb⟩
   | false =>
    simp only [QN,if_false]
    have hne:y.w≠w:=fun he=>by rw [he,c3i.2 rfl] at hb; cases hb
    have hyw:=c4K hc hne
    refine .inr ⟨a,rfl,ha,fun x hx=>?_⟩
    rw [a2M hy] at hx
    have hpw:=hs.sublist (List.drop_sublist a R)
    rw [a2M hy,List.pairwise_cons] at hpw
    rcases List.mem_cons.1 hx with rfl | hx
    ·exact hyw
    ·exact c4P hyw (hpw.1 x hx)
theorem c3F {R:List Of} {p:Nat} {x o:Of}:o∈c2M R p x↔o=x\/o∈R:=by
 unfold c2M
 conv=>rhs; rhs; rw [<- Qv p R]
 simp only [Q4,Q6]
 constructor
 ·rintro ((h | h) | h)
  ·exact .inr (.inl h)
  ·exact .inl h
  ·exact .inr (.inr h)
 ·rintro (h | h | h)
  ·exact .inl (.inr h)
  ·exact .inl (.inl h)
  ·exact .inr h
theorem c4l {R:List Of} (hs:R.Pairwise fun x y=>lt6 x.w y.w=true) {p:Nat} {x:Of} (h1:∀ y∈R.take p,lt6 y.w x.w=true) (h2:∀ y∈R.drop p,lt6 x.w y.w=true):(c2M R p x).Pairwise fun x y=>lt6 x.w y.w=true:=by
 have hs':=hs
 rw [<- Qv p R,X3] at hs'
 obtain ⟨a1,a2,a3⟩:=hs'
 unfold c2M
 rw [X3,X3]
 refine ⟨⟨a1,List.pairwise_singleton _ _,fun a ha b hb=>?_⟩,a2,fun a ha b hb=>?_⟩
 ·rw [Q6.1 hb]; exact h1 a ha
 ·rcases Q4.1 ha with ha | ha
  ·exact a3 a ha b hb
  ·rw [Q6.1 ha]; exact h2 b hb
theorem c4t {l:List Ch} {t:List Ch} {R:List Of} (h:InvR (fun w=>a5N l w 0) t R) (c:Ch):InvR (fun w=>a5N l w 0) (t++[c]) (c2N l R c.w):=by
 unfold c2N
 by_cases hz:c.w.isZ=true
 ·rw [if_pos hz]
  refine ⟨h.srt,fun c' hc' h1 h2=>?_,fun o ho=>?_⟩
  ·rcases Q4.1 hc' with h3 | h3
   ·exact h.has c' h3 h1 h2
   ·rw [Q6.1 h3,hz] at h1; cases h1
  ·obtain ⟨c1,h3,h4⟩:=h.only o ho
   exact ⟨c1,by simp [h3],h4⟩
 rw [if_neg hz]
 have hz':c.w.isZ=false:=by simpa using hz
 by_cases hv:a5N l c.w 0=0
 ·rw [if_pos hv]
  refine ⟨h.srt,fun c' hc' h1 h2=>?_,fun o ho=>?_⟩
  ·rcases Q4.1 hc' with h3 | h3
   ·exact h.has c' h3 h1 h2
   ·rw [Q6.1 h3] at h2; exact absurd hv h2
  ·obtain ⟨c1,h3,h4⟩:=h.only o ho
   exact ⟨c1,by simp [h3],h4⟩
 rw [if_neg hv]
 rcases c3J c.w (a5N l c.w 0) R h.srt R.length 0 (by omega) (by simp) with ⟨he,y,hy,hyw⟩ | ⟨p,he,h1,h2⟩
 ·rw [he]
  refine ⟨h.srt,fun c' hc' h1 h2=>?_,fun o ho=>?_⟩
  ·rcases Q4.1 hc' with h3 | h3
   ·exact h.has c' h3 h1 h2
   ·obtain ⟨c1,_,h5,_⟩:=h.only y hy
    rw [Q6.1 h3]
    have hcw:c1.w=c.w:=by rw [<- hyw,h5]
    rw [hcw] at h5
    rw [<- h5]; exact hy
  ·obtain ⟨c1,h3,h4⟩:=h.only o ho
   exact ⟨c1,by simp [h3],h4⟩
 ·rw [he]
  refine ⟨c4l h.srt h1 h2,fun c' hc' h3 h4=>?_,fun o ho=>?_⟩
  ·rw [c3F]
   rcases Q4.1 hc' with h5 | h5
   ·exact .inr (h.has c' h5 h3 h4)
   ·rw [Q6.1 h5]; exact .inl rfl
  ·rcases c3F.1 ho with rfl | ho
   ·exact ⟨c,by simp,rfl,hz',hv⟩
   ·obtain ⟨c1,h3,h4⟩:=h.only o ho
    exact ⟨c1,by simp [h3],h4⟩
theorem c3E {l:List Ch}:∀ (s t:List Ch) (R:List Of),InvR (fun w=>a5N l w 0) t R->InvR (fun w=>a5N l w 0) (t++s) (s.foldl (fun o c=>c2N l o c.w) R)
 | [],t,R,h=>by rw [Qf]; exact h
 | c::s,t,R,h=>by
  have:=c3E s (t++[c]) _ (c4t h c)
  rw [Xq] at this
  exact this
theorem c4w {b:W6} (hb:b.isZ=true):∀ (l:List Ch),a5N l b 0=0:=by
 have hc:∀ p:W6,a1C p b=0:=by
  intro p
  obtain ⟨a,b,c,d,e,f⟩:=b
  simp only [W6.isZ,Xd,b1K] at hb
  obtain ⟨rfl,rfl,rfl,rfl,rfl,rfl⟩:=hb
  simp [a1C]
 intro l
 unfold a5N
 induction l with
 | nil=>rfl
 | cons c l ih =>
  rw [Xk,hc]
  have:(if c.w.beq b=true then mxI 0 0 else (0:Int))=0:=by split<;>rfl
  rw [this]; exact ih
theorem c3V {l:List Ch} (hok:∀ x∈l,x.ok):c2V (c3x l [])=(l.foldl (fun o c=>c2N l o c.w) []).map Of.o8:=by
 have hA:=c3K l [] [] hok ⟨by simp,by simp,by simp⟩
 have hR:=c3E (l:=l) l [] [] ⟨List.Pairwise.nil,by simp,by simp⟩
 rw [QM] at hA hR
 generalize c3x l []=A at hA
 generalize l.foldl (fun o c=>c2N l o c.w) []=R at hR
 have hnd:=c3y hA.nd
 symm
 refine c3A hnd ?_ ?_
 ·have n1:((A.map Of.o8).filter keepO).Nodup:=by
   have:=hnd
   unfold List.Nodup at this ⊢
   rw [X4] at this
   exact this.imp fun h he=>h (by rw [he])
  have n2:(R.map Of.o8).Nodup:=by
   unfold List.Nodup
   rw [X4]
   refine hR.srt.imp fun h he=>?_
   have hw:(Of.o8 _).w=(Of.o8 _).w:=congrArg O8.w he
   have h2:wl6 _=wl6 _:=hw
   rw [c3D h2,c4N] at h; cases h
  rw [List.perm_ext_iff_of_nodup n2 n1]
  intro x
  rw [List.mem_filter]
  constructor
  ·intro hx
   obtain ⟨o,ho,rfl⟩:=Q8.1 hx
   obtain ⟨c,hc,he,_,hv⟩:=hR.only o ho
   refine ⟨Q8.2 ⟨o,by rw [he]; exact hA.has c hc,rfl⟩,?_⟩
   rw [he]
   unfold keepO Of.o8
   simp [hv]
  ·rintro ⟨hx,hk⟩
   obtain ⟨o,ho,rfl⟩:=Q8.1 hx
   obtain ⟨c,hc,he⟩:=hA.only o ho
   have hv:a5N l c.w 0≠0:=by
    rw [he] at hk
    unfold keepO Of.o8 at hk
    simpa using hk
   have hz:c.w.isZ=false:=by
    cases hz:c.w.isZ with
    | false=>rfl
    | true=>exact absurd (c4w hz l) hv
   exact Q8.2 ⟨o,by rw [he]; exact hR.has c hc hz hv,rfl⟩
 ·unfold Srt
  rw [X4]
  refine hR.srt.imp fun h=>?_
  rename_i a b
  have h':ltK (wl6 a.w) (wl6 b.w)=true:=h
  cases hk:ltK (Of.o8 b).w (Of.o8 a).w with
  | false=>rfl
  | true =>
   have hk':ltK (wl6 b.w) (wl6 a.w)=true:=hk
   have:=c2O h' hk'
   rw [c2W] at this; cases this
end Go.Proofs.Ytggjcdnailppoaa
