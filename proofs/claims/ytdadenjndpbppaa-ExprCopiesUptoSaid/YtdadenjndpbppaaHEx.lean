/- Trees (bid expressions). -/
import Derived.Test.YtdadenjndpbppaaHTab
import Derived.Test.YtdadenjndpbppaaHTxe
import Derived.Test.YtdadenjndpbppaaHSys
set_option linter.unusedSimpArgs false
set_option linter.unusedVariables false
open Go.Sx.PT renaming ev → Z1
open Go.Sx.BE renaming safe → Z2, pe → Z3, all → Zz
open Go.Sx.IE renaming pe → Z4
open Go.Sx renaming PEnv.at → Z5
open Go.Sx.PEnv renaming push → Zt
open List renaming getD_cons_zero → Z6, getD_cons_succ → Z7, getElem?_cons_zero → Z8, getElem?_cons_succ → Z9, drop_zero → Zf, length_cons → Zg, length_nil → Zh, take_succ_cons → Zm, take_zero → Zn, cons_append → Zu, nil_append → Zv, append_nil → Zw, map_cons → ZD, map_nil → ZE
open Go.Sx renaming a0A → Za, a0C → Zb, a0i → Zc, a0B → Zd, a0s → Zo, a0e → Zp, a0z → Zq
open Nat renaming add_zero → Ze, le_refl → Zi
open Bool renaming false_eq_true → Zl, and_self → ZA, not_true → ZB, not_false → ZC
open Option renaming map_some → Zr, bind_some → Zs
open Go.Sx.SV renaming pvs → Zx, pv → Zy
open Option renaming bind_some → Q0, map_some → Q5
open List renaming append_nil → Q1, nil_append → Q2, cons_append → Q3, length_cons → Q4, length_append → Q6
set_option maxRecDepth 10000
namespace Go.Proofs.Ytdadenjndpbppaa
open Go.Sx
inductive Ex where
 | node (op a b c d e f v:Int) (args:List Ex)
def Ex.args:Ex->List Ex | .node _ _ _ _ _ _ _ _ l=>l
mutual
def Ex.size:Ex->Nat | .node _ _ _ _ _ _ _ _ l=>a2O l+1
def a2O:List Ex->Nat | []=>0 | e::l=>e.size+a2O l
end
mutual
def Ex.depth:Ex->Int | .node _ _ _ _ _ _ _ _ l=>a6k 0 l+1
def a6k (m:Int):List Ex->Int | []=>m | e::l=>a6k (mxI m e.depth) l
end
mutual
def IsE:Ex->List PV->Prop
 | .node op a b c d e f v l,row=>∃ x rows,row=[.int .i64 op,.int .i64 a,.int .i64 b,.int .i64 c,.int .i64 d,.int .i64 e,.int .i64 f,.int .i64 v,x]/\x.rowsOf 9=some rows/\a1a l rows
def a1a:List Ex->List (List PV)->Prop
 | [],rows=>rows=[]
 | e::l,rows=>∃ r rs,rows=r::rs/\IsE e r/\a1a l rs
end
theorem a1a.length:∀ {l:List Ex} {rows:List (List PV)},a1a l rows->rows.length=l.length
 | [],rows,h=>by simp only [a1a] at h; subst h; rfl
 | e::l,rows,h=>by
  simp only [a1a] at h
  obtain ⟨r,rs,rfl,_,h⟩:=h
  simp [a1a.length h]
theorem a1a.split:∀ {l:List Ex} {rows:List (List PV)},a1a l rows->∀ i:Nat,a1a (l.drop i) (rows.drop i)
 | l,rows,h,0=>by simpa using h
 | [],rows,h,i+1=>by simp only [a1a] at h; subst h; simp [a1a]
 | e::l,rows,h,i+1=>by
  simp only [a1a] at h
  obtain ⟨r,rs,rfl,_,h⟩:=h
  simpa using a1a.split h i
mutual
theorem Ex.depth_le:∀ e:Ex,1<=e.depth/\e.depth<=e.size
 | .node _ _ _ _ _ _ _ _ l=>by
  have:=b0G 0 l
  simp only [mxI] at this
  simp only [Ex.depth,Ex.size]; split at this<;>omega
theorem b0G (m:Int):∀ l:List Ex,m<=a6k m l/\a6k m l<=mxI m (a2O l)
 | []=>by simp [a6k,a2O,mxI]; split<;>omega
 | e::l=>by
  have h1:=e.depth_le
  have h2:=b0G (mxI m e.depth) l
  simp only [a6k,a2O,mxI] at *
  repeat' split at h2
  all_goals (repeat' split)
  all_goals omega
end
theorem b1J:∀ e:Ex,1<=e.size
 | .node _ _ _ _ _ _ _ _ l=>by simp only [Ex.size]; omega
theorem a3I:∀ l:List Ex,l.length<=a2O l
 | []=>Nat.le_refl _
 | e::l=>by have:=a3I l; have:=b1J e; simp only [a2O,Q4]; omega
theorem a3D:∀ {l:List Ex} {e:Ex},e∈l->e.size<=a2O l
 | [],e,h=>by simp at h
 | x::l,e,h=>by
  simp only [a2O]
  rcases List.mem_cons.1 h with rfl | h
  ·omega
  ·have:=a3D h; omega
end Go.Proofs.Ytdadenjndpbppaa
set_option maxRecDepth 10000
namespace Go.Proofs.Ytdadenjndpbppaa
open Go.Sx
end Go.Proofs.Ytdadenjndpbppaa
set_option maxRecDepth 10000
namespace Go.Proofs.Ytdadenjndpbppaa
open Go.Sx
mutual
def Ex.pre:Ex->List Ex | .node op a b c d e f v l=>.node op a b c d e f v l::a3U l
def a3U:List Ex->List Ex | []=>[] | e::l=>e.pre++a3U l
end
mutual
theorem Ex.pre_len:∀ e:Ex,e.pre.length=e.size
 | .node _ _ _ _ _ _ _ _ l=>by simp only [Ex.pre,Ex.size,Q4,b1W l]
theorem b1W:∀ l:List Ex,(a3U l).length=a2O l
 | []=>rfl
 | e::l=>by simp only [a3U,a2O,Q6,Ex.pre_len e,b1W l]
end
structure Visits (C:Nat) (caps:List PV) (n0:Nat) (all:List Ex) (st:List Ex->List MO) (go:List Ex->Ex->Bool) (fin:List Ex->Ex->List MO):Prop where
 at_:∀ p x r row,all=p++x::r->IsE x row->∀ n,n0<=n->a0P Tab n C (.agg row::caps) (st p)=some (.bool (go p x),if go p x then st (p++[x]) else fin p x)
end Go.Proofs.Ytdadenjndpbppaa
set_option maxRecDepth 100000
namespace Go.Proofs.Ytdadenjndpbppaa
open Go.Sx
theorem a0E {α:Type} (l:List α) (a b:α):(l++[a]).set l.length b=l++[b]:=by simp
end Go.Proofs.Ytdadenjndpbppaa
set_option maxRecDepth 100000
namespace Go.Proofs.Ytdadenjndpbppaa
open Go.Sx
mutual
theorem IsE.lows (k:Nat):∀ {e:Ex} {row:List PV},IsE e row->PV.lows k row=true
 | .node op a b c d e f v l,row,h=>by
  simp only [IsE] at h
  obtain ⟨x,rows,rfl,hx,hl⟩:=h
  have:=a1a.lowss k hl
  have hxl:PV.low k x=true:=by
   cases x<;>simp only [PV.rowsOf,reduceCtorEq] at hx<;>simp only [PV.low]
   split at hx
   ·simp only [Option.some.injEq] at hx; subst hx; exact this
   ·cases hx
  simp [PV.lows,PV.low,hxl]
theorem a1a.lowss (k:Nat):∀ {l:List Ex} {rows:List (List PV)},a1a l rows->PV.lowss k rows=true
 | [],rows,h=>by simp only [a1a] at h; subst h; rfl
 | e::l,rows,h=>by
  simp only [a1a] at h
  obtain ⟨r,rs,rfl,h1,h2⟩:=h
  simp [PV.lowss,IsE.lows k h1,a1a.lowss k h2]
end
theorem a1a.append:∀ {l m:List Ex} {rows rows':List (List PV)},a1a l rows->a1a m rows'->a1a (l++m) (rows++rows')
 | [],m,rows,rows',h,h'=>by simp only [a1a] at h; subst h; exact h'
 | e::l,m,rows,rows',h,h'=>by
  simp only [a1a] at h
  obtain ⟨r,rs,rfl,h1,h2⟩:=h
  exact ⟨r,_,rfl,h1,a1a.append h2 h'⟩
theorem b3Z (n:Nat) (rows:List (List PV)):(PV.sl n rows).one=true:=by rw [PV.one]<;>simp
theorem a0h (n:Nat) (rows:List (List PV)):(PV.sl n rows).rowsOf n=some rows:=by simp [PV.rowsOf]
theorem b5X (σ:List MO):∀ (e:Ex) (row:List PV),IsE e row->∀ n,e.size+2<=n->e.size<=1000000->∃ rows,a0P Tab n a2S [.agg row] σ=some (.sl 9 rows,σ)/\a1a e.pre rows:=by
 intro e
 induction hN:e.size using Nat.strongRecOn generalizing e with
 | _ N ih =>
  subst hN
  intro row hrow n hn hbig
  obtain ⟨op,a,b,c,d,e',f,v,l⟩:=e
  have hrow0:=hrow
  simp only [IsE] at hrow
  obtain ⟨x,rows,rfl,hx,hl⟩:=hrow
  obtain ⟨x1,x2,x3⟩:=a1G hx
  simp only [Ex.size] at ih hn hbig
  obtain ⟨n,rfl⟩:∃ k,n=k+1:=⟨n-1,by omega⟩
  have hlen:=hl.length
  have loop:∀ (fuel:Nat) (i:Nat) (done:List Ex) (acc:List (List PV)),l.length-i < fuel->i<=l.length->a1a done acc->done.length+a2O (l.drop i)<=1000000 ->
    ∃ out,saleroomref11_Preorder_S.loop (a0P Tab n) fuel 0 { i:=[(i:Int),op,a,b,c,d,e',f,v],b:=[],v:=[.sl 9 acc,x],m:=σ,k:=σ.length }=some (.sl 9 out,σ)/\a1a (done++a3U (l.drop i)) out:=by
   intro fuel
   induction fuel with
   | zero=>intro i done acc h; omega
   | succ fuel ihf =>
    intro i done acc h1 h2 h3 h4
    rw [Sys.loop,show saleroomref11_Preorder_S.loops[0]?=some a2N from rfl]
    simp -implicitDefEqProofs only [Q0,a2N,↓reduceIte,eq_self,Z1,Z2,Z3,Z4,Z5,Z6,Z7,Z8,Z9,Za,Zb,Zc,Zd,Ze,Zf,Zg,Zh,Nat.reduceAdd,Zi,if_true,if_false,Zl,Zm,Zn,Zo,Zp,Zq,Zr,Zs,Zt,Zu,Zv,Zw,Zx,Zy,Zz,ZA,ZB,ZC,ZD,ZE,a3t,decide_eq_true_eq,x1,x2]
    by_cases hlt:i < rows.length
    ·obtain ⟨e1,he1⟩:∃ e1,l[i]?=some e1:=⟨_,List.getElem?_eq_getElem (by omega)⟩
     have hdc:=a4F he1
     have hd:=hl.split i
     rw [hdc] at hd h4 ⊢
     simp only [a1a] at hd
     obtain ⟨r1,rs,hd1,hd2,hd3⟩:=hd
     have hr:rows[i]?=some r1:=by
      have:=congrArg (fun l=>l[0]?) hd1
      simpa using this
     have hloc:=a6J (off:=0) hx hr
     rw [if_pos hlt]
     have hsz:=a3D (List.mem_of_getElem? he1)
     simp only [a3U,a2O] at h4 ⊢
     obtain ⟨nrows,hcall,hnr⟩:=ih _ (Nat.lt_succ_of_le hsz) _ rfl _ hd2 n (by omega) (by omega)
     obtain ⟨op1,a1,b1,c1,d1,e1',f1,v1,l1⟩:=e1
     have hd2':=hd2
     simp only [IsE] at hd2'
     obtain ⟨y,rows1,rfl,hy,hl1⟩:=hd2'
     obtain ⟨y1,y2,y3⟩:=a1G hy
     generalize hy0:Ex.node op1 a1 b1 c1 d1 e1' f1 v1 l1=y0 at *
     have hsl:=a3I l
     have q1:(leB 0 (i:Int)&&decide (i < rows.length))=true:=by simp [leB,hlt]
     have q2:(leB (-9223372036854775808) ((i:Int)+1)&&leB ((i:Int)+1) 9223372036854775807)=true:=by simp [leB]; omega
     have h3l:=h3.length
     have hnl:=hnr.length
     rw [Ex.pre_len] at hnl
     have q4:acc.length+nrows.length<=1000000:=by omega
     obtain ⟨out,ho1,ho2⟩:=ihf (i+1) (done++y0.pre) (acc++nrows) (by omega) (by omega) (h3.append hnr) (by rw [Q6,Ex.pre_len]; omega)
     rw [show ((i+1:Nat):Int)=(i:Int)+1 from by omega] at ho1
     refine ⟨out,?_,by rw [<- List.append_assoc]; exact ho2⟩
     simp only [a2S] at hcall
     rw [if_pos q1]
     simp -implicitDefEqProofs only [↓reduceIte,eq_self,Z1,Z2,Z3,Z4,Z5,Z6,Z7,Z8,Z9,Za,Zb,Zc,Zd,Ze,Zf,Zg,Zh,Nat.reduceAdd,Zi,if_true,if_false,Zl,Zm,Zn,Zo,Zp,Zq,Zr,Zs,Zt,Zu,Zv,Zw,Zx,Zy,Zz,ZA,ZB,ZC,ZD,ZE,hloc,y3,hcall,b3Z,a0h,a0r,if_pos q4,if_pos q2]
     exact ho1
    ·have hil:i=l.length:=by omega
     rw [if_neg hlt]
     subst hil
     refine ⟨acc,?_,by simpa [a3U] using h3⟩
     simp -implicitDefEqProofs only [↓reduceIte,eq_self,Z1,Z2,Z3,Z4,Z5,Z6,Z7,Z8,Z9,Za,Zb,Zc,Zd,Ze,Zf,Zg,Zh,Nat.reduceAdd,Zi,if_true,if_false,Zl,Zm,Zn,Zo,Zp,Zq,Zr,Zs,Zt,Zu,Zv,Zw,Zx,Zy,Zz,ZA,ZB,ZC,ZD,ZE,a0D,PV.frz,h3.lowss,if_pos]
     simp
  obtain ⟨out,ho1,ho2⟩:=loop n 0 [.node op a b c d e' f v l] [_] (by have:=a3I l; omega) (Nat.zero_le _) ⟨_,[],rfl,hrow0,rfl⟩ (by simp only [Q4,List.length_nil,List.drop_zero]; omega)
  refine ⟨out,?_,by simpa [Ex.pre] using ho2⟩
  rw [<- ho1]
  simp only [a0P,a4M,Q0,Sys.run]
  show ((a0Q [.sh (.agg [_,_,_,_,_,_,_,_,_])] _).bind _)=_
  simp only [a0Q,a0z,a0s,Q5,Q0,Q1,Q2,Q3,if_true,x3]
  show (PT.ev _ a2Q _).bind _=_
  simp -implicitDefEqProofs only [a2Q,↓reduceIte,eq_self,Z1,Z2,Z3,Z4,Z5,Z6,Z7,Z8,Z9,Za,Zb,Zc,Zd,Ze,Zf,Zg,Zh,Nat.reduceAdd,Zi,if_true,if_false,Zl,Zm,Zn,Zo,Zp,Zq,Zr,Zs,Zt,Zu,Zv,Zw,Zx,Zy,Zz,ZA,ZB,ZC,ZD,ZE,a0r,List.mapM_cons,List.mapM_nil]
  simp
end Go.Proofs.Ytdadenjndpbppaa
set_option maxRecDepth 100000
namespace Go.Proofs.Ytdadenjndpbppaa
open Go.Sx
theorem b4w (σ:List MO) (hσ:σ.all (MO.low σ.length)=true) (e:Ex) (row:List PV) (hrow:IsE e row) (n:Nat) (hn:e.size+3<=n) (hbig:e.size<=1000000) :
  a0P Tab n a4v [.agg row] σ=some (.int .i64 e.size,σ):=by
 obtain ⟨n,rfl⟩:∃ k,n=k+1:=⟨n-1,by omega⟩
 obtain ⟨nrows,hcall,hnr⟩:=b5X σ e row hrow n (by omega) hbig
 have hnl:=hnr.length
 rw [Ex.pre_len] at hnl
 obtain ⟨op,a,b,c,d,e',f,v,l⟩:=e
 simp only [IsE] at hrow
 obtain ⟨x,rows,rfl,hx,hl⟩:=hrow
 obtain ⟨x1,x2,x3⟩:=a1G hx
 simp only [a2S] at hcall
 simp only [a0P,a5W,Q0,Sys.run]
 show ((a0Q [.sh (.agg [_,_,_,_,_,_,_,_,_])] _).bind _)=_
 simp only [a0Q,a0z,a0s,Q5,Q0,Q1,Q2,Q3,if_true,x3]
 show (PT.ev _ a3k _).bind _=_
 have hk:(PV.sl 9 nrows).isKind 0=true:=rfl
 have hl:(PV.sl 9 nrows).len=nrows.length:=rfl
 simp -implicitDefEqProofs only [a3k,↓reduceIte,eq_self,Z1,Z2,Z3,Z4,Z5,Z6,Z7,Z8,Z9,Za,Zb,Zc,Zd,Ze,Zf,Zg,Zh,Nat.reduceAdd,Zi,if_true,if_false,Zl,Zm,Zn,Zo,Zp,Zq,Zr,Zs,Zt,Zu,Zv,Zw,Zx,Zy,Zz,ZA,ZB,ZC,ZD,ZE,hcall,b3Z,hk,hl,a0D,or_true,hnl]
end Go.Proofs.Ytdadenjndpbppaa
set_option maxRecDepth 100000
namespace Go.Proofs.Ytdadenjndpbppaa
open Go.Sx
end Go.Proofs.Ytdadenjndpbppaa
set_option maxRecDepth 100000
namespace Go.Proofs.Ytdadenjndpbppaa
open Go.Sx
theorem b5W (σ:List MO) (hσ:σ.all (MO.low σ.length)=true) (e:Ex) (row:List PV) (hrow:IsE e row) (n:Nat) (hn:e.size+4<=n) (hbig:e.size<=1000000) :
  a0P Tab n a4w [.agg row] σ=some (.bool (decide (e.size<=400)),σ):=by
 obtain ⟨n,rfl⟩:∃ k,n=k+1:=⟨n-1,by omega⟩
 have hcall:=b4w σ hσ e row hrow n (by omega) hbig
 obtain ⟨op,a,b,c,d,e',f,v,l⟩:=e
 simp only [IsE] at hrow
 obtain ⟨x,rows,rfl,hx,hl⟩:=hrow
 obtain ⟨x1,x2,x3⟩:=a1G hx
 generalize hy0:Ex.node op a b c d e' f v l=y0 at *
 simp only [a4v] at hcall
 simp only [a0P,a6v,Q0,Sys.run]
 show ((a0Q [.sh (.agg [_,_,_,_,_,_,_,_,_])] _).bind _)=_
 simp only [a0Q,a0z,a0s,Q5,Q0,Q1,Q2,Q3,if_true,x3]
 show (PT.ev _ a3x _).bind _=_
 simp -implicitDefEqProofs only [a3x,↓reduceIte,eq_self,Z1,Z2,Z3,Z4,Z5,Z6,Z7,Z8,Z9,Za,Zb,Zc,Zd,Ze,Zf,Zg,Zh,Nat.reduceAdd,Zi,if_true,if_false,Zl,Zm,Zn,Zo,Zp,Zq,Zr,Zs,Zt,Zu,Zv,Zw,Zx,Zy,Zz,ZA,ZB,ZC,ZD,ZE,hcall,a0D,or_true]
 simp [leB]; omega
end Go.Proofs.Ytdadenjndpbppaa
set_option maxRecDepth 100000
namespace Go.Proofs.Ytdadenjndpbppaa
open Go.Sx
theorem b5Y {rows:List (List PV)} (h:∀ r∈rows,∃ e,IsE e r/\9*e.size<=PV.wts r):∃ l,a1a l rows/\9*a2O l<=PV.wtss rows:=by
 induction rows with
 | nil=>exact ⟨[],by simp [a1a],by simp [a2O,PV.wtss]⟩
 | cons r rows ih =>
  obtain ⟨e,he,hs⟩:=h r (by simp)
  obtain ⟨l,hl,hls⟩:=ih (fun r hr=>h r (by simp [hr]))
  exact ⟨e::l,⟨r,rows,rfl,he,hl⟩,by simp only [a2O,PV.wtss]; omega⟩
theorem b2L {n:Nat} {ps:List PV} (h:a1d Try.prog n 23 ps):∃ a b c d e f,ps=[.int .i64 a,.int .i64 b,.int .i64 c,.int .i64 d,.int .i64 e,.int .i64 f]:=by
 obtain ⟨m,_,h⟩:=b1t Try.underlying23 h
 simp only [List.replicate,a3L] at h
 obtain ⟨_,_,rfl,h1,_,_,rfl,h2,_,_,rfl,h3,_,_,rfl,h4,_,_,rfl,h5,_,_,rfl,h6,rfl⟩:=h
 obtain ⟨a,rfl,_⟩:=a2U (k:=.i64) (by kernel_rfl) h1
 obtain ⟨b,rfl,_⟩:=a2U (k:=.i64) (by kernel_rfl) h2
 obtain ⟨c,rfl,_⟩:=a2U (k:=.i64) (by kernel_rfl) h3
 obtain ⟨d,rfl,_⟩:=a2U (k:=.i64) (by kernel_rfl) h4
 obtain ⟨e,rfl,_⟩:=a2U (k:=.i64) (by kernel_rfl) h5
 obtain ⟨f,rfl,_⟩:=a2U (k:=.i64) (by kernel_rfl) h6
 exact ⟨a,b,c,d,e,f,rfl⟩
theorem b4P:∀ (n:Nat) (ps:List PV),a1d Try.prog n 26 ps->∃ e,IsE e ps/\9*e.size<=PV.wts ps:=by
 intro n
 induction n using Nat.strongRecOn with
 | _ n ih =>
 intro ps h
 obtain ⟨m,hm,h⟩:=b1j Try.underlying26 h
 simp only [List.map_cons,List.map_nil,a3L] at h
 obtain ⟨_,_,rfl,h1,_,_,rfl,h2,_,_,rfl,h3,_,_,rfl,h4,rfl⟩:=h
 obtain ⟨op,rfl,_⟩:=a2U (k:=.i64) (by kernel_rfl) h1
 obtain ⟨a,b,c,d,e,f,rfl⟩:=b2L h2
 obtain ⟨v,rfl,_⟩:=a2U (k:=.i64) (by kernel_rfl) h3
 obtain ⟨k,rows,hk,rfl,hr⟩:=b1F (e:=26) (by kernel_rfl) h4
 obtain ⟨l,hl,hs⟩:=b5Y (fun r hr'=>ih k (by omega) r (hr r hr'))
 have hc:Try.prog.cellsOf 26=9:=by kernel_rfl
 rw [hc]
 refine ⟨.node op a b c d e f v l,?_,?_⟩
 ·simp only [IsE]
  exact ⟨_,rows,rfl,by simp [PV.rowsOf],hl⟩
 ·simp only [Ex.size,Q3,Q2,Q1,PV.wts,PV.wt]; omega
end Go.Proofs.Ytdadenjndpbppaa
