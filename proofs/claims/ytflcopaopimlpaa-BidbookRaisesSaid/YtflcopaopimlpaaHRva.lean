/- The examples of the chapter on revealed preference. -/
import Derived.Test.YtflcopaopimlpaaHSys
import Derived.Test.YtflcopaopimlpaaHTxe
set_option linter.unusedSimpArgs false
set_option linter.unusedVariables false
open Go.Sx.PT renaming ev → Z1
open Go.Sx.BE renaming safe → Z2, pe → Z3, all → Zz
open Go.Sx.IE renaming pe → Z4
open Go.Sx renaming PEnv.at → Z5
open Go.Sx.PEnv renaming push → Zt
open List renaming getD_cons_zero → Z6, getD_cons_succ → Z7, getElem?_cons_zero → Z8, getElem?_cons_succ → Z9, drop_zero → Zf, length_cons → Zg, length_nil → Zh, take_succ_cons → Zm, take_zero → Zn, cons_append → Zu, nil_append → Zv, append_nil → Zw, map_cons → ZD, map_nil → ZE
open Go.Sx renaming a0y → Za, a0A → Zb, a0o → Zc, a0z → Zd, a0w → Zo, a0p → Zp, a0x → Zq
open Nat renaming add_zero → Ze, le_refl → Zi
open Bool renaming false_eq_true → Zl, and_self → ZA, not_true → ZB, not_false → ZC
open Option renaming map_some → Zr, bind_some → Zs
open Go.Sx.SV renaming pvs → Zx, pv → Zy
open Option renaming bind_some → Q0
set_option maxRecDepth 100000
namespace Go.Proofs.Ytflcopaopimlpaa
open Go.Sx
end Go.Proofs.Ytflcopaopimlpaa
set_option maxRecDepth 100000
namespace Go.Proofs.Ytflcopaopimlpaa
open Go.Sx
structure W6 where
 (a b c d e f:Int)
def W6.pv (x:W6):List PV:=[.int .i64 x.a,.int .i64 x.b,.int .i64 x.c,.int .i64 x.d,.int .i64 x.e,.int .i64 x.f]
def W6.ok (w:W6):Prop:=0<=w.a/\w.a<=4/\0<=w.b/\w.b<=4/\0<=w.c/\w.c<=4/\0<=w.d/\w.d<=4/\0<=w.e/\w.e<=4/\0<=w.f/\w.f<=4
instance (w:W6):Decidable w.ok:=by unfold W6.ok; infer_instance
def W6.pok (w:W6):Prop:=0<=w.a/\w.a<=1000000/\0<=w.b/\w.b<=1000000/\0<=w.c/\w.c<=1000000/\0<=w.d/\w.d<=1000000/\0<=w.e/\w.e<=1000000/\0<=w.f/\w.f<=1000000
instance (w:W6):Decidable w.pok:=by unfold W6.pok; infer_instance
def a4u (w:W6):Int:=if w.ok then 0 else 4
structure Ch where
 (p w:W6)
def Ch.row (c:Ch):List PV:=c.p.pv++c.w.pv
def Ch.ok (c:Ch):Prop:=c.p.pok/\c.w.ok
instance (c:Ch):Decidable c.ok:=by unfold Ch.ok; infer_instance
theorem a6o (σ:List MO) (w:W6) (n:Nat) (hn:1<=n):a0B Tab n a5K [.agg w.pv] σ=some (.int .i64 (a4u w),σ):=by
 obtain ⟨n,rfl⟩:∃ k,n=k+1:=⟨n-1,by omega⟩
 simp only [a0B,b5u,Q0,Sys.run,W6.pv]
 show ((a0E [.sh (.agg [_,_,_,_,_,_])] _).bind _)=_
 simp only [a0E,a0x,a0w,Option.map_some,Q0,List.append_nil,List.nil_append,List.cons_append,if_true]
 show (PT.ev _ a7x _).bind _=_
 simp -implicitDefEqProofs only [a7x,↓reduceIte,eq_self,Z1,Z2,Z3,Z4,Z5,Z6,Z7,Z8,Z9,Za,Zb,Zc,Zd,Ze,Zf,Zg,Zh,Nat.reduceAdd,Zi,if_true,if_false,Zl,Zm,Zn,Zo,Zp,Zq,Zr,Zs,Zt,Zu,Zv,Zw,Zx,Zy,Zz,ZA,ZB,ZC,ZD,ZE,a0D,or_true]
 obtain ⟨a,b,c,d,e,f⟩:=w
 simp only [a0U,a4u]
 by_cases hok:(⟨a,b,c,d,e,f⟩:W6).ok
 ·rw [if_pos hok]
  simp only [W6.ok] at hok
  repeat rw [if_neg (by omega)]
  rfl
 ·rw [if_neg hok]
  simp only [W6.ok] at hok
  by_cases h1:a < 0
  ·rw [if_pos h1]; rfl
  rw [if_neg h1]
  by_cases h2:4 < a
  ·rw [if_pos h2]; rfl
  rw [if_neg h2]
  by_cases h3:b < 0
  ·rw [if_pos h3]; rfl
  rw [if_neg h3]
  by_cases h4:4 < b
  ·rw [if_pos h4]; rfl
  rw [if_neg h4]
  by_cases h5:c < 0
  ·rw [if_pos h5]; rfl
  rw [if_neg h5]
  by_cases h6:4 < c
  ·rw [if_pos h6]; rfl
  rw [if_neg h6]
  by_cases h7:d < 0
  ·rw [if_pos h7]; rfl
  rw [if_neg h7]
  by_cases h8:4 < d
  ·rw [if_pos h8]; rfl
  rw [if_neg h8]
  by_cases h9:e < 0
  ·rw [if_pos h9]; rfl
  rw [if_neg h9]
  by_cases h10:4 < e
  ·rw [if_pos h10]; rfl
  rw [if_neg h10]
  by_cases h11:f < 0
  ·rw [if_pos h11]; rfl
  rw [if_neg h11]
  by_cases h12:4 < f
  ·rw [if_pos h12]; rfl
  rw [if_neg h12]
  exfalso; omega
end Go.Proofs.Ytflcopaopimlpaa
