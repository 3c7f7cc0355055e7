/- slices.Delete and slices.Clone at offers: the library's text, walked. -/
import Derived.Test.YtggjcdnailppoaaHTab
import Derived.Test.YtggjcdnailppoaaHTy
import Derived.Shelf.RegionOpenPlain
import Derived.WalkKit
import Derived.Deep.LoopGhost
import Derived.Deep.RegionLaw
import Derived.Lib.Walk
import Derived.Sort.WalkB12
import Derived.Lib.SliceRun
import Derived.Test.YtggjcdnailppoaaHRca
set_option linter.unusedSimpArgs false
set_option linter.unusedVariables false
open Go.Sx.BE renaming safe → Z2, pe → Z3, all → Zz
open Go.Sx.IE renaming pe → Z4
open Go.Sx renaming PEnv.at → Z5
open Go.Sx.PEnv renaming push → Zt
open List renaming getD_cons_zero → Z6, getD_cons_succ → Z7, getElem?_cons_zero → Z8, getElem?_cons_succ → Z9, drop_zero → Zf, length_cons → Zg, length_nil → Zh, take_succ_cons → Zm, take_zero → Zn, cons_append → Zu, nil_append → Zv, append_nil → Zw, map_cons → ZD, map_nil → ZE
open Go.Sx renaming a0i → Za, a0k → Zb, a0b → Zc, a0j → Zd, a0c → Zo, a0a → Zp, a0d → Zq, a0z → ZF, a0B → ZG, a0r → ZH, a0q → ZI, a0x → ZJ, a0w → ZK, a0o → ZL, a0A → ZM, a0p → ZN, a0u → ZO, a0m → ZP, a0v → ZQ, a0y → ZR, a0g → ZS, a0s → ZT, a0l → ZU, a0f → ZV, a0e → ZW, a0h → ZX, a0t → ZY
open Nat renaming add_zero → Ze, le_refl → Zi
open Bool renaming false_eq_true → Zl, and_self → ZA, not_true → ZB, not_false → ZC
open Option renaming map_some → Zr, bind_some → Zs
open Go.Sx.SV renaming pvs → Zx, pv → Zy
open Option renaming bind_some → Q0
open List renaming length_map → Q1
namespace Go.Proofs.Ytggjcdnailppoaa
open Go.Shelf Go.RowKit Go.Lib Go.Sort Go.Sx Go.Proofs
theorem c0h (w:World):(zeroValue 33).run Try.prog w=.ok (.agg (O8.enc O8.zero).toArray) w:=Try.zeroValue33 w
theorem b9a:(Value.agg (O8.enc O8.zero).toArray).cells=(O8.enc O8.zero).toArray:=by kernel_rfl
theorem b6b {w:World} {b T:Nat} {cur:Array Value} (hb:w.heap[b]?=some (.cells cur T (0,0))) {j:Nat} {u:Value} (h:cur[j]?=some u):w.cell? ⟨b,j,none⟩=some u:=by simp [World.cell?,hb,h]
theorem b3l {w:World} {b T:Nat} {cur:Array Value} (hb:w.heap[b]?=some (.cells cur T (0,0))) {j:Nat} (h:j < cur.size):(w.cell? ⟨b,j,none⟩).isSome=true/\w.frozen? ⟨b,j,none⟩=false:=by
 rw [b6b hb (Array.getElem?_eq_getElem h)]
 exact ⟨rfl,by simp [World.frozen?,hb]⟩
end Go.Proofs.Ytggjcdnailppoaa
set_option maxRecDepth 100000
namespace Go.Proofs.Ytggjcdnailppoaa
open Go.Sx
def prim (F:List PV->List MO->Option (PV × List MO)):Sx.Sys:=⟨[],.stuck,[],some F,none⟩
def c0B:List PV->List MO->Option (PV × List MO):=a0n Tab 5000 a2d
theorem b9G (F:List PV->List MO->Option (PV × List MO)) (Φ:Fns) (n:Nat) (a:List PV) (σ:List MO):Sys.run Φ (prim F) n a σ=F a σ:=rfl
def Of.o8 (o:Of):O8:=⟨o.n,o.w.a,o.w.b,o.w.c,o.w.d,o.w.e,o.w.f,o.v⟩
theorem b2d (l:List Of):(l.map Of.o8).map O8.row=l.map Of.row:=by rw [List.map_map]; rfl
theorem b3n (l:List Of):a5g (l.map Of.row)=some (l.map Of.o8):=by rw [<- b2d]; exact b3P _
section
variable (l:List Ch) (P:PV) (hP:P.rowsOf 12=some (l.map Ch.row)) (hPl:P.low 0=true) (hl:l.length<=1000) (n:Nat)
end
end Go.Proofs.Ytggjcdnailppoaa
set_option maxRecDepth 100000
namespace Go.Proofs.Ytggjcdnailppoaa
open Go.Sx
section
variable (σ:List MO) (l:List Ch) (P:PV) (hP:P.rowsOf 12=some (l.map Ch.row)) (bids:List Of) (B:PV) (hB:B.rowsOf 8=some (bids.map Of.row)) (hl:l.length<=1000) (hb:bids.length<=1000)
theorem c0m (a b c d e f g h:PV):List.drop 1 [a,b,c,d,e,f,g,h]=[b,c,d,e,f,g,h]/\List.drop 7 [a,b,c,d,e,f,g,h]=[h]:=⟨rfl,rfl⟩
end
section
variable (σ:List MO) (l:List Ch) (P:PV) (hP:P.rowsOf 12=some (l.map Ch.row)) (hl:l.length<=1000) (n:Nat) (hn:5000<=n)
end
section
variable (σ:List MO) (a b:List Of) (X Y:PV) (hX:X.rowsOf 8=some (a.map Of.row)) (hY:Y.rowsOf 8=some (b.map Of.row)) (n:Nat)
def b8a (σ:List MO) (X Y:PV) (j:Int):PEnv:={ i:=[j],b:=[],v:=[X,Y],m:=σ,k:=σ.length }
include hX hY in
theorem b5l (hab:a=b) (hl:a.length<=1000):∀ d j,j+d=a.length->∀ fuel,saleroomlaw40_same_S.loop (a0n Tab n) (fuel+d+1) 0 (b8a σ X Y (j:Int))=some (.bool true,σ):=by
 subst hab
 obtain ⟨p1,p2,p3⟩:=a0O hX
 obtain ⟨r1,r2,r3⟩:=a0O hY
 rw [Q1] at p1 r1
 intro d
 induction d with
 | zero =>
  intro j hj fuel
  rw [Nat.add_zero] at hj; subst hj
  have hd:decide (a.length < a.length)=false:=by simp
  rw [Sys.loop,show saleroomlaw40_same_S.loops[0]?=some a1R from rfl]
  simp -implicitDefEqProofs only [Q0,b8a,a1R,↓reduceIte,eq_self,ZF,ZG,ZH,ZI,ZJ,ZK,ZL,ZM,ZN,ZO,ZP,ZQ,ZR,ZS,ZT,ZU,ZV,ZW,ZX,ZY,Z2,Z3,Z4,Z5,Z6,Z7,Z8,Z9,Za,Zb,Zc,Zd,Ze,Zf,Zg,Zh,Nat.reduceAdd,Zi,if_true,if_false,Zl,Zm,Zn,Zo,Zp,Zq,Zr,Zs,Zt,Zu,Zv,Zw,Zx,Zy,Zz,ZA,ZB,ZC,ZD,ZE,p1,p2,a0E,hd,a0P,or_true]
 | succ d ih =>
  intro j hj fuel
  obtain ⟨x,hx⟩:=a4g (show j < a.length by omega)
  have hd:decide (j < a.length)=true:=decide_eq_true (by omega)
  have hq:=a0U (off:=0) hX (a2E hx)
  have hr:=a0U (off:=0) hY (a2E hx)
  have hup:=a2r (show j<=1000000000 by omega)
  have ih:=ih (j+1) (by omega) fuel
  rw [a2C] at ih
  rw [<- ih,show fuel+(d+1)+1=(fuel+d+1)+1 from rfl,Sys.loop,show saleroomlaw40_same_S.loops[0]?=some a1R from rfl]
  simp -implicitDefEqProofs only [Q0,b8a,a1R,↓reduceIte,eq_self,ZF,ZG,ZH,ZI,ZJ,ZK,ZL,ZM,ZN,ZO,ZP,ZQ,ZR,ZS,ZT,ZU,ZV,ZW,ZX,ZY,Z2,Z3,Z4,Z5,Z6,Z7,Z8,Z9,Za,Zb,Zc,Zd,Ze,Zf,Zg,Zh,Nat.reduceAdd,Zi,if_true,if_false,Zl,Zm,Zn,Zo,Zp,Zq,Zr,Zs,Zt,Zu,Zv,Zw,Zx,Zy,Zz,ZA,ZB,ZC,ZD,ZE,p1,p2,r1,r2,a0E,hd,le0,hq,hr,a2F,Nat.reduceLeDiff,a4c,if_pos hup]
include hX hY in
theorem b2s (hab:a=b) (hl:a.length<=1000) (hn:1010<=n):a0n Tab n a3u [X,Y] σ=some (.bool true,σ):=by
 obtain ⟨n,rfl⟩:∃ k,n=k+1:=⟨n-1,by omega⟩
 obtain ⟨p1,p2,p3⟩:=a0O hX
 obtain ⟨r1,r2,r3⟩:=a0O hY
 rw [Q1] at p1 r1
 obtain ⟨f,hf⟩:∃ f,n=f+a.length+1:=⟨n-a.length-1,by omega⟩
 have k:=b5l σ a b X Y hX hY n hab hl a.length 0 (by omega) f
 rw [<- hf] at k
 subst hab
 rw [a0n]
 simp only [a7L,Q0,Sys.run]
 show ((a0D [.sh (.one _),.sh (.one _)] _).bind _)=_
 simp -implicitDefEqProofs only [a0D,a0d,a0c,Option.map_some,Q0,List.append_nil,List.nil_append,List.cons_append,if_true,p3,r3]
 show (PT.ev _ a3r _).bind _=_
 simp -implicitDefEqProofs only [a3r,↓reduceIte,eq_self,ZF,ZG,ZH,ZI,ZJ,ZK,ZL,ZM,ZN,ZO,ZP,ZQ,ZR,ZS,ZT,ZU,ZV,ZW,ZX,ZY,Z2,Z3,Z4,Z5,Z6,Z7,Z8,Z9,Za,Zb,Zc,Zd,Ze,Zf,Zg,Zh,Nat.reduceAdd,Zi,if_true,if_false,Zl,Zm,Zn,Zo,Zp,Zq,Zr,Zs,Zt,Zu,Zv,Zw,Zx,Zy,Zz,ZA,ZB,ZC,ZD,ZE,p1,p2,r1,r2,a4c]
 exact k
end
end Go.Proofs.Ytggjcdnailppoaa
