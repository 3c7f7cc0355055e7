/- SX: a symbolic executor over the model's code, and what its data mean. -/
import Derived.Calls
import Derived.Tactics
import Derived.Below
import Derived.Orders
import Derived.KernelRfl
import Derived.OrdersHeld
import Derived.Laws.World
import Derived.Laws.Sem
import Derived.Laws.AppendOwn
import Derived.AtR
import Derived.Laws.StructEq
import Derived.Laws.Cells
import Derived.MapKept
import Derived.Maps.RangeRun
import Derived.Laws.IdiomRangeMap
import Derived.Laws.MakeOwn
set_option linter.unusedSimpArgs false
set_option linter.unusedVariables false
open Option.some renaming injEq → Q0
open Prod.mk renaming injEq → Q1, inj → Qa
open Bool renaming and_eq_true → Q2, false_eq_true → Q7, not_eq_true' → Qq, eq_iff_iff → Qw
open Option renaming map_eq_some_iff → Q3, map_some → Qh, getD_some → Qt, isSome_iff_exists → Qv, bind_eq_some_iff → QB
open List renaming mem_singleton → Q4, map_cons → Q5, range → Q6, getElem?_map → Q8, mem_map → Q9, mem_of_getElem? → Qe, ext_getElem? → Qf, size_toArray → Qg, getElem?_append_left → Qm, getD → Qn, length_cons → Qr, getElem?_set → Qs, all_eq_true → Qu, mapM_cons → QA, getElem?_take → QC, getElem?_drop → QD, replicate → QH, map_append → QJ
open Array renaming getElem?_toList → Qb, ext' → Qk, toList_push → Qy, replicate → Qz, toList_inj → QE, getElem?_modify → QK
open Nat renaming beq → Qd, add_assoc → Qj
open List.cons renaming injEq → Qp
namespace Go.Sx
abbrev Hp:=Nat->Nat->Option Value
def Hp.le (s t:Hp):Prop:=∀ b o u,s b o=some u->t b o=some u
theorem Hp.le_refl (s:Hp):s.le s:=fun _ _ _ h=>h
theorem Hp.le_trans {s t u:Hp} (h:s.le t) (k:t.le u):s.le u:=fun b o v x=>k b o v (h b o v x)
def Sub (s:Hp) (w:World):Prop:=∀ b o u,s b o=some u->w.cell? ⟨b,o,none⟩=some u
def New (B:Nat) (s t:Hp):Prop:=∀ b o u,t b o=some u->s b o=none->B<=b
def a4Q:Value->Int
 | .slice _ n _=>n
 | _=>0
def a1s (s:Hp) (size:Nat) (v:Value) (xs:List (List Value)):Prop :=
 (∀ x∈xs,x.length=size)/\∃ a cap,v=.slice a xs.length cap/\xs.length<=cap /\
  (xs≠[]->∃ b o,a=some ⟨b,o,none⟩/\∀ i x,xs[i]?=some x->∀ j u,x[j]?=some u->s b (o+i*size+j)=some u)
theorem a1s.mono {s t:Hp} (h:s.le t) {size v xs} (k:a1s s size v xs):a1s t size v xs:=by
 obtain ⟨h1,a,cap,h2,hc,h3⟩:=k
 refine ⟨h1,a,cap,h2,hc,fun hx=>?_⟩
 obtain ⟨b,o,ha,h4⟩:=h3 hx
 exact ⟨b,o,ha,fun i x hi j u hj=>h _ _ _ (h4 i x hi j u hj)⟩
abbrev vd:Value:=.bool false
structure Env where
 i:List Int
 b:List Bool
 v:List Value
 j:List Value
 m:List (Nat × Obj):=[]
 k:Nat:=0
inductive IE where
 | a (n:Nat)
 | l (z:Int)
 | add (x y:IE)
 | sub (x y:IE)
 | mul (x y:IE)
 | tdiv (x y:IE)
 | tmod (x y:IE)
 | mn (x y:IE)
 | mx (x y:IE)
 | ifeq (a b x y:IE)
 | wr (k:IntKind) (x:IE)
 | slen (n:Nat)
 | stl (n:Nat)
 | sat (n:Nat) (i:IE)
 deriving DecidableEq,Inhabited
def b7n (a b x y:Int):Int:=if a=b then x else y
def mnI (x y:Int):Int:=if y < x then y else x
def mxI (x y:Int):Int:=if y > x then y else x
def ltB (x y:Int):Bool:=decide (x < y)
def leB (x y:Int):Bool:=decide (x<=y)
def eqB (x y:Int):Bool:=decide (x=y)
theorem a0U {x y:Int}:ltB x y=true↔x < y:=by simp [ltB]
theorem a2n {x y:Int}:leB x y=true↔x<=y:=by simp [leB]
theorem a8O {x y:Int}:eqB x y=true↔x=y:=by simp [eqB]
theorem a0I {x y:Int}:ltB x y=false↔¬ x < y:=by simp [ltB]
theorem a3H {x y:Int}:leB x y=false↔¬ x<=y:=by simp [leB]
theorem b3H {x y:Int}:eqB x y=false↔¬ x=y:=by simp [eqB]
def b0Q:Value->Int
 | .string b=>b.data.toList.length
 | _=>0
def b5R:Value->Int->Int
 | .string b,i=>(((b.data.toList[i.toNat]?).getD 0).toNat:Int)
 | _,_=>0
def b4e:Value->Value->Bool
 | .string a,.string b=>decide (a.data.toList=b.data.toList)
 | _,_=>false
def b6c (l:List UInt8):Value->Bool
 | .string a=>decide (a.data.toList=l)
 | _=>false
def IE.den (ρ:Env):IE->Int
 | .a n=>ρ.i.getD n 0
 | .l z=>z
 | .add x y=>x.den ρ+y.den ρ
 | .sub x y=>x.den ρ-y.den ρ
 | .mul x y=>x.den ρ*y.den ρ
 | .tdiv x y=>(x.den ρ).tdiv (y.den ρ)
 | .tmod x y=>(x.den ρ).tmod (y.den ρ)
 | .mn x y=>mnI (x.den ρ) (y.den ρ)
 | .mx x y=>mxI (x.den ρ) (y.den ρ)
 | .ifeq p q x y=>b7n (p.den ρ) (q.den ρ) (x.den ρ) (y.den ρ)
 | .wr k x=>k.wrap (x.den ρ)
 | .slen n=>a4Q (ρ.v.getD n vd)
 | .stl n=>b0Q (ρ.v.getD n vd)
 | .sat n i=>b5R (ρ.v.getD n vd) (i.den ρ)
inductive BE where
 | t (b:Bool)
 | a (n:Nat)
 | lt (x y:IE)
 | le (x y:IE)
 | eq (x y:IE)
 | not (x:BE)
 | and (x y:BE)
 | or (x y:BE)
 | nil (n:Nat)
 | is (k n:Nat)
 | seq (n m:Nat)
 | sis (n:Nat) (l:List UInt8)
 deriving DecidableEq,Inhabited
def b1a:Value->Bool
 | .slice none _ _=>true
 | .nilFunc=>true
 | .pointer none=>true
 | _=>false
def a4w:Nat->Value->Bool
 | 0,.slice _ _ _=>true
 | 1,.pointer (some _)=>true
 | 2,.func _ _ _=>true
 | 2,.nilFunc=>true
 | 3,.string _=>true
 | 4,.pointer _=>true
 | _,_=>false
def BE.den (ρ:Env):BE->Bool
 | .t b=>b
 | .a n=>ρ.b.getD n false
 | .lt x y=>ltB (x.den ρ) (y.den ρ)
 | .le x y=>leB (x.den ρ) (y.den ρ)
 | .eq x y=>eqB (x.den ρ) (y.den ρ)
 | .not x=>!x.den ρ
 | .and x y=>x.den ρ&&y.den ρ
 | .or x y=>x.den ρ||y.den ρ
 | .nil n=>b1a (ρ.v.getD n vd)
 | .is k n=>a4w k (ρ.v.getD n vd)
 | .seq n m=>b4e (ρ.v.getD n vd) (ρ.v.getD m vd)
 | .sis n l=>b6c l (ρ.v.getD n vd)
inductive SV where
 | int (k:IntKind) (e:IE)
 | bool (b:BE)
 | va (n:Nat)
 | junk (n:Nat)
 | str (s:List UInt8)
 | undef
 | nilS | nilF | nilP | nilI | nilM
 | ptr (k off:Nat)
 | sl (k len:Nat)
 | slc (k len cap:Nat)
 | ea (n:Nat) (i:IE) (size off:Nat)
 | pa (n off:Nat)
 | agg (cs:List SV)
 | tup (cs:List SV)
 | fn (f n:Nat) (cap:List SV)
 | fs (n:Nat)
 deriving Inhabited
def b8x:Value->Value
 | .slice a n _=>.slice a n n
 | v=>v
def a1D:Value->Option Addr
 | .slice a _ _=>a
 | .pointer a=>a
 | _=>none
mutual
def SV.den (ρ:Env) (β:Nat->Nat):SV->Value
 | .int k e=>.int k (e.den ρ)
 | .bool b=>.bool (b.den ρ)
 | .va n=>ρ.v.getD n vd
 | .junk n=>ρ.j.getD n Go.undef
 | .str s=>.string ⟨s.toArray⟩
 | .undef=>Go.undef
 | .nilS=>.slice none 0 0
 | .nilF=>.nilFunc
 | .nilP=>.pointer none
 | .nilI=>.nilIface
 | .nilM=>.map none
 | .ptr k off=>.pointer (some ⟨β k,off,none⟩)
 | .sl k len=>.slice (some ⟨β k,0,none⟩) len len
 | .slc k len cap=>.slice (some ⟨β k,0,none⟩) len cap
 | .ea n i size off=>.pointer (some ((((a1D (ρ.v.getD n vd)).getD ⟨0,0,none⟩).add ((i.den ρ).toNat*size)).add off))
 | .pa n off=>.pointer (some (((a1D (ρ.v.getD n vd)).getD ⟨0,0,none⟩).add off))
 | .agg cs=>.agg (SV.dens ρ β cs).toArray
 | .tup cs=>.tuple (SV.dens ρ β cs).toArray
 | .fn f n cap=>.func (.func f) ((SV.dens ρ β cap).take n).toArray ((SV.dens ρ β cap).drop n).toArray
 | .fs n=>b8x (ρ.v.getD n vd)
def SV.dens (ρ:Env) (β:Nat->Nat):List SV->List Value
 | []=>[]
 | x::l=>x.den ρ β::SV.dens ρ β l
end
mutual
def SV.beq:SV->SV->Bool
 | .int k e,.int k' e'=>decide (k=k')&&decide (e=e')
 | .bool b,.bool b'=>decide (b=b')
 | .va n,.va n'=>decide (n=n')
 | .junk n,.junk n'=>decide (n=n')
 | .str s,.str s'=>decide (s=s')
 | .undef,.undef | .nilS,.nilS | .nilF,.nilF | .nilP,.nilP | .nilI,.nilI | .nilM,.nilM=>true
 | .ptr k o,.ptr k' o'=>decide (k=k')&&decide (o=o')
 | .sl k o,.sl k' o'=>decide (k=k')&&decide (o=o')
 | .slc k o q,.slc k' o' q'=>decide (k=k')&&decide (o=o')&&decide (q=q')
 | .ea n i s o,.ea n' i' s' o'=>decide (n=n')&&decide (i=i')&&decide (s=s')&&decide (o=o')
 | .pa k o,.pa k' o'=>decide (k=k')&&decide (o=o')
 | .agg c,.agg c'=>SV.beqs c c'
 | .tup c,.tup c'=>SV.beqs c c'
 | .fn f n c,.fn f' n' c'=>decide (f=f')&&decide (n=n')&&SV.beqs c c'
 | .fs n,.fs n'=>decide (n=n')
 | _,_=>false
def SV.beqs:List SV->List SV->Bool
 | [],[]=>true
 | x::l,y::m=>SV.beq x y&&SV.beqs l m
 | _,_=>false
end
theorem SV.dens_map (ρ:Env) (β:Nat->Nat) (l:List SV):SV.dens ρ β l=l.map (SV.den ρ β):=by
 induction l with
 | nil=>rfl
 | cons x l ih=>simp [SV.dens,ih]
mutual
theorem SV.eq_of_beq:∀ x y:SV,SV.beq x y=true->x=y
 | .int ..,y,h=>by cases y<;>simp [SV.beq] at h; obtain ⟨rfl,rfl⟩:=h; rfl
 | .bool ..,y,h=>by cases y<;>simp [SV.beq] at h; subst h; rfl
 | .va ..,y,h=>by cases y<;>simp [SV.beq] at h; subst h; rfl
 | .junk ..,y,h=>by cases y<;>simp [SV.beq] at h; subst h; rfl
 | .str ..,y,h=>by cases y<;>simp [SV.beq] at h; subst h; rfl
 | .undef,y,h=>by cases y<;>simp [SV.beq] at h; rfl
 | .nilS,y,h=>by cases y<;>simp [SV.beq] at h; rfl
 | .nilF,y,h=>by cases y<;>simp [SV.beq] at h; rfl
 | .nilP,y,h=>by cases y<;>simp [SV.beq] at h; rfl
 | .nilI,y,h=>by cases y<;>simp [SV.beq] at h; rfl
 | .nilM,y,h=>by cases y<;>simp [SV.beq] at h; rfl
 | .ptr ..,y,h=>by cases y<;>simp [SV.beq] at h; obtain ⟨rfl,rfl⟩:=h; rfl
 | .sl ..,y,h=>by cases y<;>simp [SV.beq] at h; obtain ⟨rfl,rfl⟩:=h; rfl
 | .slc ..,y,h=>by cases y<;>simp [SV.beq] at h; obtain ⟨⟨rfl,rfl⟩,rfl⟩:=h; rfl
 | .ea ..,y,h=>by cases y<;>simp [SV.beq] at h; obtain ⟨⟨⟨rfl,rfl⟩,rfl⟩,rfl⟩:=h; rfl
 | .pa ..,y,h=>by cases y<;>simp [SV.beq] at h; obtain ⟨rfl,rfl⟩:=h; rfl
 | .agg c,y,h=>by cases y<;>simp [SV.beq] at h; rw [SV.eq_of_beqs _ _ h]
 | .tup c,y,h=>by cases y<;>simp [SV.beq] at h; rw [SV.eq_of_beqs _ _ h]
 | .fn f n c,y,h=>by cases y<;>simp [SV.beq] at h; obtain ⟨⟨rfl,rfl⟩,h⟩:=h; rw [SV.eq_of_beqs _ _ h]
 | .fs ..,y,h=>by cases y<;>simp [SV.beq] at h; subst h; rfl
theorem SV.eq_of_beqs:∀ x y:List SV,SV.beqs x y=true->x=y
 | [],y,h=>by cases y<;>simp [SV.beqs] at h; rfl
 | x::l,y,h=>by
  cases y with
  | nil=>simp [SV.beqs] at h
  | cons y m =>
   simp [SV.beqs] at h
   rw [SV.eq_of_beq _ _ h.1,SV.eq_of_beqs _ _ h.2]
end
theorem IE.den_m (ρ:Env) (m:List (Nat × Obj)) (k:Nat) (e:IE):e.den { ρ with m:=m,k:=k }=e.den ρ:=by
 induction e<;>simp_all [IE.den]
theorem BE.den_m (ρ:Env) (m:List (Nat × Obj)) (k:Nat) (e:BE):e.den { ρ with m:=m,k:=k }=e.den ρ:=by
 induction e<;>simp_all [BE.den,IE.den_m]
mutual
theorem SV.den_m (ρ:Env) (m:List (Nat × Obj)) (k:Nat) (β:Nat->Nat):∀ v:SV,v.den { ρ with m:=m,k:=k } β=v.den ρ β
 | .int _ e=>by simp only [SV.den,IE.den_m]
 | .bool b=>by simp only [SV.den,BE.den_m]
 | .va _=>rfl
 | .junk _=>rfl
 | .str _=>rfl
 | .undef=>rfl
 | .nilS=>rfl
 | .nilF=>rfl
 | .nilP=>rfl
 | .nilI=>rfl
 | .nilM=>rfl
 | .ptr ..=>rfl
 | .sl ..=>rfl
 | .slc ..=>rfl
 | .ea _ i _ _=>by simp only [SV.den,IE.den_m]
 | .pa ..=>rfl
 | .agg cs=>by simp only [SV.den,SV.dens_m ρ m k β cs]
 | .tup cs=>by simp only [SV.den,SV.dens_m ρ m k β cs]
 | .fn _ _ cs=>by simp only [SV.den,SV.dens_m ρ m k β cs]
 | .fs _=>rfl
theorem SV.dens_m (ρ:Env) (m:List (Nat × Obj)) (k:Nat) (β:Nat->Nat):∀ l:List SV,SV.dens { ρ with m:=m,k:=k } β l=SV.dens ρ β l
 | []=>rfl
 | x::l=>by simp only [SV.dens,SV.den_m ρ m k β x,SV.dens_m ρ m k β l]
end
end Go.Sx
namespace Go.Sx
inductive Kd where
 | int (k:IntKind) | bool | val
 deriving DecidableEq,Inhabited
inductive Sh where
 | one (k:Kd) | agg (ks:List Kd)
 deriving Inhabited
inductive Ty where
 | int (k:IntKind) | bool | str | arr (n elem:Nat) | st (fs:List (Nat × Nat)) | slice (elem:Nat) | ptr (elem:Nat) | func | other
 deriving Inhabited
structure TI where
 ty:Ty
 size:Nat
 bytes:Nat
 zero:List SV
 ks:List Kd
 eq:Bool
 deriving Inhabited
structure MT where
 k:IntKind
 kt:Nat
 e:Nat
 dflt:SV
 sh:Sh
 deriving Inhabited
structure QT where
 kt:Nat
 n:Nat
 e:Nat
 deriving Inhabited
def TI.isAgg (i:TI):Bool:=match i.ty with | .arr .. | .st ..=>true | _=>false
structure Ctx where
 tab:Nat->Option TI
 rets:Nat->List Nat
 fok:Nat->Bool
 nw:Bool
 stops:List (List Bool)
 cstops:List (List Bool × Nat):=[]
 leaf:Bool:=false
 hole:Bool:=false
 rowl:Bool:=false
 amb:List Nat:=[]
 live:Bool:=false
 nofl:Bool:=false
 gen:Bool:=false
 vrets:List (Nat × List Nat):=[]
 mtab:Nat->Option MT:=fun _=>none
 qtab:Nat->Option QT:=fun _=>none
 qw:Nat:=6
 joins:List (List Bool):=[]
 noflT:List Nat:=[]
inductive PI where
 | code (p:List Bool)
 | inBlock (id:Nat)
 | inLoop (p:List Bool)
 | inScope (p:List Bool)
 | reg (p:List Bool) (is:List Nat)
 | dreg (p:List Bool) (done:List Nat) (ks:List Nat)
 | begin
 deriving DecidableEq,Inhabited
inductive Blk where
 | cells (cs:List SV) (T:Nat) (shut:Bool)
 | row (n T size:Nat)
 deriving Inhabited
structure Cfg where
 todo:List PI
 sl:List SV
 H:List Blk
 ni:Nat
 nb:Nat
 nv:Nat
 nj:Nat:=0
 fs:List (List SV):=[]
 deriving Inhabited
inductive Src where
 | lit (es:List (List SV))
 | va (n:Nat)
 deriving Inhabited
inductive Out where
 | ret (gen:Bool) (v:SV) (H:List Blk)
 | ite (c:BE) (x y:Out)
 | need (c:BE) (k:Out)
 | load (fl:Bool) (a:SV) (cs:List SV) (di db dv:Nat) (k:Out)
 | app (dst:Option Nat) (src:Src) (size bytes:Nat) (k:Out)
 | cut (n:Nat) (lo hi:Option IE) (size:Nat) (k:Out)
 | chk (n size:Nat) (k:Out)
 | scut (n:Nat) (lo hi:Option IE) (k:Out)
 | appF (n:Nat) (src:Src) (size bytes:Nat) (k:Out)
 | hole (dst:Option Nat) (size bytes:Nat) (k:Out)
 | fill (n:Nat) (i:IE) (es:List SV) (size:Nat) (k:Out)
 | call (f:Nat) (args:List SV) (H:List Blk) (res:SV) (di db dv:Nat) (k:Out)
 | callv (n:Nat) (args:List SV) (res:SV) (di db dv:Nat) (k:Out)
 | newM (cs:List SV) (T:Nat) (k:Out)
 | mkM (n:IE) (zero:List SV) (T size bytes:Nat) (k:Out)
 | storeM (a:SV) (cs:List SV) (k:Out)
 | appM (d:SV) (src:Src) (size bytes T:Nat) (k:Out)
 | mkMap (K:IntKind) (k:Out)
 | mapGet (n:Nat) (K:IntKind) (key:IE) (dflt:SV) (ok:Bool) (res:SV) (di db dv:Nat) (k:Out)
 | mapSet (n:Nat) (K:IntKind) (key:IE) (val:SV) (k:Out)
 | mapClr (n:Nat) (k:Out)
 | mkQ (k:Out)
 | qGet (n:Nat) (key:List IE) (ok:Bool) (k:Out)
 | qSet (n:Nat) (key:List IE) (v:IE) (k:Out)
 | qDel (n:Nat) (key:List IE) (k:Out)
 | qLen (n:Nat) (k:Out)
 | rng (n:Nat) (k:Out)
 | next (n w:Nat) (x y:Out)
 | entry (n w:Nat) (k:Out)
 | copyM (d x size:Nat) (k:Out)
 | both (x y:Out)
 | stop (c:Cfg)
 | fail (why:String)
 deriving Inhabited
def b0k (d:Bool):Code->Code
 | .seq a b=>if d then b else a
 | .cond _ a b=>if d then b else a
 | .block _ c | .loop c | .scope c=>c
 | .rangeFunc _ _ a b=>if d then b else a
 | c=>c
def sub (body:Code):List Bool->Code
 | []=>body
 | d::p=>b0k d (sub body p)
def b8D:Value->Option SV
 | .int k n=>some (.int k (.l n))
 | .bool b=>some (.bool (.t b))
 | .string s=>some (.str s.data.toList)
 | .slice none 0 0=>some .nilS
 | .nilFunc=>some .nilF
 | .nilIface=>some .nilI
 | .map none=>some .nilM
 | .pointer none=>some .nilP
 | _=>none
def ofV:Value->Option SV
 | .agg cs=>(cs.toList.mapM b8D).map .agg
 | v=>b8D v
def ev (sl:List SV):Operand->Option SV
 | .tmp t=>sl[t]?
 | .const v=>ofV v
 | .func f=>some (.fn f 0 [])
 | .global _=>none
def evs (sl:List SV):List Operand->Option (List SV)
 | []=>some []
 | x::l=>match ev sl x,evs sl l with
  | some v,some vs=>some (v::vs)
  | _,_=>none
def IE.add':IE->IE->IE | .l x,.l y=>.l (x+y) | .l 0,y=>y | x,.l 0=>x | x,y=>.add x y
def IE.sub':IE->IE->IE | .l x,.l y=>.l (x-y) | x,y=>.sub x y
def IE.mul':IE->IE->IE | .l x,.l y=>.l (x*y) | x,y=>.mul x y
def BE.lt':IE->IE->BE | .l x,.l y=>.t (decide (x < y)) | x,y=>.lt x y
def BE.le':IE->IE->BE | .l x,.l y=>.t (decide (x<=y)) | x,y=>.le x y
def BE.eq':IE->IE->BE | .l x,.l y=>.t (decide (x=y)) | x,y=>.eq x y
def BE.not':BE->BE | .t b=>.t (!b) | .not x=>x | x=>.not x
def BE.and':BE->BE->BE | .t true,y=>y | .t false,_=>.t false | x,.t true=>x | x,y=>.and x y
def BE.or':BE->BE->BE | .t true,_=>.t true | .t false,y=>y | x,.t false=>x | x,y=>.or x y
def loI (k:IntKind):Int:=if k.signed then -(2 ^ (k.bits-1)) else 0
def hiI (k:IntKind):Int:=if k.signed then 2 ^ (k.bits-1)-1 else 2 ^ k.bits-1
def rng (k:IntKind) (e:IE):BE:=BE.and' (BE.le' (.l (loI k)) e) (BE.le' e (.l (hiI k)))
def fit (nw:Bool) (k:IntKind) (e:IE):List BE × SV:=if nw then ([rng k e],.int k e) else ([],.int k (.wr k e))
def a5N:List Kd->List SV->List SV->Option BE
 | [],[],[]=>some (.t true)
 | .int k0::ks,.int k x::l,.int k' y::m=>if k=k0/\k'=k0 then (a5N ks l m).map fun e=>BE.and' (BE.eq' x y) e else none
 | _,_,_=>none
def c1k (nw:Bool) (op:BinOp) (k:IntKind) (x y:IE):Option (List BE × SV) :=
 match op with
 | .add=>some (fit nw k (IE.add' x y))
 | .sub=>some (fit nw k (IE.sub' x y))
 | .mul=>some (fit nw k (IE.mul' x y))
 | .quo=>some (BE.not' (BE.eq' y (.l 0))::(fit nw k (.tdiv x y)).1,(fit nw k (.tdiv x y)).2)
 | .rem=>some ([BE.not' (BE.eq' y (.l 0))],.int k (.tmod x y))
 | .eql=>some ([],.bool (BE.eq' x y))
 | .neq=>some ([],.bool (BE.not' (BE.eq' x y)))
 | .lss=>some ([],.bool (BE.lt' x y))
 | .leq=>some ([],.bool (BE.le' x y))
 | .gtr=>some ([],.bool (BE.lt' y x))
 | .geq=>some ([],.bool (BE.le' y x))
 | _=>none
def c6W (c:Ctx) (op:BinOp) (t:Nat) (x y:SV):Option (List BE × SV) :=
 match x,y with
 | .int k a,.int k' b=>if k=k' then c1k c.nw op k a b else none
 | .agg l,.agg m =>
  match c.tab t with
  | some i=>if i.eq then
    match op,a5N i.ks l m with
    | .eql,some e=>some ([],.bool e)
    | .neq,some e=>some ([],.bool (BE.not' e))
    | _,_=>none
   else none
  | none=>none
 | _,_=>none
def c2n:SV->Option (List BE × IE)
 | .nilS=>some ([],.l 0)
 | .va n=>some ([.is 0 n],.slen n)
 | .sl _ n=>some ([],.l n)
 | .slc _ n _=>some ([],.l n)
 | _=>none
def Ctx.ty (c:Ctx) (t:Nat):Option Ty:=(c.tab t).map fun i=>i.ty
def c1J (ty:Option Ty) (x y:SV):Option (List BE × BE) :=
 match ty with
 | some (.slice _)=>match x,y with
  | .va n,.nilS=>some ([.is 0 n],.nil n)
  | .nilS,.nilS=>some ([],.t true)
  | .sl _ _,.nilS=>some ([],.t false)
  | _,_=>none
 | some .func=>match x,y with
  | .va n,.nilF=>some ([.is 2 n],.nil n)
  | .fn _ _ _,.nilF=>some ([],.t false)
  | .nilF,.nilF=>some ([],.t true)
  | _,_=>none
 | some .bool=>match x,y with
  | .bool a,.bool b=>some ([],BE.or' (BE.and' a b) (BE.and' (BE.not' a) (BE.not' b)))
  | _,_=>none
 | some (.ptr _)=>match x,y with
  | .va n,.nilP=>some ([.is 4 n],.nil n)
  | .pa _ _,.nilP=>some ([],.t false)
  | .ptr _ _,.nilP=>some ([],.t false)
  | .ea _ _ _ _,.nilP=>some ([],.t false)
  | .nilP,.nilP=>some ([],.t true)
  | _,_=>none
 | _=>none
def b9D (x y:SV):Option (List BE × BE) :=
 match x,y with
 | .va n,.va m=>some ([.is 3 n,.is 3 m],.seq n m)
 | .va n,.str l=>some ([.is 3 n],.sis n l)
 | .str a,.str b=>some ([],.t (decide (a=b)))
 | _,_=>none
def b3R (i:IE):Nat->List SV->Option IE
 | _,[]=>some (.l 0)
 | k,.int .i64 e::l=>(b3R i (k+1) l).map fun r=>.ifeq i (.l k) e r
 | _,_=>none
def a1g (H:List Blk) (k:Nat):Option (List SV × Nat) :=
 match H[k]? with
 | some (.cells cs T _)=>some (cs,T)
 | _=>none
def cellsOf:SV->List SV
 | .agg l=>l
 | v=>[v]
def SV.cok:SV->Bool
 | .junk _=>false
 | _=>true
def a5w (i:TI) (cs:List SV) (off:Nat):Option SV :=
 if i.isAgg then (if off+i.size<=cs.length then some (.agg ((cs.drop off).take i.size)) else none) else cs[off]?
def SV.flat:SV->Bool
 | .agg _ | .tup _ | .undef | .junk _ | .fs _=>false
 | _=>true
def a3N (cs:List SV) (off:Nat) (new:List SV):List SV:=cs.take off++new++cs.drop (off+new.length)
def a9s (place:Nat->Option (Nat × Nat)):List SV->List (Nat × SV)->Option (List SV)
 | cs,[]=>some cs
 | cs,(j,v)::l=>match place j with
  | some (off,size)=>if v.cok&&(cellsOf v).length=size&&off+size<=cs.length then a9s place (a3N cs off (cellsOf v)) l else none
  | none=>none
def b6Z (c:Ctx) (fs:List (Nat × Nat)) (j:Nat):Option (Nat × Nat) :=
 match fs[j]? with
 | some (off,ft)=>(c.tab ft).map fun fi=>(off,fi.size)
 | none=>none
def b2C (n:Nat) (j:Nat):Option (Nat × Nat):=some (j*n,n)
def b7e (c:Ctx) (sl:List SV) (t:Nat) (parts:List (Nat × Operand)):Option SV :=
 match c.tab t with
 | some i=>match evs sl (parts.map (·.2)) with
  | some vs=>match i.ty with
   | .st fs=>if fs.all (fun p=>(c.tab p.2).isSome) then (a9s (b6Z c fs) i.zero ((parts.map (·.1)).zip vs)).map .agg else none
   | .arr _ e=>match c.tab e with
    | some fi=>(a9s (b2C fi.size) i.zero ((parts.map (·.1)).zip vs)).map .agg
    | none=>none
   | _=>none
  | none=>none
 | none=>none
def b9y (c:Ctx) (H:List Blk) (t:Nat):SV->Option SV
 | .ptr k off=>match c.tab t,a1g H k with
  | some i,some (cs,_)=>a5w i cs off
  | _,_=>none
 | _=>none
def c1F (c:Ctx) (op:BinOp) (t:Nat) (a b:SV):Option (List BE × SV) :=
 match b9D a b with
 | some (ns,e)=>match op with | .eql=>some (ns,.bool e) | .neq=>some (ns,.bool (BE.not' e)) | _=>none
 | none =>
 match c1J (c.ty t) a b with
 | some (ns,e)=>match op with | .eql=>some (ns,.bool e) | .neq=>some (ns,.bool (BE.not' e)) | _=>none
 | none=>c6W c op t a b
def c3H (c:Ctx) (op:UnOp) (v:SV):Option (List BE × SV) :=
 match op,v with
 | .not,.bool b=>some ([],.bool (BE.not' b))
 | .neg,.int k e=>some (fit c.nw k (IE.sub' (.l 0) e))
 | _,_=>none
def b3f (c:Ctx) (dst:Nat) (v:SV):Option (List BE × SV) :=
 match c.ty dst,v with
 | some (.int k),.int _ e=>some (fit c.nw k e)
 | _,_=>none
def b0C (c:Ctx) (s f:Nat) (v:SV):Option SV :=
 match c.ty s with
 | some (.st fs)=>match fs[f]? with
  | some (off,ft)=>match c.tab ft with
   | some i=>if i.size == 0 then none else
    match v with
    | .ptr k o=>some (.ptr k (o+off))
    | .ea n i s o=>some (.ea n i s (o+off))
    | .pa n o=>some (.pa n (o+off))
    | _=>none
   | none=>none
  | none=>none
 | _=>none
def b7h (c:Ctx) (s f:Nat) (v:SV):Option SV :=
 match c.ty s,v with
 | some (.st fs),.agg cs=>match fs[f]? with
  | some (off,ft)=>match c.tab ft with
   | some i=>a5w i cs off
   | none=>none
  | none=>none
 | _,_=>none
def c1m (i:IE):Nat->List UInt8->IE
 | _,[]=>.l 0
 | k,b::l=>.ifeq i (.l k) (.l b.toNat) (c1m i (k+1) l)
def b7q (c:Ctx) (t:Nat) (x ix:SV):Option (List BE × SV) :=
 match c.ty t with
 | some (.arr n e)=>match c.tab e,x,ix with
  | some fi,.agg cs,.int _ (.l z)=>if 0<=z&&z < n then (a5w fi cs (z.toNat*fi.size)).map fun v=>([],v) else none
  | some fi,.agg cs,.int _ i=>if fi.size == 1&&n == cs.length&&!fi.isAgg then (b3R i 0 cs).map fun v=>([BE.and' (BE.le' (.l 0) i) (BE.lt' i (.l n))],.int .i64 v) else none
  | _,_,_=>none
 | some .str=>match x,ix with
  | .str bs,.int _ i=>some ([BE.and' (BE.le' (.l 0) i) (BE.lt' i (.l bs.length))],.int .u8 (c1m i 0 bs))
  | .va n,.int _ i=>some ([.is 3 n,BE.and' (BE.le' (.l 0) i) (BE.lt' i (.stl n))],.int .u8 (.sat n i))
  | _,_=>none
 | _=>none
def b0v (c:Ctx) (t:Nat) (x ix:SV):Option (List BE × SV) :=
 match c.ty t with
 | some (.arr n e)=>match c.tab e,x,ix with
  | some fi,.ptr b off,.int _ (.l z)=>if 0<=z&&z < n then some ([],.ptr b (off+z.toNat*fi.size)) else none
  | some fi,.ea m i s off,.int _ (.l z)=>if 0<=z&&z < n then some ([],.ea m i s (off+z.toNat*fi.size)) else none
  | some fi,.pa m off,.int _ (.l z)=>if 0<=z&&z < n then some ([],.pa m (off+z.toNat*fi.size)) else none
  | _,_,_=>none
 | some (.slice e)=>match c.tab e,x,ix with
  | some fi,.va n,.int _ i=>some ([BE.and' (BE.le' (.l 0) i) (BE.lt' i (.slen n))],.ea n i fi.size 0)
  | some fi,.sl b len,.int _ (.l z)=>if 0<=z&&z < len then some ([],.ptr b (z.toNat*fi.size)) else none
  | _,_,_=>none
 | _=>none
def pv (c:Ctx) (sl:List SV) (H:List Blk) (op:Op):Option (List BE × SV) :=
 match op with
 | .move x | .assign x=>(ev sl x).map fun v=>([],v)
 | .pick k a b =>
  match ev sl k,ev sl a,ev sl b with
  | some (.bool (.t k)),some x,some y=>some ([],if k then x else y)
  | _,_,_=>none
 | .build t parts=>(b7e c sl t parts.toList).map fun v=>([],v)
 | .load t a=>match ev sl a with
  | some a=>(b9y c H t a).map fun v=>([],v)
  | none=>none
 | .binOp op t x y _ =>
  match ev sl x,ev sl y with
  | some a,some b=>c1F c op t a b
  | _,_=>none
 | .unOp op _ x=>match ev sl x with
  | some v=>c3H c op v
  | none=>none
 | .convert src dst x=>match ev sl x,c.tab src with
  | some v,some _=>b3f c dst v
  | _,_=>none
 | .nilCheck x=>match ev sl x with
  | some (.va n)=>some ([.is 1 n],.pa n 0)
  | some (.ptr k o)=>some ([],.ptr k o)
  | some (.pa k o)=>some ([],.pa k o)
  | some (.ea n i s o)=>some ([],.ea n i s o)
  | some (.fn f n l)=>some ([],.fn f n l)
  | _=>none
 | .fieldAddr s x f=>match ev sl x with
  | some v=>(b0C c s f v).map fun v=>([],v)
  | none=>none
 | .field s x f=>match ev sl x with
  | some v=>(b7h c s f v).map fun v=>([],v)
  | none=>none
 | .index t x ix=>match ev sl x,ev sl ix with
  | some x,some i=>b7q c t x i
  | _,_=>none
 | .indexAddr t x ix=>match ev sl x,ev sl ix with
  | some x,some i=>b0v c t x i
  | _,_=>none
 | .extract x i=>match ev sl x with
  | some (.tup vs)=>(vs[i]?).map fun v=>([],v)
  | _=>none
 | .makeFunc (.func f) first cap=>match evs sl first.toList,evs sl cap.toList with
  | some us,some vs=>some ([],.fn f us.length (us++vs))
  | _,_=>none
 | .call { callee:=.builtin b,args:=a,argTypes:=ts } =>
  match b,evs sl a.toList,ts.toList with
  | .len,some [x],[t]=>match c.ty t,c2n x with
   | some (.slice _),some (ns,e)=>some (ns,.int .i64 e)
   | some .str,_=>match x with
    | .va n=>some ([.is 3 n],.int .i64 (.stl n))
    | _=>none
   | _,_=>none
  | .min,some [.int k x,.int _ y],_=>some ([],.int k (.mn x y))
  | .max,some [.int k x,.int _ y],_=>some ([],.int k (.mx x y))
  | _,_,_=>none
 | .slice t x none (some h) none =>
  match ev sl x,ev sl h,c.ty t with
  | some (.sl k n),some (.int _ (.l z)),some (.slice e)=>if (c.tab e).isSome&&0<=z&&z<=n then some ([],.slc k z.toNat n) else none
  | _,_,_=>none
 | _=>none
def b6u (c:Ctx) (sl:List SV) (k:Nat) (op:Op):Option (List SV × Nat × SV) :=
 match op with
 | .alloc t=>(c.tab t).map fun i=>(i.zero,t,.ptr k 0)
 | .box t x=>(ev sl x).bind fun v=>if v.cok then some (cellsOf v,t,.ptr k 0) else none
 | .buildSlice t len parts =>
  match c.ty t with
  | some (.slice e)=>match c.tab e,evs sl (parts.toList.map (·.2)) with
   | some i,some vs =>
    if len*i.size<=1000000&&0 < i.size then
     (a9s (b2C i.size) ((Q6 (len*i.size)).map fun j=>i.zero.getD (j % i.size) .undef) ((parts.toList.map (·.1)).zip vs)).map fun cs=>(cs,e,.sl k len)
    else none
   | _,_=>none
  | _=>none
 | _=>none
def a8A (c:Ctx) (sl:List SV) (H:List Blk) (op:Op):Option (Nat × Nat × List SV) :=
 match op with
 | .store t a x =>
  match c.tab t,ev sl a,ev sl x with
  | some i,some (.ptr k off),some v =>
   match H[k]? with
   | some (.cells cs _ false)=>if v.cok&&(cellsOf v).length=i.size&&off+i.size<=cs.length&&(cellsOf v).all SV.flat then some (k,off,cellsOf v) else none
   | _=>none
  | _,_,_=>none
 | _=>none
def a0Y:List Kd->(ni nb nv:Nat)->List SV × Nat × Nat × Nat
 | [],a,b,c=>([],a,b,c)
 | .int k::l,a,b,c=>let r:=a0Y l (a+1) b c; (.int k (.a a)::r.1,r.2)
 | .bool::l,a,b,c=>let r:=a0Y l a (b+1) c; (.bool (.a b)::r.1,r.2)
 | .val::l,a,b,c=>let r:=a0Y l a b (c+1); (.va c::r.1,r.2)
def a1b:List Sh->(ni nb nv:Nat)->List SV × Nat × Nat × Nat
 | [],a,b,c=>([],a,b,c)
 | .one k::l,a,b,c=>let r:=a0Y [k] a b c; let q:=a1b l r.2.1 r.2.2.1 r.2.2.2; (r.1++q.1,q.2)
 | .agg ks::l,a,b,c=>let r:=a0Y ks a b c; let q:=a1b l r.2.1 r.2.2.1 r.2.2.2; (.agg r.1::q.1,q.2)
def b7w (c:Ctx) (t:Nat):Sh :=
 match c.tab t with
 | some i=>if i.isAgg then .agg i.ks else .one (i.ks.headD .val)
 | none=>.one .val
def a1d (sl:List SV) (dst:Option Nat) (v:SV):List SV :=
 match dst with
 | some d=>sl.set d v
 | none=>sl
def a7a (id:Nat):List PI->Option (List PI)
 | .inBlock id'::k=>if id' == id then some k else a7a id k
 | .begin::_=>none
 | _::k=>a7a id k
 | []=>none
def a6p (sl:List SV) (H:List Blk) (tab:Nat->Option TI):List ResultVar->Option (List SV)
 | []=>some []
 | .tmp t::l=>match sl[t]?,a6p sl H tab l with
  | some v,some vs=>some (v::vs)
  | _,_=>none
 | .cell a t::l=>match sl[a]?,tab t,a6p sl H tab l with
  | some (.ptr k off),some i,some vs =>
   match a1g H k with
   | some (cs,_) =>
    if i.isAgg then (if off+i.size<=cs.length then some (.agg ((cs.drop off).take i.size)::vs) else none)
    else match cs[off]? with | some v=>some (v::vs) | none=>none
   | none=>none
  | _,_,_=>none
def a1E:List SV->SV
 | [v]=>v
 | vs=>.tup vs
def b2w (l:List BE) (k:Out):Out:=l.foldr (fun b k=>match b with | .t true=>k | b=>.need b k) k
def a8p (H:List Blk) (n:Nat):Option (Nat × Nat × Nat) :=
 let rec go:List Blk->Nat->Option (Nat × Nat × Nat)
  | [],_=>none
  | .row m T size::l,k=>if m=n then some (k,T,size) else go l (k+1)
  | _::l,k=>go l (k+1)
 go H 0
mutual
def SV.ptrs:SV->List Nat
 | .ptr k _=>[k]
 | .sl k _=>[k]
 | .slc k _ _=>[k]
 | .agg l | .tup l | .fn _ _ l=>SV.ptrss l
 | _=>[]
def SV.ptrss:List SV->List Nat
 | []=>[]
 | x::l=>x.ptrs++SV.ptrss l
end
def a1P (ks:List Nat) (H:List Blk):List Blk :=
 H.zipIdx.map fun (b,i)=>match b with | .cells cs T s=>.cells cs T (s||ks.contains i) | b=>b
structure FnC where
 body:Code
 res:List ResultVar
def b5L (c:Ctx) (fn:FnC) (g:Cfg):Out :=
 match a6p g.sl g.H c.tab fn.res with
 | some vs=>if (SV.ptrss vs).isEmpty then .ret c.gen (a1E vs) [] else .ret c.gen (a1E vs) (a1P (SV.ptrss vs) g.H)
 | none => .fail "results"
def a6d (size:Nat):Nat->List SV->List (List SV)
 | 0,_=>[]
 | n+1,l=>l.take size::a6d size n (l.drop size)
def b6A (H:List Blk) (size:Nat):SV->Option Src
 | .sl k len=>match a1g H k with
  | some (cs,_)=>if cs.all SV.flat&&cs.length == len*size then some (.lit (a6d size len cs)) else none
  | none=>none
 | .va n=>some (.va n)
 | .nilS=>some (.lit [])
 | _=>none
def IE.ok (ni nv:Nat):IE->Bool
 | .a n=>decide (n < ni)
 | .l _=>true
 | .add x y | .sub x y | .mul x y | .tdiv x y | .tmod x y | .mn x y | .mx x y=>x.ok ni nv&&y.ok ni nv
 | .ifeq p q x y=>p.ok ni nv&&q.ok ni nv&&x.ok ni nv&&y.ok ni nv
 | .wr _ x=>x.ok ni nv
 | .slen n=>decide (n < nv)
 | .stl n=>decide (n < nv)
 | .sat n i=>decide (n < nv)&&i.ok ni nv
def BE.ok (ni nb nv:Nat):BE->Bool
 | .t _=>true
 | .a n=>decide (n < nb)
 | .lt x y | .le x y | .eq x y=>x.ok ni nv&&y.ok ni nv
 | .not x=>x.ok ni nb nv
 | .and x y | .or x y=>x.ok ni nb nv&&y.ok ni nb nv
 | .nil n=>decide (n < nv)
 | .is _ n=>decide (n < nv)
 | .seq n m=>decide (n < nv)&&decide (m < nv)
 | .sis n _=>decide (n < nv)
mutual
def SV.ok (ni nb nv nj:Nat) (kf:Nat->Bool):SV->Bool
 | .int _ e=>e.ok ni nv
 | .bool b=>b.ok ni nb nv
 | .va n=>decide (n < nv)
 | .junk n=>decide (n < nj)
 | .str _ | .undef | .nilS | .nilF | .nilP | .nilI | .nilM=>true
 | .ptr k _=>kf k
 | .sl k _=>kf k
 | .slc k _ _=>kf k
 | .ea n i _ _=>decide (n < nv)&&i.ok ni nv
 | .pa n _=>decide (n < nv)
 | .agg cs=>SV.oks ni nb nv nj kf cs
 | .tup cs=>SV.oks ni nb nv nj kf cs
 | .fn _ _ cs=>SV.oks ni nb nv nj kf cs
 | .fs n=>decide (n < nv)
def SV.oks (ni nb nv nj:Nat) (kf:Nat->Bool):List SV->Bool
 | []=>true
 | x::l=>x.ok ni nb nv nj kf&&SV.oks ni nb nv nj kf l
end
def Cfg.kf (g:Cfg) (k:Nat):Bool:=(a1g g.H k).isSome
def b0b (g:Cfg):Blk->Bool
 | .cells cs _ _=>SV.oks g.ni g.nb g.nv g.nj g.kf cs
 | .row n _ _=>decide (n < g.nv)
def Cfg.okB (g:Cfg):Bool:=SV.oks g.ni g.nb g.nv g.nj g.kf g.sl&&g.H.all (b0b g)&&g.fs.all (SV.oks g.ni g.nb g.nv g.nj g.kf)
def b0V (c:Ctx) (fl:Bool) (g:Cfg) (dst:Option Tmp) (t:Nat) (x:SV) (kont:Cfg->Out):Out :=
 match c.tab t with
 | some i =>
  if g.okB then
   match x with
   | .ea .. | .pa .. =>
    let r:=a0Y i.ks g.ni g.nb g.nv
    if r.1.length=i.size&&SV.oks r.2.1 r.2.2.1 r.2.2.2 0 (fun _=>false) r.1 then
     .load fl x r.1 (r.2.1-g.ni) (r.2.2.1-g.nb) (r.2.2.2-g.nv)
      (kont { g with sl:=a1d g.sl dst (if i.isAgg then .agg r.1 else r.1.headD .undef),ni:=r.2.1,nb:=r.2.2.1,nv:=r.2.2.2 })
    else .fail "load kinds"
   | _ => .fail "load"
  else .fail "load atoms"
 | none => .fail "load type"
def c2b (g:Cfg):Src->Bool
 | .lit l=>SV.oks g.ni g.nb g.nv g.nj (fun _=>false) l.flatten
 | .va _=>true
mutual
def SV.uses (n:Nat):SV->Bool
 | .va m=>m == n
 | .ea m _ _ _=>m == n
 | .pa m _=>m == n
 | .fs m=>m == n
 | .agg l | .tup l | .fn _ _ l=>SV.usess n l
 | _=>false
def SV.usess (n:Nat):List SV->Bool
 | []=>false
 | x::l=>x.uses n||SV.usess n l
end
def c0x (g:Cfg) (T size:Nat):Blk->Bool
 | .row n T' size'=>T' == T&&size' == size&&!(SV.usess n g.sl||g.H.any (fun b=>match b with | .cells cs _ _=>SV.usess n cs | _=>false)||g.fs.any (SV.usess n))
 | _=>false
def c3q (c:Ctx) (g:Cfg) (dst:Option Tmp) (t:Nat) (x y:SV) (kont:Cfg->Out):Out :=
 match c.ty t with
 | some (.slice e) =>
  match c.tab e with
  | some i =>
   if 0 < i.size&&g.okB then
    match b6A g.H i.size y with
    | some s =>
     if c2b g s then
     match x with
     | .nilS=>match g.H.findIdx? (c0x g e i.size) with
      | some b=>.app none s i.size i.bytes (kont { g with sl:=a1d g.sl dst (.va g.nv),nv:=g.nv+1,H:=g.H.set b (.row g.nv e i.size) })
      | none=>.app none s i.size i.bytes (kont { g with sl:=a1d g.sl dst (.va g.nv),nv:=g.nv+1,H:=g.H++[.row g.nv e i.size] })
     | .fs m=>.appF m s i.size i.bytes (kont { g with sl:=a1d g.sl dst (.va g.nv),nv:=g.nv+1,H:=g.H++[.row g.nv e i.size] })
     | .va m =>
      match a8p g.H m with
      | some (b,T,size) =>
       if T == e&&size == i.size then .app (some m) s i.size i.bytes (kont { g with sl:=a1d g.sl dst (.va g.nv),nv:=g.nv+1,H:=g.H.set b (.row g.nv e i.size) })
       else .fail "append type"
      | none => .fail "append not a row of the call s own"
     | _ => .fail "append onto what"
     else .fail "append an address among what is appended"
    | none => .fail "append of what"
   else .fail "append atoms"
  | none => .fail "append type"
 | _ => .fail "append type"
def c6J (c:Ctx) (g:Cfg) (x:SV):Bool:=c.live&&match x with | .va m=>(a8p g.H m).isNone | _=>true
def b1h (c:Ctx) (g:Cfg) (dst:Option Tmp) (t:Nat) (x y:SV) (kont:Cfg->Out):Out :=
 match c.ty t with
 | some (.slice e) =>
  match c.tab e with
  | some i =>
   if 0 < i.size&&g.okB then
    match b6A g.H i.size y with
    | some s =>
     if c2b g s then
      match x with
      | .nilS=>.appM .nilS s i.size i.bytes e (kont { g with sl:=a1d g.sl dst (.va g.nv),nv:=g.nv+1 })
      | .va m => if decide (m < g.nv) then .appM (.va m) s i.size i.bytes e (kont { g with sl := a1d g.sl dst (.va g.nv), nv := g.nv + 1 }) else .fail "append atoms"
      | _ => .fail "append onto what"
     else .fail "append an address among what is appended"
    | none => .fail "append of what"
   else .fail "append atoms"
  | none => .fail "append type"
 | _ => .fail "append type"
def SV.isE:SV->Bool
 | .sl _ 0=>true
 | _=>false
def Ctx.emp (c:Ctx):Bool:=c.noflT.contains 99999
def b6U (c:Ctx) (g:Cfg) (dst:Option Tmp) (t:Nat) (y:SV) (kont:Cfg->Out):Out :=
 match c.ty t with
 | some (.slice e) =>
  match c.tab e with
  | some i =>
   if 0 < i.size&&g.okB then
    match y with
    | .va n=>.need (.is 0 n) (.ite (.eq (.slen n) (.l 0)) (.app none (.lit []) i.size i.bytes (kont { g with sl:=a1d g.sl dst (.va g.nv),nv:=g.nv+1 })) (b1h c g dst t .nilS (.va n) kont))
    | .sl k (l+1)=>b1h c g dst t .nilS (.sl k (l+1)) kont
    | _ => .fail "append of what"
   else .fail "append atoms"
  | none => .fail "append type"
 | _ => .fail "append type"
def c0T (c:Ctx) (g:Cfg) (dst:Option Tmp) (t:Nat) (x y:SV) (kont:Cfg->Out):Out :=
 match c.ty t with
 | some (.slice e) =>
  match c.tab e with
  | some i =>
   if 0 < i.size&&g.okB then
    match b6A g.H i.size y with
    | some (.lit [z]) =>
     if c2b g (.lit [z]) then
     match x with
     | .nilS =>
      if ({ g with nv:=g.nv+1,H:=g.H++[.row g.nv e i.size] }:Cfg).okB then
       .hole none i.size i.bytes (kont { g with sl:=a1d g.sl dst (.va (g.nv+1)),nv:=g.nv+2,H:=g.H++[.row g.nv e i.size] })
      else .fail "hole atoms"
     | .va m =>
      match a8p g.H m with
      | some (b,T,size) =>
       if T == e&&size == i.size&&({ g with nv:=g.nv+1,H:=g.H.set b (.row g.nv e i.size) }:Cfg).okB then
        .hole (some m) i.size i.bytes (kont { g with sl:=a1d g.sl dst (.va (g.nv+1)),nv:=g.nv+2,H:=g.H.set b (.row g.nv e i.size) })
       else .fail "hole type"
      | none => .fail "hole in what is no row of the call s own"
     | _ => .fail "hole in what"
     else .fail "hole address"
    | _ => .fail "hole of what"
   else .fail "hole atoms"
  | none => .fail "hole type"
 | _ => .fail "hole type"
def c0u (c:Ctx) (g:Cfg) (dst:Option Tmp) (t:Nat) (x y:SV) (kont:Cfg->Out):Out :=
 match x,c.tab t with
 | .ea n i sz 0,some ti =>
  match a8p g.H (n-1) with
  | some (b,T,size) =>
   if T == t&&size == sz&&sz == ti.size&&0 < sz&&g.okB&&y.cok&&(cellsOf y).length == sz&&(cellsOf y).all SV.flat&&SV.oks g.ni g.nb g.nv g.nj (fun _=>false) (cellsOf y)&&SV.ok g.ni g.nb g.nv g.nj g.kf x then
    .fill n i (cellsOf y) sz (kont { g with sl:=a1d g.sl dst .undef,nv:=g.nv+1,H:=g.H.set b (.row n t sz) })
   else .fail "fill"
  | none => .fail "fill of what"
 | _, _ => .fail "fill address"
def c3A (c:Ctx) (g:Cfg) (dst:Option Tmp) (cs:List SV) (e:Nat) (v:SV) (kont:Cfg->Out):Out :=
 match v,c.tab e with
 | .sl _ len,some i =>
  if 0 < i.size&&g.okB&&cs.all SV.flat&&cs.length == len*i.size&&SV.oks g.ni g.nb g.nv g.nj (fun _=>false) cs&&decide (len<=1000000) then
   .app none (.lit (a6d i.size len cs)) i.size i.bytes (kont { g with sl:=a1d g.sl dst (.va g.nv),nv:=g.nv+1,H:=g.H++[.row g.nv e i.size] })
  else .fail "literal"
 | _, _ => .fail "literal"
def SV.isSl:SV->Bool
 | .sl _ _=>true
 | _=>false
def a4V (sl:List SV):Option Operand->Option (Option IE)
 | none=>some none
 | some l=>match ev sl l with
  | some (.int _ e)=>some (some e)
  | _=>none
def b6g (c:Ctx) (g:Cfg) (dst:Option Tmp) (t:Nat) (x:SV) (lo hi:Option Operand) (kont:Cfg->Out):Out :=
 match c.ty t,x with
 | some (.slice e),.va m =>
  match c.tab e,a4V g.sl lo,a4V g.sl hi with
  | some i,some lo,some hi =>
   if g.okB then .cut m lo hi i.size (kont { g with sl := a1d g.sl dst (.va g.nv), nv := g.nv + 1 }) else .fail "slice atoms"
  | _, _, _ => .fail "slice"
 | some .str,.va m =>
  match a4V g.sl lo,a4V g.sl hi with
  | some lo, some hi => if g.okB then .scut m lo hi (kont { g with sl := a1d g.sl dst (.va g.nv), nv := g.nv + 1 }) else .fail "slice atoms"
  | _, _ => .fail "slice"
 | _, _ => .fail "slice"
def b6x (c:Ctx) (g:Cfg) (dst:Option Tmp) (t:Nat) (x h m:Operand) (kont:Cfg->Out):Out :=
 match ev g.sl x,ev g.sl h,ev g.sl m,c.ty t with
 | some (.va n),some (.int _ e),some (.int _ e'),some (.slice el)=>match c.tab el with
  | some i => if decide (e = .slen n) && decide (e' = .slen n) && g.okB then .chk n i.size (kont { g with sl := a1d g.sl dst (.fs n) }) else .fail "slice"
  | none => .fail "slice"
 | _, _, _, _ => .fail "slice"
def c0i (c:Ctx) (g:Cfg) (dst:Option Tmp) (f:Nat) (args:List SV) (kont:Cfg->Out):Out :=
 if c.fok f&&g.okB then
  let r:=a1b ((c.rets f).map (b7w c)) g.ni g.nb g.nv
  let ps:=SV.ptrss args
  if SV.ok r.2.1 r.2.2.1 r.2.2.2 0 (fun _=>false) (a1E r.1) then
  let H':=if ps.isEmpty then g.H else a1P ps g.H
  .call f args (if ps.isEmpty then [] else H') (a1E r.1) (r.2.1-g.ni) (r.2.2.1-g.nb) (r.2.2.2-g.nv)
   (kont { g with sl:=a1d g.sl dst (a1E r.1),ni:=r.2.1,nb:=r.2.2.1,nv:=r.2.2.2,H:=H' })
  else .fail "call result"
 else .fail "call"
def b5g (c:Ctx) (g:Cfg) (dst:Option Tmp) (slot n:Nat) (args:List SV) (kont:Cfg->Out):Out :=
 match c.vrets.lookup slot with
 | some rs =>
  let r:=a1b (rs.map (b7w c)) g.ni g.nb g.nv
  if g.okB&&SV.oks g.ni g.nb g.nv g.nj (fun _=>false) args&&SV.ok r.2.1 r.2.2.1 r.2.2.2 0 (fun _=>false) (a1E r.1) then
   .callv n args (a1E r.1) (r.2.1-g.ni) (r.2.2.1-g.nb) (r.2.2.2-g.nv)
    (kont { g with sl:=a1d g.sl dst (a1E r.1),ni:=r.2.1,nb:=r.2.2.1,nv:=r.2.2.2 })
  else .fail "call through a value"
 | none => .fail "call through a value of what type"
def b7c (g:Cfg) (dst:Option Tmp) (cs:List SV) (t:Nat) (v:SV) (kont:Cfg->Out):Out :=
 match v with
 | .ptr _ 0=>if g.okB&&cs.all SV.flat&&SV.oks g.ni g.nb g.nv g.nj (fun _=>false) cs then
   .newM cs t (kont { g with sl:=a1d g.sl dst (.pa g.nv 0),nv:=g.nv+1 })
  else .fail "new object"
 | _ => .fail "new object"
def b8U (c:Ctx) (g:Cfg) (dst:Option Tmp) (t:Nat) (l n:SV) (kont:Cfg->Out):Out :=
 match l,n,c.ty t with
 | .int _ l,.int _ n,some (.slice e) =>
  match c.tab e with
  | some i=>if g.okB&&decide (l=n)&&i.zero.all SV.flat&&SV.oks g.ni g.nb g.nv g.nj (fun _=>false) i.zero then
    .mkM l i.zero e i.size i.bytes (kont { g with sl:=a1d g.sl dst (.va g.nv),nv:=g.nv+1 })
   else .fail "make"
  | none => .fail "make"
 | _, _, _ => .fail "make"
def b3t (c:Ctx) (g:Cfg) (dst:Option Tmp) (t:Nat) (x y:SV) (kont:Cfg->Out):Out :=
 match c.tab t with
 | some ti =>
  if g.okB&&y.cok&&(cellsOf y).length == ti.size&&(cellsOf y).all SV.flat&&SV.oks g.ni g.nb g.nv g.nj (fun _=>false) (cellsOf y)&&SV.ok g.ni g.nb g.nv g.nj (fun _=>false) x then
   match x with
   | .ea .. | .pa ..=>.storeM x (cellsOf y) (kont { g with sl:=a1d g.sl dst .undef })
   | _ => .fail "store where"
  else .fail "store what"
 | none => .fail "store type"
def c5p:Operand->Nat
 | .tmp t=>t
 | _=>99999
def b0h:List SV->Option (List IE)
 | []=>some []
 | .int .i64 e::l=>(b0h l).map (e::·)
 | _=>none
def a5r (n w:Nat):List SV:=(Q6 w).map fun j=>.int .i64 (.a (n+j))
def b7t (c:Ctx) (g:Cfg) (o:Oper) (kont:Cfg->Out):Out :=
 match o.op with
 | .makeMap t none=>match c.qtab t with
  | some _ => if g.okB then .mkQ (kont { g with sl := a1d g.sl o.dst (.va g.nv), nv := g.nv + 1 }) else .fail "map"
  | none => .fail "map type"
 | .lookup t x ix ok=>match c.qtab t,ev g.sl x,ev g.sl ix with
  | some i,some (.va n),some (.agg l)=>match b0h l with
   | some key =>
    if key.length=i.n&&g.okB then
     .qGet n key ok (kont { g with sl:=a1d g.sl o.dst (if ok then .tup [.int .i64 (.a g.ni),.bool (.a g.nb)] else .int .i64 (.a g.ni)),ni:=g.ni+1,nb:=if ok then g.nb+1 else g.nb })
    else .fail "map lookup"
   | none => .fail "map lookup of what"
  | _, _, _ => .fail "map lookup of what"
 | .mapUpdate t x ix y=>match c.qtab t,ev g.sl x,ev g.sl ix,ev g.sl y with
  | some i,some (.va n),some (.agg l),some (.int .i64 v)=>match b0h l with
   | some key => if key.length = i.n && g.okB then .qSet n key v (kont { g with sl := a1d g.sl o.dst .undef }) else .fail "map update"
   | none => .fail "map update of what"
  | _, _, _, _ => .fail "map update of what"
 | .call { callee:=.builtin .delete,args:=a,argTypes:=ts }=>match evs g.sl a.toList,ts.toList with
  | some [.va n,.agg l],t::_=>match c.qtab t,b0h l with
   | some i, some key => if key.length = i.n && g.okB then .qDel n key (kont { g with sl := a1d g.sl o.dst (.tup []) }) else .fail "delete"
   | _, _ => .fail "delete of what"
  | _, _ => .fail "delete of what"
 | .call { callee:=.builtin .len,args:=a,argTypes:=ts }=>match evs g.sl a.toList,ts.toList with
  | some [.va n],[t]=>match c.qtab t with
   | some _ => if g.okB then .qLen n (kont { g with sl := a1d g.sl o.dst (.int .i64 (.a g.ni)), ni := g.ni + 1 }) else .fail "len"
   | none => .fail "len of what"
  | _, _ => .fail "len of what"
 | .range t x=>match c.qtab t,ev g.sl x with
  | some _, some (.va n) => if g.okB then .rng n (kont { g with sl := a1d g.sl o.dst (.va g.nv), nv := g.nv + 1 }) else .fail "range"
  | _, _ => .fail "range of what"
 | .next x false=>match ev g.sl x with
  | some (.va n)=>if g.okB then .next n c.qw (kont { g with sl:=a1d g.sl o.dst (.tup [.bool (.t false)]) })
    (kont { g with sl := a1d g.sl o.dst (.tup [.bool (.t true), .agg (a5r g.ni c.qw), .int .i64 (.a (g.ni + c.qw))]), ni := g.ni + (c.qw + 1) }) else .fail "next"
  | _ => .fail "next of what"
 | .entry x=>match ev g.sl x with
  | some (.va n) => if g.okB then .entry n c.qw (kont { g with sl := a1d g.sl o.dst (.tup [.agg (a5r g.ni c.qw), .int .i64 (.a (g.ni + c.qw))]), ni := g.ni + (c.qw + 1) }) else .fail "entry"
  | _ => .fail "entry of what"
 | .call { callee:=.builtin .copy,args:=a,argTypes:=ts }=>match evs g.sl a.toList,ts.toList with
  | some [.va d,.va x],t::_=>match c.ty t with
   | some (.slice e)=>match c.tab e with
    | some i => if g.okB && decide (0 < i.size) then .copyM d x i.size (kont { g with sl := a1d g.sl o.dst (.int .i64 (.a g.ni)), ni := g.ni + 1 }) else .fail "copy"
    | none => .fail "copy type"
   | _ => .fail "copy type"
  | _, _ => .fail "copy of what"
 | _ => .fail "operation"
def b8Z (c:Ctx) (g:Cfg) (o:Oper) (kont:Cfg->Out):Out :=
 match o.op with
 | .makeMap t none=>match c.mtab t with
  | some i => if g.okB then .mkMap i.k (kont { g with sl := a1d g.sl o.dst (.va g.nv), nv := g.nv + 1 }) else .fail "map"
  | none=>b7t c g o kont
 | .lookup t x ix ok=>match c.mtab t,ev g.sl x,ev g.sl ix with
  | some i,some (.va n),some (.int kk key) =>
   if kk=i.k&&g.okB&&SV.ok 0 0 0 0 (fun _=>false) i.dflt then
    let r:=a1b (if ok then [i.sh,.one .bool] else [i.sh]) g.ni g.nb g.nv
    if SV.ok r.2.1 r.2.2.1 r.2.2.2 0 (fun _=>false) (a1E r.1) then
     .mapGet n i.k key i.dflt ok (a1E r.1) (r.2.1-g.ni) (r.2.2.1-g.nb) (r.2.2.2-g.nv)
      (kont { g with sl:=a1d g.sl o.dst (a1E r.1),ni:=r.2.1,nb:=r.2.2.1,nv:=r.2.2.2 })
    else .fail "map result"
   else .fail "map lookup"
  | _,_,_=>b7t c g o kont
 | .mapUpdate t x ix y=>match c.mtab t,ev g.sl x,ev g.sl ix,ev g.sl y with
  | some i,some (.va n),some (.int kk key),some v =>
   if kk = i.k && g.okB && SV.ok g.ni g.nb g.nv g.nj (fun _ => false) v then .mapSet n i.k key v (kont { g with sl := a1d g.sl o.dst .undef }) else .fail "map update"
  | _,_,_,_=>b7t c g o kont
 | .call { callee:=.builtin .clear,args:=a,argTypes:=ts }=>match evs g.sl a.toList,ts.toList with
  | some [.va n],[t]=>match c.mtab t with
   | some _ => if g.okB then .mapClr n (kont { g with sl := a1d g.sl o.dst (.tup []) }) else .fail "clear"
   | none => .fail "clear of what"
  | _, _ => .fail "clear of what"
 | _=>b7t c g o kont
def b8z (c:Ctx) (g:Cfg) (o:Oper) (kont:Cfg->Out):Out :=
 match pv c g.sl g.H o.op with
 | some (ns,v)=>b2w ns (kont { g with sl:=a1d g.sl o.dst v })
 | none =>
  match b6u c g.sl g.H.length o.op with
  | some (cs, t, v) => if (o.dst.elim false c.amb.contains) then b7c g o.dst cs t v kont else if c.rowl && v.isSl && !(c.emp && v.isE) then c3A c g o.dst cs t v kont else if g.okB && SV.oks g.ni g.nb g.nv g.nj g.kf cs then kont { g with sl := a1d g.sl o.dst v, H := g.H ++ [.cells cs t false] } else .fail "new atoms"
  | none =>
   match a8A c g.sl g.H o.op with
   | some (b,off,new) =>
    match g.H[b]? with
    | some (.cells cs t false)=>kont { g with sl:=a1d g.sl o.dst .undef,H:=g.H.set b (.cells (a3N cs off new) t false) }
    | _ => .fail "store"
   | none =>
    match o.op with
    | .load t a=>match ev g.sl a with
     | some x=>b0V c false g o.dst t x kont
     | none => .fail "load"
    | .slice t x lo hi none=>match ev g.sl x with
     | some x=>b6g c g o.dst t x lo hi kont
     | none => .fail "slice"
    | .slice t x none (some h) (some m)=>b6x c g o.dst t x h m kont
    | .store t a v=>match ev g.sl a,ev g.sl v with
     | some x,some y=>if c.hole then c0u c g o.dst t x y kont else b3t c g o.dst t x y kont
     | _, _ => .fail "store"
    | .makeSlice t l n=>match ev g.sl l,ev g.sl n with
     | some x,some y=>b8U c g o.dst t x y kont
     | _, _ => .fail "make"
    | .call { callee:=.builtin .append,args:=a,argTypes:=ts } =>
     match evs g.sl a.toList,ts.toList with
     | some [x, y], [t, t'] => if t == t' then (if c6J c g x then (if x.isE then b6U c g o.dst t y kont else b1h c g o.dst t x y kont) else if c.hole then c0T c g o.dst t x y kont else c3q c g o.dst t x y kont) else .fail "append"
     | _, _ => .fail "append"
    | .call { callee:=.value f,args:=a,argTypes:=_ } =>
     match ev g.sl f,evs g.sl a.toList with
     | some (.fn f n cap),some args=>c0i c g o.dst f (cap.take n++args++cap.drop n) kont
     | some (.va n),some args=>b5g c g o.dst (c5p f) n args kont
     | _, _ => .fail "call of what"
    | _=>b8Z c g o kont
def a1j:Code->Array Oper
 | .region _ ops _=>ops
 | _=>#[]
inductive Gd where
 | known (b:Bool)
 | on (d:Nat) (c:BE)
 | bad
def a2D (ops:Array Oper) (sl:List SV) (o:Oper):Gd :=
 match o.guard with
 | none=>.known true
 | some (j,want) =>
  match ((ops[j]?).bind (·.dst)) with
  | none=>.bad
  | some d =>
   match sl[d]? with
   | some (.bool (.t b))=>.known (b == want)
   | some (.bool b)=>.on d b
   | some .undef=>.known false
   | _=>.bad
def a5P (ks:List Nat) (H:List Blk):List Blk:=H.zipIdx.map fun (b,i)=>if ks.contains i then b else .row 0 0 0
def c2F (ops:Array Oper) (sl:List SV):Nat->Operand->Option Nat
 | 0,_=>none
 | n+1,.tmp d =>
  match (ops.toList.find? fun o=>o.dst == some d) with
  | some o=>match o.op with
   | .indexAddr _ x _ | .fieldAddr _ x _ | .move x | .assign x | .nilCheck x=>c2F ops sl n x
   | .alloc _ | .box _ _=>some 999999
   | _=>none
  | none=>match sl[d]? with
   | some (.ptr k _)=>some k
   | _=>none
 | _,_=>none
def b1G (ops:Array Oper) (sl:List SV) (n:Nat):List Nat :=
 let roots:=ops.toList.filterMap fun o=>match o.op with
  | .store _ a _=>some (c2F ops sl 10 a)
  | _=>none
 if roots.any (·.isNone) then [] else (Q6 n).filter fun k=>!roots.contains (some k)
def a7H (done:List Nat):Nat:=done.foldl (fun m i=>m ||| (1 <<< i)) 0
def a1O (n:Nat) (done:List Nat):Array Bool:=((Q6 n).map fun j=>(a7H done).testBit j).toArray
def b8y (ops:Array Oper) (o:Oper):Nat:=(o.looksAt ops).foldl (fun m t=>m ||| (1 <<< t)) 0
def b8E (ops:Array Oper) (x y:Oper):Bool :=
 (match x.dst with
  | some d=>!(b8y ops y).testBit d&&(match y.dst with | some e=>!Qd e d | none=>true)
  | none=>true) &&
 (match y.dst with
  | some d=>!(b8y ops x).testBit d
  | none=>true)
def b3U (ops:Array Oper) (done:List Nat) (i:Nat):Bool :=
 match ops[i]? with
 | none=>false
 | some oi=>ops.toList.zipIdx.all fun x=>Qd x.2 i||(a7H done).testBit x.2||x.1.after.toList.any (fun e=>Region.binds .any e&&Qd e.on i)||b8E ops oi x.1
def b9C (ops:Array Oper) (done:List Nat):List Nat :=
 (Q6 ops.size).filter fun i=>!(a7H done).testBit i&&match ops[i]? with
  | some o=>o.after.toList.all fun e=>!Region.binds .any e||(Nat.blt e.on ops.size&&(a7H done).testBit e.on)
  | none=>false
def a9U (ops:Array Oper):Bool:=ops.toList.all fun o=>match o.op with | .select ..=>false | _=>true
def c3x (c:Ctx) (g:Cfg) (ops:Array Oper) (done:List Nat) (ks:List Nat) (i:Nat):Bool :=
 match ops[i]? with
 | none=>false
 | some o=>b3U ops done i &&
  match a2D ops g.sl o with
  | .known false=>true
  | .known true=>(pv c g.sl (a5P ks g.H) o.op).isSome
  | _=>false
def c0R (c:Ctx) (g:Cfg) (ops:Array Oper) (done:List Nat) (i:Nat):Bool :=
 match ops[i]? with
 | none=>false
 | some o=>b3U ops done i &&
  match a2D ops g.sl o,o.op with
  | .known true,.load T a=>match ev g.sl a with
   | some (.ea ..)=>!c.noflT.contains T
   | some (.pa ..)=>!c.noflT.contains T
   | _=>false
  | _,_=>false
def c0P (c:Ctx) (g:Cfg) (ops:Array Oper) (done:List Nat) (i:Nat):Bool :=
 match ops[i]? with
 | none=>false
 | some o=>b3U ops done i &&
  match a2D ops g.sl o,o.op with
  | .known true,.slice _ x _ _ none=>match ev g.sl x with
   | some (.va _)=>true
   | _=>false
  | .known true,.slice _ _ none (some _) (some _)=>true
  | _,_=>false
def a8y:Op->Bool
 | .load .. | .indexAddr .. | .fieldAddr .. | .move _ | .assign _ | .extract ..=>true
 | _=>false
def b3K (ops:Array Oper) (done:List Nat) (i:Nat):Bool:=Nat.blt i ops.size&&!(a7H done).testBit i
def c4J (ops:Array Oper) (done:List Nat) (i:Nat):List Nat :=
 ops.toList.zipIdx.foldl (fun B x=>if b3K ops done x.2&&x.1.after.toList.any (fun e=>Region.binds .any e&&B.contains e.on) then x.2::B else B) [i]
def b4N (ops:Array Oper) (done:List Nat) (i:Nat) (B:List Nat):Bool :=
 B.contains i&&B.all (b3K ops done) &&
 B.all (fun b=>Qd b i||(match ops[b]? with | some o=>o.after.toList.any (fun e=>Region.binds .any e&&B.contains e.on) | none=>false)) &&
 ops.toList.zipIdx.all (fun x=>B.contains x.2||!b3K ops done x.2||a8y x.1.op)
def c0G (c:Ctx) (g:Cfg) (ops:Array Oper) (done:List Nat) (i:Nat):Bool :=
 match ops[i]? with
 | none=>false
 | some o=>(match a2D ops g.sl o,o.op with
  | .known true,.load _ a=>match pv c g.sl g.H o.op with
   | some _=>true
   | none=>match ev g.sl a with
    | some (.ea ..)=>true
    | some (.pa ..)=>true
    | _=>false
  | _,_=>false)&&b3U ops done i&&b4N ops done i (c4J ops done i)
def c5q (g:Cfg) (ops:Array Oper) (i:Nat):Option (Nat × BE) :=
 match ops[i]? with
 | none=>none
 | some o=>match a2D ops g.sl o with
  | .on d b=>some (d,b)
  | _=>none
def c0V (c:Ctx) (sl:List SV) (o:Oper):Option (Nat × IntKind × IE × Nat) :=
 match o.op with
 | .indexAddr t _ (.tmp d) | .index t _ (.tmp d) =>
  match sl[d]? with
  | some (.int _ (.l _))=>none
  | some (.int k e)=>match c.ty t with
   | some (.arr n _)=>if n<=16 then some (d,k,e,n) else none
   | _=>none
  | _=>none
 | _=>none
def a9g (g:Cfg) (d:Nat) (k:IntKind) (e:IE) (r:Cfg->Out):Nat->Out
 | 0 => .fail "index"
 | n+1=>.ite (.eq e (.l n)) (r { g with sl:=g.sl.map fun v=>if SV.beq v (.int k e) then .int k (.l n) else v }) (a9g g d k e r n)
def b9c (c:Ctx) (g:Cfg) (ops:Array Oper) (i:Nat):Option (Nat × IntKind × IE × Nat) :=
 match ops[i]? with
 | none=>none
 | some o=>match a2D ops g.sl o with
  | .known true=>c0V c g.sl o
  | _=>none
def b9G (c:Ctx) (g:Cfg) (ks:List Nat) (o:Oper):Bool :=
 match a8A c g.sl g.H o.op with
 | some (b,_,_)=>ks.contains b
 | none=>false
def PI.isD:PI->Bool
 | .dreg _ _ _=>true
 | _=>false
def b3Q:List Out->Out
 | [] => .fail "nothing comes"
 | [x]=>x
 | x::l=>.both x (b3Q l)
def run (c:Ctx) (fn:FnC):Nat->Cfg->Out
 | 0, _ => .fail "fuel"
 | n+1,g =>
  if (g.todo.drop 1).any PI.isD then .fail "order" else
  match g.todo with
  | []=>if c.leaf then .stop g else b5L c fn g
  | .begin::_=>.stop g
  | .inBlock _::k=>run c fn n { g with todo:=k }
  | .inScope _::k=>run c fn n { g with todo:=k }
  | .reg _ []::k=>run c fn n { g with todo:=k }
  | .inLoop p::k =>
   if c.stops.contains p then .stop { g with todo:=.code p::.inLoop p::k }
   else run c fn n { g with todo:=.code p::.inLoop p::k }
  | .code p::k =>
   match sub fn.body p with
   | .skip=>run c fn n { g with todo:=k }
   | .label _=>run c fn n { g with todo:=k }
   | .seq _ _=>if c.joins.contains p then .stop { g with todo:=.code (false::p)::.code (true::p)::k } else run c fn n { g with todo:=.code (false::p)::.code (true::p)::k }
   | .cond x _ _ =>
    match ev g.sl x with
    | some (.bool (.t b))=>run c fn n { g with todo:=.code ((!b)::p)::k }
    | some (.bool b)=>.ite b (run c fn n { g with todo:=.code (false::p)::k }) (run c fn n { g with todo:=.code (true::p)::k })
    | _ => .fail "cond"
   | .block id _=>run c fn n { g with todo:=.code (false::p)::.inBlock id::k }
   | .loop _ =>
    if c.stops.contains (false::p) then .stop { g with todo:=.code (false::p)::.inLoop (false::p)::k }
    else run c fn n { g with todo:=.code (false::p)::.inLoop (false::p)::k }
   | .scope _=>run c fn n { g with todo:=.code (false::p)::.inScope (false::p)::k }
   | .exit id=>match a7a id k with
    | some k'=>run c fn n { g with todo:=k' }
    | none => if c.leaf then .stop g else .fail "exit"
   | .ret=>if c.leaf then .stop g else b5L c fn g
   | .region _ ops draw =>
    if draw then (if c.cstops.contains (p, 9999) then .stop g else if a9U ops then run c fn n { g with todo := .dreg p [] (b1G ops g.sl g.H.length) :: k } else .fail "select")
    else run c fn n { g with todo:=.reg p (Q6 ops.size)::k }
   | .rangeFunc ..=>.stop g
   | _ => .fail "code"
  | .reg p (i::is)::k =>
   match (a1j (sub fn.body p))[i]? with
   | none => .fail "op"
   | some o =>
    match a2D (a1j (sub fn.body p)) g.sl o with
    | .known true=>if c.cstops.contains (p,i) then .stop g else
     match c0V c g.sl o with
     | some (d,kd,e,m)=>a9g g d kd e (run c fn n) m
     | none=>b8z c { g with todo:=.reg p is::k } o (run c fn n)
    | .known false=>run c fn n { g with todo:=.reg p is::k,sl:=a1d g.sl o.dst .undef }
    | .on d b=>.ite b (run c fn n { g with sl:=g.sl.set d (.bool (.t true)) }) (run c fn n { g with sl:=g.sl.set d (.bool (.t false)) })
    | .bad => .fail "guard"
  | .dreg p done ks::k =>
   match b9C (a1j (sub fn.body p)) done with
   | []=>run c fn n { g with todo:=k }
   | rs =>
    if !(decide (done.length < (a1j (sub fn.body p)).size) && ks.all (fun k => decide (k < g.H.length)) && a9U (a1j (sub fn.body p))) then .fail "region" else
    match rs.find? (c3x c g (a1j (sub fn.body p)) done ks) with
    | some i =>
     match (a1j (sub fn.body p))[i]? with
     | none => .fail "op"
     | some o =>
      match a2D (a1j (sub fn.body p)) g.sl o with
      | .known true =>
       match pv c g.sl (a5P ks g.H) o.op with
       | some (ns,v)=>b2w ns (run c fn n { g with todo:=.dreg p (done++[i]) ks::k,sl:=a1d g.sl o.dst v })
       | none => .fail "op"
      | _=>run c fn n { g with todo:=.dreg p (done++[i]) ks::k,sl:=a1d g.sl o.dst .undef }
    | none =>
     match if c.nofl then none else rs.find? (c0R c g (a1j (sub fn.body p)) done) with
     | some i =>
      match (a1j (sub fn.body p))[i]? with
      | none => .fail "op"
      | some o =>
       match o.op with
       | .load t a=>match ev g.sl a with
        | some x=>b0V c true { g with todo:=.dreg p (done++[i]) ks::k } o.dst t x (run c fn n)
        | none => .fail "load"
       | _ => .fail "load"
     | none =>
     match rs.find? (c0P c g (a1j (sub fn.body p)) done) with
     | some i =>
      match (a1j (sub fn.body p))[i]? with
      | none => .fail "op"
      | some o =>
       match o.op with
       | .slice t x lo hi none=>match ev g.sl x with
        | some x=>b6g c { g with todo:=.dreg p (done++[i]) ks::k } o.dst t x lo hi (run c fn n)
        | none => .fail "slice"
       | .slice t x none (some h) (some m)=>b6x c { g with todo:=.dreg p (done++[i]) ks::k } o.dst t x h m (run c fn n)
       | _ => .fail "slice"
     | none =>
     match rs.find? (c0G c g (a1j (sub fn.body p)) done) with
     | some i =>
      match (a1j (sub fn.body p))[i]? with
      | none => .fail "op"
      | some o =>
       match pv c g.sl g.H o.op with
       | some (ns,v)=>b2w ns (run c fn n { g with todo:=.dreg p (done++[i]) ks::k,sl:=a1d g.sl o.dst v })
       | none =>
       match o.op with
       | .load t a=>match ev g.sl a with
        | some x=>b0V c false { g with todo:=.dreg p (done++[i]) ks::k } o.dst t x (run c fn n)
        | none => .fail "load"
       | _ => .fail "load"
     | none =>
     match rs.findSome? (b9c c g (a1j (sub fn.body p))) with
     | some (d,kd,e,m)=>a9g g d kd e (run c fn n) m
     | none =>
     match rs.findSome? (c5q g (a1j (sub fn.body p))) with
     | some (d,b)=>.ite b (run c fn n { g with sl:=g.sl.set d (.bool (.t true)) }) (run c fn n { g with sl:=g.sl.set d (.bool (.t false)) })
     | none =>
      b3Q (rs.map fun i =>
       match (a1j (sub fn.body p))[i]? with
       | none => .fail "op"
       | some o =>
        match a2D (a1j (sub fn.body p)) g.sl o with
        | .known true =>
         if b9G c g ks o then .fail "a store into what the region reads" else
         b8z c { g with todo:=.dreg p (done++[i]) ks::k } o (run c fn n)
        | _ => .fail "guard")
end Go.Sx
namespace Go.Sx
def Env.push (ρ:Env) (is:List Int) (bs:List Bool) (vs:List Value):Env:={ ρ with i:=ρ.i++is,b:=ρ.b++bs,v:=ρ.v++vs }
structure Env.Le (ni nb nv nj:Nat) (ρ ρ':Env):Prop where
 i:∀ n,n < ni->ρ'.i.getD n 0=ρ.i.getD n 0
 b:∀ n,n < nb->ρ'.b.getD n false=ρ.b.getD n false
 v:∀ n,n < nv->ρ'.v.getD n vd=ρ.v.getD n vd
 j:∀ n,n < nj->ρ'.j.getD n Go.undef=ρ.j.getD n Go.undef
theorem Env.le_push (ρ:Env) (is bs vs):Env.Le ρ.i.length ρ.b.length ρ.v.length ρ.j.length ρ (ρ.push is bs vs) where
 i n h:=by simp [Env.push,Qm h]
 b n h:=by simp [Env.push,Qm h]
 v n h:=by simp [Env.push,Qm h]
 j n _:=rfl
theorem IE.den_le {ni nb nv nj:Nat} {ρ ρ':Env} (h:Env.Le ni nb nv nj ρ ρ'):∀ e:IE,e.ok ni nv=true->e.den ρ'=e.den ρ:=by
 intro e
 induction e with
 | a n=>intro k; exact h.i n (by simpa [IE.ok] using k)
 | l z=>intro _; rfl
 | slen n=>intro k; simp only [IE.den]; rw [h.v n (by simpa [IE.ok] using k)]
 | stl n=>intro k; simp only [IE.den]; rw [h.v n (by simpa [IE.ok] using k)]
 | sat n i ih=>intro k; simp only [IE.ok,Q2,decide_eq_true_eq] at k; simp only [IE.den]; rw [h.v n k.1,ih k.2]
 | wr k x ih=>intro hk; simp only [IE.den]; rw [ih (by simpa [IE.ok] using hk)]
 | ifeq p q x y i1 i2 i3 i4 =>
  intro hk; simp only [IE.ok,Q2] at hk
  simp only [IE.den]; rw [i1 hk.1.1.1,i2 hk.1.1.2,i3 hk.1.2,i4 hk.2]
 | _ x y i1 i2 =>
  intro hk; simp only [IE.ok,Q2] at hk
  simp only [IE.den]; rw [i1 hk.1,i2 hk.2]
theorem BE.den_le {ni nb nv nj:Nat} {ρ ρ':Env} (h:Env.Le ni nb nv nj ρ ρ'):∀ e:BE,e.ok ni nb nv=true->e.den ρ'=e.den ρ:=by
 intro e
 induction e with
 | t b=>intro _; rfl
 | a n=>intro k; exact h.b n (by simpa [BE.ok] using k)
 | nil n=>intro k; simp only [BE.den]; rw [h.v n (by simpa [BE.ok] using k)]
 | is q n=>intro k; simp only [BE.den]; rw [h.v n (by simpa [BE.ok] using k)]
 | seq n m=>intro k; simp only [BE.ok,Q2,decide_eq_true_eq] at k; simp only [BE.den]; rw [h.v n k.1,h.v m k.2]
 | sis n l=>intro k; simp only [BE.den]; rw [h.v n (by simpa [BE.ok] using k)]
 | not x ih=>intro k; simp only [BE.den]; rw [ih (by simpa [BE.ok] using k)]
 | lt x y=>intro hk; simp only [BE.ok,Q2] at hk; simp only [BE.den]; rw [IE.den_le h x hk.1,IE.den_le h y hk.2]
 | le x y=>intro hk; simp only [BE.ok,Q2] at hk; simp only [BE.den]; rw [IE.den_le h x hk.1,IE.den_le h y hk.2]
 | eq x y=>intro hk; simp only [BE.ok,Q2] at hk; simp only [BE.den]; rw [IE.den_le h x hk.1,IE.den_le h y hk.2]
 | and x y i1 i2=>intro hk; simp only [BE.ok,Q2] at hk; simp only [BE.den]; rw [i1 hk.1,i2 hk.2]
 | or x y i1 i2=>intro hk; simp only [BE.ok,Q2] at hk; simp only [BE.den]; rw [i1 hk.1,i2 hk.2]
mutual
theorem SV.den_le {ni nb nv nj:Nat} {kf:Nat->Bool} {ρ ρ':Env} {β β':Nat->Nat} (h:Env.Le ni nb nv nj ρ ρ') (hb:∀ k,kf k=true->β' k=β k):∀ s:SV,s.ok ni nb nv nj kf=true->s.den ρ' β'=s.den ρ β
 | .int k e,hk=>by simp only [SV.den]; rw [IE.den_le h e (by simpa [SV.ok] using hk)]
 | .bool b,hk=>by simp only [SV.den]; rw [BE.den_le h b (by simpa [SV.ok] using hk)]
 | .va n,hk=>by simp only [SV.den]; rw [h.v n (by simpa [SV.ok] using hk)]
 | .junk n,hk=>by simp only [SV.den]; rw [h.j n (by simpa [SV.ok] using hk)]
 | .str _,_=>rfl
 | .undef,_=>rfl
 | .nilS,_=>rfl
 | .nilF,_=>rfl
 | .nilP,_=>rfl
 | .nilI,_=>rfl
 | .nilM,_=>rfl
 | .ptr k _,hk=>by simp only [SV.den]; rw [hb k (by simpa [SV.ok] using hk)]
 | .sl k _,hk=>by simp only [SV.den]; rw [hb k (by simpa [SV.ok] using hk)]
 | .slc k _ _,hk=>by simp only [SV.den]; rw [hb k (by simpa [SV.ok] using hk)]
 | .ea n i _ _,hk=>by simp only [SV.ok,Q2] at hk; simp only [SV.den]; rw [h.v n (by simpa using hk.1),IE.den_le h i hk.2]
 | .pa n _,hk=>by simp only [SV.den]; rw [h.v n (by simpa [SV.ok] using hk)]
 | .agg cs,hk=>by simp only [SV.den]; rw [SV.dens_le h hb cs (by simpa [SV.ok] using hk)]
 | .tup cs,hk=>by simp only [SV.den]; rw [SV.dens_le h hb cs (by simpa [SV.ok] using hk)]
 | .fn _ _ cs,hk=>by simp only [SV.den]; rw [SV.dens_le h hb cs (by simpa [SV.ok] using hk)]
 | .fs n,hk=>by simp only [SV.den]; rw [h.v n (by simpa [SV.ok] using hk)]
theorem SV.dens_le {ni nb nv nj:Nat} {kf:Nat->Bool} {ρ ρ':Env} {β β':Nat->Nat} (h:Env.Le ni nb nv nj ρ ρ') (hb:∀ k,kf k=true->β' k=β k):∀ l:List SV,SV.oks ni nb nv nj kf l=true->SV.dens ρ' β' l=SV.dens ρ β l
 | [],_=>rfl
 | x::l,hk=>by simp only [SV.oks,Q2] at hk; simp only [SV.dens]; rw [SV.den_le h hb x hk.1,SV.dens_le h hb l hk.2]
end
def a2Y:Value->Bool
 | .agg _ | .tuple _=>false
 | .slice none n _=>n == 0
 | _=>true
theorem a5n {v:Value} (h:a2Y v=true):v.oneCell'=true:=by cases v<;>simp_all [a2Y,Value.oneCell']
def Env.Ok (ρ:Env):Prop:=∀ x∈ρ.v,a2Y x=true
theorem Env.Ok.getD {ρ:Env} (h:ρ.Ok) (n:Nat):∀ l,ρ.v.getD n vd≠.agg l:=by
 intro l e
 simp only [Qn] at e
 cases hn:ρ.v[n]? with
 | none=>simp [hn] at e
 | some x =>
  have:=h x (Qe hn)
  simp [hn] at e
  subst e
  simp [a2Y] at this
theorem Env.Ok.fine {ρ:Env} (h:ρ.Ok) (n:Nat):a2Y (ρ.v.getD n vd)=true:=by
 simp only [Qn]
 cases hn:ρ.v[n]? with
 | none=>rfl
 | some x=>simpa [hn] using h x (Qe hn)
theorem Env.Ok.nil {ρ:Env} (h:ρ.Ok) (n:Nat):∀ l c,ρ.v.getD n vd=.slice none l c->l=0:=by
 intro l c e
 simp only [Qn] at e
 cases hn:ρ.v[n]? with
 | none=>simp [hn] at e
 | some x =>
  have:=h x (Qe hn)
  simp [hn] at e
  subst e
  simpa [a2Y] using this
theorem a1s.fine {s:Hp} {size v xs} (h:a1s s size v xs):a2Y v=true:=by
 obtain ⟨_,a,cap,rfl,_,h⟩:=h
 cases a with
 | some a=>rfl
 | none =>
  cases xs with
  | nil=>rfl
  | cons x xs=>obtain ⟨b,o,e,_⟩:=h (by simp); simp at e
theorem a1s.len {s:Hp} {size v xs} (h:a1s s size v xs):a4Q v=xs.length:=by
 obtain ⟨_,a,cap,rfl,_⟩:=h; rfl
def a5L (o:Oper):Bool:=match o.op with | .defer _=>true | _=>false
theorem b8i {o:Oper} (h:a5L o=false):∀ c,o.op≠.defer c:=by
 intro c hc
 simp [a5L,hc] at h
theorem c3m {P:Program} {o:Oper} {a:Act} {w:World} {K Z:Act->World->Prop} (h:o.wp P a w K (fun e a w=>e=.normal/\Z a w)):o.wp P a w K (fun _ _ _=>False):=by
 simp only [Oper.wp,Oper.upon] at h ⊢
 split at h
 ·exact h
 ·exact h
 ·exact h
 ·refine Calls.mono h fun e w'' hq=>?_
  cases e with
  | returned v=>exact hq
  | panicked chain=>exact absurd hq.1 (by simp)
  | outgrown=>obtain ⟨a₀,w₀,hq⟩:=hq; exact absurd hq.1 (by simp)
 ·exact h
 ·exact absurd h.1 (by simp)
 ·exact h.elim
theorem opR {P:Program} {b:Frame} {ops:Array Oper} {Z:Act->World->Prop} {i:Nat} {rest:List Nat} {o:Oper} (ho:ops[i]?=some o) (hnd:b.roundOf=none\/a5L o=false) {a:Act} {w:World}
  (h:if Region.wanted o (yielded ops a.tmps)=true then o.wp P a w Z (fun _ _ _=>False) else Z (a.put o.dst undef) w) (k:List Item) (cs:List Frame) :
  ∃ a' w',Z a' w'/\Steps P (lone (b.atR a (.inRegion ops (i::rest)::k)) cs w) (lone (b.atR a' (.inRegion ops rest::k)) cs w'):=by
 by_cases hw:Region.wanted o (yielded ops a.tmps)=true
 ·simp only [hw,if_true] at h
  simp only [Oper.wp,Oper.upon] at h
  have hg:=stepGR_op (P:=P) (b:=b) (k:=k) (cs:=cs) (w:=w) (rest:=rest) ho hw
  have hsem:o.semAt b.roundOf a.eval=execOp a.eval o:=by
   rcases hnd with h0 | h0
   ·rw [h0]; exact Oper.semAt_none _ _
   ·exact Oper.semAt_eq _ _ _ (b8i h0)
  rw [hsem] at hg
  have hfin:∀ v,(b.atR a (.inRegion ops (i::rest)::k)).finish v=b.atR (a.put o.dst v) (.inRegion ops rest::k):=by
   intro v; rw [Frame.finish_atR,ho]; rfl
  split at h
  ·rename_i v w' hr
   refine ⟨_,w',h,.one (step_lone_go ?_)⟩
   rw [hg,<- hfin]; simp [stepG.apply,hr]
  ·rename_i w' hr
   refine ⟨_,w',h,.one (step_lone_go ?_)⟩
   rw [hg,<- hfin]; simp [stepG.apply,hr]
  ·rename_i d w' hr
   refine ⟨_,w',h,.one (step_lone_go ?_)⟩
   have:({ b.atR a (.inRegion ops (i::rest)::k) with defers:=d::a.defers }:Frame).finish undef =
     b.atR ({ a with defers:=d::a.defers }.put o.dst undef) (.inRegion ops rest::k):=by
    have:=Frame.finish_atR b { a with defers:=d::a.defers } ops i rest k undef
    rw [ho] at this; exact this
   rw [hg]; simp only [stepG.apply,Sem.runT_eq,hr,GStep.bare_after]
   exact congrArg (fun fr=>GStep.go { frame:=fr,callers:=cs,status:=.running,dying:=none } w') this
  ·rename_i f args w' hr
   obtain ⟨e,w'',fr,hR,hsteps,_,hleave⟩:=h (b.atR a (.inRegion ops (i::rest)::k)::cs)
   have henter:step P (lone (b.atR a (.inRegion ops (i::rest)::k)) cs w) =
     .next (lone (Frame.enter P f args .normal) (b.atR a (.inRegion ops (i::rest)::k)::cs) w') :=
    step_lone_go (by rw [hg]; simp [stepG.apply,hr,Frame.atR])
   cases e with
   | returned v =>
    refine ⟨_,w'',hR,.head henter (Steps.trans hsteps (.one ?_))⟩
    rw [<- hfin]; exact step_leave_returned hleave
   | panicked chain=>exact hR.elim
   | outgrown =>
    obtain ⟨a₀,w₀,hq⟩:=hR
    exact hq.elim
  ·rename_i row args w' hr
   obtain ⟨v,w'',hR,hsteps⟩:=h (b.atR a (.inRegion ops (i::rest)::k)) cs
   have henter:step P (lone (b.atR a (.inRegion ops (i::rest)::k)) cs w) =
     .next (lone (Frame.ofRow P row args .normal) (b.atR a (.inRegion ops (i::rest)::k)::cs) w') :=
    step_lone_go (by rw [hg]; simp [stepG.apply,hr,Frame.atR])
   refine ⟨_,w'',hR,.head henter ?_⟩
   rw [<- hfin]; exact hsteps
  ·exact h.elim
  ·exact h.elim
 ·simp only [hw,if_false,Q7] at h
  have hs:=stepR_op_skip (P:=P) (b:=b) (a:=a) (k:=k) (cs:=cs) (w:=w) (ops:=ops) (i:=i) (rest:=rest)
   (by simp [ho]; simpa using hw)
  simp only [ho,Option.bind_some] at hs
  exact ⟨_,w,h,.one hs⟩
theorem c5y {P:Program} {b:Frame} {ops:Array Oper} {Z:Act->World->Prop} (hnd:b.roundOf=none\/∀ (i:Nat) (o:Oper),ops[i]?=some o->a5L o=false) (l:List Nat) :
  ∀ (a:Act) (w:World),wpOps P ops (fun e a w=>e=.normal/\Z a w) l a w->∀ (k:List Item) (cs:List Frame),
   ∃ a' w',Z a' w'/\Steps P (lone (b.atR a (.inRegion ops l::k)) cs w) (lone (b.atR a' k) cs w'):=by
 induction l with
 | nil=>exact fun a w h k cs=>⟨a,w,h.2,.one stepR_region_end⟩
 | cons i rest ih =>
  intro a w h k cs
  simp only [wpOps] at h
  cases ho:ops[i]? with
  | none =>
   simp only [ho] at h
   obtain ⟨a',w',hz,hs'⟩:=ih a w h k cs
   have hs:=stepR_op_skip (P:=P) (b:=b) (a:=a) (k:=k) (cs:=cs) (w:=w) (ops:=ops) (i:=i) (rest:=rest) (by simp [ho])
   simp only [ho,Option.bind_none,Act.put] at hs
   exact ⟨a',w',hz,.head hs hs'⟩
  | some o =>
   simp only [ho] at h
   have h1:if Region.wanted o (yielded ops a.tmps)=true then o.wp P a w (wpOps P ops (fun e a w=>e=.normal/\Z a w) rest) (fun _ _ _=>False) else wpOps P ops (fun e a w=>e=.normal/\Z a w) rest (a.put o.dst undef) w:=by
    split at h
    ·rename_i hw
     rw [if_pos hw]
     rcases h with h | ⟨_,a₀,w₀,hq⟩
     ·exact c3m h
     ·exact absurd hq.1 (by simp)
    ·rename_i hw
     rw [if_neg hw]; exact h
   obtain ⟨a1,w1,h2,s1⟩:=opR (b:=b) (rest:=rest) ho (hnd.imp (fun h=>h) (fun h=>h i o ho)) h1 k cs
   obtain ⟨a',w',hz,hs'⟩:=ih _ _ h2 k cs
   exact ⟨a',w',hz,s1.trans hs'⟩
abbrev Fr:=FuncId × Option Nat
def atF (f:Fr):Frame:={ (default:Frame) with fn:=f.1,kind:=.normal,roundOf:=f.2 }
def Fin (P:Program) (f:Fr) (cs:List Frame) (e:Ending) (w':World) (m':Machine):Prop :=
 match f.2 with
 | none=>∃ fr,m'=lone fr cs w'/\fr.fn=f.1/\fr.leaving P w' e
 | some _=>∃ c cs',cs=c::cs'/\m'=match e with
  | .returned v=>lone (c.finish v) cs' w'
  | .panicked chain=>lone (c.raise chain) cs' w'
  | .outgrown=>lone c cs' w'
def a2W (P:Program) (f:Fr) (R:Ending->World->Prop) (todo:List Item) (a:Act) (w:World):Prop :=
 ∀ cs,(f.2=none\/cs≠[])->∃ e w' m',R e w'/\Comes P (lone ((atF f).atR a todo) cs w) m' e/\Fin P f cs e w' m'
theorem a2W.step {P:Program} {f:Fr} {R:Ending->World->Prop} {todo todo':List Item} {a a':Act} {w w':World}
  (h:∀ cs,Steps P (lone ((atF f).atR a todo) cs w) (lone ((atF f).atR a' todo') cs w')) (g:a2W P f R todo' a' w'):a2W P f R todo a w :=
 fun cs hcs=>let ⟨e,w1,m,r,c,hl⟩:=g cs hcs; ⟨e,w1,m,r,.of_steps (h cs) c,hl⟩
theorem a2W.ops {P:Program} {f:Fr} {R:Ending->World->Prop} {ops:Array Oper} {is:List Nat} {k:List Item} {a:Act} {w:World}
  (hnd:f.2=none\/∀ (i:Nat) (o:Oper),ops[i]?=some o->a5L o=false)
  (h:wpOps P ops (fun e a w=>e=.normal/\a2W P f R k a w) is a w):a2W P f R (.inRegion ops is::k) a w:=by
 intro cs hcs
 obtain ⟨a',w',hg,harr⟩:=c5y (b:=atF f) hnd is a w h k cs
 obtain ⟨e,w1,m,r,c,hl⟩:=hg cs hcs
 exact ⟨e,w1,m,r,.of_steps harr c,hl⟩
theorem c0K {P:Program} {f:Fr} {R:Ending->World->Prop} {ops:Array Oper} {i:Nat} {rest:List Nat} {o:Oper} {k:List Item} {a:Act} {w:World} (ho:ops[i]?=some o) (hnd:f.2=none\/a5L o=false)
  (h:if Region.wanted o (yielded ops a.tmps)=true then o.wp P a w (fun a w=>a2W P f R (.inRegion ops rest::k) a w) (fun _ _ _=>False) else a2W P f R (.inRegion ops rest::k) (a.put o.dst undef) w) :
  a2W P f R (.inRegion ops (i::rest)::k) a w:=fun cs hcs=>by
 obtain ⟨a',w',hg,hs⟩:=opR (b:=atF f) ho hnd h k cs
 obtain ⟨e,w1,m,r,c,hl⟩:=hg cs hcs
 exact ⟨e,w1,m,r,.of_steps hs c,hl⟩
theorem b8r {P:Program} {f:FuncId} {fn:Func} {c:Code} {args:Array Value} {w:World} {R:Ending->World->Prop}
  (hf:P.funcs[f]?=some fn) (hb:fn.body=some c)
  (h:a2W P (f,none) R [.code c] { tmps:=args++Qz (fn.ntmps-args.size) undef,defers:=[] } w):Calls P f args w R:=by
 intro cs
 obtain ⟨e,w',m,r,hc,fr,rfl,hl⟩:=h cs (.inl rfl)
 refine ⟨e,w',fr,r,?_,hl⟩
 have henter:Frame.enter P f args .normal=(atF (f,none)).atR { tmps:=args++Qz (fn.ntmps-args.size) undef,defers:=[] } [.code c]:=by
  simp [Frame.enter,Frame.atR,hf,hb,atF]
 rw [henter]; exact hc
theorem b9A {v:Value} {s:SV} (h:b8D v=some s) (ρ:Env) (β:Nat->Nat):s.den ρ β=v:=by
 unfold b8D at h
 split at h<;>simp at h<;>subst h<;>simp [SV.den,IE.den,BE.den]
theorem b7U (ρ:Env) (β:Nat->Nat):∀ (l:List Value) {ss:List SV},l.mapM b8D=some ss->SV.dens ρ β ss=l
 | [],ss,h=>by simp at h; subst h; rfl
 | v::l,ss,h=>by
  simp only [QA,Option.bind_eq_bind,QB,Option.pure_def,Q0] at h
  obtain ⟨x,h1,xs,h2,rfl⟩:=h
  simp only [SV.dens,b9A h1,b7U ρ β l h2]
theorem c5E {v:Value} {s:SV} (h:ofV v=some s) (ρ:Env) (β:Nat->Nat):s.den ρ β=v:=by
 unfold ofV at h
 split at h
 ·simp only [Q3] at h
  obtain ⟨ss,h1,rfl⟩:=h
  simp only [SV.den,b7U ρ β _ h1]
 ·exact b9A h ρ β
theorem a0T {sl:List SV} {x:Operand} {s:SV} (h:ev sl x=some s) {ρ:Env} {β:Nat->Nat} {a:Act} (ha:a.tmps=(SV.dens ρ β sl).toArray):a.eval x=s.den ρ β:=by
 cases x with
 | tmp t =>
  simp only [ev] at h
  simp [Act.eval,ha,SV.dens_map,h]
 | const v=>simp only [ev] at h; rw [c5E h]; rfl
 | func f=>simp only [ev,Q0] at h; subst h; simp [Act.eval,SV.den,SV.dens]
 | global g=>simp [ev] at h
theorem a4B {sl:List SV} {ρ:Env} {β:Nat->Nat} {a:Act} (ha:a.tmps=(SV.dens ρ β sl).toArray):∀ (xs:List Operand) (ss:List SV),evs sl xs=some ss->xs.map a.eval=SV.dens ρ β ss
 | [],ss,h=>by simp only [evs,Q0] at h; subst h; rfl
 | x::xs,ss,h=>by
  simp only [evs] at h
  split at h
  ·rename_i v vs h1 h2
   simp only [Q0] at h; subst h
   simp only [Q5,SV.dens,a0T h1 ha,a4B ha xs vs h2]
  ·simp at h
theorem c6l {sl:List SV} {ρ:Env} {β:Nat->Nat} {a:Act} (ha:a.tmps=(SV.dens ρ β sl).toArray) (dst:Option Tmp) (v:SV) :
  (a.put dst (v.den ρ β)).tmps=(SV.dens ρ β (a1d sl dst v)).toArray:=by
 cases dst with
 | none=>simpa [Act.put,a1d] using ha
 | some d =>
  simp only [Act.put,a1d,ha,SV.dens_map,List.map_set,List.setIfInBounds_toArray]
section
variable (ρ:Env)
theorem c3V (x y:IE):(IE.add' x y).den ρ=x.den ρ+y.den ρ:=by unfold IE.add'; split<;>simp [IE.den]
theorem b9f (x y:IE):(IE.sub' x y).den ρ=x.den ρ-y.den ρ:=by unfold IE.sub'; split<;>rfl
theorem c4Y (x y:IE):(IE.mul' x y).den ρ=x.den ρ*y.den ρ:=by unfold IE.mul'; split<;>rfl
theorem b0T (x y:IE):(BE.lt' x y).den ρ=ltB (x.den ρ) (y.den ρ):=by unfold BE.lt'; split<;>rfl
theorem a8C (x y:IE):(BE.le' x y).den ρ=leB (x.den ρ) (y.den ρ):=by unfold BE.le'; split<;>rfl
theorem b3V (x y:IE):(BE.eq' x y).den ρ=eqB (x.den ρ) (y.den ρ):=by unfold BE.eq'; split<;>rfl
theorem a5B (x:BE):(BE.not' x).den ρ=!x.den ρ:=by unfold BE.not'; split<;>simp [BE.den]
theorem a6s (x y:BE):(BE.and' x y).den ρ=(x.den ρ&&y.den ρ):=by unfold BE.and'; split<;>simp [BE.den]
theorem c6s (x y:BE):(BE.or' x y).den ρ=(x.den ρ||y.den ρ):=by unfold BE.or'; split<;>simp [BE.den]
end
theorem b9X (k:IntKind) (n:Int) (h1:loI k<=n) (h2:n<=hiI k):k.wrap n=n:=by
 cases k<;>simp [loI,hiI,IntKind.signed,IntKind.bits] at h1 h2<;>simp [IntKind.wrap,IntKind.signed,IntKind.bits]<;>omega
theorem a8w {nw:Bool} {k:IntKind} {e:IE} {ns:List BE} {v:SV} (h:fit nw k e=(ns,v)) (ρ:Env) (β:Nat->Nat) (hn:∀ b∈ns,b.den ρ=true):v.den ρ β=.int k (k.wrap (e.den ρ)):=by
 unfold fit at h
 split at h
 ·simp only [Q1] at h
  obtain ⟨rfl,rfl⟩:=h
  have:=hn _ (Q4.2 rfl)
  simp only [rng,a6s,a8C,IE.den,Q2] at this
  simp only [SV.den]
  rw [b9X k _ (a2n.1 this.1) (a2n.1 this.2)]
 ·simp only [Q1] at h
  obtain ⟨rfl,rfl⟩:=h
  rfl
end Go.Sx
namespace Go.Sx
def b6v:Kd->Int->Value
 | .int k,z=>.int k z
 | _,_=>undef
def a0X:List Kd->List Int->List Value
 | kd::ks,z::zs=>b6v kd z::a0X ks zs
 | _,_=>[]
structure TI.Ok (P:Program) (t:Nat) (i:TI):Prop where
 inf:∃ inf z,P.info? t=some inf/\inf.size=i.size/\inf.bytes=i.bytes/\inf.zero=some z/\∀ ρ β,z.cells=(SV.dens ρ β i.zero).toArray
 zlen:i.zero.length=i.size
 ty:match i.ty with
  | .int k=>P.underlying t=some (.int k)
  | .bool=>P.underlying t=some .bool
  | .str=>P.underlying t=some .string
  | .arr n e=>P.underlying t=some (.array n e)
  | .st fs=>∃ fields:Array Field,P.underlying t=some (.struct fields)/\fields.toList.map (fun f=>(f.offset,f.type))=fs
  | .slice e=>P.underlying t=some (.slice e)
  | .ptr e=>P.underlying t=some (.pointer e)
  | .func=>∃ p r v,P.underlying t=some (.func p r v)
  | .other=>∃ d,P.underlying t=some d/\(match d with | .struct _ | .array _ _=>False | _=>True)
 one:i.isAgg=false->i.size=1
 eq:i.eq=true->P.eqGuardType P.depth t=false/\∀ (w:World) (zs us:List Int),zs.length=i.ks.length->us.length=i.ks.length ->
  (Op.equal t (.agg (a0X i.ks zs).toArray) (.agg (a0X i.ks us).toArray)).run P w=.ok (decide (zs=us)) w
structure MT.Ok (P:Program) (t:Nat) (i:MT):Prop where
 ty:P.underlying t=some (.map i.kt i.e)
 key:P.underlying i.kt=some (.int i.k)
 zero:∃ inf z,P.info? i.e=some inf/\inf.zero=some z/\∀ ρ β,z=i.dflt.den ρ β
def qkey (zs:List Int):Value:=.agg (zs.map (Value.int .i64)).toArray
structure QT.Ok (P:Program) (t:Nat) (i:QT):Prop where
 ty:P.underlying t=some (.map i.kt i.e)
 kd:∃ n e,P.underlying i.kt=some (.array n e)
 check:∀ (em:Bool) (zs:List Int) (w:World),zs.length=i.n->(Instr.checkKey em 10000 i.kt (qkey zs)).run P w=.ok () w
 eq:∀ (w:World) (zs us:List Int),zs.length=i.n->us.length=i.n->(Op.equal i.kt (qkey zs) (qkey us)).run P w=.ok (decide (zs=us)) w
 zero:∃ inf,P.info? i.e=some inf/\inf.zero=some (.int .i64 0)
structure ProgOk (P:Program) (c:Ctx):Prop where
 tab:∀ t i,c.tab t=some i->i.Ok P t
 mixed:P.follows .mixedOrders=true
 call:∀ f,c.fok f=true->∀ args w,(callFunc f args).run P w=.ok (.enter f args) w
 mtab:∀ t i,c.mtab t=some i->i.Ok P t
 qtab:∀ t i,c.qtab t=some i->i.Ok P t
section
variable {P:Program} {c:Ctx}
theorem b3N {t:Nat} {i:TI} (h:i.Ok P t) (w:World):(isAgg t).run P w=.ok i.isAgg w:=by
 have ht:=h.ty
 unfold TI.isAgg
 cases hi:i.ty<;>simp only [hi] at ht ⊢
 case st fs=>obtain ⟨fields,h1,_⟩:=ht; simp [isAgg,run_underlying h1]
 case func=>obtain ⟨p,r,v,h1⟩:=ht; simp [isAgg,run_underlying h1]
 case other =>
  obtain ⟨d,h1,h2⟩:=ht
  cases d<;>simp at h2<;>simp [isAgg,run_underlying h1]
 all_goals simp [isAgg,run_underlying ht]
theorem run_sizeOf {t:Nat} {i:TI} (h:i.Ok P t) (w:World):(sizeOf t).run P w=.ok i.size w:=by
 obtain ⟨inf,z,h1,h2,_⟩:=h.inf
 simp [sizeOf,typeInfo,h1,h2]
theorem b5t {t:Nat} {i:TI} (h:i.Ok P t) (w:World):∃ z,(zeroValue t).run P w=.ok z w/\∀ ρ β,z.cells=(SV.dens ρ β i.zero).toArray:=by
 obtain ⟨inf,z,h1,_,_,h4,h5⟩:=h.inf
 exact ⟨z,by simp [zeroValue,typeInfo,h1,h4],h5⟩
theorem b5A {t:Nat} {i:TI} (h:i.Ok P t) {ρ:Env} {β:Nat->Nat} {cs:List SV} {off:Nat} {v:SV} (hv:a5w i cs off=some v) (w:World) :
  (part t (SV.dens ρ β cs).toArray off).run P w=.ok (v.den ρ β) w:=by
 unfold a5w at hv
 unfold part
 simp only [Sem.run_bind,b3N h,Result.andThen_ok]
 split at hv
 ·rename_i hagg
  split at hv
  ·simp only [Q0] at hv; subst hv
   simp only [hagg,if_true,Sem.run_bind,run_sizeOf h,Result.andThen_ok,Sem.run_pure,SV.den,SV.dens_map,List.map_take,List.map_drop,List.extract_toArray,List.extract_eq_take_drop,Nat.add_sub_cancel_left]
  ·simp at hv
 ·rename_i hagg
  simp only [hagg]
  have:(SV.dens ρ β cs).toArray[off]?=some (v.den ρ β):=by simp [SV.dens_map,hv]
  simp [this]
def HOk (ρ:Env) (β:Nat->Nat) (H:List Blk) (w:World):Prop :=
 ∀ k cs T,a1g H k=some (cs,T)->w.heap[β k]?=some (.cells (SV.dens ρ β cs).toArray T (0,0))
theorem c0m {t:Nat} {i:TI} (h:i.Ok P t) {ρ:Env} {β:Nat->Nat} {cs:List SV} {off b T:Nat} {v:SV} (hv:a5w i cs off=some v) (w:World)
  (hb:w.heap[b]?=some (.cells (SV.dens ρ β cs).toArray T (0,0))):(loadVar t ⟨b,off,none⟩).run P w=.ok (v.den ρ β) w:=by
 have hcell:∀ o u,(SV.dens ρ β cs)[o]?=some u->w.cell? ⟨b,o,none⟩=some u:=by
  intro o u hu
  simp only [World.cell?,hb]
  simpa using hu
 unfold a5w at hv
 unfold loadVar
 simp only [Sem.run_bind,b3N h,Result.andThen_ok]
 split at hv
 ·rename_i hagg
  split at hv
  ·rename_i hle
   simp only [Q0] at hv; subst hv
   simp only [hagg,if_true,Sem.run_bind,run_sizeOf h,Result.andThen_ok]
   have hlen:((SV.dens ρ β cs).drop off |>.take i.size).length=i.size:=by simp [SV.dens_map]; omega
   have:=run_loadCells_list (P:=P) w ⟨b,off,none⟩ ((SV.dens ρ β cs).drop off |>.take i.size) (fun j u hj=>by
    rw [QC] at hj
    split at hj
    ·rw [QD] at hj
     have:(⟨b,off,none⟩:Addr).add j=⟨b,off+j,none⟩:=by unfold Addr.add; split<;>simp_all
     rw [this]; exact hcell _ _ hj
    ·cases hj)
   rw [hlen] at this
   simp only [this,Result.andThen_ok,Sem.run_pure,SV.den,SV.dens_map,List.map_take,List.map_drop]
  ·simp at hv
 ·rename_i hagg
  simp only [hagg]
  have:=hcell off (v.den ρ β) (by simp [SV.dens_map,hv])
  simp [this]
theorem b4L (ρ:Env) (β:Nat->Nat):∀ (ks:List Kd) (l m:List SV) (e:BE),a5N ks l m=some e ->
  ∃ zs us:List Int,zs.length=ks.length/\us.length=ks.length/\SV.dens ρ β l=a0X ks zs/\SV.dens ρ β m=a0X ks us/\e.den ρ=decide (zs=us)
 | [],l,m,e,h=>by
  cases l<;>cases m<;>simp [a5N] at h
  subst h; exact ⟨[],[],rfl,rfl,rfl,rfl,rfl⟩
 | kd::ks,l,m,e,h=>by
  cases l with
  | nil=>simp [a5N] at h
  | cons x l =>
  cases m with
  | nil=>simp [a5N] at h
  | cons y m =>
  cases kd<;>cases x<;>first | (simp [a5N] at h; done) | skip
  cases y<;>first | (simp [a5N] at h; done) | skip
  rename_i k0 k x k' y
  simp only [a5N] at h
  split at h
  case isFalse=>simp at h
  rename_i hk
  obtain ⟨rfl,rfl⟩:=hk
  simp only [Q3] at h
  obtain ⟨e',h1,rfl⟩:=h
  obtain ⟨zs,us,a,b,d,f,g⟩:=b4L ρ β ks l m e' h1
  refine ⟨x.den ρ::zs,y.den ρ::us,by simp [a],by simp [b],by simp [SV.dens,SV.den,a0X,b6v,d],by simp [SV.dens,SV.den,a0X,b6v,f],?_⟩
  rw [a6s,b3V,g,eqB]
  simp only [Qp]
  by_cases h1:x.den ρ=y.den ρ<;>by_cases h2:zs=us<;>simp [h1,h2]
theorem c2E {nw:Bool} {op:BinOp} {k:IntKind} {x y:IE} {ns:List BE} {v:SV} (h:c1k nw op k x y=some (ns,v)) (ρ:Env) (β:Nat->Nat)
  (hn:∀ b∈ns,b.den ρ=true) (t:Nat) (w:World):(binOp op t (.int k (x.den ρ)) (.int k (y.den ρ))).run P w=.ok (v.den ρ β) w:=by
 unfold c1k at h
 cases op<;>simp only [Q0,reduceCtorEq] at h
 case add=>have:=a8w h ρ β hn; simp [binOp,Op.intArith,this,c3V]
 case sub=>have:=a8w h ρ β hn; simp [binOp,Op.intArith,this,b9f]
 case mul=>have:=a8w h ρ β hn; simp [binOp,Op.intArith,this,c4Y]
 case quo =>
  obtain ⟨e1,e2⟩:=Qa h
  have h0:=hn (BE.not' (BE.eq' y (.l 0))) (by rw [<- e1]; simp)
  have:=a8w (nw:=nw) (k:=k) (e:=.tdiv x y) (ns:=(fit nw k (.tdiv x y)).1) (v:=(fit nw k (.tdiv x y)).2) rfl ρ β (fun b hb=>hn b (by rw [<- e1]; simp [hb]))
  rw [a5B,b3V,Qq] at h0
  have h0':¬ y.den ρ=0:=b3H.1 h0
  rw [e2] at this
  simp [binOp,Op.intDiv,h0',this,IE.den]
 case rem =>
  obtain ⟨e1,e2⟩:=Qa h
  have h0:=hn (BE.not' (BE.eq' y (.l 0))) (by rw [<- e1]; simp)
  rw [a5B,b3V,Qq] at h0
  have h0':¬ y.den ρ=0:=b3H.1 h0
  subst e2
  simp [binOp,Op.intDiv,h0',SV.den,IE.den]
 all_goals
  obtain ⟨_,rfl⟩:=Qa h
  simp only [binOp,Op.intCmp,SV.den,ne_eq,not_true_eq_false,if_false,Sem.run_pure,a5B,b3V,b0T,a8C,ltB,leB,eqB]
 case eql=>simp [BEq.beq]
 case neq=>simp [bne,BEq.beq]
end
end Go.Sx
namespace Go.Sx
section
variable {P:Program} {c:Ctx} {ρ:Env} {β:Nat->Nat}
theorem Ctx.ty_some {t:Nat} {y:Ty} (h:c.ty t=some y):∃ i,c.tab t=some i/\i.ty=y:=by
 simpa [Ctx.ty] using h
theorem b5X {v:Value} (h:a4w 3 v=true):∃ s,v=.string s:=by
 cases v<;>simp only [a4w,Q7] at h
 exact ⟨_,rfl⟩
theorem a6Z (hρ:ρ.Ok) (v:SV) (hv:v.cok=true):(v.den ρ β).cells=(SV.dens ρ β (cellsOf v)).toArray:=by
 cases v
 case junk=>simp [SV.cok] at hv
 case va n =>
  simp only [SV.den,cellsOf,SV.dens]
  have:=hρ.getD n
  generalize ρ.v.getD n vd=x at *
  cases x<;>first | rfl | exact absurd rfl (this _)
 case fs n =>
  simp only [SV.den,cellsOf,SV.dens]
  have:=hρ.getD n
  generalize ρ.v.getD n vd=x at *
  cases x<;>first | rfl | exact absurd rfl (this _)
 all_goals simp [SV.den,cellsOf,SV.dens,Value.cells]
 case undef=>rfl
theorem b2Y (cs new:List SV) (off:Nat) :
  SV.dens ρ β (a3N cs off new)=(SV.dens ρ β cs).take off++SV.dens ρ β new++(SV.dens ρ β cs).drop (off+new.length):=by
 simp [a3N,SV.dens_map]
theorem b7H (off:Nat):∀ (new:List Value) (k:Nat) (cs:Array Value),off+k+new.length<=cs.size ->
  (new.zipIdx k).foldl (fun cs (x:Value × Nat)=>cs.setIfInBounds (off+x.2) x.1) cs=(cs.toList.take (off+k)++new++cs.toList.drop (off+k+new.length)).toArray
 | [],k,cs,_=>by simp
 | v::new,k,cs,h=>by
  simp only [Qr] at h
  simp only [List.zipIdx_cons,List.foldl_cons]
  rw [b7H off new (k+1) (cs.setIfInBounds (off+k) v) (by simp; omega)]
  apply congrArg List.toArray
  simp only [Array.toList_setIfInBounds,Qr]
  apply Qf
  intro j
  simp only [List.getElem?_append,List.length_take,List.length_append,List.length_set,Array.length_toList,QC,QD,Qs,Qr,List.getElem?_cons]
  by_cases h1:j < off+k
  ·have a:j < min (off+(k+1)) cs.size:=by omega
   have b:j < min (off+k) cs.size:=by omega
   have d:¬ off+k=j:=by omega
   have e:j < off+(k+1):=by omega
   have f:j < min (off+(k+1)) cs.size+new.length:=by omega
   have g:j < min (off+k) cs.size+(new.length+1):=by omega
   simp [a,b,d,e,f,g,h1]
  ·by_cases h2:j=off+k
   ·subst h2
    have a:off+k < min (off+(k+1)) cs.size:=by omega
    have b:¬ off+k < min (off+k) cs.size:=by omega
    have f:off+k < min (off+(k+1)) cs.size+new.length:=by omega
    have g:off+k < min (off+k) cs.size+(new.length+1):=by omega
    have e:off+k < off+(k+1):=by omega
    have m:off+k-min (off+k) cs.size=0:=by omega
    have q:off+k < cs.size:=by omega
    simp [a,b,e,f,g,m,q]
   ·by_cases h3:j < off+k+1+new.length
    ·have a:¬ j < min (off+(k+1)) cs.size:=by omega
     have b:¬ j < min (off+k) cs.size:=by omega
     have f:j < min (off+(k+1)) cs.size+new.length:=by omega
     have g:j < min (off+k) cs.size+(new.length+1):=by omega
     have m:¬ j-min (off+k) cs.size=0:=by omega
     have q:j-min (off+(k+1)) cs.size=j-min (off+k) cs.size-1:=by omega
     simp [a,b,f,g,m,q]
    ·have f:¬ j < min (off+(k+1)) cs.size+new.length:=by omega
     have g:¬ j < min (off+k) cs.size+(new.length+1):=by omega
     have q:off+(k+1)+new.length+(j-(min (off+(k+1)) cs.size+new.length))=j:=by omega
     have q':off+k+(new.length+1)+(j-(min (off+k) cs.size+(new.length+1)))=j:=by omega
     have d:¬ off+k=j:=by omega
     simp only [f,g,if_false,q,q',d]
theorem b1Z (hρ:ρ.Ok) (place:Nat->Option (Nat × Nat)):∀ (parts:List (Nat × SV)) (cs out:List SV),a9s place cs parts=some out ->
  Instr.fill place (SV.dens ρ β cs).toArray (parts.map fun p=>(p.1,p.2.den ρ β))=some (SV.dens ρ β out).toArray
 | [],cs,out,h=>by simp only [a9s,Q0] at h; subst h; rfl
 | (j,v)::l,cs,out,h=>by
  simp only [a9s] at h
  split at h
  ·rename_i off size hp
   split at h
   ·rename_i hc
    simp only [Q2,decide_eq_true_eq] at hc
    have ih:=b1Z hρ place l _ _ h
    simp only [Q5,Instr.fill,hp]
    have e1:(v.den ρ β).cells=(SV.dens ρ β (cellsOf v)).toArray:=a6Z hρ v hc.1.1
    have hs:(SV.dens ρ β (cellsOf v)).length=size:=by simp [SV.dens_map,hc.1.2]
    have hcl:(SV.dens ρ β cs).length=cs.length:=by simp [SV.dens_map]
    have hle:off+(SV.dens ρ β (cellsOf v)).length<=(SV.dens ρ β cs).length:=by rw [hs,hcl]; exact hc.2
    have hcond:¬ ((decide ((v.den ρ β).cells.size≠size)||decide (off+(v.den ρ β).cells.size > (SV.dens ρ β cs).toArray.size))=true):=by
     rw [e1]
     simp only [Qg,Bool.or_eq_true,decide_eq_true_eq]
     omega
    have hfold:(v.den ρ β).cells.zipIdx.foldl (fun cs (x:Value × Nat)=>cs.setIfInBounds (off+x.2) x.1) (SV.dens ρ β cs).toArray=(SV.dens ρ β (a3N cs off (cellsOf v))).toArray:=by
     rw [e1,b2Y,<- Array.foldl_toList,Array.toList_zipIdx]
     have:=b7H off (SV.dens ρ β (cellsOf v)) 0 (SV.dens ρ β cs).toArray (by simpa using hle)
     simp only [Nat.add_zero] at this
     rw [show (cellsOf v).length=(SV.dens ρ β (cellsOf v)).length by simp [SV.dens_map]]
     exact this
    rw [if_neg hcond]
    rw [<- ih]
    exact congrArg (fun x=>Instr.fill place x (l.map fun p=>(p.1,p.2.den ρ β))) hfold
   ·simp at h
  ·simp at h
theorem b7o {sl:List SV} {a:Act} (ha:a.tmps=(SV.dens ρ β sl).toArray):∀ (ps:List (Nat × Operand)) (vs:List SV),evs sl (ps.map (·.2))=some vs ->
  ps.map (fun p=>(p.1,a.eval p.2))=((ps.map (·.1)).zip vs).map fun p=>(p.1,p.2.den ρ β)
 | [],vs,h=>by simp
 | p::ps,vs,h=>by
  simp only [Q5,evs] at h
  split at h
  ·rename_i v vs' h1 h2
   simp only [Q0] at h; subst h
   simp only [Q5,List.zip_cons_cons,a0T h1 ha,b7o ha ps vs' h2]
  ·simp at h
theorem b4H (hP:ProgOk P c):∀ (fields:List Field) (w:World),(∀ f∈fields,∃ i,c.tab f.type=some i) ->
  (fields.mapM fun f=>(do pure (f.offset,<- sizeOf f.type):Sem (Nat × Nat))).run P w=.ok (fields.map fun f=>(f.offset,((c.tab f.type).map (·.size)).getD 0)) w
 | [],w,_=>by simp
 | f::fs,w,h=>by
  obtain ⟨i,hi⟩:=h f (by simp)
  have ih:=b4H hP fs w (fun g hg=>h g (by simp [hg]))
  simp only [Sem.run_bind,QA,run_sizeOf (hP.tab _ _ hi),Result.andThen_ok,Sem.run_pure,ih,Q5,hi,Qh,Qt]
theorem c2p (hP:ProgOk P c) (hρ:ρ.Ok) {sl:List SV} {t:Nat} {parts:Array (Nat × Operand)} {v:SV} (h:b7e c sl t parts.toList=some v) {a:Act} (ha:a.tmps=(SV.dens ρ β sl).toArray) (w:World) :
  (Instr.build t (parts.map fun (i,x)=>(i,a.eval x))).run P w=.ok (v.den ρ β) w:=by
 unfold b7e at h
 split at h
 case h_2=>simp at h
 rename_i i hi
 split at h
 case h_2=>simp at h
 rename_i vs hvs
 have hI:=hP.tab t i hi
 obtain ⟨z,hz,hzc⟩:=b5t hI w
 have hparts:(parts.map fun (p:Nat × Operand)=>(p.1,a.eval p.2)).toList=((parts.toList.map (·.1)).zip vs).map fun p=>(p.1,p.2.den ρ β):=by
  rw [<- b7o ha _ _ hvs]; simp
 have hty:=hI.ty
 split at h
 ·rename_i fs hfs
  simp only [hfs] at hty
  obtain ⟨fields,hu,hf⟩:=hty
  split at h
  case isFalse=>simp at h
  rename_i hall
  have hall:=Qu.1 hall
  simp only [Q3] at h
  obtain ⟨cs,hfill,rfl⟩:=h
  have hfill':=b1Z (ρ:=ρ) (β:=β) hρ _ _ _ _ hfill
  have hpl:=b4H hP fields.toList w (by
   intro f hfm
   have:=hall (f.offset,f.type) (by rw [<- hf]; exact Q9.2 ⟨f,hfm,rfl⟩)
   exact Qv.1 this)
  have hplA:(fields.mapM fun f=>(do pure (f.offset,<- sizeOf f.type):Sem (Nat × Nat))).run P w=.ok (fields.toList.map fun f=>(f.offset,((c.tab f.type).map (·.size)).getD 0)).toArray w:=by
   rw [Array.mapM_eq_mapM_toList]
   simp only [Sem.run_map,hpl,Result.andThen_ok]
  have hplace:(fun (j:Nat)=>(fields.toList.map fun f=>(f.offset,((c.tab f.type).map (·.size)).getD 0)).toArray[j]?) =
    b6Z c fs:=by
   funext j
   unfold b6Z
   subst hf
   simp only [List.getElem?_toArray,Q8]
   cases hj:fields.toList[j]? with
   | none=>rfl
   | some f =>
    have:=hall (f.offset,f.type) (Q9.2 ⟨f,Qe hj,rfl⟩)
    obtain ⟨fi,hfi⟩:=Qv.1 this
    simp only [Qh,hfi,Qt]
  simp only [Instr.build,Sem.run_bind,hz,Result.andThen_ok,run_underlying hu,hplA,hzc ρ β]
  rw [hplace]
  have:(parts.map fun (x:Nat × Operand)=>(x.1,a.eval x.2)).toList=_:=hparts
  simp only [this,hfill',Sem.run_pure,SV.den]
 ·rename_i n e he
  simp only [he] at hty
  split at h
  case h_2=>simp at h
  rename_i fi hfi
  simp only [Q3] at h
  obtain ⟨cs,hfill,rfl⟩:=h
  have hfill':=b1Z (ρ:=ρ) (β:=β) hρ _ _ _ _ hfill
  unfold b2C at hfill'
  simp only [Instr.build,Sem.run_bind,hz,Result.andThen_ok,run_underlying hty,run_sizeOf (hP.tab _ _ hfi),hzc ρ β]
  have:(parts.map fun (x:Nat × Operand)=>(x.1,a.eval x.2)).toList=_:=hparts
  simp only [this,hfill',Sem.run_pure,SV.den]
 ·simp at h
theorem c1Q (hP:ProgOk P c) {H:List Blk} {t:Nat} {x v:SV} (h:b9y c H t x=some v) {w:World} (hH:HOk ρ β H w) :
  (Instr.loadAt t (x.den ρ β)).run P w=.ok (v.den ρ β) w:=by
 unfold b9y at h
 split at h
 case h_2=>simp at h
 rename_i k off
 split at h
 case h_2=>simp at h
 rename_i i cs T h1 h2
 have:=c0m (hP.tab t i h1) h w (hH _ _ _ h2)
 simp [Instr.loadAt,Instr.sureAddr,SV.den,this]
theorem b8p (hP:ProgOk P c) {src dst:Nat} {x v:SV} {ns:List BE} (h:b3f c dst x=some (ns,v)) (hn:∀ b∈ns,b.den ρ=true) {w:World}
  (hs:∃ d,P.underlying src=some d):(convert src dst (x.den ρ β)).run P w=.ok (v.den ρ β) w:=by
 unfold b3f at h
 split at h
 case h_2=>simp at h
 rename_i k k' e hty
 obtain ⟨i,hi,hi'⟩:=Ctx.ty_some hty
 have hty:=(hP.tab dst i hi).ty
 simp only [hi'] at hty
 obtain ⟨d,hd⟩:=hs
 simp only [Q0] at h
 have:=a8w h ρ β hn
 rw [this]
 simp only [convert,Sem.run_bind,run_underlying hd,run_underlying hty,Result.andThen_ok,SV.den,Conv.intToInt]
 cases d<;>rfl
theorem c4h {op:UnOp} {x v:SV} {ns:List BE} (h:c3H c op x=some (ns,v)) (hn:∀ b∈ns,b.den ρ=true) {w:World} :
  (Op.unary op (x.den ρ β)).run P w=.ok (v.den ρ β) w:=by
 unfold c3H at h
 split at h
 ·simp only [Q0,Q1] at h
  obtain ⟨_,rfl⟩:=h
  simp [Op.unary,SV.den,a5B]
 ·simp only [Q0] at h
  have:=a8w h ρ β hn
  rw [this,b9f]
  simp [Op.unary,SV.den,Op.intArith,IE.den]
 ·simp at h
theorem Addr.add_add0 (x:Addr) (a b:Nat):(x.add a).add b=x.add (a+b):=by
 unfold Addr.add
 by_cases h1:a=0<;>by_cases h2:b=0<;>simp [h1,h2,Qj]
theorem b5K (hP:ProgOk P c) {s f:Nat} {x v:SV} (h:b0C c s f x=some v) {w:World} :
  (Instr.fieldAt s (x.den ρ β) f).run P w=.ok (v.den ρ β) w:=by
 unfold b0C at h
 split at h
 case h_2=>simp at h
 rename_i fs hty
 obtain ⟨i,hi,hi'⟩:=Ctx.ty_some hty
 have hty:=(hP.tab s i hi).ty
 simp only [hi'] at hty
 obtain ⟨fields,hu,hf⟩:=hty
 split at h
 case h_2=>simp at h
 rename_i off ft hft
 split at h
 case h_2=>simp at h
 rename_i fi hfi
 split at h
 case isTrue=>simp at h
 rename_i hsz
 have hsz:¬ fi.size=0:=by simpa using hsz
 have hfield:∃ fd,fields[f]?=some fd/\fd.offset=off/\fd.type=ft:=by
  rw [<- hf] at hft
  simp only [Q8,Q3,Qb] at hft
  obtain ⟨fd,h1,h2⟩:=hft
  exact ⟨fd,h1,(Qa h2).1,(Qa h2).2⟩
 obtain ⟨fd,hfd,rfl,rfl⟩:=hfield
 have main:∀ ad,(Instr.fieldAt s (.pointer (some ad)) f).run P w=.ok (.pointer (some (ad.add fd.offset))) w:=by
  intro ad
  simp [Instr.fieldAt,run_underlying hu,hfd,Instr.sureAddr,fieldPlace,run_sizeOf (hP.tab _ _ hfi),hsz]
 split at h<;>simp only [Q0,reduceCtorEq] at h<;>subst h<;>simp only [SV.den,main]
 ·simp only [Addr.add]
  split<;>simp_all
 ·simp only [Addr.add_add0,Qj]
 ·simp only [Addr.add_add0]
theorem b9P (hP:ProgOk P c) {s f:Nat} {x v:SV} (h:b7h c s f x=some v) {w:World} :
  (Instr.field s (x.den ρ β) f).run P w=.ok (v.den ρ β) w:=by
 unfold b7h at h
 split at h
 case h_2=>simp at h
 rename_i fs cs hty
 obtain ⟨i,hi,hi'⟩:=Ctx.ty_some hty
 have hty:=(hP.tab s i hi).ty
 simp only [hi'] at hty
 obtain ⟨fields,hu,hf⟩:=hty
 split at h
 case h_2=>simp at h
 rename_i off ft hft
 split at h
 case h_2=>simp at h
 rename_i fi hfi
 rw [<- hf] at hft
 simp only [Q8,Q3,Qb] at hft
 obtain ⟨fd,h1,h2⟩:=hft
 obtain ⟨rfl,rfl⟩:=Qa h2
 have:=b5A (hP.tab _ _ hfi) (ρ:=ρ) (β:=β) h w
 simp [Instr.field,run_underlying hu,h1,asAgg,SV.den,this]
theorem b7P:∀ (i:IE) (cs:List SV) (k:Nat) (r:IE),b3R i k cs=some r->∀ j:Nat,j < cs.length->i.den ρ=k+j->∃ v,cs[j]?=some v/\v.den ρ β=.int .i64 (r.den ρ)
 | i,[],k,r,_,j,hj,_=>by simp at hj
 | i,x::cs,k,r,h,j,hj,hi=>by
  cases x<;>first | (simp [b3R] at h; done) | skip
  rename_i kd e
  cases kd<;>first | (simp [b3R] at h; done) | skip
  simp only [b3R,Q3] at h
  obtain ⟨r',h',rfl⟩:=h
  simp only [IE.den]
  cases j with
  | zero=>refine ⟨.int .i64 e,by simp,?_⟩; rw [b7n,if_pos (by simpa using hi)]; rfl
  | succ j =>
   obtain ⟨v,h1,h2⟩:=b7P i cs (k+1) r' h' j (by simpa using hj) (by rw [hi]; push_cast; omega)
   refine ⟨v,by simpa using h1,?_⟩
   rw [b7n,if_neg (by rw [hi]; push_cast; omega)]
   exact h2
theorem b9n:∀ (i:IE) (bs:List UInt8) (k j:Nat) (b:UInt8),bs[j]?=some b->i.den ρ=k+j->(c1m i k bs).den ρ=(b.toNat:Int)
 | i,[],k,j,b,hj,_=>by simp at hj
 | i,x::bs,k,j,b,hj,hi=>by
  simp only [c1m,IE.den]
  cases j with
  | zero=>rw [b7n,if_pos (by simpa using hi)]; simp only [List.getElem?_cons_zero,Q0] at hj; rw [hj]
  | succ j =>
   rw [b7n,if_neg (by rw [hi]; push_cast; omega)]
   exact b9n i bs (k+1) j b (by simpa using hj) (by rw [hi]; push_cast; omega)
theorem c0c (hP:ProgOk P c) {t:Nat} {x ix v:SV} {ns:List BE} (h:b7q c t x ix=some (ns,v)) (hn:∀ b∈ns,b.den ρ=true) {w:World} :
  (Instr.index t (x.den ρ β) (ix.den ρ β)).run P w=.ok (v.den ρ β) w:=by
 unfold b7q at h
 split at h
 case h_3=>simp at h
 case h_2 =>
  rename_i hty
  obtain ⟨i,hi,hi'⟩:=Ctx.ty_some hty
  have hty:=(hP.tab t i hi).ty
  simp only [hi'] at hty
  split at h
  ·rename_i bs k e
   simp only [Q0,Q1] at h
   obtain ⟨rfl,rfl⟩:=h
   have h0:=hn _ (Q4.2 rfl)
   rw [a6s,a8C,b0T,Q2] at h0
   have h1:(0:Int)<=e.den ρ:=a2n.1 h0.1
   have h2:e.den ρ < (bs.length:Int):=a0U.1 h0.2
   have hlt:(e.den ρ).toNat < bs.length:=by omega
   have hb:=b9n (ρ:=ρ) e bs 0 (e.den ρ).toNat bs[(e.den ρ).toNat] (List.getElem?_eq_getElem hlt) (by omega)
   have hg:(⟨bs.toArray⟩:ByteArray)[(e.den ρ).toNat]?=some bs[(e.den ρ).toNat]:=by
    rw [getElem?_pos (⟨bs.toArray⟩:ByteArray) (e.den ρ).toNat (by simpa [ByteArray.size] using hlt)]
    rfl
   simp [Instr.index,asIntOf,SV.den,run_underlying hty,h1,hlt,hb,hg]
  ·rename_i n k e
   simp only [Q0,Q1] at h
   obtain ⟨rfl,rfl⟩:=h
   obtain ⟨s1,hs1⟩:=b5X (v:=ρ.v.getD n vd) (hn (.is 3 n) (by simp))
   have h0:=hn (BE.and' (BE.le' (.l 0) e) (BE.lt' e (.stl n))) (by simp)
   rw [a6s,a8C,b0T,Q2] at h0
   have h1:(0:Int)<=e.den ρ:=a2n.1 h0.1
   have h2:e.den ρ < (s1.data.toList.length:Int):=by have:=a0U.1 h0.2; simp only [IE.den,hs1,b0Q] at this; exact this
   have hlt:(e.den ρ).toNat < s1.data.toList.length:=by omega
   have hg:s1[(e.den ρ).toNat]?=some s1.data.toList[(e.den ρ).toNat]:=by
    rw [getElem?_pos s1 (e.den ρ).toNat hlt]
    rfl
   simp only [SV.den,IE.den,hs1,b5R]
   have hlt':(e.den ρ).toNat < s1.data.size:=hlt
   simp [Instr.index,asIntOf,run_underlying hty,h1,hg,hlt']
   rw [Array.getElem?_eq_getElem hlt']
   rfl
  ·simp at h
 rename_i n e hty
 obtain ⟨i,hi,hi'⟩:=Ctx.ty_some hty
 have hty:=(hP.tab t i hi).ty
 simp only [hi'] at hty
 split at h
 ·rename_i fi cs k z hfi
  split at h
  ·rename_i hc
   simp only [Q2,decide_eq_true_eq] at hc
   simp only [Q3,Q1] at h
   obtain ⟨v',hv,rfl,rfl⟩:=h
   have:=b5A (hP.tab _ _ hfi) (ρ:=ρ) (β:=β) hv w
   simp [Instr.index,asIntOf,SV.den,IE.den,run_underlying hty,hc,run_sizeOf (hP.tab _ _ hfi),this]
  ·simp at h
 ·rename_i fi cs k i' hne hfi
  split at h
  ·rename_i hc
   simp only [Q2,beq_iff_eq,Qq] at hc
   simp only [Q3,Q1] at h
   obtain ⟨r,hr,rfl,rfl⟩:=h
   have h0:=hn _ (Q4.2 rfl)
   rw [a6s,a8C,b0T,Q2] at h0
   have h1:(0:Int)<=i'.den ρ:=a2n.1 h0.1
   have h2:i'.den ρ < (n:Int):=a0U.1 h0.2
   obtain ⟨v',hv1,hv2⟩:=b7P (ρ:=ρ) (β:=β) i' cs 0 r hr (i'.den ρ).toNat (by omega) (by omega)
   have hpart:=b5A (hP.tab _ _ hfi) (ρ:=ρ) (β:=β) (cs:=cs) (off:=(i'.den ρ).toNat) (v:=v') (by simp [a5w,hc.2,hv1]) w
   rw [hv2] at hpart
   simp [Instr.index,asIntOf,SV.den,run_underlying hty,h1,h2,run_sizeOf (hP.tab _ _ hfi),hc.1.1,hpart]
  ·simp at h
 ·simp at h
theorem b6b (hP:ProgOk P c) (hρ:ρ.Ok) {t:Nat} {x ix v:SV} {ns:List BE} (h:b0v c t x ix=some (ns,v)) (hn:∀ b∈ns,b.den ρ=true) {w:World} :
  (Instr.indexAt t (x.den ρ β) (ix.den ρ β)).run P w=.ok (v.den ρ β) w:=by
 unfold b0v at h
 split at h
 ·rename_i n e hty
  obtain ⟨i,hi,hi'⟩:=Ctx.ty_some hty
  have hty:=(hP.tab t i hi).ty
  simp only [hi'] at hty
  split at h
  ·rename_i fi b off k z hfi
   split at h
   ·rename_i hc
    simp only [Q2,decide_eq_true_eq] at hc
    simp only [Q0,Q1] at h
    obtain ⟨rfl,rfl⟩:=h
    simp only [Instr.indexAt,asIntOf,SV.den,IE.den,Sem.run_bind,Sem.run_pure,Result.andThen_ok,run_underlying hty,Instr.sureAddr,run_sizeOf (hP.tab _ _ hfi),hc,and_self,if_true]
    simp only [Addr.add]
    split<;>simp_all
   ·simp at h
  ·rename_i fi m i' s off k z hfi
   split at h
   ·rename_i hc
    simp only [Q2,decide_eq_true_eq] at hc
    simp only [Q0,Q1] at h
    obtain ⟨rfl,rfl⟩:=h
    simp only [Instr.indexAt,asIntOf,SV.den,IE.den,Sem.run_bind,Sem.run_pure,Result.andThen_ok,run_underlying hty,Instr.sureAddr,run_sizeOf (hP.tab _ _ hfi),hc,and_self,if_true,Addr.add_add0,Qj]
   ·simp at h
  ·rename_i fi m off k z hfi
   split at h
   ·rename_i hc
    simp only [Q2,decide_eq_true_eq] at hc
    simp only [Q0,Q1] at h
    obtain ⟨rfl,rfl⟩:=h
    simp only [Instr.indexAt,asIntOf,SV.den,IE.den,Sem.run_bind,Sem.run_pure,Result.andThen_ok,run_underlying hty,Instr.sureAddr,run_sizeOf (hP.tab _ _ hfi),hc,and_self,if_true,Addr.add_add0,Qj]
   ·simp at h
  ·simp at h
 ·rename_i e hty
  obtain ⟨i,hi,hi'⟩:=Ctx.ty_some hty
  have hty:=(hP.tab t i hi).ty
  simp only [hi'] at hty
  split at h
  ·rename_i fi n k i' hfi
   simp only [Q0,Q1] at h
   obtain ⟨rfl,rfl⟩:=h
   have h0:=hn _ (Q4.2 rfl)
   rw [a6s,a8C,b0T,Q2] at h0
   have h1:(0:Int)<=i'.den ρ:=a2n.1 h0.1
   have h2:i'.den ρ < a4Q (ρ.v.getD n vd):=a0U.1 h0.2
   have h5:=hρ.nil n
   simp only [SV.den]
   generalize ρ.v.getD n vd=x at *
   cases x<;>simp only [a4Q] at h2<;>first | omega | skip
   rename_i a len cap
   have h3:0<=i'.den ρ/\i'.den ρ < (len:Int):=⟨h1,h2⟩
   simp only [Instr.indexAt,asIntOf,Sem.run_bind,Sem.run_pure,Result.andThen_ok,run_underlying hty]
   cases a with
   | none=>have:=h5 _ _ rfl; omega
   | some a=>simp [h3,run_sizeOf (hP.tab _ _ hfi),a1D,Addr.add]
  ·rename_i fi b len k z hfi
   split at h
   ·rename_i hc
    simp only [Q2,decide_eq_true_eq] at hc
    simp only [Q0,Q1] at h
    obtain ⟨rfl,rfl⟩:=h
    simp only [Instr.indexAt,asIntOf,SV.den,IE.den,Sem.run_bind,Sem.run_pure,Result.andThen_ok,run_underlying hty,run_sizeOf (hP.tab _ _ hfi),hc,and_self,if_true]
    simp only [Addr.add]
    split<;>simp_all
   ·simp at h
  ·simp at h
 ·simp at h
theorem a5T (op:BinOp) (t:TypeId) (x y:Operand) {a b:Value} (h1:∀ l,a≠.agg l) (h2:a≠.nilIface) (w:World):(eqGuard op t x y a b).run P w=.ok () w:=by
 cases op<;>simp only [eqGuard,Bool.not_true,Bool.not_false,if_true,Sem.run_pure,Q7,if_false]
 all_goals (cases a<;>first | exact absurd rfl h2 | exact absurd rfl (h1 _) | rfl | (cases b<;>rfl))
theorem a6E (t:TypeId) (a b:Value):Op.equal t a b=Op.equalIn (9999+1) t a b:=rfl
theorem a6D {t el:TypeId} (h:P.underlying t=some (.slice el)) (a:Option Addr) (n m:Nat) (w:World):(Op.equal t (.slice a n m) (.slice none 0 0)).run P w=.ok a.isNone w:=by
 rw [a6E]; generalize 9999=d
 cases a<;>simp [Op.equalIn,run_underlying h]
theorem b1A {t:TypeId} {p r:Array TypeId} {v:Bool} (h:P.underlying t=some (.func p r v)) (f:Fn) (a b:Array Value) (w:World):(Op.equal t (.func f a b) .nilFunc).run P w=.ok false w:=by
 rw [a6E]; generalize 9999=d
 simp [Op.equalIn,run_underlying h]
theorem b2E {t:TypeId} {p r:Array TypeId} {v:Bool} (h:P.underlying t=some (.func p r v)) (w:World):(Op.equal t .nilFunc .nilFunc).run P w=.ok true w:=by
 rw [a6E]; generalize 9999=d
 simp [Op.equalIn,run_underlying h]
theorem a4Z {t el:TypeId} (h:P.underlying t=some (.pointer el)) (a:Option Addr) (w:World):(Op.equal t (.pointer a) (.pointer none)).run P w=.ok a.isNone w:=by
 rw [a6E]; generalize 9999=d
 cases a<;>simp [Op.equalIn,run_underlying h]
theorem c1T {t:TypeId} (h:P.underlying t=some .bool) (a b:Bool) (w:World):(Op.equal t (.bool a) (.bool b)).run P w=.ok (a == b) w:=by
 rw [a6E]; generalize 9999=d
 simp [Op.equalIn,run_underlying h]
theorem a7z {op:BinOp} {t:TypeId} {a b:Value} {e:Bool} {w:World} (ha:∀ k n,a≠.int k n) (ha2:∀ k n,a≠.float k n) (ha3:∀ k n m,a≠.complex k n m) (ha4:∀ s,a≠.string s)
  (he:(Op.equal t a b).run P w=.ok e w):(op=.eql->(binOp op t a b).run P w=.ok (.bool e) w)/\(op=.neq->(binOp op t a b).run P w=.ok (.bool (!e)) w):=by
 constructor<;>intro h<;>subst h
 ·cases a<;>first | exact absurd rfl (ha _ _) | exact absurd rfl (ha2 _ _) | exact absurd rfl (ha3 _ _ _) | exact absurd rfl (ha4 _) | simp [binOp,he]
 ·cases a<;>first | exact absurd rfl (ha _ _) | exact absurd rfl (ha2 _ _) | exact absurd rfl (ha3 _ _ _) | exact absurd rfl (ha4 _) | simp [binOp,he]
theorem c2C (hP:ProgOk P c) {t:Nat} {a b:SV} {ns:List BE} {e:BE} (h:c1J (c.ty t) a b=some (ns,e)) (hn:∀ b∈ns,b.den ρ=true) (w:World) :
  (Op.equal t (a.den ρ β) (b.den ρ β)).run P w=.ok (e.den ρ) w/\(∀ l,a.den ρ β≠.agg l)/\(a.den ρ β≠.nilIface)/\(∀ k n,a.den ρ β≠.int k n)/\(∀ k n,a.den ρ β≠.float k n)/\(∀ k n m,a.den ρ β≠.complex k n m)/\(∀ s,a.den ρ β≠.string s):=by
 unfold c1J at h
 split at h
 ·rename_i el hty
  obtain ⟨i,hi,hi'⟩:=Ctx.ty_some hty
  have hty:=(hP.tab t i hi).ty
  simp only [hi'] at hty
  split at h<;>simp only [Q0,Q1,reduceCtorEq] at h<;>obtain ⟨rfl,rfl⟩:=h
  ·have h0:=hn _ (Q4.2 rfl)
   simp only [BE.den,SV.den] at h0 ⊢
   generalize ρ.v.getD _ vd=x at *
   cases x<;>simp only [a4w,Q7] at h0
   rename_i ad n cap
   cases ad<;>simp [a6D hty,b1a]
  ·simp [SV.den,BE.den,a6D hty]
  ·simp [SV.den,BE.den,a6D hty]
 ·rename_i hty
  obtain ⟨i,hi,hi'⟩:=Ctx.ty_some hty
  have hty:=(hP.tab t i hi).ty
  simp only [hi'] at hty
  obtain ⟨p,r,vr,hty⟩:=hty
  split at h<;>simp only [Q0,Q1,reduceCtorEq] at h<;>obtain ⟨rfl,rfl⟩:=h
  ·have h0:=hn _ (Q4.2 rfl)
   simp only [BE.den,SV.den] at h0 ⊢
   generalize ρ.v.getD _ vd=x at *
   cases x<;>simp only [a4w,Q7] at h0
   ·simp [b1A hty,b1a]
   ·simp [b2E hty,b1a]
  ·simp [SV.den,BE.den,b1A hty]
  ·simp [SV.den,BE.den,b2E hty]
 ·rename_i hty
  obtain ⟨i,hi,hi'⟩:=Ctx.ty_some hty
  have hty:=(hP.tab t i hi).ty
  simp only [hi'] at hty
  split at h<;>simp only [Q0,Q1,reduceCtorEq] at h
  obtain ⟨rfl,rfl⟩:=h
  rename_i a b
  simp only [SV.den,c6s,a6s,a5B]
  cases a.den ρ<;>cases b.den ρ<;>simp [c1T hty]
 ·rename_i hty
  obtain ⟨i,hi,hi'⟩:=Ctx.ty_some hty
  have hty:=(hP.tab t i hi).ty
  simp only [hi'] at hty
  split at h<;>simp only [Q0,Q1,reduceCtorEq] at h<;>obtain ⟨rfl,rfl⟩:=h
  ·have h0:=hn _ (Q4.2 rfl)
   simp only [BE.den,SV.den] at h0 ⊢
   generalize ρ.v.getD _ vd=x at *
   cases x<;>simp only [a4w,Q7] at h0
   rename_i ad
   cases ad<;>simp [a4Z hty,b1a]
  ·simp [SV.den,BE.den,a4Z hty]
  ·simp [SV.den,BE.den,a4Z hty]
  ·simp [SV.den,BE.den,a4Z hty]
  ·simp [SV.den,BE.den,a4Z hty]
 ·simp at h
theorem c5R (b:ByteArray):∀ (n i:Nat) (r:List UInt8),b.size-i=n->ByteArray.toList.loop b i r=r.reverse++b.data.toList.drop i:=by
 intro n
 induction n with
 | zero =>
  intro i r h
  unfold ByteArray.toList.loop
  rw [if_neg (by omega),List.drop_eq_nil_of_le (by have:b.data.toList.length=b.size:=rfl; omega),List.append_nil]
 | succ n ih =>
  intro i r h
  have hi:i < b.size:=by omega
  unfold ByteArray.toList.loop
  rw [if_pos hi,ih (i+1) _ (by omega)]
  have hlt:i < b.data.toList.length:=hi
  have hg:b.get! i=b.data.toList[i]:=by
   unfold ByteArray.get!
   simp [hi]
  rw [hg,List.reverse_cons,List.append_assoc,List.drop_eq_getElem_cons hlt]
  rfl
theorem c1R (b:ByteArray):b.toList=b.data.toList:=by
 unfold ByteArray.toList
 rw [c5R b _ 0 [] rfl]
 simp
theorem c1I {a b:SV} {ns:List BE} {e:BE} (h:b9D a b=some (ns,e)) (hn:∀ b∈ns,b.den ρ=true) :
  ∃ s1 s2,a.den ρ β=.string s1/\b.den ρ β=.string s2/\e.den ρ=(s1.toList == s2.toList):=by
 unfold b9D at h
 split at h<;>simp only [Q0,Q1,reduceCtorEq] at h<;>obtain ⟨rfl,rfl⟩:=h
 ·rename_i n m
  obtain ⟨s1,h1⟩:=b5X (v:=ρ.v.getD n vd) (hn (.is 3 n) (by simp))
  obtain ⟨s2,h2⟩:=b5X (v:=ρ.v.getD m vd) (hn (.is 3 m) (by simp))
  refine ⟨s1,s2,h1,h2,?_⟩
  simp only [BE.den,h1,h2,b4e,c1R]
  rw [Qw,decide_eq_true_iff,beq_iff_eq]
 ·rename_i n l
  obtain ⟨s1,h1⟩:=b5X (v:=ρ.v.getD n vd) (hn (.is 3 n) (by simp))
  refine ⟨s1,⟨l.toArray⟩,h1,rfl,?_⟩
  simp only [BE.den,h1,b6c,c1R]
  rw [Qw,decide_eq_true_iff,beq_iff_eq]
 ·rename_i a b
  refine ⟨⟨a.toArray⟩,⟨b.toArray⟩,rfl,rfl,?_⟩
  simp only [BE.den,c1R]
  rw [Qw,decide_eq_true_iff,beq_iff_eq]
theorem c2S (hP:ProgOk P c) {op:BinOp} {t:Nat} {a b v:SV} {ns:List BE} (h:c1F c op t a b=some (ns,v)) (hn:∀ b∈ns,b.den ρ=true) (x y:Operand) (w:World) :
  ((eqGuard op t x y (a.den ρ β) (b.den ρ β) >>= fun _=>binOp op t (a.den ρ β) (b.den ρ β)):Sem Value).run P w=.ok (v.den ρ β) w:=by
 unfold c1F at h
 split at h
 ·rename_i ns' e hse
  split at h<;>simp only [Q0,Q1,reduceCtorEq] at h<;>obtain ⟨rfl,rfl⟩:=h
  all_goals
   obtain ⟨s1,s2,e1,e2,e3⟩:=c1I (ρ:=ρ) (β:=β) hse hn
   simp only [e1,e2,Sem.run_bind,a5T _ t x y (a:=.string _) (by simp) (by simp) w,Result.andThen_ok,SV.den,a5B,e3]
   simp [binOp,Op.stringOp]
 split at h
 ·rename_i ns' e hne
  split at h<;>simp only [Q0,Q1,reduceCtorEq] at h<;>obtain ⟨rfl,rfl⟩:=h
  all_goals
   obtain ⟨h1,h2,h3,h4,h5,h6,h7⟩:=c2C (β:=β) hP hne hn w
   simp only [Sem.run_bind,a5T _ t x y h2 h3 w,Result.andThen_ok,SV.den,a5B]
  ·exact (a7z h4 h5 h6 h7 h1).1 rfl
  ·exact (a7z h4 h5 h6 h7 h1).2 rfl
 ·unfold c6W at h
  split at h
  ·rename_i k x1 k' y1
   split at h
   ·rename_i hk
    subst hk
    have:=c2E (P:=P) h ρ β hn t w
    simp only [SV.den] at this ⊢
    simp only [Sem.run_bind,a5T op t x y (a:=.int _ _) (by simp) (by simp) w,Result.andThen_ok,this]
   ·simp at h
  ·rename_i l m
   split at h
   case h_2=>simp at h
   rename_i i hi
   split at h
   case isFalse=>simp at h
   rename_i hieq
   obtain ⟨hg,heq⟩:=(hP.tab t i hi).eq hieq
   split at h<;>simp only [Q0,Q1,reduceCtorEq] at h<;>obtain ⟨rfl,rfl⟩:=h
   all_goals
    rename_i e he
    obtain ⟨zs,us,a1,a2,a3,a4,a5⟩:=b4L ρ β _ _ _ _ he
    have h1:=heq w zs us a1 a2
    simp only [SV.den,a3,a4,Sem.run_bind,run_eqGuard_agg w _ t x y _ _ hg,Result.andThen_ok,a5B,a5]
   ·exact (a7z (by simp) (by simp) (by simp) (by simp) h1).1 rfl
   ·exact (a7z (by simp) (by simp) (by simp) (by simp) h1).2 rfl
  ·simp at h
theorem a3r (v:Value) (n:Int) (y:Nat) (code:BoundsCode) (w:World) (hv:∃ k,v=.int k n) (h:0<=n/\n<=(y:Int)):(Instr.sliceBound v y code).run P w=.ok n.toNat w:=by
 obtain ⟨k,rfl⟩:=hv
 simp [Instr.sliceBound,asIntOf,h]
theorem b9i (hP:ProgOk P c) (hρ:ρ.Ok) {sl:List SV} {H:List Blk} {o:Oper} {v:SV} {ns:List BE} (h:pv c sl H o.op=some (ns,v)) (hn:∀ b∈ns,b.den ρ=true)
  {a:Act} (ha:a.tmps=(SV.dens ρ β sl).toArray) {w:World} (hH:HOk ρ β H w):(execOp a.eval o).run P w=.ok (.value (v.den ρ β)) w:=by
 obtain ⟨dst,op,type,pos,after,guard⟩:=o
 simp only at h
 unfold pv at h
 split at h<;>simp only [execOp]
 ·simp only [Q3,Q1] at h
  obtain ⟨s,h1,_,rfl⟩:=h
  simp [a0T h1 ha]
 ·simp only [Q3,Q1] at h
  obtain ⟨s,h1,_,rfl⟩:=h
  simp [a0T h1 ha]
 ·split at h
  case h_2=>simp at h
  rename_i k x y h1 h2 h3
  simp only [Q0,Q1] at h
  obtain ⟨_,rfl⟩:=h
  simp only [a0T h1 ha,a0T h2 ha,a0T h3 ha,SV.den,BE.den]
  cases k<;>simp [asBool]
 ·simp only [Q3,Q1] at h
  obtain ⟨s,h1,_,rfl⟩:=h
  have:=c2p hP hρ h1 ha w
  simp [this]
 ·split at h
  case h_2=>simp at h
  rename_i x h1
  simp only [Q3,Q1] at h
  obtain ⟨s,h2,_,rfl⟩:=h
  have:=c1Q hP h2 hH
  simp [a0T h1 ha,this]
 ·rename_i bop t x y yt
  split at h
  case h_2=>simp at h
  rename_i x' y' h1 h2
  have:=c2S (β:=β) hP h hn x y w
  simp only [a0T h1 ha,a0T h2 ha]
  rw [Sem.run_bind,this]; rfl
 ·split at h
  case h_2=>simp at h
  rename_i x h1
  have:=c4h (P:=P) (β:=β) (w:=w) h hn
  simp [a0T h1 ha,this]
 ·split at h
  case h_2=>simp at h
  rename_i src _ _ _ _ x i h1 h2
  have hd:∃ d,P.underlying src=some d:=by
   have:=(hP.tab _ _ h2).ty
   cases hi:i.ty<;>simp only [hi] at this
   case st=>obtain ⟨f,h,_⟩:=this; exact ⟨_,h⟩
   case func=>obtain ⟨p,r,v,h⟩:=this; exact ⟨_,h⟩
   case other=>obtain ⟨d,h,_⟩:=this; exact ⟨_,h⟩
   all_goals exact ⟨_,this⟩
  have:=b8p (β:=β) (w:=w) hP h hn hd
  simp [a0T h1 ha,this]
 ·split at h<;>simp only [Q0,Q1,reduceCtorEq] at h<;>obtain ⟨rfl,rfl⟩:=h
  all_goals rename_i h1; simp only [a0T h1 ha]
  ·have h0:=hn _ (Q4.2 rfl)
   simp only [BE.den,SV.den] at h0 ⊢
   generalize ρ.v.getD _ vd=x at *
   cases x<;>simp only [a4w,Q7] at h0
   rename_i ad
   cases ad with
   | none=>exact absurd h0 (by simp [a4w])
   | some ad=>simp [a1D,Addr.add]
  all_goals simp [SV.den]
 ·split at h
  case h_2=>simp at h
  rename_i x h1
  simp only [Q3,Q1] at h
  obtain ⟨s,h2,_,rfl⟩:=h
  have:=b5K (ρ:=ρ) (β:=β) (w:=w) hP h2
  simp [a0T h1 ha,this]
 ·split at h
  case h_2=>simp at h
  rename_i x h1
  simp only [Q3,Q1] at h
  obtain ⟨s,h2,_,rfl⟩:=h
  have:=b9P (ρ:=ρ) (β:=β) (w:=w) hP h2
  simp [a0T h1 ha,this]
 ·split at h
  case h_2=>simp at h
  rename_i x i h1 h2
  have:=c0c (β:=β) (w:=w) hP h hn
  simp [a0T h1 ha,a0T h2 ha,this]
 ·split at h
  case h_2=>simp at h
  rename_i x i h1 h2
  have:=b6b (β:=β) (w:=w) hP hρ h hn
  simp [a0T h1 ha,a0T h2 ha,this]
 ·split at h
  case h_2=>simp at h
  rename_i vs h1
  simp only [Q3,Q1] at h
  obtain ⟨s,h2,_,rfl⟩:=h
  simp [a0T h1 ha,SV.den,Instr.extract,SV.dens_map,h2]
 ·rename_i f first cap
  split at h
  case h_2=>simp at h
  rename_i us vs h1 h2
  simp only [Q0,Q1] at h
  obtain ⟨_,rfl⟩:=h
  have h1':first.map a.eval=(SV.dens ρ β us).toArray:=by rw [<- a4B ha _ _ h1]; exact Qk (by simp)
  have h2':cap.map a.eval=(SV.dens ρ β vs).toArray:=by rw [<- a4B ha _ _ h2]; exact Qk (by simp)
  have hl:(SV.dens ρ β us).length=us.length:=by simp [SV.dens_map]
  have hd:SV.dens ρ β (us++vs)=SV.dens ρ β us++SV.dens ρ β vs:=by simp [SV.dens_map]
  simp only [Instr.makeFunc,h1',h2',SV.den,hd,Sem.run_bind,Sem.run_pure,Result.andThen_ok]
  rw [List.take_left' hl,List.drop_left' hl]
 ·rename_i b args ts
  have main:∀ vs,evs sl args.toList=some vs->args.map a.eval=(SV.dens ρ β vs).toArray:=by
   intro vs hvs
   rw [<- a4B ha _ _ hvs]; exact Qk (by simp)
  split at h
  ·rename_i x t h1 h2
   split at h
   case h_3=>simp at h
   case h_2 =>
    rename_i hty
    split at h<;>simp only [Q0,Q1,reduceCtorEq] at h
    obtain ⟨rfl,rfl⟩:=h
    rename_i n
    obtain ⟨i,hi,hi'⟩:=Ctx.ty_some hty
    have hty:=(hP.tab _ i hi).ty
    simp only [hi'] at hty
    have h2':ts=#[t]:=by rw [<- QE]; simpa using h2
    have hm:=main _ h1
    obtain ⟨s1,hs1⟩:=b5X (v:=ρ.v.getD n vd) (hn (.is 3 n) (by simp))
    simp only [resolve,hm,Sem.run_bind,Sem.run_pure,Result.andThen_ok,invoke,builtin,h2',Builtin.len_,SV.dens,SV.den,hs1]
    simp only [IE.den,hs1,b0Q]
    simp [run_underlying hty,goInt]
   simp only [Q0,Q1] at h
   obtain ⟨rfl,rfl⟩:=h
   rename_i el ns e hty hs
   obtain ⟨i,hi,hi'⟩:=Ctx.ty_some hty
   have hty:=(hP.tab _ i hi).ty
   simp only [hi'] at hty
   have h2':ts=#[t]:=by rw [<- QE]; simpa using h2
   have hm:=main _ h1
   simp only [resolve,hm,Sem.run_bind,Sem.run_pure,Result.andThen_ok,invoke,builtin,h2',Builtin.len_,SV.dens]
   cases x<;>simp only [c2n,Q0,reduceCtorEq,Q1] at hs<;>obtain ⟨rfl,rfl⟩:=hs
   ·have h0:=hn _ (Q4.2 rfl)
    simp only [BE.den,SV.den,IE.den] at h0 ⊢
    generalize ρ.v.getD _ vd=x at *
    cases x<;>simp only [a4w,Q7] at h0
    simp [run_underlying hty,goInt,a4Q]
   all_goals simp [run_underlying hty,SV.den,IE.den,goInt]
  ·rename_i k x k' y h1
   simp only [Q0,Q1] at h
   obtain ⟨_,rfl⟩:=h
   have hm:=main _ h1
   simp [resolve,hm,invoke,builtin,Builtin.min_,SV.dens,SV.den,Builtin.min2,IE.den,mnI]
  ·rename_i k x k' y h1
   simp only [Q0,Q1] at h
   obtain ⟨_,rfl⟩:=h
   have hm:=main _ h1
   simp [resolve,hm,invoke,builtin,Builtin.max_,SV.dens,SV.den,Builtin.max2,IE.den,mxI]
  ·simp at h
 ·rename_i t x hh
  split at h
  case h_2=>simp at h
  rename_i k n kd z e h1 h2 h3
  split at h
  case isFalse=>simp at h
  rename_i hc
  simp only [Q2,decide_eq_true_eq,Qv] at hc
  obtain ⟨⟨⟨ie,hie⟩,hz0⟩,hzn⟩:=hc
  simp only [Q0,Q1] at h
  obtain ⟨_,rfl⟩:=h
  obtain ⟨ti,hti,hti'⟩:=Ctx.ty_some h3
  have hty:=(hP.tab t ti hti).ty
  simp only [hti'] at hty
  have hb:(Instr.sliceBounds true n n none (some ((SV.int kd (.l z)).den ρ β)) none).run P w=.ok (0,z.toNat,n) w:=by
   unfold Instr.sliceBounds
   simp [a3r (P:=P) ((SV.int kd (.l z)).den ρ β) z n _ w ⟨kd,rfl⟩ ⟨hz0,hzn⟩]
  have e2:a.eval hh=(SV.int kd (.l z)).den ρ β:=a0T h2 ha
  simp only [a0T h1 ha,Option.map_none,Qh,e2]
  simp [SV.den,Instr.sliceAt,run_underlying hty,Instr.slice,run_sizeOf (hP.tab _ _ hie)]
  simp only [SV.den] at hb
  simp [hb,Addr.add]
 ·simp at h
end
end Go.Sx
namespace Go.Sx
variable {P:Program}
theorem b2e:∀ (n:Nat) (zs:List Int),zs.length=n->a0X (QH n (.int .i64)) zs=zs.map (Value.int .i64)
 | 0,[],_=>rfl
 | n+1,z::zs,h=>by
  simp only [List.replicate_succ,a0X,b6v,Q5]
  rw [b2e n zs (by simpa using h)]
 | 0,_::_,h=>by simp at h
 | _+1,[],h=>by simp at h
theorem b5v {kt e n:Nat} (hu:P.underlying kt=some (.array n e)) (he:P.underlying e=some (.int .i64)) (hs:∀ w,(sizeOf e).run P w=.ok 1 w) (em:Bool) (m:Nat) (zs:List Int) (hl:zs.length=n) (w:World) :
  (Instr.checkKey em (m+2) kt (qkey zs)).run P w=.ok () w:=by
 have hpart:∀ i,i < n->(part e (zs.map (Value.int .i64)).toArray (i*1)).run P w=.ok (.int .i64 (zs.getD i 0)) w:=by
  intro i hi
  have hlt:i < zs.length:=by omega
  simp [part,isAgg,run_underlying he,hlt]
 unfold Instr.checkKey
 simp only [Sem.run_bind,run_underlying hu,Result.andThen_ok,qkey]
 rw [Std.Legacy.Range.forIn_eq_forIn_range']
 have key:∀ (l:List Nat),(∀ i∈l,i < n)->(forIn l PUnit.unit (fun i (_:PUnit)=>do
   let a <- sizeOf e
   let b <- part e (zs.map (Value.int .i64)).toArray (i*a)
   Instr.checkKey em (m+1) e b
   pure (ForInStep.yield PUnit.unit)):Sem PUnit).run P w=.ok PUnit.unit w:=by
  intro l
  induction l with
  | nil=>intro _; simp
  | cons i l ih =>
   intro hl'
   simp only [List.forIn_cons,Sem.run_bind,hs,Result.andThen_ok,hpart i (hl' i (by simp))]
   have:(Instr.checkKey em (m+1) e (.int .i64 (zs.getD i 0))).run P w=.ok () w:=by
    simp [Instr.checkKey,run_underlying he]
   simp only [this,Result.andThen_ok,Sem.run_pure,Sem.run_bind]
   exact ih (fun j hj=>hl' j (by simp [hj]))
 have:=key (List.range' 0 n 1) (fun i hi=>by simp [List.mem_range'] at hi; omega)
 simp only [Std.Legacy.Range.size,Nat.sub_zero,Nat.add_sub_cancel,Nat.div_one]
 refine (congrArg (fun r=>Result.andThen r (fun (_:PUnit) w'=>(pure ():Sem Unit).run P w')) this).trans ?_
 simp
theorem c7r {kt n:Nat} {i:TI} (h:i.Ok P kt) (he:i.eq=true) (hk:i.ks=QH n (.int .i64)) (w:World) (zs us:List Int) (h1:zs.length=n) (h2:us.length=n) :
  (Op.equal kt (qkey zs) (qkey us)).run P w=.ok (decide (zs=us)) w:=by
 have:=(h.eq he).2 w zs us (by rw [hk]; simpa using h1) (by rw [hk]; simpa using h2)
 rw [hk,b2e n zs h1,b2e n us h2] at this
 exact this
abbrev KV:=List (List Int × Int)
def a0K:KV->List Int->Option Int
 | [],_=>none
 | p::l,k=>if k=p.1 then some p.2 else a0K l k
def a9o:KV->List Int->Int->KV
 | [],k,v=>[(k,v)]
 | p::l,k,v=>if k=p.1 then (k,v)::l else p::a9o l k v
def a7V:KV->List Int->KV
 | [],_=>[]
 | p::l,k=>if k=p.1 then l else p::a7V l k
def encE (p:List Int × Int):Value × Value:=(qkey p.1,.int .i64 p.2)
def QIs (es:Array MapEntry) (kv:KV):Prop:=es.toList.map (fun e=>(e.key,e.val))=kv.map encE
def a6l (es:Array MapEntry) (clock:Nat):Prop:=(es.toList.map (·.born)).Nodup/\∀ e∈es.toList,e.born < clock
def b1O (n:Nat) (kv:KV):Prop:=∀ p∈kv,p.1.length=n
theorem b4C:∀ {a b:List Int},a.map (Value.int .i64)=b.map (Value.int .i64)->a=b
 | [],[],_=>rfl
 | [],_::_,h=>by simp at h
 | _::_,[],h=>by simp at h
 | x::a,y::b,h=>by
  simp only [Q5,Qp,Value.int.injEq,true_and] at h
  rw [h.1,b4C h.2]
theorem b2f {a b:List Int} (h:qkey a=qkey b):a=b:=by
 simp only [qkey,Value.agg.injEq] at h
 exact b4C (congrArg Array.toList h)
theorem b9m (d:TypeDesc) (hd:∃ n e,d=.array n e) (k:Value) (es:List MapEntry) (i:Nat):Instr.findNow d k es i=none\/es=[]:=by
 obtain ⟨n,e,rfl⟩:=hd
 cases es with
 | nil=>exact .inr rfl
 | cons x es=>left; simp [Instr.findNow,Instr.sameNow]
theorem a5E {i:QT} {t:Nat} (hI:i.Ok P t) (w:World) (zs:List Int) (hz:zs.length=i.n):∀ (es:List MapEntry) (kv:KV) (j:Nat),es.map (fun e=>(e.key,e.val))=kv.map encE->b1O i.n kv ->
  ((Instr.findAsking i.kt (qkey zs) es j).run P w=.ok none w/\a0K kv zs=none/\(∀ x,a9o kv zs x=kv++[(zs,x)])/\a7V kv zs=kv) \/
  ∃ q e,(Instr.findAsking i.kt (qkey zs) es j).run P w=.ok (some (j+q,e.val)) w/\es[q]?=some e/\e.key=qkey zs/\(∃ x,e.val=.int .i64 x/\a0K kv zs=some x)/\(∀ x,a9o kv zs x=kv.set q (zs,x))/\a7V kv zs=kv.eraseIdx q
 | [],kv,j,h,_=>by
  cases kv with
  | cons _ _=>simp at h
  | nil=>exact .inl ⟨by simp [Instr.findAsking],rfl,fun _=>rfl,rfl⟩
 | e::es,kv,j,h,hw=>by
  cases kv with
  | nil=>simp at h
  | cons p kv =>
  simp only [Q5,Qp] at h
  obtain ⟨h1,h2⟩:=h
  simp only [encE,Q1] at h1
  have heq:=hI.eq w zs p.1 hz (hw p (by simp))
  rw [<- h1.1] at heq
  by_cases hk:zs=p.1
  ·rw [decide_eq_true hk] at heq
   refine .inr ⟨0,e,?_,rfl,by rw [h1.1,hk],⟨p.2,h1.2,by simp [a0K,hk]⟩,fun x=>by simp [a9o,hk],by simp [a7V,hk]⟩
   simp [Instr.findAsking,heq,Result.andThen]
  ·rw [decide_eq_false hk] at heq
   rcases a5E hI w zs hz es kv (j+1) h2 (fun p hp=>hw p (by simp [hp])) with ⟨a,b,c,d⟩ | ⟨q,e',a,b,c,d,f,g⟩
   ·exact .inl ⟨by simp [Instr.findAsking,heq,Result.andThen,a],by simp [a0K,hk,b],fun x=>by simp [a9o,hk,c x],by simp [a7V,hk,d]⟩
   ·refine .inr ⟨q+1,e',?_,by simpa using b,c,?_,fun x=>by simp [a9o,hk,f x],by simp [a7V,hk,g]⟩
    ·simp [Instr.findAsking,heq,Result.andThen,a]; omega
    ·obtain ⟨x,d1,d2⟩:=d
     exact ⟨x,d1,by simp [a0K,hk,d2]⟩
theorem a7Z {i:QT} {t:Nat} (hI:i.Ok P t) (w:World) (k:Value) (es:List MapEntry):(Instr.findKey i.kt k es).run P w=(Instr.findAsking i.kt k es).run P w:=by
 obtain ⟨n,e,hu⟩:=hI.kd
 rcases b9m (.array n e) ⟨n,e,rfl⟩ k es 0 with h | h
 ·simp [Instr.findKey,run_underlying hu,h]
 ·subst h
  simp [Instr.findKey,run_underlying hu,Instr.findNow,Instr.findAsking]
theorem c1O {i:QT} {t:Nat} (hI:i.Ok P t) (w:World):(zeroValue i.e).run P w=.ok (.int .i64 0) w:=by
 obtain ⟨inf,h1,h2⟩:=hI.zero
 simp [zeroValue,typeInfo,h1,h2]
def c1M (ok:Bool) (o:Option Int):Value:=if ok then .tuple #[.int .i64 (o.getD 0),.bool o.isSome] else .int .i64 (o.getD 0)
section
variable {i:QT} {t:Nat} {w:World} {b:Nat} {es:Array MapEntry} {clock:Nat} {kv:KV}
theorem b9N (hI:i.Ok P t) (hb:w.heap[b]?=some (.map es clock)) (hm:QIs es kv) (hw:b1O i.n kv) (zs:List Int) (hz:zs.length=i.n) (ok:Bool) :
  (Instr.lookup t (.map (some b)) (qkey zs) ok).run P w=.ok (c1M ok (a0K kv zs)) w:=by
 have h0:=c1O hI w
 have hc:=fun em=>hI.check em zs w hz
 have hf:=a7Z hI w (qkey zs) es.toList
 rcases a5E hI w zs hz es.toList kv 0 hm hw with ⟨a,b',_⟩ | ⟨q,e,a,_,_,⟨x,d1,d2⟩,_⟩
 ·rw [b']
  simp only [Instr.lookup,Sem.run_bind,run_underlying hI.ty,Result.andThen_ok,MapKept.run_getObj_map hb,Sem.run_pure,hc,hf,a,h0]
  cases ok<;>rfl
 ·rw [d2]
  simp only [Instr.lookup,Sem.run_bind,run_underlying hI.ty,Result.andThen_ok,MapKept.run_getObj_map hb,Sem.run_pure,hc,hf,a,d1]
  cases ok<;>rfl
theorem b8H (zs:List Int) (w:World):(Instr.keyThatStays (qkey zs) (qkey zs)).run P w=.ok (qkey zs) w:=by
 have:Instr.sameBits 10000 (qkey zs) (qkey zs)=true:=by
  simp only [qkey,Instr.sameBits,Qg,beq_self_eq_true,Bool.true_and,Qu]
  intro p hp
  have hp:p∈(zs.map (Value.int .i64)).zip (zs.map (Value.int .i64)):=hp
  rw [List.zip_map'] at hp
  obtain ⟨z,_,rfl⟩:=Q9.1 hp
  simp [Instr.sameBits]
 simp [Instr.keyThatStays,this]
theorem c6k {α β:Type} (f:α->β) (l:List α) (q:Nat) (x:α):(l.set q x).map f=(l.map f).set q (f x):=by
 apply Qf
 intro j
 simp only [Q8,Qs,List.length_map]
 split
 ·split<;>simp_all
 ·rfl
theorem b9T (hI:i.Ok P t) (hb:w.heap[b]?=some (.map es clock)) (hm:QIs es kv) (hw:b1O i.n kv) (hbn:a6l es clock) (zs:List Int) (hz:zs.length=i.n) (x:Int) :
  ∃ es' clock',(Instr.mapUpdate t (.map (some b)) (qkey zs) (.int .i64 x)).run P w=.ok () { w with heap:=w.heap.setIfInBounds b (.map es' clock') }/\QIs es' (a9o kv zs x)/\a6l es' clock':=by
 have hc:=fun em=>hI.check em zs w hz
 have hf:=a7Z hI w (qkey zs) es.toList
 rcases a5E hI w zs hz es.toList kv 0 hm hw with ⟨a,_,p,_⟩ | ⟨q,e,a,he,hek,_,p,_⟩
 ·refine ⟨es.push ⟨qkey zs,.int .i64 x,clock⟩,clock+1,?_,?_,?_⟩
  ·simp only [Instr.mapUpdate,Sem.run_bind,run_underlying hI.ty,Result.andThen_ok,MapKept.run_getObj_map hb,hc,hf,a,MapKept.run_setObj_map _ hb]
  ·rw [p x]
   simp only [QIs,Qy,QJ,Q5,List.map_nil] at hm ⊢
   rw [hm]; rfl
  ·refine ⟨?_,?_⟩
   ·simp only [Qy,QJ,Q5,List.map_nil]
    rw [List.nodup_append]
    refine ⟨hbn.1,by simp,fun u hu v hv=>?_⟩
    simp only [Q4] at hv
    obtain ⟨e,he,rfl⟩:=Q9.1 hu
    have:=hbn.2 e he
    omega
   ·intro e he
    simp only [Qy,List.mem_append,Q4] at he
    rcases he with he | rfl
    ·have:=hbn.2 e he; omega
    ·simp
 ·have hj:es[q]?=some e:=by simpa using he
  simp only [Nat.zero_add] at a
  refine ⟨es.modify q (fun e=>{ e with key:=qkey zs,val:=.int .i64 x }),clock,?_,?_,?_⟩
  ·simp only [Instr.mapUpdate,Sem.run_bind,run_underlying hI.ty,Result.andThen_ok,MapKept.run_getObj_map hb,hc,hf,a,hj,Qh,Qt,hek,b8H,MapKept.run_setObj_map _ hb]
  ·rw [p x]
   simp only [QIs] at hm ⊢
   rw [c6k,<- hm]
   apply Qf
   intro j
   rw [Q8,Qb,QK,Qs,Q8,Qb]
   have hlt:=(Array.getElem?_eq_some_iff.1 hj).1
   split
   ·rename_i hq
    subst hq
    simp [hj,encE,hlt]
   ·rfl
  ·have hborn:(es.modify q (fun e=>{ e with key:=qkey zs,val:=.int .i64 x })).toList.map (·.born)=es.toList.map (·.born):=by
    apply Qf
    intro j
    rw [Q8,Qb,QK,Q8,Qb]
    split
    ·rename_i hq; subst hq; simp [hj]
    ·rfl
   refine ⟨by rw [hborn]; exact hbn.1,fun e he=>?_⟩
   have:e.born∈es.toList.map (·.born):=by rw [<- hborn]; exact Q9.2 ⟨e,he,rfl⟩
   obtain ⟨e',h1,h2⟩:=Q9.1 this
   rw [<- h2]; exact hbn.2 e' h1
theorem b9Z (hI:i.Ok P t) {t' ty:Nat} (hb:w.heap[b]?=some (.map es clock)) (hm:QIs es kv) (hw:b1O i.n kv) (hbn:a6l es clock) (zs:List Int) (hz:zs.length=i.n) :
  ∃ es',(Builtin.delete_ #[t,t'] ty #[.map (some b),qkey zs]).run P w=.ok (.tuple #[]) { w with heap:=w.heap.setIfInBounds b (.map es' clock) }/\QIs es' (a7V kv zs)/\a6l es' clock:=by
 have hc:=fun em=>hI.check em zs w hz
 have hf:=a7Z hI w (qkey zs) es.toList
 rcases a5E hI w zs hz es.toList kv 0 hm hw with ⟨a,_,_,p⟩ | ⟨q,e,a,he,hek,_,_,p⟩
 ·refine ⟨es,?_,by rw [p]; exact hm,hbn⟩
  simp [Builtin.delete_,run_underlying hI.ty,MapKept.run_getObj_map hb,hc,hf,a,MapKept.run_setObj_map _ hb,Result.andThen]
 ·simp only [Nat.zero_add] at a
  have hel:(es.eraseIdxIfInBounds q).toList=es.toList.eraseIdx q:=by
   simp
  refine ⟨es.eraseIdxIfInBounds q,?_,?_,?_⟩
  ·simp [Builtin.delete_,run_underlying hI.ty,MapKept.run_getObj_map hb,hc,hf,a,MapKept.run_setObj_map _ hb,Result.andThen]
  ·rw [p]
   simp only [QIs] at hm ⊢
   rw [hel,ChangeMaps.map_eraseIdx,hm,ChangeMaps.map_eraseIdx]
  ·refine ⟨?_,fun e' he'=>?_⟩
   ·rw [hel,ChangeMaps.map_eraseIdx]
    exact hbn.1.sublist (List.eraseIdx_sublist _ _)
   ·rw [hel] at he'
    exact hbn.2 e' (List.mem_of_mem_eraseIdx he')
end
end Go.Sx
namespace Go.Sx
open Go.RowKit
structure Grows (E:Nat->Prop) (w w':World):Prop where
 os:w'.os=w.os
 tape:w'.tape=w.tape
 output:w'.output=w.output
 size:w.heap.size<=w'.heap.size
 block:∀ k,k < w.heap.size->¬ E k->w'.heap[k]?=w.heap[k]?
theorem Grows.of_below {E:Nat->Prop} {w w':World} (h:Below w.heap.size w w'):Grows E w w':=⟨h.os,h.tape,h.output,h.size,fun k hk _=>h.block k hk⟩
theorem Grows.refl (E:Nat->Prop) (w:World):Grows E w w:=⟨rfl,rfl,rfl,Nat.le_refl _,fun _ _ _=>rfl⟩
theorem Grows.trans {E F G:Nat->Prop} {a b c:World} (h:Grows E a b) (k:Grows F b c) (hE:∀ i,E i->G i) (hF:∀ i,F i->G i\/a.heap.size<=i):Grows G a c :=
 ⟨k.os.trans h.os,k.tape.trans h.tape,k.output.trans h.output,Nat.le_trans h.size k.size,fun i hi hn =>
  (k.block i (Nat.lt_of_lt_of_le hi h.size) (fun hf=>(hF i hf).elim hn (fun h=>by omega))).trans (h.block i hi (fun he=>hn (hE i he)))⟩
theorem Grows.below {E:Nat->Prop} {a b c:World} (h:Grows E a b) (k:Below a.heap.size b c):Grows E a c :=
 ⟨k.os.trans h.os,k.tape.trans h.tape,k.output.trans h.output,Nat.le_trans h.size k.size,fun i hi hn=>(k.block i hi).trans (h.block i hi hn)⟩
abbrev MS:=List (Nat × Obj)
def a0S (m:MS):List Nat:=m.map Prod.fst
structure MOk (s:Hp) (m:MS) (w:World):Prop where
 nd:(a0S m).Nodup
 is:∀ x∈m,w.heap[x.1]?=some x.2
 un:∀ x∈m,∀ o,s x.1 o=none
def c6Z (m m':MS) (w:World):Prop:=m.length<=m'.length/\∀ (i:Nat) (x':Nat × Obj),m'[i]?=some x'->(∃ x,m[i]?=some x/\x.1=x'.1)\/w.heap.size<=x'.1
def Ret (Q:Value->Hp->MS->Prop) (s:Hp) (m:MS) (w:World):Ending->World->Prop:=fun e w' =>
 ∃ v s' m',e=.returned v/\Grows (·∈a0S m) w w'/\s.le s'/\Sub s' w'/\New w.heap.size s s'/\c6Z m m' w/\MOk s' m' w'/\Q v s' m'
def Ct (P:Program) (f:FuncId) (args:List Value) (s:Hp) (m:MS) (Q:Value->Hp->MS->Prop):Prop :=
 ∀ w,Sub s w->MOk s m w->Calls P f args.toArray w (Ret Q s m w)
def b8w (s:Hp) (m:MS) (v:Value) (vals:List Value):Prop :=
 ∃ b o,a1D v=some ⟨b,o,none⟩/\((∀ j u,vals[j]?=some u->s b (o+j)=some u)\/∃ cur T fr,(b,Obj.cells cur T fr)∈m/\∀ j u,vals[j]?=some u->cur[o+j]?=some u)
def c1f (m:MS) (s:Hp):Prop:=∀ x∈m,∀ cur T fr,x.2=.cells cur T fr->∀ o u,cur[o]?=some u->s x.1 o=some u
def a2X (l:List Value) (o:Nat) (new:List Value):List Value:=l.take o++new++l.drop (o+new.length)
def a8r (ρ:Env) (β:Nat->Nat) (H:List Blk) (s:Hp):Prop :=
 ∀ k cs T,H[k]?=some (.cells cs T true)->∀ o u,(SV.dens ρ β cs)[o]?=some u->s (β k) o=some u
def a7B (ρ:Env) (s:Hp) (size:Nat) (es:List (List Value)):Src->Prop
 | .lit l=>es=l.map (SV.dens ρ id)
 | .va n=>a1s s size (ρ.v.getD n vd) es/\∀ e∈es,∀ u∈e,u.oneCell'=true
def a7F (ρ:Env) (s:Hp) (size:Nat) (xs:List (List Value)):Option Nat->Prop
 | none=>xs=[]
 | some n=>a1s s size (ρ.v.getD n vd) xs
def a5h (ρ:Env):Option IE->Int
 | some e=>e.den ρ
 | none=>0
def a5k (ρ:Env):Option IE->Nat->Int
 | some e,_=>e.den ρ
 | none,n=>n
def Ext (v' v'':Value) (n:Nat):Prop:=∃ b cap,v'=.slice (some ⟨b,0,none⟩) n cap/\v''=.slice (some ⟨b,0,none⟩) (n+1) cap/\n+1<=cap
def a2j {α:Type}:List Int->List α->Int->Option α
 | k::ks,v::vs,z=>if k=z then some v else a2j ks vs z
 | _,_,_=>none
def a3p {α:Type}:List Int->List α->Int->α->List Int × List α
 | k::ks,v::vs,z,x=>if k=z then (k::ks,x::vs) else (k::(a3p ks vs z x).1,v::(a3p ks vs z x).2)
 | _,_,z,x=>([z],[x])
def a8n (K:IntKind) (es:Array MapEntry) (ks:List Int) (vs:List Value):Prop:=es.toList.map (·.key)=ks.map (Value.int K)/\es.toList.map (·.val)=vs
def a8P (ok:Bool) (o:Option Value) (d:Value):Value:=if ok then .tuple #[o.getD d,.bool o.isSome] else o.getD d
section
variable (P:Program) (Q:Value->Hp->MS->Prop) (T:Cfg->Env->Hp->Prop)
def VC:Out->Env->Hp->Prop
 | .ret gen v H,ρ,s=>∀ β s',s.le s'->a8r ρ β H s'->(gen=false->c1f (ρ.m.drop ρ.k) s')->Q (v.den ρ β) s' (if gen then ρ.m else ρ.m.take ρ.k)
 | .ite c x y,ρ,s=>(c.den ρ=true->VC x ρ s)/\(c.den ρ=false->VC y ρ s)
 | .need c k,ρ,s=>c.den ρ=true/\(c.den ρ=true->VC k ρ s)
 | .load fl a cs di db dv k,ρ,s=>∃ is bs vs,is.length=di/\bs.length=db/\vs.length=dv/\vs.all a2Y=true /\
   b8w s (if fl then [] else ρ.m) (a.den ρ id) (SV.dens (ρ.push is bs vs) id cs)/\VC k (ρ.push is bs vs) s
 | .app d src size bytes k,ρ,s=>∃ xs es,a7F ρ s size xs d/\a7B ρ s size es src/\(xs.length+es.length)*bytes<=140737488355328/\xs.length+es.length<=maxLen /\
   ∀ v s',s.le s'->a1s s' size v (xs++es)->VC k (ρ.push [] [] [v]) s'
 | .cut n lo hi size k,ρ,s=>∃ xs,a1s s size (ρ.v.getD n vd) xs/\0<=a5h ρ lo/\a5h ρ lo<=a5k ρ hi xs.length/\a5k ρ hi xs.length<=xs.length /\
   ∀ v,a1s s size v ((xs.take (a5k ρ hi xs.length).toNat).drop (a5h ρ lo).toNat)->VC k (ρ.push [] [] [v]) s
 | .scut n lo hi k,ρ,s=>∃ l:List UInt8,ρ.v.getD n vd=.string ⟨l.toArray⟩/\0<=a5h ρ lo/\a5h ρ lo<=a5k ρ hi l.length/\a5k ρ hi l.length<=l.length /\
   VC k (ρ.push [] [] [.string ⟨((l.take (a5k ρ hi l.length).toNat).drop (a5h ρ lo).toNat).toArray⟩]) s
 | .chk n size k,ρ,s=>(∃ xs,a1s s size (ρ.v.getD n vd) xs)/\VC k ρ s
 | .appF n src size bytes k,ρ,s=>∃ xs es,a1s s size (ρ.v.getD n vd) xs/\es≠[]/\a7B ρ s size es src/\(xs.length+es.length)*bytes<=140737488355328/\xs.length+es.length<=maxLen /\
   ∀ v s',s.le s'->a1s s' size v (xs++es)->VC k (ρ.push [] [] [v]) s'
 | .hole d size bytes k,ρ,s=>∃ xs,a7F ρ s size xs d/\(xs.length+1)*bytes<=140737488355328/\xs.length+1<=maxLen /\
   ∀ v' v'' s',s.le s'->a1s s' size v' xs->Ext v' v'' xs.length->VC k (ρ.push [] [] [v',v'']) s'
 | .fill n i es size k,ρ,s=>∃ xs,a1s s size (ρ.v.getD (n-1) vd) xs/\Ext (ρ.v.getD (n-1) vd) (ρ.v.getD n vd) xs.length/\i.den ρ=xs.length /\
   ∀ s',s.le s'->a1s s' size (ρ.v.getD n vd) (xs++[SV.dens ρ id es])->VC k (ρ.push [] [] [ρ.v.getD n vd]) s'
 | .call f args H res di db dv k,ρ,s=>∀ β s1,s.le s1->a8r ρ β H s1->∃ Qc,Ct P f (SV.dens ρ β args) s1 ρ.m Qc /\
   ∀ v s' m',s1.le s'->Qc v s' m'->∃ is bs vs,is.length=di/\bs.length=db/\vs.length=dv/\vs.all a2Y=true/\v=res.den (ρ.push is bs vs) id/\VC k { ρ.push is bs vs with m:=m' } s'
 | .callv n args res di db dv k,ρ,s=>∃ F caps Qc,ρ.v.getD n vd=.func (.func F) #[] caps/\(∀ args w,(callFunc F args).run P w=.ok (.enter F args) w)/\Ct P F (SV.dens ρ id args++caps.toList) s ρ.m Qc /\
   ∀ v s' m',s.le s'->Qc v s' m'->∃ is bs vs,is.length=di/\bs.length=db/\vs.length=dv/\vs.all a2Y=true/\v=res.den (ρ.push is bs vs) id/\VC k { ρ.push is bs vs with m:=m' } s'
 | .newM cs T k,ρ,s=>∀ b,b ∉ a0S ρ.m->VC k { ρ.push [] [] [.pointer (some ⟨b,0,none⟩)] with m:=ρ.m++[(b,.cells (SV.dens ρ id cs).toArray T (0,0))] } s
 | .mkM n zero T size bytes k,ρ,s=>0<=n.den ρ/\n.den ρ*bytes<=140737488355328/\n.den ρ<=9223372036854775807/\∀ b,b ∉ a0S ρ.m ->
   VC k { ρ.push [] [] [.slice (some ⟨b,0,none⟩) (n.den ρ).toNat (n.den ρ).toNat] with m:=ρ.m++[(b,.cells (madeCells (SV.dens ρ id zero).toArray ((n.den ρ).toNat*size)) T (0,0))] } s
 | .storeM a cs k,ρ,s=>∃ (i b o:Nat) (cur:Array Value) (T:TypeId),ρ.m[i]?=some (b,.cells cur T (0,0))/\a1D (a.den ρ id)=some ⟨b,o,none⟩/\o+cs.length<=cur.size /\
   VC k { ρ with m:=ρ.m.set i (b,.cells (a2X cur.toList o (SV.dens ρ id cs)).toArray T (0,0)) } s
 | .appM d src size bytes T k,ρ,s=>∃ (i:Nat) (xs es:List (List Value)),(∀ x∈xs,x.length=size) /\
   ((xs=[]/\i=ρ.m.length/\d.den ρ id=.slice none 0 0)\/∃ (b cap:Nat) (cur:Array Value),d.den ρ id=.slice (some ⟨b,0,none⟩) xs.length cap/\ρ.m[i]?=some (b,.cells cur T (0,0))/\xs.length<=cap/\cap<=maxLen/\cur.size=cap*size /\
    ∀ (j:Nat) (u:Value),xs.flatten[j]?=some u->cur[j]?=some u) /\
   a7B ρ s size es src/\(xs.length+es.length)*bytes<=140737488355328/\xs.length+es.length<=maxLen/\(es=[]->VC k (ρ.push [] [] [d.den ρ id]) s) /\
   (es≠[]->∀ (b' cap':Nat) (cur':Array Value),(b'∈a0S ρ.m->∃ o,ρ.m[i]?=some (b',o))->xs.length+es.length<=cap'->cap'<=maxLen->cur'.size=cap'*size->(∀ (j:Nat) (u:Value),(xs++es).flatten[j]?=some u->cur'[j]?=some u) ->
    VC k { ρ.push [] [] [.slice (some ⟨b',0,none⟩) (xs.length+es.length) cap'] with m:=if i < ρ.m.length then ρ.m.set i (b',.cells cur' T (0,0)) else ρ.m++[(b',.cells cur' T (0,0))] } s)
 | .mkMap _ k,ρ,s=>∀ b,b ∉ a0S ρ.m->VC k { ρ.push [] [] [.map (some b)] with m:=ρ.m++[(b,.map #[] 0)] } s
 | .mapGet n K key dflt ok res di db dv k,ρ,s=>∃ (i b:Nat) (es:Array MapEntry) (clock:Nat) (ks:List Int) (l:List Value),ρ.m[i]?=some (b,.map es clock)/\ρ.v.getD n vd=.map (some b)/\a8n K es ks l /\
   ∃ is bs vs,is.length=di/\bs.length=db/\vs.length=dv/\vs.all a2Y=true/\a8P ok (a2j ks l (key.den ρ)) (dflt.den ρ id)=res.den (ρ.push is bs vs) id/\VC k (ρ.push is bs vs) s
 | .mapSet n K key v k,ρ,s=>∃ (i b:Nat) (es:Array MapEntry) (clock:Nat) (ks:List Int) (l:List Value),ρ.m[i]?=some (b,.map es clock)/\ρ.v.getD n vd=.map (some b)/\a8n K es ks l /\
   ∀ es' clock',a8n K es' (a3p ks l (key.den ρ) (v.den ρ id)).1 (a3p ks l (key.den ρ) (v.den ρ id)).2->VC k { ρ with m:=ρ.m.set i (b,.map es' clock') } s
 | .mapClr n k,ρ,s=>∃ (i b:Nat) (es:Array MapEntry) (clock:Nat),ρ.m[i]?=some (b,.map es clock)/\ρ.v.getD n vd=.map (some b)/\VC k { ρ with m:=ρ.m.set i (b,.map #[] clock) } s
 | .mkQ k,ρ,s=>∀ b,b ∉ a0S ρ.m->VC k { ρ.push [] [] [.map (some b)] with m:=ρ.m++[(b,.map #[] 0)] } s
 | .qGet n key ok k,ρ,s=>∃ (i b:Nat) (es:Array MapEntry) (clock:Nat) (kv:KV),ρ.m[i]?=some (b,.map es clock)/\ρ.v.getD n vd=.map (some b)/\QIs es kv/\b1O key.length kv /\
   VC k (ρ.push [(a0K kv (key.map (IE.den ρ))).getD 0] (if ok then [(a0K kv (key.map (IE.den ρ))).isSome] else []) []) s
 | .qSet n key v k,ρ,s=>∃ (i b:Nat) (es:Array MapEntry) (clock:Nat) (kv:KV),ρ.m[i]?=some (b,.map es clock)/\ρ.v.getD n vd=.map (some b)/\QIs es kv/\b1O key.length kv/\a6l es clock /\
   ∀ es' clock',QIs es' (a9o kv (key.map (IE.den ρ)) (v.den ρ))->a6l es' clock'->VC k { ρ with m:=ρ.m.set i (b,.map es' clock') } s
 | .qDel n key k,ρ,s=>∃ (i b:Nat) (es:Array MapEntry) (clock:Nat) (kv:KV),ρ.m[i]?=some (b,.map es clock)/\ρ.v.getD n vd=.map (some b)/\QIs es kv/\b1O key.length kv/\a6l es clock /\
   ∀ es' clock',QIs es' (a7V kv (key.map (IE.den ρ)))->a6l es' clock'->VC k { ρ with m:=ρ.m.set i (b,.map es' clock') } s
 | .qLen n k,ρ,s=>∃ (i b:Nat) (es:Array MapEntry) (clock:Nat),ρ.m[i]?=some (b,.map es clock)/\ρ.v.getD n vd=.map (some b)/\VC k (ρ.push [(es.size:Int)] [] []) s
 | .rng n k,ρ,s=>∃ (i b:Nat) (es:Array MapEntry) (clock:Nat),ρ.m[i]?=some (b,.map es clock)/\ρ.v.getD n vd=.map (some b) /\
   ∀ b',b' ∉ a0S ρ.m->VC k { ρ.push [] [] [.pointer (some ⟨b',0,none⟩)] with m:=ρ.m++[(b',.mapIter (some b) clock #[] clock)] } s
 | .next n w x y,ρ,s=>∃ (i b' j b since c0 clock:Nat) (seen:Array Nat) (es:Array MapEntry) (kv:KV),ρ.m[i]?=some (b',.mapIter (some b) since seen c0)/\ρ.v.getD n vd=.pointer (some ⟨b',0,none⟩)/\ρ.m[j]?=some (b,.map es clock) /\
   (∀ e∈es.toList,e.born < since)/\since<=c0/\QIs es kv/\b1O w kv/\((leftOf es seen).size=0->VC x ρ s) /\
   ∀ e∈(leftOf es seen).toList,∀ key v,e.key=qkey key->e.val=.int .i64 v->key.length=w->VC y { ρ.push (key++[v]) [] [] with m:=ρ.m.set i (b',.mapIter (some b) since (seen.push e.born) clock) } s
 | .entry n w k,ρ,s=>∃ (i b' j b since clock:Nat) (seen:Array Nat) (es:Array MapEntry) (e:MapEntry) (key:List Int) (v:Int),ρ.m[i]?=some (b',.mapIter (some b) since (seen.push e.born) clock)/\ρ.v.getD n vd=.pointer (some ⟨b',0,none⟩)/\ρ.m[j]?=some (b,.map es clock) /\
   e∈es.toList/\(es.toList.map (·.born)).Nodup/\e.key=qkey key/\e.val=.int .i64 v/\key.length=w/\VC k (ρ.push (key++[v]) [] []) s
 | .copyM d x size k,ρ,s=>∃ (i b o dl dcap sl cap:Nat) (a:Option Addr) (cur:Array Value) (T:TypeId) (vals:List Value),ρ.v.getD d vd=.slice (some ⟨b,o,none⟩) dl dcap/\ρ.m[i]?=some (b,.cells cur T (0,0))/\ρ.v.getD x vd=.slice a sl cap /\
   vals.length=min sl dl*size/\(vals=[]\/b8w s ρ.m (ρ.v.getD x vd) vals)/\(∀ u∈vals,u.oneCell'=true)/\o+vals.length<=cur.size /\
   VC k { ρ.push [((min sl dl:Nat):Int)] [] [] with m:=ρ.m.set i (b,.cells (a2X cur.toList o vals).toArray T (0,0)) } s
 | .both x y,ρ,s=>VC x ρ s/\VC y ρ s
 | .stop c,ρ,s=>T c ρ s
 | .fail _,_,_=>False
theorem b6P:∀ (l:List Out) (ρ:Env) (s:Hp),VC P Q T (b3Q l) ρ s->l≠[]/\∀ x∈l,VC P Q T x ρ s
 | [],ρ,s,h=>h.elim
 | [x],ρ,s,h=>⟨by simp,fun y hy=>by rw [Q4.1 hy]; exact h⟩
 | x::y::l,ρ,s,h=>by
  have h:VC P Q T x ρ s/\VC P Q T (b3Q (y::l)) ρ s:=h
  have ih:=(b6P (y::l) ρ s h.2).2
  exact ⟨by simp,fun z hz=>by
   rcases List.mem_cons.1 hz with rfl | hz
   ·exact h.1
   ·exact ih z hz⟩
theorem b1J:∀ (l:List BE) (k:Out) (ρ:Env) (s:Hp),VC P Q T (b2w l k) ρ s->(∀ b∈l,b.den ρ=true)/\VC P Q T k ρ s
 | [],k,ρ,s,h=>⟨by simp,h⟩
 | b::l,k,ρ,s,h=>by
  have hh:(b.den ρ=true)/\VC P Q T (b2w l k) ρ s:=by
   unfold b2w at h
   simp only [List.foldr_cons] at h
   split at h
   ·exact ⟨rfl,h⟩
   ·exact ⟨h.1,h.2 h.1⟩
  have ih:=b1J l k ρ s hh.2
  exact ⟨fun x hx=>by rcases List.mem_cons.1 hx with rfl | hx; exact hh.1; exact ih.1 x hx,ih.2⟩
end
def BOk (B:Nat) (s:Hp) (ρ:Env) (β:Nat->Nat) (w:World) (k:Nat):Blk->Prop
 | .cells cs T shut=>B<=β k/\w.heap[β k]?=some (.cells (SV.dens ρ β cs).toArray T (0,0)) /\
   (shut=false->∀ o,s (β k) o=none)/\(shut=true->∀ o u,(SV.dens ρ β cs)[o]?=some u->s (β k) o=some u)
 | .row n T size=>0 < size/\(ρ.v.getD n vd=.slice none 0 0\/∃ m cap cur,ρ.v.getD n vd=.slice (some ⟨β k,0,none⟩) m cap/\B<=β k /\
   w.heap[β k]?=some (.cells cur T (0,0))/\m<=cap/\cap<=maxLen/\cur.size=cap*size/\∀ o u,s (β k) o=some u->o < m*size)
def act (ρ:Env):Blk->Prop
 | .cells ..=>True
 | .row n _ _=>ρ.v.getD n vd≠.slice none 0 0
def a9T:Obj->Bool
 | .cells ..=>false
 | _=>true
structure Fx where
 K:Nat × Obj->Prop:=fun _=>False
 E:List Nat:=[]
 zs:List (Array Value):=[]
 ds:List Deferred:=[]
 sz:Nat:=0
def a6V (D:Nat):Deferred:={ target:=.collected D,args:=#[] }
def Xm (E:List Nat) (Ds:List Nat):Fx:={ K:=fun x=>x.1∈Ds/\x.2=.deferred (some []),ds:=Ds.map a6V,E }
structure MRel (w0:World) (X:Fx) (ρ:Env):Prop where
 ek:X.E.length=ρ.k
 ck:∀ (i:Nat) (x:Nat × Obj),i < ρ.k->ρ.m[i]?=some x->X.E[i]?=some x.1\/w0.heap.size<=x.1
 kl:ρ.k<=ρ.m.length
 nd:(a0S ρ.m).Nodup
 dk:∀ x,X.K x->x.1 ∉ a0S ρ.m
 nw:∀ (i:Nat) (x:Nat × Obj),ρ.k<=i->ρ.m[i]?=some x->w0.heap.size<=x.1
theorem MRel.to {w0:World} {X X':Fx} {ρ ρ':Env} (h:MRel w0 X ρ) (hm:ρ'.m=ρ.m) (hk:ρ'.k=ρ.k) (hE:X'.E=X.E) (hK:∀ x,X'.K x->X.K x\/x.1 ∉ a0S ρ.m):MRel w0 X' ρ' :=
 ⟨by rw [hE,hk]; exact h.ek,by rw [hE,hm,hk]; exact h.ck,by rw [hm,hk]; exact h.kl,by rw [hm]; exact h.nd,fun x hx=>by rw [hm]; exact (hK x hx).elim (h.dk x) id,by rw [hm,hk]; exact h.nw⟩
theorem MRel.env {w0:World} {X:Fx} {ρ ρ':Env} (h:MRel w0 X ρ) (hm:ρ'.m=ρ.m) (hk:ρ'.k=ρ.k):MRel w0 X ρ':=h.to hm hk rfl (fun _=>.inl)
structure Kept (s:Hp) (ρ:Env) (β:Nat->Nat) (H:List Blk) (w:World) (x:Nat × Obj):Prop where
 is:w.heap[x.1]?=some x.2
 own:∀ (k:Nat) (b:Blk),H[k]?=some b->act ρ b->β k≠x.1
 un:∀ o,s x.1 o=none
structure Rel (w0:World) (s0:Hp) (X:Fx) (ρ:Env) (s:Hp) (β:Nat->Nat) (g:Cfg) (a:Act) (w:World):Prop where
 tm:a.tmps=(SV.dens ρ β g.sl).toArray
 df:a.defers=X.ds
 sz:X.sz<=w.heap.size
 kp:∀ x,X.K x\/x∈ρ.m->Kept s ρ β g.H w x
 ms:MRel w0 X ρ
 fs:X.zs=g.fs.map fun l=>(SV.dens ρ β l).toArray
 ci:ρ.i.length=g.ni
 cb:ρ.b.length=g.nb
 cv:ρ.v.length=g.nv
 cj:ρ.j.length=g.nj
 ok:ρ.Ok
 bel:Grows (·∈X.E) w0 w
 sb:Sub s w
 nw:New w0.heap.size s0 s
 le:s0.le s
 bl:∀ k b,g.H[k]?=some b->BOk w0.heap.size s ρ β w k b
 sp:∀ j k bj bk,j≠k->g.H[j]?=some bj->g.H[k]?=some bk->act ρ bj->act ρ bk->β j≠β k
theorem Rel.hok {w0 s0 X ρ s β g a w} (h:Rel w0 s0 X ρ s β g a w):HOk ρ β g.H w:=by
 intro k cs T hk
 unfold a1g at hk
 split at hk
 ·rename_i cs' T' sh hk'
  simp only [Q0,Q1] at hk
  obtain ⟨rfl,rfl⟩:=hk
  exact (h.bl _ _ hk').2.1
 ·simp at hk
theorem Rel.lt {w0 s0 X ρ s β g a w} (h:Rel w0 s0 X ρ s β g a w) {k:Nat} {b:Blk} (hk:g.H[k]?=some b) (ha:act ρ b):β k < w.heap.size:=by
 have:=h.bl k b hk
 have key:∀ o,w.heap[β k]?=some o->β k < w.heap.size:=fun o ho=>by
  rcases Nat.lt_or_ge (β k) w.heap.size with h' | h'
  ·exact h'
  ·rw [Array.getElem?_eq_none h'] at ho; cases ho
 cases b with
 | cells cs T sh=>exact key _ this.2.1
 | row n T size =>
  rcases this.2 with h1 | ⟨m,cap,cur,_,_,h3,_⟩
  ·exact absurd h1 ha
  ·exact key _ h3
theorem Sub.lt {s:Hp} {w:World} (h:Sub s w) {b o:Nat} {u:Value} (hb:s b o=some u):b < w.heap.size:=World.block_lt_of_cell? w ⟨b,o,none⟩ (h b o u hb)
end Go.Sx
namespace Go.Sx
open Go.RowKit
section
variable {P:Program} {c:Ctx} {ρ:Env} {β:Nat->Nat}
theorem a0R (l:List SV):(SV.dens ρ β l).length=l.length:=by simp [SV.dens_map]
theorem b2y (hP:ProgOk P c) (hρ:ρ.Ok) {sl:List SV} {k:Nat} {o:Oper} {cs:List SV} {t:Nat} {v:SV} (h:b6u c sl k o.op=some (cs,t,v))
  {a:Act} (ha:a.tmps=(SV.dens ρ β sl).toArray) (w:World) :
  ∃ v',(execOp a.eval o).run P w=.ok (.value v') (w.alloc (.cells (SV.dens ρ β cs).toArray t))/\∀ ρ' β',β' k=w.heap.size->v.den ρ' β'=v':=by
 obtain ⟨dst,op,type,pos,after,guard⟩:=o
 simp only at h
 unfold b6u at h
 split at h
 ·simp only [Q3,Q1] at h
  obtain ⟨i,hi,rfl,rfl,rfl⟩:=h
  obtain ⟨z,hz,hzc⟩:=b5t (hP.tab _ _ hi) w
  refine ⟨.pointer (some ⟨w.heap.size,0,none⟩),?_,fun ρ' β' hb=>by simp [SV.den,hb]⟩
  simp [execOp,Instr.alloc,hz,newVar,newRow,hzc ρ β]
 ·simp only [QB] at h
  obtain ⟨x,hx,h⟩:=h
  split at h
  case isFalse=>simp at h
  rename_i hcok
  simp only [Q0,Q1] at h
  obtain ⟨rfl,rfl,rfl⟩:=h
  refine ⟨.pointer (some ⟨w.heap.size,0,none⟩),?_,fun ρ' β' hb=>by simp [SV.den,hb]⟩
  simp [execOp,Instr.box,newVar,newRow,a0T hx ha,a6Z hρ x hcok]
 ·rename_i st len parts
  split at h
  case h_2=>simp at h
  rename_i e hty
  obtain ⟨si,hsi,hsi'⟩:=Ctx.ty_some hty
  have hty:=(hP.tab _ si hsi).ty
  simp only [hsi'] at hty
  split at h
  case h_2=>simp at h
  rename_i i vs hi hvs
  split at h
  case isFalse=>simp at h
  rename_i hc
  simp only [Q2,decide_eq_true_eq] at hc
  simp only [Q3,Q1] at h
  obtain ⟨cs',hfill,rfl,rfl,rfl⟩:=h
  have hI:=hP.tab _ _ hi
  obtain ⟨z,hz,hzc⟩:=b5t hI w
  have hfill':=b1Z (ρ:=ρ) (β:=β) hρ _ _ _ _ hfill
  unfold b2C at hfill'
  have hparts:(parts.map fun (p:Nat × Operand)=>(p.1,a.eval p.2)).toList=((parts.toList.map (·.1)).zip vs).map fun p=>(p.1,p.2.den ρ β):=by
   rw [<- b7o ha _ _ hvs]; simp
  by_cases hl0:len=0
  ·subst hl0
   have hcs:(SV.dens ρ β ((Q6 (0*i.size)).map fun j=>i.zero.getD (j % i.size) .undef)).toArray=#[]:=by simp [SV.dens]
   rw [hcs] at hfill'
   have hpm:(parts.map fun (x:Nat × Operand)=>(x.1,a.eval x.2)).toList=_:=hparts
   have hr0:∀ f:Nat->Value,Array.map f (Array.range 0)=#[]:=fun f=>by simp
   have hno:¬ ((0:Nat) > 2 ^ 24):=by omega
   have hno0:0*i.size=0:=by omega
   refine ⟨.slice (some ⟨w.heap.size,0,none⟩) 0 0,?_,fun ρ' β' hb=>by simp [SV.den,hb]⟩
   simp only [execOp,Instr.buildSlice,Sem.run_bind,run_underlying hty,Result.andThen_ok,run_sizeOf hI,hno,if_false,hno0,if_true,Sem.run_pure,hr0,hpm,hfill',newRow,run_newObj,World.alloc]
  have hcp:0 < len:=by omega
  have hzero:(Array.range (len*i.size)).map (fun j=>z.cells[j % z.cells.size]!)=(SV.dens ρ β ((Q6 (len*i.size)).map fun j=>i.zero.getD (j % i.size) .undef)).toArray:=by
   apply Qk
   have hsz:z.cells.size=i.size:=by rw [hzc ρ β]; simp [a0R,hI.zlen]
   simp only [Array.toList_map,Array.toList_range,SV.dens_map,List.map_map]
   apply List.map_congr_left
   intro j _
   have hlt:j % i.size < i.size:=Nat.mod_lt _ hc.2
   simp only [Function.comp,hsz]
   have h1:(j % i.size) < i.zero.length:=by rw [hI.zlen]; exact hlt
   have h2:z.cells[j % i.size]! = (SV.dens ρ β i.zero)[j % i.size]'(by rw [a0R]; exact h1):=by
    have:z.cells=(SV.dens ρ β i.zero).toArray:=hzc ρ β
    rw [this]
    simp [SV.dens_map,h1]
   rw [h2]
   simp [SV.dens_map,h1]
  refine ⟨.slice (some ⟨w.heap.size,0,none⟩) len len,?_,fun ρ' β' hb=>by simp [SV.den,hb]⟩
  have hno:¬ (len*i.size > 2 ^ 24):=by have:=hc.1; omega
  have hno0:¬ (len*i.size=0):=by
   have h1:=hcp; have h2:=hc.2
   exact Nat.ne_of_gt (Nat.mul_pos h1 h2)
  have hpm:(parts.map fun (x:Nat × Operand)=>(x.1,a.eval x.2)).toList=_:=hparts
  simp only [execOp,Instr.buildSlice,Sem.run_bind,run_underlying hty,Result.andThen_ok,run_sizeOf hI,hno,if_false,hno0,hz,Sem.run_pure,hzero,hpm,hfill',newRow,run_newObj,World.alloc]
 ·simp at h
theorem c0e (hP:ProgOk P c) (hρ:ρ.Ok) {sl:List SV} {H:List Blk} {o:Oper} {k off:Nat} {new cs:List SV} {T:Nat} (h:a8A c sl H o.op=some (k,off,new))
  (hk:H[k]?=some (.cells cs T false)) {a:Act} (ha:a.tmps=(SV.dens ρ β sl).toArray) (w:World) (hw:w.heap[β k]?=some (.cells (SV.dens ρ β cs).toArray T (0,0))) :
  (execOp a.eval o).run P w=.ok .skip (w.setRow (β k) (SV.dens ρ β (a3N cs off new)).toArray):=by
 obtain ⟨dst,op,type,pos,after,guard⟩:=o
 simp only at h
 unfold a8A at h
 split at h
 case h_2=>simp at h
 split at h
 case h_2=>simp at h
 rename_i i k' off' v hi hp hv
 split at h
 case h_2=>simp at h
 rename_i cs' T' hk'
 split at h
 case isFalse=>simp at h
 rename_i hc
 simp only [Q0,Q1] at h
 obtain ⟨rfl,rfl,rfl⟩:=h
 rw [hk] at hk'
 simp only [Q0,Blk.cells.injEq] at hk'
 obtain ⟨rfl,rfl,_⟩:=hk'
 simp only [Q2,decide_eq_true_eq] at hc
 obtain ⟨⟨⟨hcok,hlen⟩,hle⟩,hflat⟩:=hc
 have hI:=hP.tab _ _ hi
 have hcells:=a6Z (β:=β) hρ v hcok
 have hone:∀ u∈SV.dens ρ β (cellsOf v),u.oneCell'=true:=by
  intro u hu
  rw [SV.dens_map] at hu
  obtain ⟨s,hs,rfl⟩:=Q9.1 hu
  have:=Qu.1 hflat s hs
  cases s<;>simp [SV.flat] at this
  case va n=>exact a5n (hρ.fine n)
  all_goals rfl
 have hst:=run_storeCells_at P (β k') off' T (SV.dens ρ β (cellsOf v)) 0 (SV.dens ρ β cs).toArray w hw (by simp only [Qg,a0R]; omega) hone
 simp only [Nat.add_zero,a0R] at hst
 simp only [execOp,a0T hp ha,a0T hv ha,SV.den,Instr.storeAt,Instr.sureAddr,Sem.run_bind,Sem.run_pure,Result.andThen_ok,storeVar,hcells,run_sizeOf hI,Qg,a0R,hlen,ne_eq,not_true_eq_false,if_false,hst]
 rw [b2Y,hlen]
theorem c0d (hP:ProgOk P c) {sl:List SV} {o:Oper} {t:Nat} {x:Operand} (ho:o.op=.load t x) {i:TI} (hi:c.tab t=some i) {xs:SV} (hx:ev sl x=some xs)
  {a:Act} (ha:a.tmps=(SV.dens ρ β sl).toArray) {w:World} {vals:List Value} (hr:∃ b o,a1D (xs.den ρ β)=some ⟨b,o,none⟩/\∀ j u,vals[j]?=some u->w.cell? ⟨b,o+j,none⟩=some u) (hlen:vals.length=i.size)
  (hxp:∃ ad,xs.den ρ β=.pointer (some ad)) :
  (execOp a.eval o).run P w=.ok (.value (if i.isAgg then .agg vals.toArray else vals.headD undef)) w:=by
 obtain ⟨dst,op,type,pos,after,guard⟩:=o
 simp only at ho; subst ho
 obtain ⟨b,off,hab,hcells⟩:=hr
 obtain ⟨ad,had⟩:=hxp
 rw [had] at hab
 simp only [a1D,Q0] at hab
 subst hab
 have hI:=hP.tab _ _ hi
 simp only [execOp,a0T hx ha,had,Instr.loadAt,Instr.sureAddr,Sem.run_bind,Sem.run_pure,Result.andThen_ok,loadVar,b3N hI]
 have hc:∀ j u,vals[j]?=some u->w.cell? ((⟨b,off,none⟩:Addr).add j)=some u:=by
  intro j u hj
  have:(⟨b,off,none⟩:Addr).add j=⟨b,off+j,none⟩:=by unfold Addr.add; split<;>simp_all
  rw [this]; exact hcells j u hj
 cases hagg:i.isAgg with
 | true =>
  have:=run_loadCells_list (P:=P) w ⟨b,off,none⟩ vals hc
  rw [hlen] at this
  simp [run_sizeOf hI,this]
 | false =>
  have h1:=hI.one hagg
  rw [h1] at hlen
  match vals,hlen with
  | [u],_ =>
   have h0:=hc 0 u (by simp)
   simp only [Addr.add,if_true] at h0
   simp [h0]
end
end Go.Sx
