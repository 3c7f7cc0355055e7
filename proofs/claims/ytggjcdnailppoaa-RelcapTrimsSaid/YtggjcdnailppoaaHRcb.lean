/- slices.Delete and slices.Clone at offers: the library's text, walked. -/
import Derived.Test.YtggjcdnailppoaaHTab
import Derived.Test.YtggjcdnailppoaaHTy
import Derived.Shelf.RegionOpenPlain
import Derived.WalkKit
import Derived.Deep.LoopGhost
import Derived.Deep.RegionLaw
import Derived.Lib.Walk
import Derived.Sort.WalkB12
import Derived.Lib.SliceRun
import Derived.Test.YtggjcdnailppoaaHRca
set_option linter.unusedSimpArgs false
set_option linter.unusedVariables false
open Go.Sx.BE renaming safe → Z2, pe → Z3, all → Zz
open Go.Sx.IE renaming pe → Z4
open Go.Sx renaming PEnv.at → Z5
open Go.Sx.PEnv renaming push → Zt
open List renaming getD_cons_zero → Z6, getD_cons_succ → Z7, getElem?_cons_zero → Z8, getElem?_cons_succ → Z9, drop_zero → Zf, length_cons → Zg, length_nil → Zh, take_succ_cons → Zm, take_zero → Zn, cons_append → Zu, nil_append → Zv, append_nil → Zw, map_cons → ZD, map_nil → ZE
open Go.Sx renaming a0i → Za, a0k → Zb, a0b → Zc, a0j → Zd, a0c → Zo, a0a → Zp, a0d → Zq, a0z → ZF, a0B → ZG, a0r → ZH, a0q → ZI, a0x → ZJ, a0w → ZK, a0o → ZL, a0A → ZM, a0p → ZN, a0u → ZO, a0m → ZP, a0v → ZQ, a0y → ZR, a0g → ZS, a0s → ZT, a0l → ZU, a0f → ZV, a0e → ZW, a0h → ZX, a0t → ZY
open Nat renaming add_zero → Ze, le_refl → Zi
open Bool renaming false_eq_true → Zl, and_self → ZA, not_true → ZB, not_false → ZC
open Option renaming map_some → Zr, bind_some → Zs
open Go.Sx.SV renaming pvs → Zx, pv → Zy
open Option renaming bind_some → Q0, map_some → Q2
open List renaming length_map → Q1, getElem?_cons_zero → Q3, all_eq_true → Q4, length_nil → Q5, length_take → Q6, length_drop → Q8, map_append → Q9, length_eq_zero_iff → Qa, map_map → Qd, append_nil → Qe, nil_append → Qf, take_append_drop → Qh, findIdx?_eq_some_iff_getElem → Qm, cons_append → Qp
open Nat renaming le_refl → Q7, zero_add → Qb, min_eq_left → Qj, not_lt_zero → Qn
open List.Sublist renaming refl → Qg
open Option.some renaming injEq → Qk
namespace Go.Proofs.Ytggjcdnailppoaa
open Go.Shelf Go.RowKit Go.Lib Go.Sort Go.Sx Go.Proofs
theorem b9b:(Try.prog.info? 33).map (fun i=>(i.zero,i.size,i.bytes))=some (some (.agg (O8.enc O8.zero).toArray),8,64):=by kernel_rfl
theorem c0h (w:World):(zeroValue 33).run Try.prog w=.ok (.agg (O8.enc O8.zero).toArray) w:=Try.zeroValue33 w
theorem c0b:(Builtin.zeroCells (Value.agg (O8.enc O8.zero).toArray).cells 1).toList=O8.enc O8.zero:=by kernel_rfl
theorem b9a:(Value.agg (O8.enc O8.zero).toArray).cells=(O8.enc O8.zero).toArray:=by kernel_rfl
theorem b6b {w:World} {b T:Nat} {cur:Array Value} (hb:w.heap[b]?=some (.cells cur T (0,0))) {j:Nat} {u:Value} (h:cur[j]?=some u):w.cell? ⟨b,j,none⟩=some u:=by simp [World.cell?,hb,h]
theorem b3l {w:World} {b T:Nat} {cur:Array Value} (hb:w.heap[b]?=some (.cells cur T (0,0))) {j:Nat} (h:j < cur.size):(w.cell? ⟨b,j,none⟩).isSome=true/\w.frozen? ⟨b,j,none⟩=false:=by
 rw [b6b hb (Array.getElem?_eq_getElem h)]
 exact ⟨rfl,by simp [World.frozen?,hb]⟩
set_option maxHeartbeats 4000000 in
set_option maxRecDepth 1000000 in
theorem b4C:b1N Try.prog 39:=by
 intro w b T cap cur l i hb hcur hsz hi hlc hcm hl6
 have hm:cap<=9223372036854775807:=hcm
 obtain ⟨news,hnews⟩:∃ news,news=((l.drop (i+1)).map O8.enc).flatten:=⟨_,rfl⟩
 have hlen:news.length=(l.length-(i+1))*8:=by rw [hnews,a1I,Q8]
 have hb1:w.drew.heap[b]?=some (.cells cur T (0,0)):=hb
 have hget:∀ t u,news[t]?=some u->w.drew.cell? ⟨b,(i+1)*8+t,none⟩=some u:=by
  intro t u hu
  refine b6b hb1 (hcur _ u ?_)
  have e:(l.map O8.enc).flatten=((l.take (i+1)).map O8.enc).flatten++news:=by rw [hnews,<- List.flatten_append,<- Q9,Qh]
  rw [e,List.getElem?_append_right (by rw [a1I,Q6,Qj (by omega)]; omega),a1I,Q6,Qj (by omega),Nat.add_sub_cancel_left]
  exact hu
 obtain ⟨A,hA,hsrc⟩:∃ A:Addr,(if cap=i+1 then some (⟨b,0,none⟩:Addr) else some ⟨b,(i+1)*8,none⟩)=some A/\Hid (∀ t u,news[t]?=some u->w.drew.cell? (A.add t)=some u):=by
  by_cases h:cap=i+1
  ·refine ⟨⟨b,0,none⟩,by simp [h],fun t u hu=>?_⟩
   have h0:news.length=0:=by rw [hlen]; omega
   rw [Qa.1 h0] at hu
   simp at hu
  ·refine ⟨⟨b,(i+1)*8,none⟩,by simp [h],fun t u hu=>?_⟩
   rw [Addr.add_lit]
   exact hget t u hu
 obtain ⟨i0,hi0,hz0,hz1,hz2⟩:=info_parts b9b
 have s1:Hid (news.length=(l.length-(i+1))*8):=hlen
 have s2:Hid (∀ u∈news,u.oneCell'=true):=by
  intro u hu
  rw [hnews] at hu
  obtain ⟨x,hx,hu⟩:=List.mem_flatten.1 hu
  obtain ⟨y,_,rfl⟩:=List.mem_map.1 hx
  exact b3h y u hu
 have s3:Hid (∀ t,t < news.length->(w.drew.cell? ⟨b,0+i*8+t,none⟩).isSome=true/\w.drew.frozen? ⟨b,0+i*8+t,none⟩=false):=by
  intro t ht
  rw [hlen] at ht
  exact b3l hb1 (by rw [hsz]; omega)
 obtain ⟨W1,hW1⟩:∃ W1,W1=w.drew.setCells b (0+i*8) news:=⟨_,rfl⟩
 have hH1:W1.heap[b]?=some (.cells (a6N cur (i*8) news) T (0,0)):=by rw [hW1,Qb]; exact a5E b news _ _ _ _ _ hb1
 have hz:(O8.enc O8.zero).toArray=(O8.enc O8.zero).toArray:=rfl
 have hW:Hid (W1=w.drew.setCells b (0+i*8) news):=hW1
 have mixed:Try.prog.follows Departure.mixedOrders=true:=by kernel_rfl
 have hic:i<=cap:=by omega
 have hjc:i+1<=cap:=by omega
 have hj0:(0:Int)<=(i:Int)+1:=by omega
 have hj1:(i:Int)+1<=(l.length:Int):=by omega
 have hnn:i+(l.length-(i+1))=l.length-1:=by omega
 have hk0:¬ cap=l.length-1:=by omega
 have hk1:l.length-1<=l.length:=by omega
 have hk2:l.length-(l.length-1)=1:=by omega
 have hcl:∀ ty c,(Builtin.clear_ #[25] ty #[.slice (some ⟨b,(l.length-1)*8,none⟩) 1 c]).run Try.prog W1=.ok (.tuple #[]) (W1.setCells b ((l.length-1)*8) (O8.enc O8.zero)):=by
  intro ty c
  rw [b5z W1 25 33 ty _ (O8.enc O8.zero) Try.underlying25 c0h b9a (b3h _) b ((l.length-1)*8) 1 c (by omega) (fun j hj=>(b3l hH1 (by rw [a5b,hsz]; simp only [a8l] at hj; omega)).1) (fun j hj=>(b3l hH1 (by rw [a5b,hsz]; simp only [a8l] at hj; omega)).2),c0b]
 clear hW1 hget hlen hcur
 go_enter Try.func39,Try.ntmps39
 go_wp2_with fail
 go_region_law_o (refine step_append_room rfl (.tmp 22) (.tmp 25) 25 rfl 33 i0 8 Try.underlying25 hi0 hz1 b 0 i cap (by simp [Act.eval,Act.put]) A (l.length-(i+1)) (cap-(i+1)) news (by simp [Act.eval,Act.put]) s1.out hsrc.out s2.out (by omega) s3.out ?_; rw [<- hW.out])
 go_wp2
 go_ret
 have hW1:=hW.out
 obtain ⟨a1,a2,a3⟩:=a6f b (O8.enc O8.zero) ((l.length-1)*8) W1
 obtain ⟨c1,c2,c3⟩:=a6f b news (0+i*8) w.drew
 rw [<- hW1] at c1 c2 c3
 refine ⟨rfl,a1.trans c1,a2.trans c2,a3.trans c3,?_,?_,fun k hk hne=>?_⟩
 ·rw [a6e,hW1,a6e]; exact Q7 _
 ·rw [a5E b _ _ _ _ _ _ hH1,b3d,hnews]
 ·rw [a5F b _ _ _ _ hne,hW1,a5F b _ _ _ _ hne]; rfl
set_option maxHeartbeats 4000000 in
set_option maxRecDepth 1000000 in
theorem b5t:b2f Try.prog 38 33:=by
 intro w b off n c news hpos hn6 hl hc h1
 obtain ⟨i0,hi0,hz0,hz1,hz2⟩:=info_parts b9b
 have mixed:Try.prog.follows Departure.mixedOrders=true:=by kernel_rfl
 have hzs:(Value.agg (O8.enc O8.zero).toArray).cells.size=8:=by rw [b9a]; rfl
 have q22:∀ (w:World) (a:Option Addr) (n c n' c':Nat),(binOp .eql 25 (.slice a n c) (.slice none n' c')).run Try.prog w=.ok (.bool a.isNone) w:=fun w a n c n' c'=>Lib.run_eql_slice_nil w _ _ a n c n' c' Try.underlying25
 have u22:∀ w,Sem.run Try.prog (underlying 25) w=.ok (TypeDesc.slice 33) w:=run_underlying Try.underlying25
 have A:Aside (∀ j u,news[j]?=some u->w.cell? ⟨b,off+j,none⟩=some u):=hc
 clear hc
 go_enter Try.func38,Try.ntmps38
 go_wp2_with (at_builtin; refine wpList_append_own _ rfl _ _ 25 rfl w.heap.size 33 i0 (Value.agg (O8.enc O8.zero).toArray) 8 64 Try.underlying25 hi0 hz0 hz1 hz2 hzs (by omega) _ _ _ rfl (World.ownsRow_made w #[] 0 (Q7 _) (Nat.zero_le _) (by simp)) ⟨b,off,none⟩ n c news rfl ?qc1 ?qc2 ?qc3 ?qc4 ?qc5 ?qc6 ?_)
 case qc1=>exact hl
 case qc2 =>
  intro j u hj
  rw [Addr.add_lit]
  exact Lib.cell?_alloc_some _ (A.out j u hj)
 case qc3=>exact h1
 case qc4=>rw [Qb]; show n<=9223372036854775807; omega
 case qc5=>rw [Qb]; omega
 case qc6=>simp
 intro v' w1 hown hgrow hnil
 go_wp2
 go_ret
 refine ⟨v',rfl,by simpa using hown,?_⟩
 exact ((Below.refl _ w).alloc (Q7 _) _).grown hgrow (by simp) (by intro k hk; simp [Value.ownBlock] at hk; omega)
end Go.Proofs.Ytggjcdnailppoaa
set_option maxRecDepth 100000
namespace Go.Proofs.Ytggjcdnailppoaa
open Go.Sx
def prim (F:List PV->List MO->Option (PV × List MO)):Sx.Sys:=⟨[],.stuck,[],some F,none⟩
theorem b9O {s:Hp} {B:Inf} {n:Nat} {v:Value} (h:Rep s B .nilS v):Rep s B (.sl n []) v:=by
 simp only [Rep] at h ⊢
 subst h
 exact ⟨[],⟨by simp,none,0,rfl,Q7 _,by simp⟩,rfl,by simp⟩
theorem b9l {P:Program} {f:Nat} {aa:List PV} {σ:List MO} {n:Nat} (h:CtD P f aa σ (fun r σ'=>(r=.nilS\/r=.sl n [])/\σ'=σ)):CtD P f aa σ (fun r σ'=>r=.sl n []/\σ'=σ):=by
 refine ⟨h.1,fun s m vs a b c w hs hm=>(h.2 s m vs a b c w hs hm).mono ?_⟩
 rintro e w' ⟨v,s',m',e1,e2,e3,e4,e5,e6,e7,r',σ'',⟨hr,rfl⟩,hq⟩
 refine ⟨v,s',m',e1,e2,e3,e4,e5,e6,e7,.sl n [],_,⟨rfl,rfl⟩,hq.1,?_,hq.2.2⟩
 rcases hr with rfl | rfl
 ·exact b9O hq.2.1
 ·exact hq.2.1
theorem a4u:SysIs Try.prog a0K slices_Clone_api_Offer_api_Offer_S:=b7e (c:=(cg [] [] [] false false false true)) (a0L _ _ _ _ _ _ _ _ _) Try.func38 Try.call38 (by kernel_rfl) a2f slices_Clone_api_Offer_api_Offer_S 5000 rfl (by kernel_rfl) (by kernel_rfl)
def clnF (aa:List PV) (σ:List MO):Option (PV × List MO):=match b2z 33 aa σ with
 | some r=>some r
 | none=>match aa with
  | [.sl n []]=>if n=8 then some (.sl 8 [],σ) else none
  | _=>none
theorem b9s:CtP Try.prog a0K clnF:=by
 intro aa σ r σ' h
 unfold clnF at h
 split at h
 ·rename_i q hq
  simp only [Qk] at h; subst h
  exact b7J b5t (enters_of Try.func38 (by kernel_rfl) rfl) aa σ r σ' hq
 ·split at h
  case h_2=>cases h
  split at h
  case isFalse=>cases h
  rename_i hn; subst hn
  simp only [Qk,Prod.mk.injEq] at h
  obtain ⟨rfl,rfl⟩:=h
  refine CtD.one (b9l (a4u.dm (a0n Tab 1) (evalF_good b2h 1) 1 _ _ _ ⟨([],[],[.sl 8 []]),rfl,?_⟩))
  show PT.wp _ a1F _ _
  unfold a1F
  refine b9z rfl rfl ?_
  simp only [PT.wp]
  rw [if_neg (by simp [BE.safe,PEnv.at,PV.nilOk])]
  refine ⟨⟨.nilS,rfl,(.nilS,_),by simp [a0P],.inl rfl,rfl⟩,[],rfl,[],rfl,?_⟩
  rw [if_pos (by simp)]
  refine ⟨[],by simp [b8v,PV.rowsOf],[],by simp [a1s,PV.rowsOf],?_⟩
  rw [if_pos (by simp)]
  exact ⟨.sl 8 [],rfl,(.sl 8 [],_),by simp [a0P],.inr rfl,rfl⟩
def c0B:List PV->List MO->Option (PV × List MO):=a0n Tab 5000 a2d
def b8D:List PV->List MO->Option (PV × List MO):=b4i (a0n Tab 6000 a1c)
def a4d (f:Nat):Option Sx.Sys :=
 if f=a1N then some relcap_Trim_S else if f=a2d then some (prim c0B) else if f=a1c then some (prim b8D)
 else if f=a0K then some (prim clnF) else if f=39 then some (prim delF) else none
theorem b9x:∀ f S,a4d f=some S->SysOk Try.prog f S:=by
 intro f S h
 unfold a4d at h
 split at h
 ·rename_i hf; subst hf; cases h; exact b3k
 split at h
 ·rename_i hf; subst hf; cases h; exact ⟨fun _ _ _=>evalF_good b2h 5000 a2d⟩
 split at h
 ·rename_i hf; subst hf; cases h; exact ⟨fun _ _ _=>b9A (evalF_good b2h 6000 a1c)⟩
 split at h
 ·rename_i hf; subst hf; cases h; exact ⟨fun _ _ _=>b9s⟩
 split at h
 ·rename_i hf; subst hf; cases h; exact ⟨fun _ _ _=>b9U b4C (enters_of Try.func39 (by kernel_rfl) rfl)⟩
 ·cases h
theorem b9G (F:List PV->List MO->Option (PV × List MO)) (Φ:Fns) (n:Nat) (a:List PV) (σ:List MO):Sys.run Φ (prim F) n a σ=F a σ:=rfl
theorem b9J (n:Nat) (a:List PV) (σ:List MO):a0n a4d (n+1) a0K a σ=clnF a σ:=by
 rw [a0n,show a4d a0K=some (prim clnF) from rfl,Q0,b9G]
def Of.o8 (o:Of):O8:=⟨o.n,o.w.a,o.w.b,o.w.c,o.w.d,o.w.e,o.w.f,o.v⟩
theorem b2d (l:List Of):(l.map Of.o8).map O8.row=l.map Of.row:=by rw [Qd]; rfl
theorem b3n (l:List Of):a5g (l.map Of.row)=some (l.map Of.o8):=by rw [<- b2d]; exact b3P _
def a4S (c:List Of) (i:Nat):List Of:=c.take i++c.drop (i+1)
def a2z (l:List Ch):Nat->List Of->List Of
 | 0,c=>c
 | n+1,c=>if (a1Q l c).2=0 then c else a2z l n (a4S c (a1Q l c).1.toNat)
theorem b5I {l:List Ch} {c:List Of} (hok:∀ x∈l,x.ok) (h:¬ (a1Q l c).2=0):0<=(a1Q l c).1/\(a1Q l c).1 < (c.length:Int):=by
 have ha:(l.all fun x=>decide x.ok)=true:=Q4.2 fun x hx=>decide_eq_true (hok x hx)
 unfold a1Q at h ⊢
 rw [if_pos ha] at h ⊢
 split at h
 ·rename_i i hi
  have:=(Qm.1 hi).1
  simp only; omega
 ·split at h
  ·rename_i i hi
   have:=(Qm.1 hi).1
   simp only; omega
  ·exact absurd rfl h
theorem a5L {c:List Of} {i:Nat} (h:i < c.length):(a4S c i).length=c.length-1:=by simp [a4S]; omega
section
variable (l:List Ch) (P:PV) (hP:P.rowsOf 12=some (l.map Ch.row)) (hPl:P.low 0=true) (hl:l.length<=1000) (n:Nat)
include hP hPl hl in
theorem b0M {σ:List MO} {V:PV} {c:List Of} (hV:a4w σ V=some (.sl 8 (c.map Of.row))) (hc:c.length<=1000):b8D [P,V] σ=some (erT (a1Q l c),σ):=by
 have k:=b1e [] l P hP c (.sl 8 (c.map Of.row)) (a2I _ _) hl hc rfl hPl (b2j 0 c) 6000 (by omega)
 have hp:a4w σ P=some P:=by
  unfold PV.rowsOf at hP
  split at hP
  ·rfl
  ·simp only [a4w,hPl,if_true]
  ·cases hP
 unfold b8D b4i
 simp only [a8v,hp,hV,Q0,Q2,k]
 rfl
def b1A (P V:PV) (m:List MO):PEnv:={ i:=[],b:=[],v:=[P,V],m:=m,k:=0 }
theorem b3f {P V:PV} {rows:List (List PV)} {c:List Of} {is:List Int} {bs:List Bool} (hr:∃ ro:List O8,rows=ro.map O8.row) (h:(∃ len,V=.rsl 0 len 8/\rows.length=len/\rows=c.map Of.row)\/(∃ len r,V=.rpl 0 len r 8/\rows.length=r/\rows.take len=c.map Of.row)) :
  a0P { i:=is,b:=bs,v:=[P,V],m:=[.row rows 8 33],k:=0 } false V=some (.sl 8 (c.map Of.row),[]):=by
 obtain ⟨ro,rfl⟩:=hr
 have hlow:∀ (lk:Nat->Option MO) (l:List O8),PV.frzss 0 lk (l.map O8.row)=some (l.map O8.row):=by
  intro lk l
  induction l with
  | nil=>rfl
  | cons x l ih=>simp only [List.map_cons,PV.frzss,O8.row,PV.frzs,PV.frz,Q0,Q2,ih]; rfl
 unfold a0P
 rw [if_neg (by simp)]
 simp only [List.take_zero,List.all_nil,if_true]
 have hk:a4N { i:=is,b:=bs,v:=[P,V],m:=[.row (ro.map O8.row) 8 33],k:=0 } 3 0=some (.row (ro.map O8.row) 8 33):=by
  simp only [a4N,Q3,Q0,hlow,Q2]
 rcases h with ⟨len,rfl,h1,h2⟩ | ⟨len,r,rfl,h1,h2⟩
 ·simp only [PV.frz,Qn,if_false,hk,Q0,MO.elts,h1,and_self,if_true,Q2]
  rw [h2]
 ·simp only [PV.frz,Qn,if_false,hk,Q0,MO.elts,h1,and_self,if_true,Q2,h2]
include hP hPl hl in
theorem b7s (hok:∀ x∈l,x.ok):∀ d (c:List Of),c.length=d->c.length<=1000->∀ (rows:List (List PV)) (V:PV),(∃ ro:List O8,rows=ro.map O8.row) ->
  ((∃ len,V=.rsl 0 len 8/\rows.length=len/\rows=c.map Of.row)\/(∃ len r,V=.rpl 0 len r 8/\len=c.length/\rows.length=r/\rows.take len=c.map Of.row))->∀ fuel,
  relcap_Trim_S.loop (a0n a4d (n+1)) (fuel+d+1) 0 (b1A P V [.row rows 8 33])=some (.sl 8 ((a2z l d c).map Of.row),[]):=by
 intro d
 induction d with
 | zero =>
  intro c hc hc1 rows V hr h fuel
  have hc0:c=[]:=Qa.1 hc
  subst hc0
  obtain ⟨ro,rfl⟩:=hr
  rcases h with ⟨len,rfl,h1,h2⟩ | ⟨len,r,rfl,h0,h1,h2⟩
  ·have hV:a4w [.row (ro.map O8.row) 8 33] (.rsl 0 len 8)=some (.sl 8 (([]:List Of).map Of.row)):=by
    simp only [a4w,Q3,Q0,MO.elts,h1,and_self,if_true]
    rw [h2]; rfl
   have k:=b0M l P hP hPl hl hV (by simp)
   have e0:a1Q l []=(0,0):=by
    unfold a1Q
    rw [if_pos (Q4.2 fun x hx=>decide_eq_true (hok x hx))]; rfl
   rw [e0] at k
   have k1:a0n a4d (n+1) a1c [P,.rsl 0 len 8] [.row (ro.map O8.row) 8 33]=some (.tup [.int .i64 0,.int .i64 0],[.row (ro.map O8.row) 8 33]):=k
   simp only [a1c] at k1
   have hret:=fun is bs=>b3f (P:=P) (is:=is) (bs:=bs) ⟨ro,rfl⟩ (.inl ⟨len,rfl,h1,h2⟩)
   rw [Sys.loop,show relcap_Trim_S.loops[0]?=some a1r from rfl]
   simp -implicitDefEqProofs only [Q0,b1A,a1r,↓reduceIte,eq_self,ZF,ZG,ZH,ZI,ZJ,ZK,ZL,ZM,ZN,ZO,ZP,ZQ,ZR,ZS,ZT,ZU,ZV,ZW,ZX,ZY,Z2,Z3,Z4,Z5,Z6,Z7,Z8,Z9,Za,Zb,Zc,Zd,Ze,Zf,Zg,Zh,Nat.reduceAdd,Zi,if_true,if_false,Zl,Zm,Zn,Zo,Zp,Zq,Zr,Zs,Zt,Zu,Zv,Zw,Zx,Zy,Zz,ZA,ZB,ZC,ZD,ZE,k1,a1x,a4c,hret,a2z]
  ·have hV:a4w [.row (ro.map O8.row) 8 33] (.rpl 0 len r 8)=some (.sl 8 (([]:List Of).map Of.row)):=by
    have hlw:PV.lowss 0 (ro.map O8.row)=true:=by rw [show ro.map O8.row=(ro.map fun x:O8=>(⟨x.b,⟨x.w0,x.w1,x.w2,x.w3,x.w4,x.w5⟩,x.v⟩:Of)).map Of.row by rw [Qd]; rfl]; exact b2j 0 _
    simp only [a4w,Q3,Q0,MO.elts,h1,and_self,if_true,hlw,h2]
   have k:=b0M l P hP hPl hl hV (by simp)
   have e0:a1Q l []=(0,0):=by
    unfold a1Q
    rw [if_pos (Q4.2 fun x hx=>decide_eq_true (hok x hx))]; rfl
   rw [e0] at k
   have k1:a0n a4d (n+1) a1c [P,.rpl 0 len r 8] [.row (ro.map O8.row) 8 33]=some (.tup [.int .i64 0,.int .i64 0],[.row (ro.map O8.row) 8 33]):=k
   simp only [a1c] at k1
   have hret:=fun is bs=>b3f (P:=P) (is:=is) (bs:=bs) ⟨ro,rfl⟩ (.inr ⟨len,r,rfl,h1,h2⟩)
   rw [Sys.loop,show relcap_Trim_S.loops[0]?=some a1r from rfl]
   simp -implicitDefEqProofs only [Q0,b1A,a1r,↓reduceIte,eq_self,ZF,ZG,ZH,ZI,ZJ,ZK,ZL,ZM,ZN,ZO,ZP,ZQ,ZR,ZS,ZT,ZU,ZV,ZW,ZX,ZY,Z2,Z3,Z4,Z5,Z6,Z7,Z8,Z9,Za,Zb,Zc,Zd,Ze,Zf,Zg,Zh,Nat.reduceAdd,Zi,if_true,if_false,Zl,Zm,Zn,Zo,Zp,Zq,Zr,Zs,Zt,Zu,Zv,Zw,Zx,Zy,Zz,ZA,ZB,ZC,ZD,ZE,k1,a1x,a4c,hret,a2z]
 | succ d ih =>
  intro c hc hc1 rows V hr h fuel
  obtain ⟨ro,rfl⟩:=hr
  have hlw:∀ ro:List O8,PV.lowss 0 (ro.map O8.row)=true:=fun ro=>by rw [show ro.map O8.row=(ro.map fun x:O8=>(⟨x.b,⟨x.w0,x.w1,x.w2,x.w3,x.w4,x.w5⟩,x.v⟩:Of)).map Of.row by rw [Qd]; rfl]; exact b2j 0 _
  have hV:a4w [.row (ro.map O8.row) 8 33] V=some (.sl 8 (c.map Of.row)):=by
   rcases h with ⟨len,rfl,h1,h2⟩ | ⟨len,r,rfl,h0,h1,h2⟩
   ·simp only [a4w,Q3,Q0,MO.elts,h1,and_self,if_true,hlw]
    rw [h2]
   ·simp only [a4w,Q3,Q0,MO.elts,h1,and_self,if_true,hlw,h2]
  have hone:V.one=true:=by rcases h with ⟨len,rfl,_⟩ | ⟨len,r,rfl,_⟩<;>rfl
  have k:=b0M l P hP hPl hl hV hc1
  have hret:∀ is bs,a0P { i:=is,b:=bs,v:=[P,V],m:=[.row (ro.map O8.row) 8 33],k:=0 } false V=some (.sl 8 (c.map Of.row),[]):=fun is bs=>b3f ⟨ro,rfl⟩ (by
   rcases h with ⟨len,rfl,h1,h2⟩ | ⟨len,r,rfl,h0,h1,h2⟩
   ·exact .inl ⟨len,rfl,h1,h2⟩
   ·exact .inr ⟨len,r,rfl,h1,h2⟩)
  have k1:a0n a4d (n+1) a1c [P,V] [.row (ro.map O8.row) 8 33]=some (.tup [.int .i64 (a1Q l c).1,.int .i64 (a1Q l c).2],[.row (ro.map O8.row) 8 33]):=k
  simp only [a1c] at k1
  rw [show fuel+(d+1)+1=(fuel+d+1)+1 from rfl,Sys.loop,show relcap_Trim_S.loops[0]?=some a1r from rfl]
  by_cases he:(a1Q l c).2=0
  ·have e1:eqB (a1Q l c).2 0=true:=decide_eq_true he
   simp -implicitDefEqProofs only [Q0,b1A,a1r,↓reduceIte,eq_self,ZF,ZG,ZH,ZI,ZJ,ZK,ZL,ZM,ZN,ZO,ZP,ZQ,ZR,ZS,ZT,ZU,ZV,ZW,ZX,ZY,Z2,Z3,Z4,Z5,Z6,Z7,Z8,Z9,Za,Zb,Zc,Zd,Ze,Zf,Zg,Zh,Nat.reduceAdd,Zi,if_true,if_false,Zl,Zm,Zn,Zo,Zp,Zq,Zr,Zs,Zt,Zu,Zv,Zw,Zx,Zy,Zz,ZA,ZB,ZC,ZD,ZE,k1,a1x,e1,hret,a2z,if_pos he]
  have e1:eqB (a1Q l c).2 0=false:=decide_eq_false he
  obtain ⟨g1,g2⟩:=b5I hok he
  obtain ⟨i,hi⟩:∃ i:Nat,(a1Q l c).1=(i:Int):=⟨(a1Q l c).1.toNat,by omega⟩
  have hic:i < c.length:=by omega
  have hup:=a2r (show i<=1000000000 by omega)
  have hdel:∃ (V':PV) (rows':List (List PV)),delF [V,.int .i64 (i:Int),.int .i64 ((i:Int)+1)] [.row (ro.map O8.row) 8 33]=some (V',[.row rows' 8 33])/\(∃ ro:List O8,rows'=ro.map O8.row)/\V'.one=true/\∃ len r,V'=.rpl 0 len r 8/\len=(a4S c i).length/\rows'.length=r/\rows'.take len=(a4S c i).map Of.row:=by
   have hdo:∀ X:List (List PV),((a4C (c.map Of.o8) i).map O8.row++X).take (a4S c i).length=(a4S c i).map Of.row:=by
    intro X
    have e:(a4C (c.map Of.o8) i).map O8.row=(a4S c i).map Of.row++[O8.zero.row]:=by
     rw [<- b2d,a4C,a4S]
     simp only [Q9,List.map_take,List.map_drop,List.map_cons,List.map_nil]
    rw [e,List.append_assoc,List.take_append_of_le_length (by simp),List.take_of_length_le (by simp)]
   have hdl:(a4C (c.map Of.o8) i).length=c.length:=by rw [b4v (by simpa using hic),Q1]
   rcases h with ⟨len,rfl,h1,h2⟩ | ⟨len,r,rfl,h0,h1,h2⟩
   ·have hlc:len=c.length:=by rw [<- h1,h2,Q1]
    refine ⟨.rpl 0 (len-1) len 8,(a4C (c.map Of.o8) i).map O8.row,?_,⟨_,rfl⟩,rfl,len-1,len,rfl,by rw [a5L hic]; omega,by rw [Q1]; omega,?_⟩
    ·simp only [delF,Q3]
     rw [h2,b3n,Q0,if_pos ⟨by rw [Q1]; omega,trivial,trivial,by omega,by omega,trivial,by omega⟩]
     rfl
    ·have:=hdo []
     rw [Qe,a5L hic] at this
     rw [hlc]; exact this
   ·refine ⟨.rpl 0 (len-1) r 8,(a4C (c.map Of.o8) i).map O8.row++(ro.map O8.row).drop len,?_,⟨a4C (c.map Of.o8) i++ro.drop len,by rw [Q9,List.map_drop]⟩,rfl,len-1,r,rfl,by rw [a5L hic]; omega,?_,?_⟩
    ·have hlr:len<=r:=by
      have:=congrArg List.length h2
      rw [Q6,Q1,Q1] at this
      rw [Q1] at h1
      omega
     simp only [delF,Q3]
     rw [h2,b3n,Q0,if_pos ⟨h1,hlr,trivial,trivial,by omega,by omega,trivial,by omega⟩]
     rfl
    ·have hlr:len<=r:=by
      have:=congrArg List.length h2
      rw [Q6,Q1,Q1] at this
      rw [Q1] at h1
      omega
     rw [List.length_append,Q1,hdl,Q8,h1]; omega
    ·have:=hdo ((ro.map O8.row).drop len)
     rw [a5L hic] at this
     rw [h0]; rw [h0] at this; exact this
  obtain ⟨V',rows',k2,hr',ho',len',r',hV',hlen',hr1,hr2⟩:=hdel
  have k3:a0n a4d (n+1) 39 [V,.int .i64 (i:Int),.int .i64 ((i:Int)+1)] [.row (ro.map O8.row) 8 33]=some (V',[.row rows' 8 33]):=k2
  have hrl:=a5L hic
  have ih:=ih (a4S c i) (by omega) (by omega) rows' V' hr' (.inr ⟨len',r',hV',hlen',hr1,hr2⟩) fuel
  rw [a2z,if_neg he,hi,Int.toNat_natCast,<- ih]
  rw [hi] at k1
  simp -implicitDefEqProofs only [Q0,b1A,a1r,↓reduceIte,eq_self,ZF,ZG,ZH,ZI,ZJ,ZK,ZL,ZM,ZN,ZO,ZP,ZQ,ZR,ZS,ZT,ZU,ZV,ZW,ZX,ZY,Z2,Z3,Z4,Z5,Z6,Z7,Z8,Z9,Za,Zb,Zc,Zd,Ze,Zf,Zg,Zh,Nat.reduceAdd,Zi,if_true,if_false,Zl,Zm,Zn,Zo,Zp,Zq,Zr,Zs,Zt,Zu,Zv,Zw,Zx,Zy,Zz,ZA,ZB,ZC,ZD,ZE,k1,a1x,e1,if_pos hup,k3,ho']
include hP hPl hl in
theorem b7W (bids:List Of) (hb:bids.length<=1000) (hn:2000<=n) :
  a0n a4d (n+2) a1N [P,.sl 8 (bids.map Of.row)] []=some (if (l.all fun x=>decide x.ok)=true then .sl 8 ((a2z l bids.length bids).map Of.row) else .nilS,[]):=by
 obtain ⟨p1,p2,p3⟩:=a0O hP
 obtain ⟨b1,b2,b3⟩:=a0O (a2I 8 (bids.map Of.row))
 have c1:a0n a4d (n+1) a2d [P] []=some (.bool (l.all fun x=>decide x.ok),[]):=b3S [] l P hP 5000 (by omega) (by omega)
 simp only [a2d] at c1
 have hr0:∀ is bs vs p,a0P { i:=is,b:=bs,v:=vs,m:=[],k:=0 } false p=some (p,[]):=fun _ _ _ _=>by simp [a0P]
 rw [show n+2=(n+1)+1 from rfl,a0n,show a4d a1N=some relcap_Trim_S from if_pos rfl]
 simp only [Q0,Sys.run]
 show ((a0D [.sh (.one _),.sh (.one _)] _).bind _)=_
 simp -implicitDefEqProofs only [a0D,a0d,a0c,Q2,Q0,Qe,Qf,Qp,if_true,p3,b3]
 show (PT.ev _ a3H _).bind _=_
 by_cases ha:(l.all fun x=>decide x.ok)=true
 case neg =>
  rw [if_neg ha]
  rw [Bool.not_eq_true] at ha
  simp -implicitDefEqProofs only [a3H,↓reduceIte,eq_self,ZF,ZG,ZH,ZI,ZJ,ZK,ZL,ZM,ZN,ZO,ZP,ZQ,ZR,ZS,ZT,ZU,ZV,ZW,ZX,ZY,Z2,Z3,Z4,Z5,Z6,Z7,Z8,Z9,Za,Zb,Zc,Zd,Ze,Zf,Zg,Zh,Nat.reduceAdd,Zi,if_true,if_false,Zl,Zm,Zn,Zo,Zp,Zq,Zr,Zs,Zt,Zu,Zv,Zw,Zx,Zy,Zz,ZA,ZB,ZC,ZD,ZE,c1,ha,hr0,Q5]
 rw [if_pos ha]
 have hok:∀ x∈l,x.ok:=fun x hx=>by simpa using (Q4.1 ha) x hx
 by_cases hbe:bids=[]
 ·subst hbe
  have k1:a0n a4d (n+1) a0K [.sl 8 []] []=some (.sl 8 [],[]):=by
   rw [b9J]
   kernel_rfl
  simp only [a0K] at k1
  have k2:=b0M l P hP hPl hl (σ:=[]) (V:=.sl 8 []) (c:=[]) rfl (by simp)
  have e0:a1Q l []=(0,0):=by unfold a1Q; rw [if_pos ha]; rfl
  rw [e0] at k2
  have k3:a0n a4d (n+1) a1c [P,.sl 8 []] []=some (.tup [.int .i64 0,.int .i64 0],[]):=k2
  simp only [a1c] at k3
  have os:PV.one (.sl 8 [])=true:=rfl
  have fin:relcap_Trim_S.loop (a0n a4d (n+1)) (n+1) 0 (b1A P (.sl 8 []) [])=some (.sl 8 ((a2z l ([]:List Of).length []).map Of.row),[]):=by
   rw [Sys.loop,show relcap_Trim_S.loops[0]?=some a1r from rfl]
   simp -implicitDefEqProofs only [Q0,b1A,a1r,↓reduceIte,eq_self,ZF,ZG,ZH,ZI,ZJ,ZK,ZL,ZM,ZN,ZO,ZP,ZQ,ZR,ZS,ZT,ZU,ZV,ZW,ZX,ZY,Z2,Z3,Z4,Z5,Z6,Z7,Z8,Z9,Za,Zb,Zc,Zd,Ze,Zf,Zg,Zh,Nat.reduceAdd,Zi,if_true,if_false,Zl,Zm,Zn,Zo,Zp,Zq,Zr,Zs,Zt,Zu,Zv,Zw,Zx,Zy,Zz,ZA,ZB,ZC,ZD,ZE,k3,a1x,a4c,hr0,a2z]
  simp -implicitDefEqProofs only [a3H,↓reduceIte,eq_self,ZF,ZG,ZH,ZI,ZJ,ZK,ZL,ZM,ZN,ZO,ZP,ZQ,ZR,ZS,ZT,ZU,ZV,ZW,ZX,ZY,Z2,Z3,Z4,Z5,Z6,Z7,Z8,Z9,Za,Zb,Zc,Zd,Ze,Zf,Zg,Zh,Nat.reduceAdd,Zi,if_true,if_false,Zl,Zm,Zn,Zo,Zp,Zq,Zr,Zs,Zt,Zu,Zv,Zw,Zx,Zy,Zz,ZA,ZB,ZC,ZD,ZE,c1,ha,k1,os,Q5,List.map_nil]
  exact fin
 have k1:a0n a4d (n+1) a0K [.sl 8 (bids.map Of.row)] []=some (.rsl 0 bids.length 8,[.row (bids.map Of.row) 8 33]):=by
  rw [b9J]
  unfold clnF b2z
  simp only [b3n,Q0]
  rw [if_pos ⟨trivial,by simpa using hbe,by simpa using (by omega:bids.length<=1000000)⟩]
  simp only [Q5,Q1,Qf,b2d]
 simp only [a0K] at k1
 obtain ⟨f,hf⟩:∃ f,n+1=f+bids.length+1:=⟨n-bids.length,by omega⟩
 have fin:=b7s l P hP hPl hl n hok bids.length bids rfl hb (bids.map Of.row) (.rsl 0 bids.length 8) ⟨_,(b2d bids).symm⟩ (.inl ⟨bids.length,rfl,by simp,rfl⟩) f
 rw [<- hf] at fin
 have os:PV.one (.rsl 0 bids.length 8)=true:=rfl
 simp -implicitDefEqProofs only [a3H,↓reduceIte,eq_self,ZF,ZG,ZH,ZI,ZJ,ZK,ZL,ZM,ZN,ZO,ZP,ZQ,ZR,ZS,ZT,ZU,ZV,ZW,ZX,ZY,Z2,Z3,Z4,Z5,Z6,Z7,Z8,Z9,Za,Zb,Zc,Zd,Ze,Zf,Zg,Zh,Nat.reduceAdd,Zi,if_true,if_false,Zl,Zm,Zn,Zo,Zp,Zq,Zr,Zs,Zt,Zu,Zv,Zw,Zx,Zy,Zz,ZA,ZB,ZC,ZD,ZE,c1,ha,k1,os,Q5]
 exact fin
end
def c0w:List PV->List MO->Option (PV × List MO):=a0n a4d 3000 a1N
def a8N (f:Nat):Option Sx.Sys:=if f=a1N then some (prim c0w) else Tab f
theorem b9w:∀ f S,a8N f=some S->SysOk Try.prog f S:=by
 intro f S h
 unfold a8N at h
 split at h
 ·rename_i hf; subst hf; cases h; exact ⟨fun _ _ _=>evalF_good b9x 3000 a1N⟩
 ·exact b2h f S h
theorem b5P:∀ f S,Tab f=some S->a8N f=some S:=by
 intro f S h
 unfold a8N
 rw [if_neg (by rintro rfl; exact absurd (h.symm.trans (show Tab a1N=none by kernel_rfl)) (by simp))]
 exact h
theorem evW {n:Nat} {f:Nat} {a:List PV} {m:List MO} {r:PV × List MO} (h:a0n Tab n f a m=some r):a0n a8N n f a m=some r:=b2x b5P n f a m r h
theorem c0d (l:List Ch) (P:PV) (hP:P.rowsOf 12=some (l.map Ch.row)) (hPl:P.low 0=true) (hl:l.length<=1000) (bids:List Of) (hb:bids.length<=1000) (n:Nat) :
  a0n a8N (n+1) a1N [P,.sl 8 (bids.map Of.row)] []=some (if (l.all fun x=>decide x.ok)=true then .sl 8 ((a2z l bids.length bids).map Of.row) else .nilS,[]):=b7W l P hP hPl hl 2998 bids hb (by omega)
end Go.Proofs.Ytggjcdnailppoaa
set_option maxRecDepth 100000
namespace Go.Proofs.Ytggjcdnailppoaa
open Go.Sx
section
variable (σ:List MO) (l:List Ch) (P:PV) (hP:P.rowsOf 12=some (l.map Ch.row)) (bids:List Of) (B:PV) (hB:B.rowsOf 8=some (bids.map Of.row)) (hl:l.length<=1000) (hb:bids.length<=1000)
end
section
variable (σ:List MO) (l:List Ch) (P:PV) (hP:P.rowsOf 12=some (l.map Ch.row)) (hl:l.length<=1000) (n:Nat) (hn:5000<=n)
end
section
variable (σ:List MO) (a b:List Of) (X Y:PV) (hX:X.rowsOf 8=some (a.map Of.row)) (hY:Y.rowsOf 8=some (b.map Of.row)) (n:Nat)
def ofB (x y:Of):Bool:=eqB x.n y.n&&(eqB x.w.a y.w.a&&(eqB x.w.b y.w.b&&(eqB x.w.c y.w.c&&(eqB x.w.d y.w.d&&(eqB x.w.e y.w.e&&(eqB x.w.f y.w.f&&eqB x.v y.v))))))
theorem c2l (x y:Of):ofB x y=true↔x=y:=by
 obtain ⟨n,⟨a,b,c,d,e,f⟩,v⟩:=x
 obtain ⟨n',⟨a',b',c',d',e',f'⟩,v'⟩:=y
 simp only [ofB,Bool.and_eq_true,b1K,Of.mk.injEq,W6.mk.injEq]
 constructor
 ·rintro ⟨h1,h2,h3,h4,h5,h6,h7,h8⟩; exact ⟨h1,⟨h2,h3,h4,h5,h6,h7⟩,h8⟩
 ·rintro ⟨h1,⟨h2,h3,h4,h5,h6,h7⟩,h8⟩; exact ⟨h1,h2,h3,h4,h5,h6,h7,h8⟩
def b8a (σ:List MO) (X Y:PV) (j:Int):PEnv:={ i:=[j],b:=[],v:=[X,Y],m:=σ,k:=σ.length }
include hX hY in
theorem b5l (hab:a=b) (hl:a.length<=1000):∀ d j,j+d=a.length->∀ fuel,saleroomlaw40_same_S.loop (a0n Tab n) (fuel+d+1) 0 (b8a σ X Y (j:Int))=some (.bool true,σ):=by
 subst hab
 obtain ⟨p1,p2,p3⟩:=a0O hX
 obtain ⟨r1,r2,r3⟩:=a0O hY
 rw [Q1] at p1 r1
 intro d
 induction d with
 | zero =>
  intro j hj fuel
  rw [Nat.add_zero] at hj; subst hj
  have hd:decide (a.length < a.length)=false:=by simp
  rw [Sys.loop,show saleroomlaw40_same_S.loops[0]?=some a1R from rfl]
  simp -implicitDefEqProofs only [Q0,b8a,a1R,↓reduceIte,eq_self,ZF,ZG,ZH,ZI,ZJ,ZK,ZL,ZM,ZN,ZO,ZP,ZQ,ZR,ZS,ZT,ZU,ZV,ZW,ZX,ZY,Z2,Z3,Z4,Z5,Z6,Z7,Z8,Z9,Za,Zb,Zc,Zd,Ze,Zf,Zg,Zh,Nat.reduceAdd,Zi,if_true,if_false,Zl,Zm,Zn,Zo,Zp,Zq,Zr,Zs,Zt,Zu,Zv,Zw,Zx,Zy,Zz,ZA,ZB,ZC,ZD,ZE,p1,p2,a0E,hd,a0P,or_true]
 | succ d ih =>
  intro j hj fuel
  obtain ⟨x,hx⟩:=a4g (show j < a.length by omega)
  have hd:decide (j < a.length)=true:=decide_eq_true (by omega)
  have hq:=a0U (off:=0) hX (a2E hx)
  have hr:=a0U (off:=0) hY (a2E hx)
  have hup:=a2r (show j<=1000000000 by omega)
  have ih:=ih (j+1) (by omega) fuel
  rw [a2C] at ih
  rw [<- ih,show fuel+(d+1)+1=(fuel+d+1)+1 from rfl,Sys.loop,show saleroomlaw40_same_S.loops[0]?=some a1R from rfl]
  simp -implicitDefEqProofs only [Q0,b8a,a1R,↓reduceIte,eq_self,ZF,ZG,ZH,ZI,ZJ,ZK,ZL,ZM,ZN,ZO,ZP,ZQ,ZR,ZS,ZT,ZU,ZV,ZW,ZX,ZY,Z2,Z3,Z4,Z5,Z6,Z7,Z8,Z9,Za,Zb,Zc,Zd,Ze,Zf,Zg,Zh,Nat.reduceAdd,Zi,if_true,if_false,Zl,Zm,Zn,Zo,Zp,Zq,Zr,Zs,Zt,Zu,Zv,Zw,Zx,Zy,Zz,ZA,ZB,ZC,ZD,ZE,p1,p2,r1,r2,a0E,hd,le0,hq,hr,a2F,Nat.reduceLeDiff,a4c,if_pos hup]
include hX hY in
theorem b2s (hab:a=b) (hl:a.length<=1000) (hn:1010<=n):a0n Tab n a3u [X,Y] σ=some (.bool true,σ):=by
 obtain ⟨n,rfl⟩:∃ k,n=k+1:=⟨n-1,by omega⟩
 obtain ⟨p1,p2,p3⟩:=a0O hX
 obtain ⟨r1,r2,r3⟩:=a0O hY
 rw [Q1] at p1 r1
 obtain ⟨f,hf⟩:∃ f,n=f+a.length+1:=⟨n-a.length-1,by omega⟩
 have k:=b5l σ a b X Y hX hY n hab hl a.length 0 (by omega) f
 rw [<- hf] at k
 subst hab
 rw [a0n]
 simp only [a7L,Q0,Sys.run]
 show ((a0D [.sh (.one _),.sh (.one _)] _).bind _)=_
 simp -implicitDefEqProofs only [a0D,a0d,a0c,Q2,Q0,Qe,Qf,Qp,if_true,p3,r3]
 show (PT.ev _ a3r _).bind _=_
 simp -implicitDefEqProofs only [a3r,↓reduceIte,eq_self,ZF,ZG,ZH,ZI,ZJ,ZK,ZL,ZM,ZN,ZO,ZP,ZQ,ZR,ZS,ZT,ZU,ZV,ZW,ZX,ZY,Z2,Z3,Z4,Z5,Z6,Z7,Z8,Z9,Za,Zb,Zc,Zd,Ze,Zf,Zg,Zh,Nat.reduceAdd,Zi,if_true,if_false,Zl,Zm,Zn,Zo,Zp,Zq,Zr,Zs,Zt,Zu,Zv,Zw,Zx,Zy,Zz,ZA,ZB,ZC,ZD,ZE,p1,p2,r1,r2,a4c]
 exact k
end
end Go.Proofs.Ytggjcdnailppoaa
set_option maxRecDepth 100000
namespace Go.Proofs.Ytggjcdnailppoaa
open Go.Sx
theorem b8x (c:List Of) (i:Nat):(a4S c i).Sublist c:=by
 unfold a4S
 conv=>rhs; rw [<- Qh i c]
 exact (Qg _).append (by rw [<- List.drop_drop]; exact List.drop_sublist 1 _)
theorem b3u (l:List Ch):∀ (n:Nat) (c:List Of),(a2z l n c).Sublist c
 | 0,c=>Qg c
 | n+1,c=>by
  unfold a2z
  split
  ·exact Qg c
  ·exact (b3u l n _).trans (b8x c _)
theorem b7p (l:List Ch) (n:Nat) (c:List Of):(a2z l n c).length<=c.length:=(b3u l n c).length_le
theorem c2j {l:List Ch} (hok:∀ x∈l,x.ok):∀ (n:Nat) (c:List Of),c.length=n->(a1Q l (a2z l n c)).2=0
 | 0,c,h=>by
  have:c=[]:=Qa.1 h
  subst this
  unfold a2z a1Q
  rw [if_pos (Q4.2 fun x hx=>decide_eq_true (hok x hx))]; rfl
 | n+1,c,h=>by
  unfold a2z
  split
  ·assumption
  ·rename_i he
   obtain ⟨g1,g2⟩:=b5I hok he
   exact c2j hok n _ (by rw [a5L (by omega)]; omega)
theorem c2k {l:List Ch} {n:Nat} {c:List Of} (h:(a1Q l c).2=0):a2z l n c=c:=by
 cases n with
 | zero=>rfl
 | succ n=>unfold a2z; rw [if_pos h]
section
variable (TW:Nat->Option Sx.Sys) (n:Nat) (bids T:List Of) (P:PV)
def c2d (P:PV) (bids T:List Of) (a i:Int):PEnv:={ i:=[a,i],b:=[],v:=[P,.sl 8 (bids.map Of.row),.sl 8 (T.map Of.row)],m:=[],k:=0 }
theorem c2m (hb:bids.length<=1000) (hT:T.length<=1000) (hend:∀ (a:Int) fuel,saleroomlaw40_RelcapTrims_S.loop (a0n TW n) (fuel+1) 0 (c2d P bids T a (T.length:Int))=some (.bool true,[])) :
  ∀ d a,a+d=bids.length->(∀ i,i < T.length->(T.drop i).Sublist (bids.drop a)->∀ fuel,saleroomlaw40_RelcapTrims_S.loop (a0n TW n) (fuel+2*d+1) 1 (c2d P bids T (a:Int) (i:Int))=some (.bool true,[])) /\
   (∀ i,i<=T.length->(T.drop i).Sublist (bids.drop a)->∀ fuel,saleroomlaw40_RelcapTrims_S.loop (a0n TW n) (fuel+2*d+2) 0 (c2d P bids T (a:Int) (i:Int))=some (.bool true,[])):=by
 have hE:=a2I 8 (bids.map Of.row)
 have hX:=a2I 8 (T.map Of.row)
 obtain ⟨p1,p2,p3⟩:=a0O hE
 obtain ⟨q1,q2,q3⟩:=a0O hX
 rw [Q1] at p1 q1
 have from0:∀ d a,a+d=bids.length->(∀ i,i < T.length->(T.drop i).Sublist (bids.drop a)->∀ fuel,saleroomlaw40_RelcapTrims_S.loop (a0n TW n) (fuel+2*d+1) 1 (c2d P bids T (a:Int) (i:Int))=some (.bool true,[])) ->
   ∀ i,i<=T.length->(T.drop i).Sublist (bids.drop a)->∀ fuel,saleroomlaw40_RelcapTrims_S.loop (a0n TW n) (fuel+2*d+2) 0 (c2d P bids T (a:Int) (i:Int))=some (.bool true,[]):=by
  intro d a _ h i hi hs fuel
  rcases Nat.eq_or_lt_of_le hi with rfl | hlt
  ·exact hend _ _
  ·have hd:decide (i < T.length)=true:=decide_eq_true hlt
   rw [<- h i hlt hs fuel,show fuel+2*d+2=(fuel+2*d+1)+1 from rfl]
   conv=>lhs; rw [Sys.loop,show saleroomlaw40_RelcapTrims_S.loops[0]?=some c1X from rfl]
   simp -implicitDefEqProofs only [Q0,c2d,c1X,↓reduceIte,eq_self,ZF,ZG,ZH,ZI,ZJ,ZK,ZL,ZM,ZN,ZO,ZP,ZQ,ZR,ZS,ZT,ZU,ZV,ZW,ZX,ZY,Z2,Z3,Z4,Z5,Z6,Z7,Z8,Z9,Za,Zb,Zc,Zd,Ze,Zf,Zg,Zh,Nat.reduceAdd,Zi,if_true,if_false,Zl,Zm,Zn,Zo,Zp,Zq,Zr,Zs,Zt,Zu,Zv,Zw,Zx,Zy,Zz,ZA,ZB,ZC,ZD,ZE,q1,q2,a0E,hd]
 intro d
 induction d with
 | zero =>
  intro a ha
  have key:∀ i,i < T.length->¬ (T.drop i).Sublist (bids.drop a):=by
   intro i hi hs
   rw [show bids.drop a=[] by rw [List.drop_eq_nil_of_le (by omega)]] at hs
   have:=hs.length_le
   rw [Q8,Q5] at this
   omega
  exact ⟨fun i hi hs=>absurd hs (key i hi),from0 0 a ha fun i hi hs=>absurd hs (key i hi)⟩
 | succ d ih =>
  intro a ha
  obtain ⟨ih1,ih0⟩:=ih (a+1) (by omega)
  have one:∀ i,i < T.length->(T.drop i).Sublist (bids.drop a)->∀ fuel,saleroomlaw40_RelcapTrims_S.loop (a0n TW n) (fuel+2*(d+1)+1) 1 (c2d P bids T (a:Int) (i:Int))=some (.bool true,[]):=by
   intro i hi hs fuel
   obtain ⟨x,hx⟩:=a4g hi
   obtain ⟨y,hy⟩:=a4g (show a < bids.length by omega)
   rw [a2M hx,a2M hy] at hs
   have hda:decide (a < bids.length)=true:=decide_eq_true (by omega)
   have hdi:decide (i < T.length)=true:=decide_eq_true hi
   have r1:=a0U (off:=0) hE (a2E hy)
   have r2:=a0U (off:=0) hX (a2E hx)
   have u1:=a2r (show a<=1000000000 by omega)
   have u2:=a2r (show i<=1000000000 by omega)
   have hne:eqB (a:Int) (bids.length:Int)=false:=decide_eq_false (by omega)
   have hz:(eqB y.n x.n&&(eqB y.w.a x.w.a&&(eqB y.w.b x.w.b&&(eqB y.w.c x.w.c&&(eqB y.w.d x.w.d&&(eqB y.w.e x.w.e&&(eqB y.w.f x.w.f&&eqB y.v x.v)))))))=ofB y x:=rfl
   rw [show fuel+2*(d+1)+1=(fuel+2*d+2)+1 by omega,Sys.loop,show saleroomlaw40_RelcapTrims_S.loops[1]?=some c1Z from rfl]
   cases hyx:ofB y x with
   | true =>
    have hxy:=(c2l y x).1 hyx
    have hs':(T.drop (i+1)).Sublist (bids.drop (a+1)):=by rw [hxy] at hs; exact List.cons_sublist_cons.1 hs
    have:=ih0 (i+1) (by omega) hs' fuel
    rw [a2C,a2C] at this
    refine Eq.trans ?_ this
    simp -implicitDefEqProofs only [Q0,c2d,c1Z,↓reduceIte,eq_self,ZF,ZG,ZH,ZI,ZJ,ZK,ZL,ZM,ZN,ZO,ZP,ZQ,ZR,ZS,ZT,ZU,ZV,ZW,ZX,ZY,Z2,Z3,Z4,Z5,Z6,Z7,Z8,Z9,Za,Zb,Zc,Zd,Ze,Zf,Zg,Zh,Nat.reduceAdd,Zi,if_true,if_false,Zl,Zm,Zn,Zo,Zp,Zq,Zr,Zs,Zt,Zu,Zv,Zw,Zx,Zy,Zz,ZA,ZB,ZC,ZD,ZE,p1,p2,q1,q2,a0E,hda,hdi,le0,r1,r2,a2F,Nat.reduceLeDiff,hz,hyx,hne,if_pos u1,if_pos u2]
   | false =>
    have hxy:x≠y:=fun h=>by rw [h,(c2l y y).2 rfl] at hyx; cases hyx
    have hs':(T.drop i).Sublist (bids.drop (a+1)):=by
     rw [a2M hx]
     rcases List.sublist_cons_iff.1 hs with h | ⟨r,h,_⟩
     ·exact h
     ·exact absurd (List.cons.inj h).1 hxy
    have:=ih1 i hi hs' (fuel+1)
    rw [a2C] at this
    rw [show fuel+1+2*d+1=fuel+2*d+2 by omega] at this
    refine Eq.trans ?_ this
    simp -implicitDefEqProofs only [Q0,c2d,c1Z,↓reduceIte,eq_self,ZF,ZG,ZH,ZI,ZJ,ZK,ZL,ZM,ZN,ZO,ZP,ZQ,ZR,ZS,ZT,ZU,ZV,ZW,ZX,ZY,Z2,Z3,Z4,Z5,Z6,Z7,Z8,Z9,Za,Zb,Zc,Zd,Ze,Zf,Zg,Zh,Nat.reduceAdd,Zi,if_true,if_false,Zl,Zm,Zn,Zo,Zp,Zq,Zr,Zs,Zt,Zu,Zv,Zw,Zx,Zy,Zz,ZA,ZB,ZC,ZD,ZE,p1,p2,q1,q2,a0E,hda,hdi,le0,r1,r2,a2F,Nat.reduceLeDiff,hz,hyx,hne,if_pos u1,if_pos u2]
  exact ⟨one,from0 (d+1) a ha one⟩
end
end Go.Proofs.Ytggjcdnailppoaa
