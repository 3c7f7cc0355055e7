/- The check of an exclusive-or whose arguments are under way in memory. -/
import Derived.Test.YthmkfeiapdbojaaHFl
import Derived.Test.YthmkfeiapdbojaaHSaa
import Derived.Test.YthmkfeiapdbojaaHSab
import Derived.Test.YthmkfeiapdbojaaHSac
import Derived.Test.YthmkfeiapdbojaaHVr
import Derived.Test.YthmkfeiapdbojaaHEx
set_option linter.unusedSimpArgs false
set_option linter.unusedVariables false
open Go.Sx.PT renaming ev → ξ1
open Go.Sx.BE renaming safe → ξ2, pe → ξ3, all → ξz
open Go.Sx.IE renaming pe → ξ4
open Go.Sx renaming PEnv.at → ξ5
open Go.Sx.PEnv renaming push → ξt
open List renaming getD_cons_zero → ξ6, getD_cons_succ → ξ7, getElem?_cons_zero → ξ8, getElem?_cons_succ → ξ9, drop_zero → ξf, length_cons → ξg, length_nil → ξh, take_succ_cons → ξm, take_zero → ξn, cons_append → ξu, nil_append → ξv, append_nil → ξw, map_cons → ξD, map_nil → ξE
open Go.Sx renaming a0g → ξa, a0h → ξb, a0b → ξc, a0f → ξd, a0c → ξo, a0a → ξp, a0d → ξq, a0N → ξF, a0D → ξG, a0p → ξH, a0q → ξI, a0C → ξJ, a1d → ξK, a0Z → ξL, a1e → ξM, a0Y → ξN, a0A → ξO, a0n → ξP, a0B → ξQ, a0M → ξR, a0m → ξS, a0y → ξT, a0R → ξU, a0H → ξV, a0I → ξW, a0J → ξX, a0r → ξY
open Nat renaming add_zero → ξe, le_refl → ξi
open Bool renaming false_eq_true → ξl, and_self → ξA, not_true → ξB, not_false → ξC
open Option renaming map_some → ξr, bind_some → ξs
open Go.Sx.SV renaming pvs → ξx, pv → ξy
open Option renaming bind_some → Q0, map_some → Q2, bind → Qe, bind_eq_bind → Qz, pure_def → QA
open List renaming mem_map → Q1, append_nil → Q3, nil_append → Q4, cons_append → Q5, length_nil → Q6, length_cons → Q7, map_cons → Qd, length_map → Qf, drop_zero → Qg, take_of_length_le → Qh, drop_succ_cons → Qj, map_append → Qk, getD_cons_zero → Qn, getD_cons_succ → Qp, getElem?_cons_zero → Qq, drop_nil → Qr, getElem?_eq_some_iff → Qs, length_singleton → Qt, mapM_cons → Qu, mapM_nil → Qv, reverse_cons → Qw, reverse_nil → Qy, mem_of_getElem? → QB, append_assoc → QC, length_take → QE, range → QH, length_drop → QJ, drop_eq_getElem?_toList_append → QL, mem_range → QN, mem_cons → QP, getElem?_eq_getElem → QQ, drop_length → QS, getElem?_cons_succ → QU, take_succ_cons → QV, getElem?_append_left → QW, all_eq_true → QY, length_append → QZ, take_left → X0, take_add_one → X1, take_length → X2, range_succ → X3, mem_iff_getElem? → X4, getElem?_drop → X5, getD_eq_getElem?_getD → X6, length_set → X7, set_append_right → X8, replicate → X9
open Bool renaming false_eq_true → Q8, and_self → Q9, and_eq_true → QD
open Nat renaming le_refl → Qa, zero_add → Qb, zero_le → QM
open Int renaming eq_ofNat_of_zero_le → Qm, toNat_natCast → QK, cast_ofNat_Int → QX
set_option maxRecDepth 100000
namespace Go.Proofs.Ythmkfeiapdbojaa
open Go.Sx Go.Kv Go.Bun
section
variable {σ:List MO} {h:Nat} {rows:List (List PV)} {l:List Ex}
def e0q (l:List Ex):Ex:=.node 2 0 0 0 0 0 0 0 l
def e0r (x:PV):List PV:=[.int .i64 2,.int .i64 0,.int .i64 0,.int .i64 0,.int .i64 0,.int .i64 0,.int .i64 0,.int .i64 0,x]
theorem e1o {i N:Nat} (hi:i < N):a3N (i:Int) 9 0 (.rsl h N 9)=some (.elt h N i 9 0):=by
 simp only [a3N]
 rw [if_pos ⟨by omega,by omega,trivial⟩,QK]
theorem e1t {ρ:PEnv} (hm:ρ.m[h]?=some (.row rows 9 26)) {i:Nat} {r:List PV} (hr:rows[i]?=some r) (h9:r.length=9):a0b ρ false 9 (.elt h rows.length i 9 0)=some r:=by
 simp only [a0b,Q8,if_false,hm,Q0,MO.elts,and_self,if_true,hr,Qg,a0f]
 rw [if_pos (by omega),Qh (by omega)]
theorem e0S {e:Ex} {r:List PV} (h:IsE e r):∃ a b c d e' f g v y,r=[.int .i64 a,.int .i64 b,.int .i64 c,.int .i64 d,.int .i64 e',.int .i64 f,.int .i64 g,.int .i64 v,y]/\y.one=true:=by
 obtain ⟨op,a,b,c,d,e',f,v,l⟩:=e
 simp only [IsE] at h
 obtain ⟨y,rows,rfl,hy,_⟩:=h
 exact ⟨_,_,_,_,_,_,_,_,y,rfl,(a0T hy).2.2⟩
theorem e1x (hl:a1k l rows) {i:Nat} (hi:i < l.length):∃ e r,l[i]?=some e/\rows[i]?=some r/\IsE e r:=by
 obtain ⟨e1,he1⟩:∃ e1,l[i]?=some e1:=⟨_,QQ hi⟩
 have hd:=hl.split i
 rw [QL,he1] at hd
 simp only [Option.toList_some,List.singleton_append,a1k] at hd
 obtain ⟨r,rs,hd1,hd2,hd3⟩:=hd
 refine ⟨e1,r,he1,?_,hd2⟩
 have:=congrArg (fun l=>l[0]?) hd1
 simpa using this
theorem e1W (hm:σ[h]?=some (.row rows 9 26)) (hl:a1k l rows) (n:Nat) (hn:a2a l+10<=n) (hb:a2a l<=100000):a0e Tab n 65 [.agg (e0r (.rsl h rows.length 9))] σ=some (.int .i64 (e0q l).depth,σ):=by
 obtain ⟨q,rfl⟩:∃ q,n=q+1:=⟨n-1,by omega⟩
 have hlen:=hl.length
 have hsl:=a3d l
 have hone:(PV.rsl h rows.length 9).one=true:=rfl
 have hkind:(PV.rsl h rows.length 9).isKind 0=true:=rfl
 have hxl:(PV.rsl h rows.length 9).len=(rows.length:Int):=rfl
 have loop:∀ (fuel:Nat) (i:Nat) (acc:Int),l.length-i < fuel->i<=l.length->0<=acc->acc<=a2a l ->
   expr_Depth_S.loop (a0e Tab q) fuel 0 { i:=[acc,(rows.length:Int),(i:Int)],b:=[],v:=[.rsl h rows.length 9],m:=σ,k:=σ.length }=some (.int .i64 (a5o acc (l.drop i)+1),σ):=by
  intro fuel
  induction fuel with
  | zero=>intro i acc h; omega
  | succ fuel ihf =>
   intro i acc h1 h2 h3 h4
   by_cases hlt:i < l.length
   ·obtain ⟨e1,r,he1,hr,hE⟩:=e1x hl hlt
    have hsz:=a2Q (QB he1)
    have hdl:=Ex.depth_le e1
    have hcall:=c5H σ e1 r hE q (by omega) (by omega)
    have hnx:=ihf (i+1) (mxI acc e1.depth) (by omega) (by omega) (by simp only [mxI]; split<;>omega) (by simp only [mxI]; split<;>omega)
    have hdr:l.drop i=e1::l.drop (i+1):=by rw [QL (i:=i),he1]; rfl
    obtain ⟨a,b,c,d,e',f,g,v,y,rfl,y3⟩:=e0S hE
    have hrd:∀ ρ:PEnv,ρ.m=σ->a0b ρ false 9 (.elt h rows.length i 9 0)=_:=fun ρ hρ=>e1t (by rw [hρ]; exact hm) hr rfl
    have l1:=e1o (h:=h) (i:=i) (N:=rows.length) (by omega)
    have q0:ltB (i:Int) (rows.length:Int)=true:=by simp [ltB]; omega
    have q2:=a2h (i:=i) (by omega)
    rw [hdr,a5o,<- hnx]
    simp only [b4W] at hcall
    rw [Sys.loop,show expr_Depth_S.loops[0]?=some b3Q from rfl,Q0]
    have key:b3Q.ev (a0e Tab q) { i:=[acc,(rows.length:Int),(i:Int)],b:=[],v:=[.rsl h rows.length 9],m:=σ,k:=σ.length }=some (.jump 0 { i:=[mxI acc e1.depth,(rows.length:Int),((i+1:Nat):Int)],b:=[],v:=[.rsl h rows.length 9],m:=σ,k:=σ.length }):=by
     generalize a0e Tab q=Φ at *
     unfold b3Q
     simp -implicitDefEqProofs only [a0D,a0p,a0q,BE.safe,BE.pe,IE.pe,PEnv.at,Qn,Qp,if_true,q0,hkind,hxl,le0,Q9,a0g,Qq,Q0,l1,Q7,Q6,Nat.reduceAdd]
     rw [hrd _ rfl]
     simp -implicitDefEqProofs only [↓reduceIte,eq_self,ξ2,ξ3,ξ4,ξ5,ξ6,ξ7,ξ8,ξ9,ξa,ξb,ξc,ξd,ξe,ξf,ξg,ξh,Nat.reduceAdd,ξi,if_true,if_false,ξl,ξm,ξn,ξo,ξp,ξq,ξr,ξs,ξt,ξu,ξv,ξw,ξx,ξy,ξz,ξA,ξB,ξC,ξD,ξE,y3]
     repeat (first | rw [a0B] | rw [a0A] | rw [a0D] | rw [a0p] | rw [a0q] | rw [a0m] | rw [a0M] | rw [a3f] | rw [a0C] | rw [a0y] | rw [a0r] | rw [a0N])<;>simp -implicitDefEqProofs only [↓reduceIte,eq_self,ξ2,ξ3,ξ4,ξ5,ξ6,ξ7,ξ8,ξ9,ξa,ξb,ξc,ξd,ξe,ξf,ξg,ξh,Nat.reduceAdd,ξi,if_true,if_false,ξl,ξm,ξn,ξo,ξp,ξq,ξr,ξs,ξt,ξu,ξv,ξw,ξx,ξy,ξz,ξA,ξB,ξC,ξD,ξE,hcall,y3,q2,a0v,hone]
    rw [key]
    rfl
   ·obtain rfl:i=l.length:=by omega
    have q0:ltB (l.length:Int) (rows.length:Int)=false:=by simp [ltB]; omega
    have q2:(leB (-9223372036854775808) (acc+1)&&leB (acc+1) 9223372036854775807)=true:=a0u (by omega)
    rw [Sys.loop,show expr_Depth_S.loops[0]?=some b3Q from rfl,QS,a5o]
    simp -implicitDefEqProofs only [Q0,b3Q,↓reduceIte,eq_self,ξ1,ξ2,ξ3,ξ4,ξ5,ξ6,ξ7,ξ8,ξ9,ξa,ξb,ξc,ξd,ξe,ξf,ξg,ξh,Nat.reduceAdd,ξi,if_true,if_false,ξl,ξm,ξn,ξo,ξp,ξq,ξr,ξs,ξt,ξu,ξv,ξw,ξx,ξy,ξz,ξA,ξB,ξC,ξD,ξE,q0,q2,a0k,or_true]
 have h0:=loop q 0 0 (by omega) (QM _) (Int.le_refl _) (by omega)
 rw [Qg] at h0
 rw [a0e,b8U]
 simp only [Q0,Sys.run]
 show ((a0i [.sh (.agg [_,_,_,_,_,_,_,_,_])] _).bind _)=_
 unfold e0r
 simp only [a0i,a0d,a0c,Q2,Q0,Q3,Q4,Q5,if_true,hone]
 show (PT.ev _ c1o _).bind _=_
 refine Eq.trans ?_ h0
 simp -implicitDefEqProofs only [c1o,↓reduceIte,eq_self,ξ1,ξ2,ξ3,ξ4,ξ5,ξ6,ξ7,ξ8,ξ9,ξa,ξb,ξc,ξd,ξe,ξf,ξg,ξh,Nat.reduceAdd,ξi,if_true,if_false,ξl,ξm,ξn,ξo,ξp,ξq,ξr,ξs,ξt,ξu,ξv,ξw,ξx,ξy,ξz,ξA,ξB,ξC,ξD,ξE,hkind,hxl]
 rfl
theorem e1C {C:Nat} {caps:List PV} {n0:Nat} {st:List Ex->List MO} {go:List Ex->Ex->Bool} {fin:List Ex->Ex->List MO} (hV:Visits C caps n0 (e0q l).pre st go fin) (hm:∀ p,(st p)[h]?=some (.row rows 9 26)) (hl:a1k l rows)
  (hroot:∀ n,n0<=n->a0e Tab n C (.agg (e0r (.rsl h rows.length 9))::caps) (st [])=some (.bool (go [] (e0q l)),if go [] (e0q l) then st [e0q l] else fin [] (e0q l))) (n:Nat) (hn:a2a l+n0+10<=n) (hb:a2a l<=100000) :
  a0e Tab n 67 [.agg [.fn C caps],.agg (e0r (.rsl h rows.length 9))] (st [])=a5A st fin (e0q l).pre (a1W go [] (e0q l).pre):=by
 obtain ⟨q,rfl⟩:∃ q,n=q+1:=⟨n-1,by omega⟩
 have hlen:=hl.length
 have hsl:=a3d l
 have hone:(PV.rsl h rows.length 9).one=true:=rfl
 have hkind:(PV.rsl h rows.length 9).isKind 0=true:=rfl
 have hxl:(PV.rsl h rows.length 9).len=(rows.length:Int):=rfl
 have honeF:(PV.fn C caps).one=true:=rfl
 have hpre:(e0q l).pre=e0q l::a4g l:=rfl
 have loop:∀ (fuel i k:Nat) (p r:List Ex),l.length-i < fuel->i<=l.length->(e0q l).pre=p++a4g (l.drop i)++r ->
   expr_walker_walk_S.loop (a0e Tab q) fuel 0 { i:=[(rows.length:Int),(i:Int)],b:=[],v:=[.rsl h rows.length 9,.fn C caps],m:=st p,k:=k }=a5A st fin (p++a4g (l.drop i)) (a1W go p (a4g (l.drop i))):=by
  intro fuel
  induction fuel with
  | zero=>intro i k p r h; omega
  | succ fuel ihf =>
   intro i k p r h1 h2 h3
   by_cases hlt:i < l.length
   ·obtain ⟨e1,rr,he1,hr,hE⟩:=e1x hl hlt
    have hsz:=a2Q (QB he1)
    have hdr:l.drop i=e1::l.drop (i+1):=by rw [QL (i:=i),he1]; rfl
    rw [hdr] at h3 ⊢
    simp only [a4g] at h3 ⊢
    have hcall:=b7e hV e1 rr p (a4g (l.drop (i+1))++r) (by rw [h3]; simp) hE q (by omega) (by omega)
    have hnx:=ihf (i+1) k (p++e1.pre) r (by omega) (by omega) (by rw [h3]; simp)
    obtain ⟨a,b,c,d,e',f,g,v,y,rfl,y3⟩:=e0S hE
    have hrd:∀ ρ:PEnv,ρ.m=st p->a0b ρ false 9 (.elt h rows.length i 9 0)=_:=fun ρ hρ=>e1t (by rw [hρ]; exact hm p) hr rfl
    have l1:=e1o (h:=h) (i:=i) (N:=rows.length) (by omega)
    have q0:ltB (i:Int) (rows.length:Int)=true:=by simp [ltB]; omega
    have q2:=a2h (i:=i) (by omega)
    simp only [a5C] at hcall
    rw [a8E]
    rw [Sys.loop,show expr_walker_walk_S.loops[0]?=some a5e from rfl,Q0]
    generalize a0e Tab q=Φ at *
    cases hs:a1W go p e1.pre with
    | none =>
     rw [hs] at hcall
     simp only [a5A] at hcall
     have key:a5e.ev Φ { i:=[(rows.length:Int),(i:Int)],b:=[],v:=[.rsl h rows.length 9,.fn C caps],m:=st p,k:=k }=some (.jump 0 { i:=[(rows.length:Int),((i+1:Nat):Int)],b:=[],v:=[.rsl h rows.length 9,.fn C caps],m:=st (p++e1.pre),k:=k }):=by
      unfold a5e
      simp -implicitDefEqProofs only [a0D,a0p,a0q,BE.safe,BE.pe,IE.pe,PEnv.at,Qn,Qp,if_true,q0,hkind,hxl,le0,Q9,a0g,Qq,Q0,l1,Q7,Q6,Nat.reduceAdd]
      rw [hrd _ rfl]
      simp -implicitDefEqProofs only [↓reduceIte,eq_self,ξ2,ξ3,ξ4,ξ5,ξ6,ξ7,ξ8,ξ9,ξa,ξb,ξc,ξd,ξe,ξf,ξg,ξh,Nat.reduceAdd,ξi,if_true,if_false,ξl,ξm,ξn,ξo,ξp,ξq,ξr,ξs,ξt,ξu,ξv,ξw,ξx,ξy,ξz,ξA,ξB,ξC,ξD,ξE,y3]
      repeat (first | rw [a0B] | rw [a0A] | rw [a0D] | rw [a0p] | rw [a0q] | rw [a0m] | rw [a0M] | rw [a3f] | rw [a0C] | rw [a0y] | rw [a0r] | rw [a0N])<;>simp -implicitDefEqProofs only [↓reduceIte,eq_self,ξ2,ξ3,ξ4,ξ5,ξ6,ξ7,ξ8,ξ9,ξa,ξb,ξc,ξd,ξe,ξf,ξg,ξh,Nat.reduceAdd,ξi,if_true,if_false,ξl,ξm,ξn,ξo,ξp,ξq,ξr,ξs,ξt,ξu,ξv,ξw,ξx,ξy,ξz,ξA,ξB,ξC,ξD,ξE,hcall,y3,q2,a0v,hone,honeF]
     rw [key]
     simp only [QC] at hnx
     rw [show (Res.jump 0 { i:=[(rows.length:Int),((i+1:Nat):Int)],b:=[],v:=[.rsl h rows.length 9,.fn C caps],m:=st (p++e1.pre),k:=k }:Res)=_ from rfl]
     rw [<- QC] at hnx
     rw [<- QC]
     exact hnx
    | some pr =>
     obtain ⟨p',x'⟩:=pr
     rw [hs] at hcall
     simp only [a5A] at hcall
     have key:a5e.ev Φ { i:=[(rows.length:Int),(i:Int)],b:=[],v:=[.rsl h rows.length 9,.fn C caps],m:=st p,k:=k }=some (.ret (.bool false) (fin p' x')):=by
      unfold a5e
      simp -implicitDefEqProofs only [a0D,a0p,a0q,BE.safe,BE.pe,IE.pe,PEnv.at,Qn,Qp,if_true,q0,hkind,hxl,le0,Q9,a0g,Qq,Q0,l1,Q7,Q6,Nat.reduceAdd]
      rw [hrd _ rfl]
      simp -implicitDefEqProofs only [↓reduceIte,eq_self,ξ2,ξ3,ξ4,ξ5,ξ6,ξ7,ξ8,ξ9,ξa,ξb,ξc,ξd,ξe,ξf,ξg,ξh,Nat.reduceAdd,ξi,if_true,if_false,ξl,ξm,ξn,ξo,ξp,ξq,ξr,ξs,ξt,ξu,ξv,ξw,ξx,ξy,ξz,ξA,ξB,ξC,ξD,ξE,y3]
      repeat (first | rw [a0B] | rw [a0A] | rw [a0D] | rw [a0p] | rw [a0q] | rw [a0m] | rw [a0M] | rw [a3f] | rw [a0C] | rw [a0y] | rw [a0r] | rw [a0N])<;>simp -implicitDefEqProofs only [↓reduceIte,eq_self,ξ2,ξ3,ξ4,ξ5,ξ6,ξ7,ξ8,ξ9,ξa,ξb,ξc,ξd,ξe,ξf,ξg,ξh,Nat.reduceAdd,ξi,if_true,if_false,ξl,ξm,ξn,ξo,ξp,ξq,ξr,ξs,ξt,ξu,ξv,ξw,ξx,ξy,ξz,ξA,ξB,ξC,ξD,ξE,hcall,y3,q2,a0v,hone,honeF,a0k,true_or]
     rw [key]
     rfl
   ·obtain rfl:i=l.length:=by omega
    have q0:ltB (l.length:Int) (rows.length:Int)=false:=by simp [ltB]; omega
    rw [Sys.loop,show expr_walker_walk_S.loops[0]?=some a5e from rfl,QS]
    simp -implicitDefEqProofs only [Q0,a5e,↓reduceIte,eq_self,ξ1,ξ2,ξ3,ξ4,ξ5,ξ6,ξ7,ξ8,ξ9,ξa,ξb,ξc,ξd,ξe,ξf,ξg,ξh,Nat.reduceAdd,ξi,if_true,if_false,ξl,ξm,ξn,ξo,ξp,ξq,ξr,ξs,ξt,ξu,ξv,ξw,ξx,ξy,ξz,ξA,ξB,ξC,ξD,ξE,q0,a0k,true_or,a4g,a1W,a5A,Q3]
 have hr:=hroot q (by omega)
 rw [a0e,b2R]
 simp only [Q0,Sys.run]
 show ((a0i [.sh (.agg [_]),.sh (.agg [_,_,_,_,_,_,_,_,_])] _).bind _)=_
 unfold e0r at hr ⊢
 simp only [a0i,a0d,a0c,Q2,Q0,Q3,Q4,Q5,if_true,hone,honeF]
 show (PT.ev _ a5D _).bind _=_
 rw [hpre,show e0q l::a4g l=[e0q l]++a4g l from rfl,a8E]
 cases hg:go [] (e0q l) with
 | false =>
  rw [hg] at hr
  simp only [Q8,if_false] at hr
  have key:∀ k,a5D.ev (a0e Tab q) { i:=[2,0,0,0,0,0,0,0],b:=[],v:=[.fn C caps,.rsl h rows.length 9],m:=st [],k:=k }=some (.ret (.bool false) (fin [] (e0q l))):=by
   intro k
   unfold a5D
   simp -implicitDefEqProofs only [↓reduceIte,eq_self,ξ1,ξ2,ξ3,ξ4,ξ5,ξ6,ξ7,ξ8,ξ9,ξa,ξb,ξc,ξd,ξe,ξf,ξg,ξh,Nat.reduceAdd,ξi,if_true,if_false,ξl,ξm,ξn,ξo,ξp,ξq,ξr,ξs,ξt,ξu,ξv,ξw,ξx,ξy,ξz,ξA,ξB,ξC,ξD,ξE,hr,hone,honeF,a0k,true_or]
  simp only [a1W,hg,Q8,if_false,a5A]
  exact (congrArg (fun r=>Qe r _) (key _))
 | true =>
  rw [hg] at hr
  simp only [if_true] at hr
  have key:∀ k,a5D.ev (a0e Tab q) { i:=[2,0,0,0,0,0,0,0],b:=[],v:=[.fn C caps,.rsl h rows.length 9],m:=st [],k:=k }=some (.jump 0 { i:=[(rows.length:Int),((0:Nat):Int)],b:=[],v:=[.rsl h rows.length 9,.fn C caps],m:=st [e0q l],k:=k }):=by
   intro k
   unfold a5D
   simp -implicitDefEqProofs only [↓reduceIte,eq_self,ξ1,ξ2,ξ3,ξ4,ξ5,ξ6,ξ7,ξ8,ξ9,ξa,ξb,ξc,ξd,ξe,ξf,ξg,ξh,Nat.reduceAdd,ξi,if_true,if_false,ξl,ξm,ξn,ξo,ξp,ξq,ξr,ξs,ξt,ξu,ξv,ξw,ξx,ξy,ξz,ξA,ξB,ξC,ξD,ξE,hr,hone,honeF,hkind,hxl]
   rfl
  simp only [a1W,hg,if_true,Q4]
  have h0:=loop q 0 (st []).length [e0q l] [] (by omega) (QM _) (by simp [hpre])
  rw [Qg] at h0
  refine Eq.trans (congrArg (fun r=>Qe r _) (key _)) ?_
  exact h0
end
end Go.Proofs.Ythmkfeiapdbojaa
set_option maxRecDepth 100000
namespace Go.Proofs.Ythmkfeiapdbojaa
open Go.Sx Go.Kv Go.Bun
section
variable {σ:List MO} {h:Nat} {rows:List (List PV)} {l:List Ex}
theorem e2a (hl:a1k l rows) (n:Nat) (hn:1<=n):a0e Tab n 70 [.agg (e0r (.rsl h rows.length 9))] σ=some (.bool (e0q l).form,σ):=by
 obtain ⟨n,rfl⟩:∃ k,n=k+1:=⟨n-1,by omega⟩
 have x1:(PV.rsl h rows.length 9).len=(rows.length:Int):=rfl
 have x2:(PV.rsl h rows.length 9).isKind 0=true:=rfl
 have x3:(PV.rsl h rows.length 9).one=true:=rfl
 have hlen:=hl.length
 simp only [e0q,Ex.form]
 rw [<- hlen]
 generalize PV.rsl h rows.length 9=x at *
 generalize hz:(rows.length:Int)=z at *
 rw [a0e,c0c]
 simp only [Q0,Sys.run]
 show ((a0i [.sh (.agg [_,_,_,_,_,_,_,_,_])] _).bind _)=_
 unfold e0r
 simp only [a0i,a0d,a0c,Q2,Q0,Q3,Q4,Q5,if_true,x3]
 show (PT.ev _ b1l _).bind _=_
 simp -implicitDefEqProofs only [b1l,↓reduceIte,eq_self,ξ1,ξ2,ξ3,ξ4,ξ5,ξ6,ξ7,ξ8,ξ9,ξa,ξb,ξc,ξd,ξe,ξf,ξg,ξh,Nat.reduceAdd,ξi,if_true,if_false,ξl,ξm,ξn,ξo,ξp,ξq,ξr,ξs,ξt,ξu,ξv,ξw,ξx,ξy,ξz,ξA,ξB,ξC,ξD,ξE,a0k,or_true,x1,x2]
 simp only [a2p,a1U,QD]
 repeat' split
 all_goals (simp only [Q0]; congr 3; rw [Bool.eq_iff_iff,decide_eq_true_iff]; simp only [QD,a2p,decide_eq_true_eq,b2K,Q8,false_iff]; first | omega | simp_all)
theorem e2g {x:PV} (hx:x.one=true) (n:Nat) (hn:1<=n):a0e Tab n 71 [.agg (e0r x)] σ=some (.bool true,σ):=by
 obtain ⟨n,rfl⟩:∃ k,n=k+1:=⟨n-1,by omega⟩
 rw [a0e,b8j]
 simp only [Q0,Sys.run]
 show ((a0i [.sh (.agg [_,_,_,_,_,_,_,_,_])] _).bind _)=_
 unfold e0r
 have h2:eqB 2 2=true:=rfl
 simp only [a0i,a0d,a0c,Q2,Q0,Q3,Q4,Q5,if_true,hx]
 show (PT.ev _ a8F _).bind _=_
 simp -implicitDefEqProofs only [a8F,↓reduceIte,eq_self,ξ1,ξ2,ξ3,ξ4,ξ5,ξ6,ξ7,ξ8,ξ9,ξa,ξb,ξc,ξd,ξe,ξf,ξg,ξh,Nat.reduceAdd,ξi,if_true,if_false,ξl,ξm,ξn,ξo,ξp,ξq,ξr,ξs,ξt,ξu,ξv,ξw,ξx,ξy,ξz,ξA,ξB,ξC,ξD,ξE,a0k,or_true,h2]
theorem e1v:(e0q l).rng=true:=by simp [e0q,Ex.rng,b3m]
theorem e2f (hl:a1k l rows) (n:Nat) (hn:1<=n):a0e Tab n b3Z [.agg (e0r (.rsl h rows.length 9)),.ref σ.length 0] (σ++[.cells [.int .i64 0] 3])=some (.bool true,σ++[.cells [.int .i64 1] 3]):=by
 obtain ⟨n,rfl⟩:∃ k,n=k+1:=⟨n-1,by omega⟩
 have x3:(PV.rsl h rows.length 9).one=true:=rfl
 generalize PV.rsl h rows.length 9=x at *
 simp only [a0e,b8m,Q0,Sys.run,c8o,c2P,c5o,c7J,e0r]
 simp only [a0i,a0d,a0c,x3,PV.isPtr,if_true,Q2,Q0,Q3,Q4,Q5]
 have q2:leB (-9223372036854775808) ((0:Int)+1)=true:=rfl
 have q3:leB ((0:Int)+1) 9223372036854775807=true:=rfl
 have hget:(σ++[MO.cells [.int .i64 0] 3])[σ.length]?=some (.cells [.int .i64 0] 3):=by simp
 simp -implicitDefEqProofs only [expr_Size_1_s,PT.ev,a0g,QU,Qq,Q0,a0h,Nat.add_zero,a0b,Q8,if_false,hget,MO.list,Qg,a0f,Q7,Q6,Nat.reduceAdd,Qa,if_true,
  QV,List.take_zero,a0c,Q2,PEnv.push,Q3,Q5,Q4,BE.safe,BE.pe,IE.pe,Q9,Qp,Qn,q2,q3,SV.pvs,SV.pv,a1A,Qb,Qj,Qr,a7G,a0k,true_or]
 rfl
theorem e2e (hl:a1k l rows) (n:Nat) (hn:1<=n):a0e Tab n b2a [.agg (e0r (.rsl h rows.length 9))] σ=some (.bool (decide ((e0q l).len<=8)),σ):=by
 obtain ⟨n,rfl⟩:∃ k,n=k+1:=⟨n-1,by omega⟩
 have x1:(PV.rsl h rows.length 9).len=(rows.length:Int):=rfl
 have x2:(PV.rsl h rows.length 9).isKind 0=true:=rfl
 have x3:(PV.rsl h rows.length 9).one=true:=rfl
 have hlen:=hl.length
 have hle:leB (rows.length:Int) 8=decide (l.length<=8):=by rw [hlen]; unfold leB; congr 1; rw [eq_iff_iff]; omega
 generalize PV.rsl h rows.length 9=x at *
 simp only [a0e,b6M,Q0,Sys.run]
 show ((a0i [.sh (.agg [_,_,_,_,_,_,_,_,_])] _).bind _)=_
 unfold e0r
 simp only [a0i,a0d,a0c,Q2,Q0,Q3,Q4,Q5,if_true,x3]
 show (PT.ev _ a7I _).bind _=_
 simp -implicitDefEqProofs only [a7I,↓reduceIte,eq_self,ξ1,ξ2,ξ3,ξ4,ξ5,ξ6,ξ7,ξ8,ξ9,ξa,ξb,ξc,ξd,ξe,ξf,ξg,ξh,Nat.reduceAdd,ξi,if_true,if_false,ξl,ξm,ξn,ξo,ξp,ξq,ξr,ξs,ξt,ξu,ξv,ξw,ξx,ξy,ξz,ξA,ξB,ξC,ξD,ξE,a0k,or_true,x1,x2,hle,e0q,Ex.len]
 rfl
theorem e2c (hl:a1k l rows) (n:Nat) (hn:3<=n):a0e Tab n b2j [.agg (e0r (.rsl h rows.length 9)),.ref σ.length 0] (σ++[.cells [.int .i64 0] 28])=some (.bool (decide (a2K (e0q l)=0)),σ++[.cells [.int .i64 (a2K (e0q l))] 28]):=by
 obtain ⟨n,rfl⟩:∃ k,n=k+1:=⟨n-1,by omega⟩
 have c1:=e2a (h:=h) (σ:=σ++[.cells [.int .i64 0] 28]) hl n (by omega)
 have x3:(PV.rsl h rows.length 9).one=true:=rfl
 have c2:=e2g (σ:=σ++[.cells [.int .i64 0] 28]) x3 n (by omega)
 have hnd:a2K (e0q l)=if (e0q l).form then (if (e0q l).rng then 0 else 4) else 2:=rfl
 rw [e1v] at hnd
 generalize a2K (e0q l)=nd at *
 generalize (e0q l).form=bf at *
 generalize PV.rsl h rows.length 9=x at *
 unfold e0r at *
 simp only [a0e,b7f,Q0,Sys.run]
 show ((a0i [.sh (.agg [_,_,_,_,_,_,_,_,_]),.ptr] _).bind _)=_
 have hptr:(PV.ref σ.length 0).isPtr=true:=rfl
 simp only [a0i,a0d,a0c,Q2,Q0,Q3,Q4,Q5,if_true,x3,hptr]
 show (PT.ev _ a4w _).bind _=_
 have hget:∀ z,(σ++[MO.cells [.int .i64 z] 28])[σ.length]?=some (.cells [.int .i64 z] 28):=by simp
 have e2:eqB 2 0=false:=rfl
 cases bf with
 | false =>
  obtain rfl:nd=2:=hnd
  simp -implicitDefEqProofs only [a4w,↓reduceIte,eq_self,ξ1,ξ2,ξ3,ξ4,ξ5,ξ6,ξ7,ξ8,ξ9,ξa,ξb,ξc,ξd,ξe,ξf,ξg,ξh,Nat.reduceAdd,ξi,if_true,if_false,ξl,ξm,ξn,ξo,ξp,ξq,ξr,ξs,ξt,ξu,ξv,ξw,ξx,ξy,ξz,ξA,ξB,ξC,ξD,ξE,c1,hget,MO.list,a1A,Qb,Qj,Qr,a7G,a0k,true_or,e2]
  rfl
 | true =>
  obtain rfl:nd=0:=hnd
  simp -implicitDefEqProofs only [a4w,↓reduceIte,eq_self,ξ1,ξ2,ξ3,ξ4,ξ5,ξ6,ξ7,ξ8,ξ9,ξa,ξb,ξc,ξd,ξe,ξf,ξg,ξh,Nat.reduceAdd,ξi,if_true,if_false,ξl,ξm,ξn,ξo,ξp,ξq,ξr,ξs,ξt,ξu,ξv,ξw,ξx,ξy,ξz,ξA,ξB,ξC,ξD,ξE,c1,c2,hget,MO.list,a1A,Qb,Qj,Qr,a7G,a0k,true_or,a2Y]
  rfl
theorem e1y {o:MO} {m:List MO} (hm:σ[h]?=some o):(σ++m)[h]?=some o:=by
 have:=(Qs.1 hm).1
 rw [QW this]; exact hm
theorem e1K:(e0q l).size=a2a l+1:=rfl
theorem e2d (hm:σ[h]?=some (.row rows 9 26)) (hσ:σ.all (MO.low σ.length)=true) (hl:a1k l rows) (n:Nat) (hn:a2a l+20<=n) (hb:a2a l<=100000):a0e Tab n 68 [.agg (e0r (.rsl h rows.length 9))] σ=some (.int .i64 (e0q l).size,σ):=by
 obtain ⟨n,rfl⟩:∃ k,n=k+1:=⟨n-1,by omega⟩
 have hw:=e1C (c2N σ (e0q l).pre (by rw [Ex.pre_len,e1K]; omega)) (fun p=>e1y hm) hl (fun n h0=>by simpa using e2f (h:=h) (σ:=σ) hl n h0) n (by omega) hb
 have hstop:∀ (l p:List Ex),a1W (fun _ _=>true) p l=none:=by
  intro l
  induction l with
  | nil=>intro p; rfl
  | cons x l ih=>intro p; simp [a1W,ih]
 rw [hstop] at hw
 simp only [a5A,Q4,Q6,Ex.pre_len,a5C,b3Z,QX] at hw
 have x3:(PV.rsl h rows.length 9).one=true:=rfl
 generalize PV.rsl h rows.length 9=x at *
 unfold e0r at *
 simp only [a0e,c0m,Q0,Sys.run]
 show ((a0i [.sh (.agg [_,_,_,_,_,_,_,_,_])] _).bind _)=_
 simp only [a0i,a0d,a0c,x3,if_true,Q2,Q0,Q3,Q4,Q5]
 show (PT.ev _ b1p _).bind _=_
 have hσ':∀ x∈σ,MO.low σ.length x=true:=QY.1 hσ
 simp [b1p,PT.ev,SV.pvs,SV.pv,IE.pe,PV.on,hw,a0a,a0d,a0c,PEnv.push,a0g,a0h,a0b,MO.list,a0f,a0k,PV.frz,a1A]
 rw [if_pos hσ']
 rfl
theorem e1X (hm:σ[h]?=some (.row rows 9 26)) (hσ:σ.all (MO.low σ.length)=true) (hl:a1k l rows) (n:Nat) (hn:a2a l+30<=n) (hb:a2a l<=100000):a0e Tab n 42 [.agg (e0r (.rsl h rows.length 9))] σ=some (.int .i64 (chk (e0q l)),σ):=by
 obtain ⟨n,rfl⟩:∃ k,n=k+1:=⟨n-1,by omega⟩
 have c1:=e1W hm hl n (by omega) hb
 have c2:=e2d hm hσ hl n (by omega) hb
 have w1:=e1C (c2p σ (e0q l).pre) (fun p=>hm) hl (fun n h0=>by simpa using e2e (h:=h) (σ:=σ) hl n h0) n (by omega) hb
 have w2:=e1C (c1r σ (e0q l).pre) (fun p=>e1y hm) hl (fun n h0=>by
  rw [e2c (h:=h) (σ:=σ) hl n h0]
  by_cases hz:a2K (e0q l)=0<;>simp [hz]) n (by omega) hb
 have s1:=b7J (fun x=>decide (x.len<=8)) (e0q l).pre []
 have s2:=b8F (e0q l).pre []
 simp only [chk]
 generalize (e0q l).pre=pr at *
 generalize a2W pr=ne at *
 have x3:(PV.rsl h rows.length 9).one=true:=rfl
 generalize PV.rsl h rows.length 9=x at *
 generalize e0q l=y0 at *
 unfold e0r at *
 simp only [b2a,b2j] at w1 w2
 rw [a0e,b9i]
 simp only [Q0,Sys.run]
 show ((a0i [.sh (.agg [_,_,_,_,_,_,_,_,_])] _).bind _)=_
 simp only [a0i,a0d,a0c,Q2,Q0,Q3,Q4,Q5,if_true,x3]
 show (PT.ev _ a9r _).bind _=_
 simp -implicitDefEqProofs only [a9r,↓reduceIte,eq_self,ξ1,ξ2,ξ3,ξ4,ξ5,ξ6,ξ7,ξ8,ξ9,ξa,ξb,ξc,ξd,ξe,ξf,ξg,ξh,Nat.reduceAdd,ξi,if_true,if_false,ξl,ξm,ξn,ξo,ξp,ξq,ξr,ξs,ξt,ξu,ξv,ξw,ξx,ξy,ξz,ξA,ξB,ξC,ξD,ξE,c1,a1n]
 by_cases h1:6 < y0.depth
 ·simp -implicitDefEqProofs only [if_pos h1,↓reduceIte,eq_self,ξ1,ξ2,ξ3,ξ4,ξ5,ξ6,ξ7,ξ8,ξ9,ξa,ξb,ξc,ξd,ξe,ξf,ξg,ξh,Nat.reduceAdd,ξi,if_true,if_false,ξl,ξm,ξn,ξo,ξp,ξq,ξr,ξs,ξt,ξu,ξv,ξw,ξx,ξy,ξz,ξA,ξB,ξC,ξD,ξE,a0k,or_true]
 simp -implicitDefEqProofs only [if_neg h1,↓reduceIte,eq_self,ξ1,ξ2,ξ3,ξ4,ξ5,ξ6,ξ7,ξ8,ξ9,ξa,ξb,ξc,ξd,ξe,ξf,ξg,ξh,Nat.reduceAdd,ξi,if_true,if_false,ξl,ξm,ξn,ξo,ξp,ξq,ξr,ξs,ξt,ξu,ξv,ξw,ξx,ξy,ξz,ξA,ξB,ξC,ξD,ξE]
 cases ha:pr.all (fun x=>decide (x.len<=8)) with
 | false =>
  obtain ⟨q,x',hs⟩:=s1.2 ha
  simp only [hs,a5A] at w1
  simp -implicitDefEqProofs only [↓reduceIte,eq_self,ξ1,ξ2,ξ3,ξ4,ξ5,ξ6,ξ7,ξ8,ξ9,ξa,ξb,ξc,ξd,ξe,ξf,ξg,ξh,Nat.reduceAdd,ξi,if_true,if_false,ξl,ξm,ξn,ξo,ξp,ξq,ξr,ξs,ξt,ξu,ξv,ξw,ξx,ξy,ξz,ξA,ξB,ξC,ξD,ξE,w1,a0k,or_true,ite_self]
 | true =>
  simp only [s1.1 ha,a5A] at w1
  simp -implicitDefEqProofs only [↓reduceIte,eq_self,ξ1,ξ2,ξ3,ξ4,ξ5,ξ6,ξ7,ξ8,ξ9,ξa,ξb,ξc,ξd,ξe,ξf,ξg,ξh,Nat.reduceAdd,ξi,if_true,if_false,ξl,ξm,ξn,ξo,ξp,ξq,ξr,ξs,ξt,ξu,ξv,ξw,ξx,ξy,ξz,ξA,ξB,ξC,ξD,ξE,w1,c2,a1n]
  by_cases h2:40 < y0.size
  ·rw [if_pos (by omega)]
   simp -implicitDefEqProofs only [if_pos h2,↓reduceIte,eq_self,ξ1,ξ2,ξ3,ξ4,ξ5,ξ6,ξ7,ξ8,ξ9,ξa,ξb,ξc,ξd,ξe,ξf,ξg,ξh,Nat.reduceAdd,ξi,if_true,if_false,ξl,ξm,ξn,ξo,ξp,ξq,ξr,ξs,ξt,ξu,ξv,ξw,ξx,ξy,ξz,ξA,ξB,ξC,ξD,ξE,a0k,or_true]
  ·rw [if_neg (by omega)]
   have hget:∀ z,(σ++[MO.cells [.int .i64 z] 28])[σ.length]?=some (.cells [.int .i64 z] 28):=by simp
   have hσ':∀ x∈σ,MO.low σ.length x=true:=QY.1 hσ
   have hne:¬ (σ++[MO.cells [.int .i64 ne] 28]).length=σ.length:=by simp
   have htk:(σ++[MO.cells [.int .i64 ne] 28]).take σ.length=σ:=by simp
   rcases s2 with ⟨q,x',hs,hx'⟩ | ⟨hs,hz⟩
   ·simp only [hs,a5A,hx'] at w2
    simp -implicitDefEqProofs only [if_neg h2,↓reduceIte,eq_self,ξ1,ξ2,ξ3,ξ4,ξ5,ξ6,ξ7,ξ8,ξ9,ξa,ξb,ξc,ξd,ξe,ξf,ξg,ξh,Nat.reduceAdd,ξi,if_true,if_false,ξl,ξm,ξn,ξo,ξp,ξq,ξr,ξs,ξt,ξu,ξv,ξw,ξx,ξy,ξz,ξA,ξB,ξC,ξD,ξE,SV.pvs,PV.on,hget,MO.list,a1A,Qb,Qj,Qr,a7G,w2,a0k,Q8,false_or,if_neg hne,htk,hσ,PV.frz]
   ·simp only [hs,a5A] at w2
    subst hz
    simp -implicitDefEqProofs only [if_neg h2,↓reduceIte,eq_self,ξ1,ξ2,ξ3,ξ4,ξ5,ξ6,ξ7,ξ8,ξ9,ξa,ξb,ξc,ξd,ξe,ξf,ξg,ξh,Nat.reduceAdd,ξi,if_true,if_false,ξl,ξm,ξn,ξo,ξp,ξq,ξr,ξs,ξt,ξu,ξv,ξw,ξx,ξy,ξz,ξA,ξB,ξC,ξD,ξE,SV.pvs,PV.on,hget,MO.list,a1A,Qb,Qj,Qr,a7G,w2,a0k,Q8,false_or,if_neg hne,htk,hσ,PV.frz]
end
end Go.Proofs.Ythmkfeiapdbojaa
set_option maxRecDepth 100000
namespace Go.Proofs.Ythmkfeiapdbojaa
open Go.Sx Go.Kv Go.Bun
def gS (g:Nat) (R:List (List PV)):PV:=match R with | []=>.nilS | _::_=>.rsl g R.length 9
def gO (R:List (List PV)):List MO:=match R with | []=>[] | _::_=>[.row R 9 26]
section
variable {σ:List MO} {R:List (List PV)}
theorem e1T {Φ:Fns} {ρ:PEnv} {k:PT} {n3 n4:Nat} {r:List PV} (h3:ρ.v[n3]?=some (gS σ.length R)) (h4:ρ.v[n4]?=some (.sl 9 [r])) (hR:R.length<=100000) (hm:ρ.m=σ++gO R) :
  (PT.appM (.va n3) (.va n4) 9 26 k).ev Φ ρ=k.ev Φ { ρ with v:=ρ.v++[gS σ.length (R++[r])],m:=σ++gO (R++[r]) }:=by
 have hs:a1x ρ 9 (.va n4)=some [r]:=by simp only [a1x,h4,Q0,PV.rowsOf,if_true]
 have hd:(SV.va n3).pv ρ noOwn=some (gS σ.length R):=by simp only [SV.pv,h3]
 rw [a0y,hd,hs]
 cases R with
 | nil =>
  simp only [Q0,gS,Qt]
  have hl:(σ++gO []).length=σ.length:=by simp [gO]
  rw [if_pos (by omega),if_neg (by omega),hm,hl]
  simp [gO]
 | cons y R =>
  have h1:ρ.m[σ.length]?=some (.row (y::R) 9 26):=by rw [hm]; exact b5O _ _ _
  have h2:ρ.m.set σ.length (.row (y::R++[r]) 9 26)=σ++gO (y::R++[r]):=by rw [hm]; exact c8B _ _ _ _
  simp only [Q0,gS,h1,Qt]
  rw [if_pos ⟨trivial,trivial,trivial,trivial,by omega⟩,if_neg (by omega),h2]
  simp [gS]
theorem e1u:(gS σ.length R).len=(R.length:Int)/\(gS σ.length R).isKind 0=true/\(gS σ.length R).one=true:=by cases R<;>exact ⟨rfl,rfl,rfl⟩
theorem e1M (hlow:σ.all (MO.low σ.length)=true) (hR:∀ k,PV.lowss k R=true) (h1:∀ r∈R,r.all PV.one=true):(σ++gO R).all (MO.low (σ++gO R).length)=true:=by
 refine b7j hlow ?_
 cases R with
 | nil=>rfl
 | cons y R=>simp only [gO,List.all_cons,List.all_nil,MO.low,hR,Q9]
theorem e0T {ρ:PEnv} {p q:PV} {g:List MO} (hlow:σ.all (MO.low σ.length)=true) (h1:ρ.m=σ++g) (hg:g≠[]) (h2:ρ.k=σ.length) (hq:p.frz σ.length (a5V ρ 3)=some q):a0k ρ false p=some (q,σ):=by
 unfold a0k
 rw [h1,h2,if_neg (by rw [QZ]; have:=List.length_pos_iff.2 hg; simp; exact hg),X0,if_pos hlow,<- h2,h2,hq]
 rfl
theorem e1F {ρ:PEnv} {y:List PV} (h1:ρ.m=σ++gO (y::R)) (h2:ρ.k=σ.length) (hR:PV.lowss σ.length (y::R)=true) (ho:∀ r∈y::R,r.all PV.one=true):a5V ρ 3 σ.length=some (.row (y::R) 9 26):=by
 have h0:ρ.m[σ.length]?=some (.row (y::R) 9 26):=by rw [h1]; exact b5O _ _ _
 simp only [a5V,h0,Q0]
 rw [h2,PV.frzss_low (y::R) hR ho]
 rfl
end
def e0w (o:Of):Ex:=.node 1 o.w.a o.w.b o.w.c o.w.d o.w.e o.w.f o.v []
def atomR (o:Of):List PV:=[.int .i64 1,.int .i64 o.w.a,.int .i64 o.w.b,.int .i64 o.w.c,.int .i64 o.w.d,.int .i64 o.w.e,.int .i64 o.w.f,.int .i64 o.v,.nilS]
def e0s (L:List Of):Ex:=match L with | [o]=>e0w o | _=>e0q (L.map e0w)
def groupR (L:List Of):List PV:=match L with | [o]=>atomR o | _=>e0r (.sl 9 (L.map atomR))
theorem e1q (o:Of):IsE (e0w o) (atomR o):=by
 simp only [e0w,atomR,IsE]
 exact ⟨.nilS,[],rfl,rfl,rfl⟩
theorem e0K {α:Type} {f:α->Ex} {g:α->List PV}:∀ (L:List α),(∀ o∈L,IsE (f o) (g o))->a1k (L.map f) (L.map g)
 | [],_=>by simp [a1k]
 | o::L,h=>by
  simp only [Qd,a1k]
  exact ⟨_,_,rfl,h o (by simp),e0K L fun o ho=>h o (by simp [ho])⟩
theorem e1z {l:List Ex} {rows:List (List PV)} (h:a1k l rows):IsE (e0q l) (e0r (.sl 9 rows)):=by
 simp only [e0q,e0r,IsE]
 exact ⟨_,rows,rfl,by simp [PV.rowsOf],h⟩
theorem e0G (L:List Of):IsE (e0s L) (groupR L):=by
 unfold e0s groupR
 split
 ·exact e1q _
 ·exact e1z (e0K L fun o _=>e1q o)
theorem e0M (k:Nat):∀ L:List Of,PV.lowss k (L.map atomR)=true
 | []=>rfl
 | o::L=>by have:=e0M k L; simp only [Qd,PV.lowss,atomR,PV.lows,PV.low,Q9,Bool.true_and] at *; exact this
theorem e1D (L:List Of):∀ r∈L.map atomR,r.all PV.one=true:=by
 intro r hr
 obtain ⟨o,_,rfl⟩:=Q1.1 hr
 rfl
section
variable {σ:List MO} {L:List Of} {x:PV}
def gpE (σ:List MO) (L:List Of) (x:PV) (i:Nat):PEnv:={ i:=[(L.length:Int),(i:Int)],b:=[],v:=[x,gS σ.length ((L.take i).map atomR)],m:=σ++gO ((L.take i).map atomR),k:=σ.length }
theorem e1s (hx:d5w L x) (hL:L.length<=1000) (hne:L≠[]) (hlow:σ.all (MO.low σ.length)=true) (n:Nat) (hn:L.length+10<=n):a0e Tab n 63 [x] σ=some (.agg (groupR L),σ):=by
 obtain ⟨q,rfl⟩:∃ q,n=q+1:=⟨n-1,by omega⟩
 obtain ⟨x1,x2,x3⟩:=d5h hx
 have step:∀ i:Nat,i < L.length->∀ fuel,flatten_group_S.loop (a0e Tab q) (fuel+1) 0 (gpE σ L x i)=flatten_group_S.loop (a0e Tab q) fuel 0 (gpE σ L x (i+1)):=by
  intro i hi fuel
  obtain ⟨o,ho⟩:=a3n hi
  have l1:=a4d (off:=0) hx (d5z ho)
  have q0:ltB (i:Int) (L.length:Int)=true:=by simp [ltB]; exact hi
  have q2:=a2h (i:=i) (by omega)
  have htk:(L.take (i+1)).map atomR=(L.take i).map atomR++[atomR o]:=by
   rw [X1,ho,Qk]; rfl
  have hl:((L.take i).map atomR).length<=100000:=by rw [Qf,QE]; omega
  unfold gpE
  rw [htk]
  generalize (L.take i).map atomR=R at *
  have hap:∀ (ii:List Int) (k:PT),(PT.appM (.va 1) (.va 2) 9 26 k).ev (a0e Tab q) { i:=ii,b:=[],v:=[x,gS σ.length R,.sl 9 [atomR o]],m:=σ++gO R,k:=σ.length }=k.ev (a0e Tab q) { i:=ii,b:=[],v:=[x,gS σ.length R,.sl 9 [atomR o],gS σ.length (R++[atomR o])],m:=σ++gO (R++[atomR o]),k:=σ.length }:=fun ii k=>e1T rfl rfl hl rfl
  have ho1:=fun R=>(e1u (σ:=σ) (R:=R)).2.2
  rw [Sys.loop,show flatten_group_S.loops[0]?=some d5p from rfl,Q0]
  have key:d5p.ev (a0e Tab q) { i:=[(L.length:Int),(i:Int)],b:=[],v:=[x,gS σ.length R],m:=σ++gO R,k:=σ.length }=some (.jump 0 { i:=[(L.length:Int),((i+1:Nat):Int)],b:=[],v:=[x,gS σ.length (R++[atomR o])],m:=σ++gO (R++[atomR o]),k:=σ.length }):=by
   generalize a0e Tab q=Φ at *
   obtain ⟨p,⟨w0,w1,w2,w3,w4,w5⟩,v⟩:=o
   simp only [Of.pv] at l1
   simp only [atomR] at hap ⊢
   unfold d5p
   simp -implicitDefEqProofs only [a0C,a0D,a0p,a0q,a1x,Qu,Qv,Qw,Qy,Qz,QA,Q6,Qt,Q7,↓reduceIte,eq_self,ξ2,ξ3,ξ4,ξ5,ξ6,ξ7,ξ8,ξ9,ξa,ξb,ξc,ξd,ξe,ξf,ξg,ξh,Nat.reduceAdd,ξi,if_true,if_false,ξl,ξm,ξn,ξo,ξp,ξq,ξr,ξs,ξt,ξu,ξv,ξw,ξx,ξy,ξz,ξA,ξB,ξC,ξD,ξE,x1,x2,x3,q0,le0,l1]
   simp -implicitDefEqProofs only [Nat.reduceAdd,d6O,if_true,hap]
   repeat (first | rw [a0B] | rw [a0A] | rw [a0D] | rw [a0p] | rw [a0q] | rw [a0m] | rw [a0M] | rw [a3f] | rw [a0C] | rw [a0y] | rw [a0r] | rw [a0N])<;>simp -implicitDefEqProofs only [↓reduceIte,eq_self,ξ2,ξ3,ξ4,ξ5,ξ6,ξ7,ξ8,ξ9,ξa,ξb,ξc,ξd,ξe,ξf,ξg,ξh,Nat.reduceAdd,ξi,if_true,if_false,ξl,ξm,ξn,ξo,ξp,ξq,ξr,ξs,ξt,ξu,ξv,ξw,ξx,ξy,ξz,ξA,ξB,ξC,ξD,ξE,x3,ho1,q2,a0v,d6O]
  rw [key]
  rfl
 have h0:=d5C (gpE σ L x) step q (by omega)
 rw [a0e,e0U]
 simp only [Q0,Sys.run]
 show ((a0i [.sh (.one _)] _).bind _)=_
 simp only [a0i,a0d,a0c,Q2,Q0,Q3,Q4,Q5,if_true,x3]
 show (PT.ev _ d5s _).bind _=_
 have hE0:gpE σ L x 0={ i:=[(L.length:Int),((0:Nat):Int)],b:=[],v:=[x,.nilS],m:=σ,k:=σ.length }:=by simp [gpE,gS,gO]
 refine Eq.trans (b:=flatten_group_S.loop (a0e Tab q) q 0 (gpE σ L x 0)) ?_ ?_
 ·rw [hE0]
  simp -implicitDefEqProofs only [d5s,↓reduceIte,eq_self,ξ1,ξ2,ξ3,ξ4,ξ5,ξ6,ξ7,ξ8,ξ9,ξa,ξb,ξc,ξd,ξe,ξf,ξg,ξh,Nat.reduceAdd,ξi,if_true,if_false,ξl,ξm,ξn,ξo,ξp,ξq,ξr,ξs,ξt,ξu,ξv,ξw,ξx,ξy,ξz,ξA,ξB,ξC,ξD,ξE,x1,x2]
  rfl
 rw [h0]
 obtain ⟨fu,hfu⟩:∃ k,q-L.length=k+1:=⟨q-L.length-1,by omega⟩
 have q0:ltB (L.length:Int) (L.length:Int)=false:=by simp [ltB]
 rw [hfu,Sys.loop,show flatten_group_S.loops[0]?=some d5p from rfl,Q0]
 have hEn:gpE σ L x L.length={ i:=[(L.length:Int),(L.length:Int)],b:=[],v:=[x,gS σ.length (L.map atomR)],m:=σ++gO (L.map atomR),k:=σ.length }:=by unfold gpE; rw [X2]
 rw [hEn]
 cases L with
 | nil=>exact absurd rfl hne
 | cons o L =>
  cases L with
  | nil =>
   have q1:eqB ((([o]:List Of).length:Nat):Int) 1=true:=rfl
   have hr:∀ ρ:PEnv,ρ.m=σ++gO ([o].map atomR)->ρ.k=σ.length->a0k ρ false (.agg (atomR o))=some (.agg (atomR o),σ):=fun ρ h1 h2=>e0T hlow h1 (by simp [gO]) h2 rfl
   have hget:(σ++gO ([o].map atomR))[σ.length]?=some (.row [atomR o] 9 26):=b5O _ _ _
   have l0:a3N 0 9 0 (gS σ.length ([o].map atomR))=some (.elt σ.length 1 0 9 0):=rfl
   have hln:(gS σ.length ([o].map atomR)).len=1:=rfl
   have q3:ltB 0 1=true:=rfl
   have hrd:∀ ρ:PEnv,ρ.m=σ++gO ([o].map atomR)->a0b ρ false 9 (.elt σ.length 1 0 9 0)=some (atomR o):=fun ρ hρ=>e1t (rows:=[atomR o]) (by rw [hρ]; exact hget) rfl rfl
   have key:d5p.ev (a0e Tab q) { i:=[(([o]:List Of).length:Int),(([o]:List Of).length:Int)],b:=[],v:=[x,gS σ.length ([o].map atomR)],m:=σ++gO ([o].map atomR),k:=σ.length }=some (.ret (.agg (atomR o)) σ):=by
    obtain ⟨p,⟨w0,w1,w2,w3,w4,w5⟩,v⟩:=o
    unfold d5p
    simp -implicitDefEqProofs only [a0D,a0p,a0q,BE.safe,BE.pe,IE.pe,PEnv.at,Qn,Qp,if_true,Q8,if_false,q0,q1,q3,x1,x2,hln,le0,Q9,a0g,Qq,QU,Q0,l0,Q7,Q6,Nat.reduceAdd]
    rw [hrd _ rfl]
    simp only [atomR] at hr ⊢
    simp -implicitDefEqProofs only [↓reduceIte,eq_self,ξ2,ξ3,ξ4,ξ5,ξ6,ξ7,ξ8,ξ9,ξa,ξb,ξc,ξd,ξe,ξf,ξg,ξh,Nat.reduceAdd,ξi,if_true,if_false,ξl,ξm,ξn,ξo,ξp,ξq,ξr,ξs,ξt,ξu,ξv,ξw,ξx,ξy,ξz,ξA,ξB,ξC,ξD,ξE,PV.one,a0N]
    rw [hr _ rfl rfl]
    rfl
   exact (congrArg (fun r=>Qe r _) key)
  | cons o2 L =>
   have q1:eqB (((o::o2::L).length:Nat):Int) 1=false:=eqF (by simp only [Q7]; omega)
   have hr:∀ ρ:PEnv,ρ.m=σ++gO ((o::o2::L).map atomR)->ρ.k=σ.length->a0k ρ false (.agg (e0r (gS σ.length ((o::o2::L).map atomR))))=some (.agg (e0r (.sl 9 ((o::o2::L).map atomR))),σ):=fun ρ h1 h2=>by
    refine e0T hlow h1 (by simp [gO]) h2 ?_
    have hlk:=e1F (y:=atomR o) (R:=(o2::L).map atomR) h1 h2 (e0M _ (o::o2::L)) (e1D (o::o2::L))
    simp only [e0r,gS,Qd,PV.frz,PV.frzs,Nat.lt_irrefl,if_false] at hlk ⊢
    rw [hlk]
    simp only [Q0,MO.elts,and_self,if_true,Q2]
   have hg2:groupR (o::o2::L)=e0r (.sl 9 ((o::o2::L).map atomR)):=rfl
   rw [hg2]
   generalize gS σ.length ((o::o2::L).map atomR)=V at *
   generalize (o::o2::L).map atomR=RR at *
   have key:d5p.ev (a0e Tab q) { i:=[((o::o2::L).length:Int),((o::o2::L).length:Int)],b:=[],v:=[x,V],m:=σ++gO RR,k:=σ.length }=some (.ret (.agg (e0r (.sl 9 RR))) σ):=by
    generalize ((o::o2::L).length:Int)=ll at *
    unfold d5p
    unfold e0r at *
    simp -implicitDefEqProofs only [↓reduceIte,eq_self,ξ1,ξ2,ξ3,ξ4,ξ5,ξ6,ξ7,ξ8,ξ9,ξa,ξb,ξc,ξd,ξe,ξf,ξg,ξh,Nat.reduceAdd,ξi,if_true,if_false,ξl,ξm,ξn,ξo,ξp,ξq,ξr,ξs,ξt,ξu,ξv,ξw,ξx,ξy,ξz,ξA,ξB,ξC,ξD,ξE,q0,q1,x1,x2,hr]
   exact (congrArg (fun r=>Qe r _) key)
end
end Go.Proofs.Ythmkfeiapdbojaa
set_option maxRecDepth 100000
namespace Go.Proofs.Ythmkfeiapdbojaa
open Go.Sx Go.Kv Go.Bun
def a6t (L:List Of) (j:Nat):List Of:=(L.take (8*j+8)).drop (8*j)
def e0u (L:List Of):List (List Of):=(QH ((L.length+7) / 8)).map (a6t L)
def toX (L:List Of):Ex:=if L.length<=8 then e0s L else e0q ((e0u L).map e0s)
def toR (L:List Of):List PV:=if L.length<=8 then groupR L else e0r (.sl 9 ((e0u L).map groupR))
def e1f:PV:=.agg [.int .i64 0,.int .i64 0,.int .i64 0,.int .i64 0,.int .i64 0,.int .i64 0,.int .i64 0,.int .i64 0,.nilS]
def toV (L:List Of):PV:=if L.length=0 then .tup [e1f,.int .i64 1] else if 64 < L.length then .tup [e1f,.int .i64 3] else if chk (toX L)≠0 then .tup [e1f,.int .i64 (chk (toX L))] else .tup [.agg (toR L),.int .i64 0]
theorem e0O (L:List Of) {j:Nat} (hj:8*j < L.length):1<=(a6t L j).length/\(a6t L j).length<=8:=by
 unfold a6t
 rw [QJ,QE]
 omega
theorem e1G (L:List Of):IsE (toX L) (toR L):=by
 unfold toX toR
 split
 ·exact e0G L
 ·exact e1z (e0K _ fun c _=>e0G c)
theorem e1L (k:Nat) (L:List Of):PV.lows k (groupR L)=true:=by
 unfold groupR
 split
 ·rfl
 ·simp only [e0r,PV.lows,PV.low,e0M,Q9]
theorem e1O (L:List Of):(groupR L).all PV.one=true:=by
 unfold groupR
 split<;>rfl
theorem e1e (k:Nat):∀ C:List (List Of),PV.lowss k (C.map groupR)=true
 | []=>rfl
 | c::C=>by simp only [Qd,PV.lowss,e1L,e1e k C,Q9]
theorem e1B (C:List (List Of)):∀ r∈C.map groupR,r.all PV.one=true:=by
 intro r hr
 obtain ⟨o,_,rfl⟩:=Q1.1 hr
 exact e1O o
theorem e1g:∀ L:List Of,a2a (L.map e0w)=L.length
 | []=>rfl
 | o::L=>by simp only [Qd,a2a,e1g L,Q7,e0w,Ex.size]; omega
theorem e0H (L:List Of):(e0s L).size<=L.length+1:=by
 unfold e0s
 split
 ·simp [e0w,Ex.size,a2a]
 ·show a2a _+1<=_
  rw [e1g]; omega
theorem e0V:∀ C:List (List Of),(∀ c∈C,c.length<=8)->a2a (C.map e0s)<=9*C.length
 | [],_=>by simp [a2a]
 | c::C,h=>by
  have h1:=e0H c
  have h2:=h c (by simp)
  have h3:=e0V C fun c hc=>h c (by simp [hc])
  simp only [Qd,a2a,Q7]; omega
theorem e0W (L:List Of):∃ a b c d e f g v y,groupR L=[.int .i64 a,.int .i64 b,.int .i64 c,.int .i64 d,.int .i64 e,.int .i64 f,.int .i64 g,.int .i64 v,y]/\y.one=true:=e0S (e0G L)
section
variable {σ:List MO} {L:List Of} {x:PV}
def chR (L:List Of) (j:Nat):List (List PV):=((QH j).map (a6t L)).map groupR
theorem e1Q (j:Nat):chR L (j+1)=chR L j++[groupR (a6t L j)]:=by
 unfold chR; rw [X3,Qk,Qk]; rfl
theorem e1A (j:Nat):(chR L j).length=j:=by simp [chR]
theorem e1m (k j:Nat):PV.lowss k (chR L j)=true:=e1e k _
theorem e1l (j:Nat):∀ r∈chR L j,r.all PV.one=true:=e1B _
def teE (σ:List MO) (L:List Of) (x:PV) (j:Nat):PEnv:={ i:=[((8*j:Nat):Int)],b:=[],v:=[x,gS σ.length (chR L j)],m:=σ++gO (chR L j),k:=σ.length }
theorem e1U (hx:d5w L x) (hL:L.length<=64) (hlow:σ.all (MO.low σ.length)=true) (q:Nat) (hq:100<=q) {j:Nat} (hj:8*j < L.length):d5c.ev (a0e Tab q) (teE σ L x j)=some (.jump 0 (teE σ L x (j+1))):=by
 obtain ⟨x1,x2,x3⟩:=d5h hx
 have hcl:=e0O L hj
 have hgr:=e1s (L:=a6t L j) (σ:=σ++gO (chR L j)) (x:=.sl 8 (osR (a6t L j))) (by simp [d5w,PV.rowsOf]) (by omega) (by intro h; rw [h] at hcl; simp at hcl) (e1M hlow (fun k=>e1m k j) (e1l j)) q (by omega)
 have hcut:((osR L).take (min ((L.length:Nat):Int) ((8*j:Nat)+8:Int)).toNat).drop (8*j)=osR (a6t L j):=by
  unfold osR a6t
  rw [List.map_drop,List.map_take]
  congr 1
  by_cases h:8*j+8<=L.length
  ·rw [show (min ((L.length:Nat):Int) ((8*j:Nat)+8:Int)).toNat=8*j+8 by omega]
  ·rw [Qh (by rw [Qf]; omega),Qh (by rw [Qf]; omega)]
 have hmn:mnI ((L.length:Nat):Int) ((8*j:Nat)+8:Int)=min ((L.length:Nat):Int) ((8*j:Nat)+8:Int):=by unfold mnI; split<;>omega
 have hlo:(((8*j:Nat):Int)).toNat=8*j:=QK _
 have hcnd:0<=((8*j:Nat):Int)/\((8*j:Nat):Int)<=min ((L.length:Nat):Int) ((8*j:Nat)+8:Int)/\min ((L.length:Nat):Int) ((8*j:Nat)+8:Int)<=((osR L).length:Nat):=by
  rw [d5U]; omega
 have q0:ltB ((8*j:Nat):Int) (L.length:Int)=true:=by simp [ltB]; omega
 have q2:(leB (-9223372036854775808) (((8*j:Nat):Int)+8)&&leB (((8*j:Nat):Int)+8) 9223372036854775807)=true:=a0u (by omega)
 have hnx:((8*(j+1):Nat):Int)=((8*j:Nat):Int)+8:=by omega
 have hl:(chR L j).length<=100000:=by rw [e1A]; omega
 have hap:∀ (n3 n4:Nat) (v:List PV) (ii:List Int) (k:PT),v[n3]?=some (gS σ.length (chR L j))->v[n4]?=some (.sl 9 [groupR (a6t L j)])->(PT.appM (.va n3) (.va n4) 9 26 k).ev (a0e Tab q) { i:=ii,b:=[],v:=v,m:=σ++gO (chR L j),k:=σ.length }=k.ev (a0e Tab q) { i:=ii,b:=[],v:=v++[gS σ.length (chR L (j+1))],m:=σ++gO (chR L (j+1)),k:=σ.length }:=fun n3 n4 v ii k h3 h4=>by
  rw [e1Q]; exact e1T h3 h4 hl rfl
 have ho1:=fun R=>(e1u (σ:=σ) (R:=R)).2.2
 unfold teE
 rw [hnx]
 obtain ⟨a,b,c,d,e,f,g,v,y,hG,hy⟩:=e0W (a6t L j)
 rw [hG] at hgr hap
 have hrw:(PV.sl 8 (osR (a6t L j))).one=true:=rfl
 generalize a0e Tab q=Φ at *
 have b2:d4c.ev Φ { i:=[((8*j:Nat):Int),a,b,c,d,e,f,g,v],b:=[],v:=[x,gS σ.length (chR L j),.sl 8 (osR (a6t L j)),y],m:=σ++gO (chR L j),k:=σ.length }=some (.jump 0 { i:=[((8*j:Nat):Int)+8],b:=[],v:=[x,gS σ.length (chR L (j+1))],m:=σ++gO (chR L (j+1)),k:=σ.length }):=by
  unfold d4c
  simp -implicitDefEqProofs only [a0C,a1x,Qu,Qv,Qw,Qy,Qz,QA,Q6,Qt,Q7,↓reduceIte,eq_self,ξ2,ξ3,ξ4,ξ5,ξ6,ξ7,ξ8,ξ9,ξa,ξb,ξc,ξd,ξe,ξf,ξg,ξh,Nat.reduceAdd,ξi,if_true,if_false,ξl,ξm,ξn,ξo,ξp,ξq,ξr,ξs,ξt,ξu,ξv,ξw,ξx,ξy,ξz,ξA,ξB,ξC,ξD,ξE]
  simp -implicitDefEqProofs only [Nat.reduceAdd,d6O,if_true]
  rw [hap 1 4 _ _ _ rfl rfl]
  repeat (first | rw [a0B] | rw [a0A] | rw [a0D] | rw [a0p] | rw [a0q] | rw [a0m] | rw [a0M] | rw [a3f] | rw [a0C] | rw [a0y] | rw [a0r] | rw [a0N])<;>simp -implicitDefEqProofs only [↓reduceIte,eq_self,ξ2,ξ3,ξ4,ξ5,ξ6,ξ7,ξ8,ξ9,ξa,ξb,ξc,ξd,ξe,ξf,ξg,ξh,Nat.reduceAdd,ξi,if_true,if_false,ξl,ξm,ξn,ξo,ξp,ξq,ξr,ξs,ξt,ξu,ξv,ξw,ξx,ξy,ξz,ξA,ξB,ξC,ξD,ξE,x3,ho1,q2]
 have b1:d4K.ev Φ { i:=[((8*j:Nat):Int)],b:=[],v:=[x,gS σ.length (chR L j),.sl 8 (osR (a6t L j))],m:=σ++gO (chR L j),k:=σ.length }=some (.jump 0 { i:=[((8*j:Nat):Int)+8],b:=[],v:=[x,gS σ.length (chR L (j+1))],m:=σ++gO (chR L (j+1)),k:=σ.length }):=by
  refine Eq.trans ?_ b2
  unfold d4K d4c
  simp -implicitDefEqProofs only [a0A,↓reduceIte,eq_self,ξ2,ξ3,ξ4,ξ5,ξ6,ξ7,ξ8,ξ9,ξa,ξb,ξc,ξd,ξe,ξf,ξg,ξh,Nat.reduceAdd,ξi,if_true,if_false,ξl,ξm,ξn,ξo,ξp,ξq,ξr,ξs,ξt,ξu,ξv,ξw,ξx,ξy,ξz,ξA,ξB,ξC,ξD,ξE,hgr,hy,hrw]
 have b3:d4C.ev Φ { i:=[((8*j:Nat):Int)],b:=[],v:=[x,gS σ.length (chR L j),.sl 8 (osR (a6t L j))],m:=σ++gO (chR L j),k:=σ.length }=some (.jump 0 { i:=[((8*j:Nat):Int)+8],b:=[],v:=[x,gS σ.length (chR L (j+1))],m:=σ++gO (chR L (j+1)),k:=σ.length }):=by
  refine Eq.trans ?_ (c3o b2 b2)
  unfold d4C
  simp -implicitDefEqProofs only [a0A,↓reduceIte,eq_self,ξ2,ξ3,ξ4,ξ5,ξ6,ξ7,ξ8,ξ9,ξa,ξb,ξc,ξd,ξe,ξf,ξg,ξh,Nat.reduceAdd,ξi,if_true,if_false,ξl,ξm,ξn,ξo,ξp,ξq,ξr,ξs,ξt,ξu,ξv,ξw,ξx,ξy,ξz,ξA,ξB,ξC,ξD,ξE,hgr,hy,hrw]
 have b4:=c3o b1 b3
 unfold d5c
 simp -implicitDefEqProofs only [a0D,a0p,a1d,a3q,a3t,↓reduceIte,eq_self,ξ2,ξ3,ξ4,ξ5,ξ6,ξ7,ξ8,ξ9,ξa,ξb,ξc,ξd,ξe,ξf,ξg,ξh,Nat.reduceAdd,ξi,if_true,if_false,ξl,ξm,ξn,ξo,ξp,ξq,ξr,ξs,ξt,ξu,ξv,ξw,ξx,ξy,ξz,ξA,ξB,ξC,ξD,ξE,x1,x2,q0,q2]
 rw [show x.rowsOf 8=some (osR L) from hx]
 simp -implicitDefEqProofs only [Q0,↓reduceIte,eq_self,ξ2,ξ3,ξ4,ξ5,ξ6,ξ7,ξ8,ξ9,ξa,ξb,ξc,ξd,ξe,ξf,ξg,ξh,Nat.reduceAdd,ξi,if_true,if_false,ξl,ξm,ξn,ξo,ξp,ξq,ξr,ξs,ξt,ξu,ξv,ξw,ξx,ξy,ξz,ξA,ξB,ξC,ξD,ξE,x1,hmn,if_pos hcnd,hlo,hcut,b4]
end
end Go.Proofs.Ythmkfeiapdbojaa
set_option maxRecDepth 100000
namespace Go.Proofs.Ythmkfeiapdbojaa
open Go.Sx Go.Kv Go.Bun
section
variable {σ:List MO} {L:List Of} {x:PV}
theorem e1J (hx:d5w L x) (hL:L.length<=1000000) (hlow:σ.all (MO.low σ.length)=true) (n:Nat) (hn:2000<=n):a0e Tab n 39 [x] σ=some (toV L,σ):=by
 obtain ⟨q,rfl⟩:∃ q,n=q+1:=⟨n-1,by omega⟩
 obtain ⟨x1,x2,x3⟩:=d5h hx
 rw [a0e,e0P]
 simp only [Q0,Sys.run]
 show ((a0i [.sh (.one _)] _).bind _)=_
 simp only [a0i,a0d,a0c,Q2,Q0,Q3,Q4,Q5,if_true,x3]
 show (PT.ev _ d5f _).bind _=_
 unfold toV e1f
 by_cases h0:L.length=0
 ·have q0:eqB (L.length:Int) 0=true:=by rw [h0]; rfl
  rw [if_pos h0]
  simp -implicitDefEqProofs only [d5f,↓reduceIte,eq_self,ξ1,ξ2,ξ3,ξ4,ξ5,ξ6,ξ7,ξ8,ξ9,ξa,ξb,ξc,ξd,ξe,ξf,ξg,ξh,Nat.reduceAdd,ξi,if_true,if_false,ξl,ξm,ξn,ξo,ξp,ξq,ξr,ξs,ξt,ξu,ξv,ξw,ξx,ξy,ξz,ξA,ξB,ξC,ξD,ξE,x1,x2,q0,a0k,or_true]
 have q0:eqB (L.length:Int) 0=false:=eqF (by omega)
 rw [if_neg h0]
 by_cases h64:64 < L.length
 ·have q1:ltB 64 (L.length:Int)=true:=by simp [ltB]; omega
  rw [if_pos h64]
  simp -implicitDefEqProofs only [d5f,↓reduceIte,eq_self,ξ1,ξ2,ξ3,ξ4,ξ5,ξ6,ξ7,ξ8,ξ9,ξa,ξb,ξc,ξd,ξe,ξf,ξg,ξh,Nat.reduceAdd,ξi,if_true,if_false,ξl,ξm,ξn,ξo,ξp,ξq,ξr,ξs,ξt,ξu,ξv,ξw,ξx,ξy,ξz,ξA,ξB,ξC,ξD,ξE,x1,x2,q0,q1,a0k,or_true]
 have q1:ltB 64 (L.length:Int)=false:=by simp [ltB]; omega
 rw [if_neg h64]
 by_cases h8:L.length<=8
 ·have q2:leB (L.length:Int) 8=true:=by simp [leB]; omega
  have hg:=e1s (σ:=σ) hx (by omega) (by intro h; rw [h] at h0; exact h0 rfl) hlow q (by omega)
  have hgs:=e0H L
  have hck:=b9C σ hlow (e0s L) (groupR L) (e0G L) q (by omega) (by omega)
  have ht:toX L=e0s L:=by unfold toX; rw [if_pos h8]
  have htr:toR L=groupR L:=by unfold toR; rw [if_pos h8]
  rw [ht,htr]
  obtain ⟨a,b,c,d,e,f,g,v,y,hG,hy⟩:=e0W L
  rw [hG] at hg hck ⊢
  simp only [c2f] at hck
  generalize chk (e0s L)=ck at *
  generalize a0e Tab q=Φ at *
  by_cases hc:ck=0
  ·have q3:eqB ck 0=true:=by rw [hc]; rfl
   rw [if_neg (by simp [hc])]
   have key:d5f.ev Φ { i:=[],b:=[],v:=[x],m:=σ,k:=σ.length }=some (.ret (.tup [.agg [.int .i64 a,.int .i64 b,.int .i64 c,.int .i64 d,.int .i64 e,.int .i64 f,.int .i64 g,.int .i64 v,y],.int .i64 0]) σ):=by
    unfold d5f
    simp -implicitDefEqProofs only [↓reduceIte,eq_self,ξ1,ξ2,ξ3,ξ4,ξ5,ξ6,ξ7,ξ8,ξ9,ξa,ξb,ξc,ξd,ξe,ξf,ξg,ξh,Nat.reduceAdd,ξi,if_true,if_false,ξl,ξm,ξn,ξo,ξp,ξq,ξr,ξs,ξt,ξu,ξv,ξw,ξx,ξy,ξz,ξA,ξB,ξC,ξD,ξE,x1,x2,q0,q1,q2,hg,hy,hck,q3,a0k,or_true]
   exact (congrArg (fun r=>Qe r _) key)
  ·have q3:eqB ck 0=false:=eqF hc
   rw [if_pos hc]
   have key:d5f.ev Φ { i:=[],b:=[],v:=[x],m:=σ,k:=σ.length }=some (.ret (.tup [.agg [.int .i64 0,.int .i64 0,.int .i64 0,.int .i64 0,.int .i64 0,.int .i64 0,.int .i64 0,.int .i64 0,.nilS],.int .i64 ck]) σ):=by
    unfold d5f
    simp -implicitDefEqProofs only [↓reduceIte,eq_self,ξ1,ξ2,ξ3,ξ4,ξ5,ξ6,ξ7,ξ8,ξ9,ξa,ξb,ξc,ξd,ξe,ξf,ξg,ξh,Nat.reduceAdd,ξi,if_true,if_false,ξl,ξm,ξn,ξo,ξp,ξq,ξr,ξs,ξt,ξu,ξv,ξw,ξx,ξy,ξz,ξA,ξB,ξC,ξD,ξE,x1,x2,q0,q1,q2,hg,hy,hck,q3,a0k,or_true]
   exact (congrArg (fun r=>Qe r _) key)
 have q2:leB (L.length:Int) 8=false:=by simp [leB]; omega
 have ht:toX L=e0q ((e0u L).map e0s):=by unfold toX; rw [if_neg h8]
 have htr:toR L=e0r (.sl 9 ((e0u L).map groupR)):=by unfold toR; rw [if_neg h8]
 rw [ht,htr]
 have hstart:d5f.ev (a0e Tab q) { i:=[],b:=[],v:=[x],m:=σ,k:=σ.length }=some (.jump 0 (teE σ L x 0)):=by
  have:teE σ L x 0={ i:=[((0:Nat):Int)],b:=[],v:=[x,.nilS],m:=σ,k:=σ.length }:=by simp [teE,chR,gS,gO]
  rw [this]
  simp -implicitDefEqProofs only [d5f,↓reduceIte,eq_self,ξ1,ξ2,ξ3,ξ4,ξ5,ξ6,ξ7,ξ8,ξ9,ξa,ξb,ξc,ξd,ξe,ξf,ξg,ξh,Nat.reduceAdd,ξi,if_true,if_false,ξl,ξm,ξn,ξo,ξp,ξq,ξr,ξs,ξt,ξu,ξv,ξw,ξx,ξy,ξz,ξA,ξB,ξC,ξD,ξE,x1,x2,q0,q1,q2]
  rfl
 rw [hstart]
 simp only [Q0]
 obtain ⟨N,hN⟩:∃ N,N=(L.length+7) / 8:=⟨_,rfl⟩
 have hloop:flatten_ToExpr_S.loop (a0e Tab q) q 0 (teE σ L x 0)=flatten_ToExpr_S.loop (a0e Tab q) (q-N) 0 (teE σ L x N):=by
  have key:∀ d j,j+d=N->∀ fuel,flatten_ToExpr_S.loop (a0e Tab q) (fuel+d) 0 (teE σ L x j)=flatten_ToExpr_S.loop (a0e Tab q) fuel 0 (teE σ L x N):=by
   intro d
   induction d with
   | zero =>
    intro j hj fuel
    obtain rfl:j=N:=by omega
    rfl
   | succ d ih =>
    intro j hj fuel
    have hs:=e1U hx (by omega) hlow q (by omega) (j:=j) (by omega)
    rw [show fuel+(d+1)=(fuel+d)+1 by omega,Sys.loop,show flatten_ToExpr_S.loops[0]?=some d5c from rfl,Q0,hs]
    exact ih (j+1) (by omega) fuel
  have:=key N 0 (by omega) (q-N)
  rwa [show q-N+N=q by omega] at this
 have hch:e0u L=(QH N).map (a6t L):=by unfold e0u; rw [hN]
 have hrows:(e0u L).map groupR=chR L N:=by rw [hch]; rfl
 have hcl8:∀ c∈e0u L,c.length<=8:=by
  intro c hc
  rw [hch] at hc
  obtain ⟨j,hj,rfl⟩:=Q1.1 hc
  have:=QN.1 hj
  exact (e0O L (by omega)).2
 have hsz:=e0V (e0u L) hcl8
 have hcln:(e0u L).length=N:=by rw [hch]; simp
 have hEs:a1k ((e0u L).map e0s) (chR L N):=by rw [<- hrows]; exact e0K _ fun c _=>e0G c
 have hN2:2<=N/\N<=8:=by omega
 have hlenR:=e1A (L:=L) N
 obtain ⟨y,R,hR⟩:∃ y R,chR L N=y::R:=by
  cases h:chR L N with
  | nil=>rw [h] at hlenR; simp at hlenR; omega
  | cons y R=>exact ⟨y,R,rfl⟩
 have hlw:=e1M (σ:=σ) hlow (fun k=>e1m (L:=L) k N) (e1l (L:=L) N)
 have hm:(σ++gO (chR L N))[σ.length]?=some (.row (chR L N) 9 26):=by rw [hR]; exact b5O _ _ _
 have hck:=e1X (h:=σ.length) hm hlw hEs q (by omega) (by omega)
 have hgS:gS σ.length (chR L N)=.rsl σ.length (chR L N).length 9:=by rw [hR]; rfl
 refine Eq.trans hloop ?_
 obtain ⟨fu,hfu⟩:∃ k,q-N=k+1:=⟨q-N-1,by omega⟩
 have q5:ltB ((8*N:Nat):Int) (L.length:Int)=false:=by simp [ltB]; omega
 rw [hfu,Sys.loop,show flatten_ToExpr_S.loops[0]?=some d5c from rfl,Q0,hrows]
 have hz:∀ (ρ:PEnv) (z:Int),ρ.m=σ++gO (chR L N)->ρ.k=σ.length->a0k ρ false (.tup [.agg [.int .i64 0,.int .i64 0,.int .i64 0,.int .i64 0,.int .i64 0,.int .i64 0,.int .i64 0,.int .i64 0,.nilS],.int .i64 z])=some (.tup [.agg [.int .i64 0,.int .i64 0,.int .i64 0,.int .i64 0,.int .i64 0,.int .i64 0,.int .i64 0,.int .i64 0,.nilS],.int .i64 z],σ) :=
  fun ρ z h1 h2=>e0T hlow h1 (by rw [hR]; simp [gO]) h2 rfl
 have hok:∀ ρ:PEnv,ρ.m=σ++gO (chR L N)->ρ.k=σ.length->a0k ρ false (.tup [.agg (e0r (gS σ.length (chR L N))),.int .i64 0])=some (.tup [.agg (e0r (.sl 9 (chR L N))),.int .i64 0],σ):=fun ρ h1 h2=>by
  refine e0T hlow h1 (by rw [hR]; simp [gO]) h2 ?_
  have hlo:=e1m (L:=L) σ.length N
  have hon:=e1l (L:=L) N
  rw [hR] at h1 hlo hon ⊢
  have hlk:=e1F h1 h2 hlo hon
  simp only [e0r,gS,PV.frz,PV.frzs,Nat.lt_irrefl,if_false,hlk,Q0,MO.elts,and_self,if_true,Q2]
 have hone:=(e1u (σ:=σ) (R:=chR L N)).2.2
 unfold teE
 rw [<- hgS] at hck
 generalize chk (e0q ((e0u L).map e0s))=ck at *
 generalize gS σ.length (chR L N)=V at *
 generalize σ++gO (chR L N)=m at *
 generalize a0e Tab q=Φ at *
 unfold e0r at *
 by_cases hc:ck=0
 ·have q3:eqB ck 0=true:=by rw [hc]; rfl
  rw [if_neg (by simp [hc])]
  simp -implicitDefEqProofs only [d5c,↓reduceIte,eq_self,ξ1,ξ2,ξ3,ξ4,ξ5,ξ6,ξ7,ξ8,ξ9,ξa,ξb,ξc,ξd,ξe,ξf,ξg,ξh,Nat.reduceAdd,ξi,if_true,if_false,ξl,ξm,ξn,ξo,ξp,ξq,ξr,ξs,ξt,ξu,ξv,ξw,ξx,ξy,ξz,ξA,ξB,ξC,ξD,ξE,x1,x2,q5,hck,hone,q3,hok]
 ·have q3:eqB ck 0=false:=eqF hc
  rw [if_pos hc]
  simp -implicitDefEqProofs only [d5c,↓reduceIte,eq_self,ξ1,ξ2,ξ3,ξ4,ξ5,ξ6,ξ7,ξ8,ξ9,ξa,ξb,ξc,ξd,ξe,ξf,ξg,ξh,Nat.reduceAdd,ξi,if_true,if_false,ξl,ξm,ξn,ξo,ξp,ξq,ξr,ξs,ξt,ξu,ξv,ξw,ξx,ξy,ξz,ξA,ξB,ξC,ξD,ξE,x1,x2,q5,hck,hone,q3,hz]
end
end Go.Proofs.Ythmkfeiapdbojaa
set_option maxRecDepth 100000
namespace Go.Proofs.Ythmkfeiapdbojaa
open Go.Sx Go.Kv Go.Bun
def e0E (o:Of):Prop:=1<=o.v/\o.v<=1000000/\o.w.Ok/\o.w≠Bd.zero
theorem e1r {y:Ex}:∀ {l:List Ex},y∈a4g l->∃ x∈l,y∈x.pre
 | [],h=>by simp [a4g] at h
 | e::l,h=>by
  simp only [a4g,List.mem_append] at h
  rcases h with h | h
  ·exact ⟨e,by simp,h⟩
  ·obtain ⟨x,hx,hy⟩:=e1r h
   exact ⟨x,by simp [hx],hy⟩
theorem e1w {l:List Ex} {y:Ex} (h:y∈(e0q l).pre):y=e0q l\/∃ x∈l,y∈x.pre:=by
 simp only [e0q,Ex.pre,QP] at h
 rcases h with h | h
 ·exact .inl h
 ·exact .inr (e1r h)
theorem e1I {l:List Ex} (h1:1<=l.length) (h2:l.length<=8):a2K (e0q l)=0:=by
 have hp:b2K 2 0 0 0 0 0 0 0 (l.length:Int):=by unfold b2K; omega
 have hf:(e0q l).form=true:=decide_eq_true hp
 unfold a2K
 rw [hf,e1v]; rfl
theorem e1j {o:Of} (h:e0E o):a2K (e0w o)=0:=by
 obtain ⟨h1,h2,h3,h4⟩:=h
 have hf:(e0w o).form=true:=by simp [e0w,Ex.form,b2K]
 have ht:1<=o.w.a+o.w.b+o.w.c+o.w.d+o.w.e+o.w.f:=by
  obtain ⟨p,⟨a,b,c,d,e,f⟩,v⟩:=o
  simp only [Bd.Ok] at h3
  simp only [Bd.zero,ne_eq,Bd.mk.injEq] at h4
  simp only
  omega
 have hr:(e0w o).rng=true:=by
  obtain ⟨p,⟨a,b,c,d,e,f⟩,v⟩:=o
  simp only [Bd.Ok] at h3
  have hp:b3m 1 v ⟨a,b,c,d,e,f⟩:=by
   unfold b3m W6.ok W6.tot
   simp only at h1 h2 ht ⊢
   omega
  exact decide_eq_true hp
 unfold a2K
 rw [hf,hr]; rfl
theorem e1b {o:Of} {y:Ex} (h:y∈(e0w o).pre):y=e0w o:=by simpa [e0w,Ex.pre,a4g] using h
theorem e0Z {L:List Of} (h:∀ o∈L,e0E o) (h1:1<=L.length) (h8:L.length<=8):∀ y∈(e0s L).pre,a2K y=0/\y.len<=8:=by
 intro y hy
 unfold e0s at hy
 split at hy
 ·rename_i o
  rw [e1b hy]
  exact ⟨e1j (h o (by simp)),by simp [e0w,Ex.len]⟩
 ·rcases e1w hy with rfl | ⟨x,hx,hy⟩
  ·exact ⟨e1I (by simpa using h1) (by simpa using h8),by simpa [e0q,Ex.len] using h8⟩
  ·obtain ⟨o,ho,rfl⟩:=Q1.1 hx
   rw [e1b hy]
   exact ⟨e1j (h o ho),by simp [e0w,Ex.len]⟩
theorem e1n:∀ l m:List Ex,a2a (l++m)=a2a l+a2a m
 | [],m=>by simp [a2a]
 | e::l,m=>by simp only [Q5,a2a,e1n l m]; omega
theorem e0X (L:List Of):∀ k,a2a (((QH k).map (a6t L)).map e0s)<=min (8*k) L.length+k
 | 0=>by simp [a2a]
 | k+1=>by
  have ih:=e0X L k
  have h1:=e0H (a6t L k)
  have h2:(a6t L k).length=min (8*k+8) L.length-8*k:=by unfold a6t; rw [QJ,QE]
  rw [X3,Qk,Qk,e1n]
  simp only [Qd,List.map_nil,a2a]
  omega
theorem e1E {L:List Of} {j:Nat} {o:Of} (h:o∈a6t L j):o∈L:=List.mem_of_mem_take (List.mem_of_mem_drop h)
theorem e0I {L:List Of} {o:Of}:(∃ c∈e0u L,o∈c)↔o∈L:=by
 constructor
 ·rintro ⟨c,hc,ho⟩
  obtain ⟨j,_,rfl⟩:=Q1.1 hc
  exact e1E ho
 ·intro h
  obtain ⟨i,hi⟩:=X4.1 h
  have hil:=(Qs.1 hi).1
  refine ⟨a6t L (i / 8),Q1.2 ⟨i / 8,QN.2 (by omega),rfl⟩,X4.2 ⟨i % 8,?_⟩⟩
  unfold a6t
  rw [X5,List.getElem?_take_of_lt (by omega),show 8*(i / 8)+i % 8=i by omega,hi]
theorem e1d {L:List Of} {c:List Of} (h:c∈e0u L):1<=c.length/\c.length<=8:=by
 obtain ⟨j,hj,rfl⟩:=Q1.1 h
 have:=QN.1 hj
 exact e0O L (by omega)
theorem e1N {l:List Ex} (hl:∀ x∈l,okX x=true) {b:Bd} (hb:b.Ok) {c:Int}:vX (e0q l) b.l<=c↔0<=c/\∀ x∈l,vX x b.l<=c:=by
 unfold vX e0q
 simp only [a0z,Int.reduceEq,if_false,if_true]
 rw [a8u,b9n (c5c hb) (.nil _) (fun z hz=>by
  obtain ⟨x,hx,rfl⟩:=Q1.1 hz
  exact a2P a1t x (hl x hx)),a5c]
 simp only [Q1,forall_exists_index,and_imp,forall_apply_eq_imp_iff₂]
theorem e1k {o:Of} (h:e0E o) {b:Bd} (hb:b.Ok) {c:Int}:vX (e0w o) b.l<=c↔0<=c/\(o.w.Le b->o.v<=c):=by
 obtain ⟨h1,h2,h3,h4⟩:=h
 have hm:Go.Kv.mnM o.v=o.v:=by unfold Go.Kv.mnM; split<;>omega
 have hk:a0z a1t (e0w o)=a2I a1t [] o.w.l o.v:=by
  obtain ⟨p,⟨a,b,c,d,e,f⟩,v⟩:=o
  simp only [e0w,a0z,if_true]
  rfl
 unfold vX
 rw [hk,b7c (c0x h3) (c5c hb),hm,a7e]
theorem e1a {L:List Of} (h:∀ o∈L,e0E o) {b:Bd} (hb:b.Ok) {c:Int}:vX (e0s L) b.l<=c↔0<=c/\∀ o∈L,o.w.Le b->o.v<=c:=by
 unfold e0s
 split
 ·rename_i o
  rw [e1k (h o (by simp)) hb]
  simp
 ·rw [e1N (fun x hx=>by
   obtain ⟨o,ho,rfl⟩:=Q1.1 hx
   exact b7P _ fun y hy=>by rw [e1b hy]; exact e1j (h o ho)) hb]
  constructor
  ·rintro ⟨h0,h1⟩
   refine ⟨h0,fun o ho=>((e1k (h o ho) hb).1 (h1 _ (Q1.2 ⟨o,ho,rfl⟩))).2⟩
  ·rintro ⟨h0,h1⟩
   refine ⟨h0,fun x hx=>?_⟩
   obtain ⟨o,ho,rfl⟩:=Q1.1 hx
   exact (e1k (h o ho) hb).2 ⟨h0,h1 o ho⟩
theorem e2b {L:List Of} (h:∀ o∈L,e0E o) {b:Bd} (hb:b.Ok):vX (toX L) b.l=d5B b L:=by
 refine a1O fun c=>?_
 unfold d5B
 rw [e0i]
 unfold toX
 split
 ·exact e1a h hb
 ·have hg:∀ c∈e0u L,∀ o∈c,e0E o:=fun c hc o ho=>h o (e0I.1 ⟨c,hc,ho⟩)
  rw [e1N (fun x hx=>by
   obtain ⟨c,hc,rfl⟩:=Q1.1 hx
   have hcl:=e1d hc
   exact b7P _ fun y hy=>(e0Z (hg c hc) hcl.1 hcl.2 y hy).1) hb]
  constructor
  ·rintro ⟨h0,h1⟩
   refine ⟨h0,fun o ho=>?_⟩
   obtain ⟨c,hc,hoc⟩:=e0I.2 ho
   exact ((e1a (hg c hc) hb).1 (h1 _ (Q1.2 ⟨c,hc,rfl⟩))).2 o hoc
  ·rintro ⟨h0,h1⟩
   refine ⟨h0,fun x hx=>?_⟩
   obtain ⟨c,hc,rfl⟩:=Q1.1 hx
   exact (e1a (hg c hc) hb).2 ⟨h0,fun o ho=>h1 o (e0I.1 ⟨c,hc,ho⟩)⟩
end Go.Proofs.Ythmkfeiapdbojaa
set_option maxRecDepth 100000
namespace Go.Proofs.Ythmkfeiapdbojaa
open Go.Sx Go.Kv Go.Bun
section
variable {e:Ex} {row:List PV} {s:Bd} {t:List Int} {N:Nat}
theorem shE {a b c d e f g v:Int} {y:PV} (hy:y.one=true) (z:Int):a2O [Sh.agg [.int .i64,.int .i64,.int .i64,.int .i64,.int .i64,.int .i64,.int .i64,.int .i64,.val],Sh.one (.int .i64)] [.agg [.int .i64 a,.int .i64 b,.int .i64 c,.int .i64 d,.int .i64 e,.int .i64 f,.int .i64 g,.int .i64 v,y],.int .i64 z]=some ([a,b,c,d,e,f,g,v,z],[],[y]):=by simp [a2O,a0d,a0c,hy]
end
end Go.Proofs.Ythmkfeiapdbojaa
set_option maxRecDepth 100000
namespace Go.Proofs.Ythmkfeiapdbojaa
open Go.Sx Go.Kv Go.Bun
def opX:Ex->Int | .node op _ _ _ _ _ _ _ _=>op
theorem e2Z {s:Bd} (hs:s.Ok):1<=s.prod/\s.prod<=15625:=by
 obtain ⟨p1,p2,p3,p4,p5,p6,_,_,_,_,_,_,b1,b2,b3,b4,b5,b6,hp⟩:=b6S hs
 rw [hp]
 have h1:1<=s.prod:=by
  obtain ⟨a,b,c,d,e,f⟩:=s
  simp only [Bd.Ok] at hs
  simp only [Bd.prod]
  have t1:(1:Int)<=1*(a+1):=by omega
  have mm:∀ x y:Int,1<=x->1<=y->1<=x*y:=fun x y hx hy=>by have:=Int.mul_le_mul hx hy (by omega) (by omega); omega
  first
   | exact mm _ _ (mm _ _ (mm _ _ (mm _ _ (mm _ _ (by omega) (by omega)) (by omega)) (by omega)) (by omega)) (by omega)
   | exact mm _ _ (mm _ _ (mm _ _ (mm _ _ (mm _ _ t1 (by omega)) (by omega)) (by omega)) (by omega)) (by omega)
 rw [hp] at h1
 omega
theorem e2p {h P x:Int} (e:h+1=P):(h*(x+1)+x)+1=P*(x+1):=by rw [<- e,Int.add_mul]; omega
theorem e2U {s:Bd}:s.horner s+1=s.prod:=by
 obtain ⟨a,b,c,d,e,f⟩:=s
 simp only [Bd.horner,Bd.prod]
 first
  | exact e2p (e2p (e2p (e2p (e2p (by omega)))))
  | exact e2p (e2p (e2p (e2p (e2p (e2p (by omega))))))
theorem e3g {s:Bd} (hs:s.Ok) {N:Nat} (hN:(N:Int)=s.prod):s.unr ((N-1:Nat):Int)=s:=by
 have hh:=e2U (s:=s)
 obtain ⟨a,b,c,d,e,f⟩:=s
 simp only [Bd.Ok] at hs
 obtain ⟨a,rfl⟩:=Qm hs.1.1
 obtain ⟨b,rfl⟩:=Qm hs.2.1.1
 obtain ⟨c,rfl⟩:=Qm hs.2.2.1.1
 obtain ⟨d,rfl⟩:=Qm hs.2.2.2.1.1
 obtain ⟨e,rfl⟩:=Qm hs.2.2.2.2.1.1
 obtain ⟨f,rfl⟩:=Qm hs.2.2.2.2.2.1
 obtain ⟨n,h1,h2,h3⟩:=b7S a b c d e f a b c d e f (Qa _) (Qa _) (Qa _) (Qa _) (Qa _) (Qa _)
 have hn:N-1=n:=by
  unfold nB at h1
  omega
 rw [hn]
 exact h3
section
variable {σ:List MO} {h h' k:Nat}
variable {N:Nat} {A T:List Int} {x:PV} {op a b c d e f v:Int} {s:Bd} {K:Nat}
theorem e3s {q:Nat} (hN1:N<=20000) (hA:A.length=N) (hT:T.length=N) (hl:h < σ.length) (hne:h≠h') (gT:σ[h']?=some (.cells (iPV T) 2)) (i:Int):∀ k,k < N->∀ fuel,
  saleroomref13_all_S.loop (a0e Tab q) (fuel+1) 1 { i:=c4E N i k op a b c d e f v s,b:=[],v:=[.msl h 0 N N 1,.msl h' 0 N N 1,x],m:=mA σ h (a1T (mxT T) A k),k:=K } =
  saleroomref13_all_S.loop (a0e Tab q) fuel 1 { i:=c4E N i ((k+1:Nat):Int) op a b c d e f v s,b:=[],v:=[.msl h 0 N N 1,.msl h' 0 N N 1,x],m:=mA σ h (a1T (mxT T) A (k+1)),k:=K }:=by
 intro k hk fuel
 have gA:=b7R hl (a1T (mxT T) A k)
 have gT':(mA σ h (a1T (mxT T) A k))[h']?=_:=(d1h hne _).trans gT
 have l1:=a3p (h:=h) (c:=N) hk
 have l2:=a3p (h:=h') (c:=N) hk
 have r1:=a7n (c3l (f:=mxT T) (A:=A) (k:=k) (by omega))
 obtain ⟨t,ht⟩:=a3n (l:=T) (i:=k) (by omega)
 have r2:=a7n ht
 have et:T.getD k 0=t:=by rw [X6,ht]; rfl
 have hst:k+1<=(iPV (a1T (mxT T) A k)).length:=by rw [a9f,a4S]; omega
 have hset:(mA σ h (a1T (mxT T) A k)).set h (.cells (a1A (iPV (a1T (mxT T) A k)) k [.int .i64 (mxI (A.getD k 0) t)]) 2)=mA σ h (a1T (mxT T) A (k+1)):=by
  rw [b6A _ _ (by rw [a4S]; omega),c1t (by omega) (by unfold mxT; rw [et])]
 have q0:ltB (k:Int) (N:Int)=true:=by simp [ltB]; exact hk
 have q2:=a2h (i:=k) (by omega)
 have hlen:∀ h z,(PV.msl h 0 N N z).len=(N:Int):=fun _ _=>rfl
 unfold a0f at r1 r2
 generalize a1T (mxT T) A (k+1)=Z2 at *
 generalize a1T (mxT T) A k=Z at *
 rw [Sys.loop,show saleroomref13_all_S.loops[1]?=some a2J from rfl]
 simp -implicitDefEqProofs only [Q0,a2J,↓reduceIte,eq_self,ξ1,ξ2,ξ3,ξ4,ξ5,ξ6,ξ7,ξ8,ξ9,ξa,ξb,ξc,ξd,ξe,ξf,ξg,ξh,Nat.reduceAdd,ξi,if_true,if_false,ξl,ξm,ξn,ξo,ξp,ξq,ξr,ξs,ξt,ξu,ξv,ξw,ξx,ξy,ξz,ξA,ξB,ξC,ξD,ξE,q0,le0,hlen,l1,l2,gA,gT',r1,r2,MO.list,hst,hset,q2,a0v]
theorem e3r {q:Nat} (hs:s.Ok) (hN1:N<=20000) (hA:A.length=N) (hAb:∀ z∈A,0<=z/\z<=1000000000) (hv:0<=v/\v<=1000000) (hl:h < σ.length):∀ k,k < N->∀ fuel,
  saleroomref13_all_S.loop (a0e Tab (q+1)) (fuel+1) 2 { i:=[(N:Int),(k:Int),op,a,b,c,d,e,f,v,s.a,s.b,s.c,s.d,s.e,s.f],b:=[],v:=[.msl h 0 N N 1,x],m:=mA σ h (a1T (a7F op a b c d e f v s) A k),k:=K } =
  saleroomref13_all_S.loop (a0e Tab (q+1)) fuel 2 { i:=[(N:Int),((k+1:Nat):Int),op,a,b,c,d,e,f,v,s.a,s.b,s.c,s.d,s.e,s.f],b:=[],v:=[.msl h 0 N N 1,x],m:=mA σ h (a1T (a7F op a b c d e f v s) A (k+1)),k:=K }:=by
 intro k hk fuel
 have hZl:(a1T (a7F op a b c d e f v s) A k).length=N:=by rw [a4S,hA]
 have gA:=fun t=>b7R hl t
 have l1:=a3p (h:=h) (c:=N) hk
 have r0:=a7n (c3l (f:=a7F op a b c d e f v s) (A:=A) (k:=k) (by omega))
 have hz:A.getD k 0∈A:=by
  rw [X6,QQ (by omega)]
  exact List.getElem_mem _
 have hzb:=hAb _ hz
 have hfin:∀ z,z=a7F op a b c d e f v s k (A.getD k 0)->(a1T (a7F op a b c d e f v s) A k).set k z=a1T (a7F op a b c d e f v s) A (k+1):=fun z hz=>c1t (by omega) hz
 generalize a1T (a7F op a b c d e f v s) A (k+1)=Z2 at *
 generalize a1T (a7F op a b c d e f v s) A k=Z at *
 generalize A.getD k 0=z at *
 have r1:=fun y:Int=>d0L (A:=Z) (k:=k) (z:=y) (by omega)
 have st0:k+1<=(iPV Z).length:=by rw [a9f]; omega
 have st1:∀ y,k+1<=(iPV (Z.set k y)).length:=fun y=>by rw [a9f,X7]; omega
 have se0:=fun y:Int=>b6A (σ:=σ) (h:=h) (k:=k) Z y (by omega)
 have se1:∀ y y':Int,(mA σ h (Z.set k y)).set h (.cells (a1A (iPV (Z.set k y)) k [.int .i64 y']) 2)=mA σ h (Z.set k y'):=fun y y'=>by
  rw [b6A _ _ (by rw [X7]; omega),List.set_set]
 have hat:=c8w s hs (i:=k) (by omega) (mA σ h Z) q
 have hwi:=a6b ⟨a,b,c,d,e,f⟩ (s.unr k) (mA σ h Z) q
 have hhe:=fun y σ'=>c9L y σ' q
 have q0:ltB (k:Int) (N:Int)=true:=by simp [ltB]; exact hk
 have q2:=a2h (i:=k) (by omega)
 have q3:(leB (-9223372036854775808) (z+v)&&leB (z+v) 9223372036854775807)=true:=a0u (by omega)
 have hlen:∀ h z,(PV.msl h 0 N N z).len=(N:Int):=fun _ _=>rfl
 unfold a7F at hfin
 simp only [a0f] at r0 r1
 rw [Sys.loop,show saleroomref13_all_S.loops[2]?=some a1h from rfl]
 by_cases h14:op=1\/op=4
 ·have h5:op≠5:=by omega
  have e5:eqB op 5=false:=eqF h5
  by_cases hle:(⟨a,b,c,d,e,f⟩:Bd).Le (s.unr k)
  ·rw [decide_eq_true hle] at hwi
   have hf:=hfin (Go.Kv.mnM (z+v)) (by unfold b1t b3r b3L; rw [if_neg h5,if_pos ⟨h14,decide_eq_true hle⟩])
   clear hfin
   generalize s.unr k=u at *
   obtain ⟨s0,s1,s2,s3,s4,s5⟩:=s
   obtain ⟨u0,u1,u2,u3,u4,u5⟩:=u
   simp only [bpv] at hat hwi
   rcases h14 with rfl | rfl
   ·simp -implicitDefEqProofs only [Q0,a1h,↓reduceIte,eq_self,ξ1,ξ2,ξ3,ξ4,ξ5,ξ6,ξ7,ξ8,ξ9,ξa,ξb,ξc,ξd,ξe,ξf,ξg,ξh,Nat.reduceAdd,ξi,if_true,if_false,ξl,ξm,ξn,ξo,ξp,ξq,ξr,ξs,ξt,ξu,ξv,ξw,ξx,ξy,ξz,ξA,ξB,ξC,ξD,ξE,q0,a2Y,hat,hwi,le0,hlen,l1,gA,r0,r1,MO.list,q3,st0,st1,se0,se1,e5,hhe,hf,q2,a0v]
   ·have e1:eqB 4 1=false:=rfl
    simp -implicitDefEqProofs only [Q0,a1h,↓reduceIte,eq_self,ξ1,ξ2,ξ3,ξ4,ξ5,ξ6,ξ7,ξ8,ξ9,ξa,ξb,ξc,ξd,ξe,ξf,ξg,ξh,Nat.reduceAdd,ξi,if_true,if_false,ξl,ξm,ξn,ξo,ξp,ξq,ξr,ξs,ξt,ξu,ξv,ξw,ξx,ξy,ξz,ξA,ξB,ξC,ξD,ξE,q0,a2Y,e1,hat,hwi,le0,hlen,l1,gA,r0,r1,MO.list,q3,st0,st1,se0,se1,e5,hhe,hf,q2,a0v]
  ·rw [decide_eq_false hle] at hwi
   have hf:=hfin (Go.Kv.mnM z) (by unfold b1t b3r b3L; rw [if_neg h5,if_neg (by rw [decide_eq_false hle]; simp)])
   clear hfin
   generalize s.unr k=u at *
   obtain ⟨s0,s1,s2,s3,s4,s5⟩:=s
   obtain ⟨u0,u1,u2,u3,u4,u5⟩:=u
   simp only [bpv] at hat hwi
   rcases h14 with rfl | rfl
   ·simp -implicitDefEqProofs only [Q0,a1h,↓reduceIte,eq_self,ξ1,ξ2,ξ3,ξ4,ξ5,ξ6,ξ7,ξ8,ξ9,ξa,ξb,ξc,ξd,ξe,ξf,ξg,ξh,Nat.reduceAdd,ξi,if_true,if_false,ξl,ξm,ξn,ξo,ξp,ξq,ξr,ξs,ξt,ξu,ξv,ξw,ξx,ξy,ξz,ξA,ξB,ξC,ξD,ξE,q0,a2Y,hat,hwi,le0,hlen,l1,gA,r0,r1,MO.list,q3,st0,st1,se0,se1,e5,hhe,hf,q2,a0v]
   ·have e1:eqB 4 1=false:=rfl
    simp -implicitDefEqProofs only [Q0,a1h,↓reduceIte,eq_self,ξ1,ξ2,ξ3,ξ4,ξ5,ξ6,ξ7,ξ8,ξ9,ξa,ξb,ξc,ξd,ξe,ξf,ξg,ξh,Nat.reduceAdd,ξi,if_true,if_false,ξl,ξm,ξn,ξo,ξp,ξq,ξr,ξs,ξt,ξu,ξv,ξw,ξx,ξy,ξz,ξA,ξB,ξC,ξD,ξE,q0,a2Y,e1,hat,hwi,le0,hlen,l1,gA,r0,r1,MO.list,q3,st0,st1,se0,se1,e5,hhe,hf,q2,a0v]
 ·have h1:op≠1:=by omega
  have h4:op≠4:=by omega
  have e1:eqB op 1=false:=eqF h1
  have e4:eqB op 4=false:=eqF h4
  have hadd:b3L op v (decide ((⟨a,b,c,d,e,f⟩:Bd).Le (s.unr k))) z=z:=by unfold b3L; rw [if_neg (fun hh=>h14 hh.1)]
  clear hat hwi
  by_cases h5:op=5
  ·have hf:=hfin (Go.Kv.mnM (mnI z v)) (by unfold b1t b3r; rw [hadd,if_pos h5])
   clear hfin hadd
   subst h5
   simp -implicitDefEqProofs only [Q0,a1h,↓reduceIte,eq_self,ξ1,ξ2,ξ3,ξ4,ξ5,ξ6,ξ7,ξ8,ξ9,ξa,ξb,ξc,ξd,ξe,ξf,ξg,ξh,Nat.reduceAdd,ξi,if_true,if_false,ξl,ξm,ξn,ξo,ξp,ξq,ξr,ξs,ξt,ξu,ξv,ξw,ξx,ξy,ξz,ξA,ξB,ξC,ξD,ξE,q0,a2Y,e1,e4,le0,hlen,l1,gA,r0,r1,MO.list,st0,st1,se0,se1,hhe,hf,q2,a0v]
  ·have e5:eqB op 5=false:=eqF h5
   have hf:=hfin (Go.Kv.mnM z) (by unfold b1t b3r; rw [hadd,if_neg h5])
   clear hfin hadd
   simp -implicitDefEqProofs only [Q0,a1h,↓reduceIte,eq_self,ξ1,ξ2,ξ3,ξ4,ξ5,ξ6,ξ7,ξ8,ξ9,ξa,ξb,ξc,ξd,ξe,ξf,ξg,ξh,Nat.reduceAdd,ξi,if_true,if_false,ξl,ξm,ξn,ξo,ξp,ξq,ξr,ξs,ξt,ξu,ξv,ξw,ξx,ξy,ξz,ξA,ξB,ξC,ξD,ξE,q0,e1,e4,e5,le0,hlen,l1,gA,r0,r1,MO.list,st0,st1,se0,se1,hhe,hf,q2,a0v]
end
theorem e3l {s:Bd} (hs:s.Ok) {N:Nat} (hN:(N:Int)=s.prod):∀ (e:Ex),(∀ y∈e.pre,a2K y=0/\opX y≠3)->e.size<=400->∀ (row:List PV),IsE e row->∀ n,3000000+e.size<=n->∀ σ:List MO,
  ∃ (h:Nat) (g:List MO),a0e Tab n 51 [.agg row,.agg (bpv s)] σ=some (.msl h 0 N N 1,σ++g)/\σ.length<=h/\(σ++g)[h]?=some (.cells (iPV (a2e e s N)) 2):=by
 intro e
 induction hM:e.size using Nat.strongRecOn generalizing e with
 | _ M ih =>
  subst hM
  intro hnd2 hsz row hrow n hn σ
  have hnd:∀ y∈e.pre,a2K y=0:=fun y hy=>(hnd2 y hy).1
  have hpl:=e2Z hs
  have hN1:N<=20000:=by omega
  have hokx:=b7P e hnd
  obtain ⟨op,a,b,c,d,e',f,v,l⟩:=e
  simp only [IsE] at hrow
  obtain ⟨x,rows,rfl,hx,hl⟩:=hrow
  obtain ⟨x1,x2,x3⟩:=a0T hx
  simp only [Ex.size] at ih hn hsz
  obtain ⟨n,rfl⟩:∃ k,n=k+2:=⟨n-2,by omega⟩
  have hlen:=hl.length
  have hno3:op≠3:=(hnd2 _ (show Ex.node op a b c d e' f v l∈(Ex.node op a b c d e' f v l).pre by simp [Ex.pre])).2
  have hn0:=hnd _ (show Ex.node op a b c d e' f v l∈(Ex.node op a b c d e' f v l).pre by simp [Ex.pre])
  have hokx':=hokx
  simp only [okX,QD,decide_eq_true_eq] at hokx'
  obtain ⟨⟨⟨⟨k1,k2⟩,k3⟩,_⟩,k5⟩:=hokx'
  have hll:l.length<=8:=by
   rcases c2W hn0 with ⟨_,h1,_⟩ | ⟨_,_,h1⟩ | ⟨_,⟨_,h1⟩,_⟩ | ⟨_,⟨_,h1⟩,_⟩
   ·rw [h1]; simp
   ·exact h1
   ·rw [h1]; simp
   ·rw [h1]; simp
  have hmul:N*4<=80000:=by omega
  have fin:∀ (h:Nat) (g:List MO) (A:List Int) (bb:Int) (fuel:Nat),σ.length<=h->(σ++g)[h]?=some (.cells (iPV A) 2)->TabOk s N (a4Y op l) bb A->bb<=1000000000->(op≠3->bb<=1000000)->N+1<=fuel ->
    ∃ g',saleroomref13_all_S.loop (a0e Tab (n+1)) fuel 2 { i:=[(N:Int),((0:Nat):Int),op,a,b,c,d,e',f,v,s.a,s.b,s.c,s.d,s.e,s.f],b:=[],v:=[.msl h 0 N N 1,x],m:=σ++g,k:=σ.length }=some (.msl h 0 N N 1,σ++g')/\(σ++g')[h]?=some (.cells (iPV (a2e (.node op a b c d e' f v l) s N)) 2):=by
   intro h g A bb fuel h1 h2 h3 h4 h5 h6
   have hlt:=(Qs.1 h2).1
   have hA:=h3.len
   have hlp:=a3R (Φ:=a0e Tab (n+1)) (S:=saleroomref13_all_S) (q:=2) (fun k=>{ i:=[(N:Int),(k:Int),op,a,b,c,d,e',f,v,s.a,s.b,s.c,s.d,s.e,s.f],b:=[],v:=[.msl h 0 N N 1,x],m:=mA (σ++g) h (a1T (a7F op a b c d e' f v s) A k),k:=σ.length })
    (e3r (σ:=σ++g) hs hN1 hA (c5J h3 h4) ⟨k2,k3⟩ hlt) N 0 (by omega) (fuel-N)
   rw [show fuel-N+N=fuel by omega,b9w,c3r h2,c9p hokx hn0 hs h5 h3] at hlp
   have hset:mA (σ++g) h (a2e (.node op a b c d e' f v l) s N)=σ++g.set (h-σ.length) (.cells (iPV (a2e (.node op a b c d e' f v l) s N)) 2):=by
    unfold mA; rw [X8 _ _ h1]
   refine ⟨g.set (h-σ.length) (.cells (iPV (a2e (.node op a b c d e' f v l) s N)) 2),?_,?_⟩
   rotate_left
   ·rw [<- hset]; exact b7R hlt _
   ·rw [<- hset]
    refine hlp.trans ?_
    obtain ⟨fu,hfu⟩:∃ k,fuel-N=k+1:=⟨fuel-N-1,by omega⟩
    rw [hfu]
    have q0:ltB (N:Int) (N:Int)=false:=by simp [ltB]
    rw [Sys.loop,show saleroomref13_all_S.loops[2]?=some a1h from rfl]
    simp -implicitDefEqProofs only [Q0,a1h,↓reduceIte,eq_self,ξ1,ξ2,ξ3,ξ4,ξ5,ξ6,ξ7,ξ8,ξ9,ξa,ξb,ξc,ξd,ξe,ξf,ξg,ξh,Nat.reduceAdd,ξi,if_true,if_false,ξl,ξm,ξn,ξo,ξp,ξq,ξr,ξs,ξt,ξu,ξv,ξw,ξx,ξy,ξz,ξA,ξB,ξC,ξD,ξE,q0,a0k,true_or]
  have loop:∀ (dd i:Nat),i+dd=l.length->∀ (h:Nat) (g:List MO) (A:List Int) (bb:Int) (fuel:Nat),σ.length<=h->(σ++g)[h]?=some (.cells (iPV A) 2)->TabOk s N (a4Y op (l.take i)) bb A->0<=bb->bb<=1000000*((i:Int)+1)->(op≠3\/i=0->bb<=1000000)->(dd+1)*(N+3)<=fuel ->
    ∃ h' g',saleroomref13_all_S.loop (a0e Tab (n+1)) fuel 0 { i:=[(N:Int),(i:Int),op,a,b,c,d,e',f,v,s.a,s.b,s.c,s.d,s.e,s.f],b:=[],v:=[.msl h 0 N N 1,x],m:=σ++g,k:=σ.length }=some (.msl h' 0 N N 1,σ++g')/\σ.length<=h'/\(σ++g')[h']?=some (.cells (iPV (a2e (.node op a b c d e' f v l) s N)) 2):=by
   intro dd
   induction dd with
   | zero =>
    intro i hi h g A bb fuel h1 h2 h3 h4 h5 h6 h7
    obtain rfl:i=l.length:=by omega
    rw [X2] at h3
    obtain ⟨fuel,rfl⟩:∃ k,fuel=k+1:=⟨fuel-1,by omega⟩
    obtain ⟨g',e1,e2⟩:=fin h g A bb fuel h1 h2 h3 (by omega) (fun ho=>h6 (.inl ho)) (by omega)
    refine ⟨h,g',?_,h1,e2⟩
    rw [<- e1]
    have q0:ltB (l.length:Int) (rows.length:Int)=false:=by simp [ltB]; omega
    rw [Sys.loop,show saleroomref13_all_S.loops[0]?=some a1L from rfl]
    simp -implicitDefEqProofs only [Q0,a1L,↓reduceIte,eq_self,ξ1,ξ2,ξ3,ξ4,ξ5,ξ6,ξ7,ξ8,ξ9,ξa,ξb,ξc,ξd,ξe,ξf,ξg,ξh,Nat.reduceAdd,ξi,if_true,if_false,ξl,ξm,ξn,ξo,ξp,ξq,ξr,ξs,ξt,ξu,ξv,ξw,ξx,ξy,ξz,ξA,ξB,ξC,ξD,ξE,q0,x1,x2]
    rfl
   | succ dd ihd =>
    intro i hi h g A bb fuel h1 h2 h3 h4 h5 h6 h7
    have hil:i < l.length:=by omega
    obtain ⟨ei,hei⟩:=a3n hil
    obtain ⟨ri,hri,hrow1⟩:=hl.at hei
    have hszi:=a2Q (QB hei)
    have hndi2:∀ y∈ei.pre,a2K y=0/\opX y≠3:=fun y hy=>hnd2 y (by
     simp only [Ex.pre,QP]
     exact .inr (c2b (QB hei) hy))
    have hndi:∀ y∈ei.pre,a2K y=0:=fun y hy=>(hndi2 y hy).1
    have hoki:=b7P ei hndi
    obtain ⟨hT,gT,ev1,t1,t2⟩:=ih ei.size (by omega) ei rfl hndi2 (by omega) ri hrow1 (n+1) (by omega) (σ++g)
    have hloc:=a4d (off:=0) hx hri
    have q0:ltB (i:Int) (rows.length:Int)=true:=by simp [ltB]; omega
    have qb:(leB 0 (i:Int)&&ltB (i:Int) (rows.length:Int))=true:=by simp [leB,ltB]; omega
    have q2:=a2h (i:=i) (by omega)
    have hlt:=(Qs.1 h2).1
    have hltT:=(Qs.1 t2).1
    have hgA:(σ++g++gT)[h]?=some (.cells (iPV A) 2):=by rw [QW hlt]; exact h2
    have hsn:=c4Q (op:=op) hei
    have gX:=c7x (op:=op) (l:=l.take i) (by
     have:∀ {m:List Ex} {j:Nat},a3k m=true->a3k (m.take j)=true:=by
      intro m
      induction m with
      | nil=>intro j _; simp [a3k]
      | cons y m ihm =>
       intro j hm
       cases j with
       | zero=>rfl
       | succ j =>
        simp only [a3k,QV,QD] at hm ⊢
        exact ⟨hm.1,ihm hm.2⟩
     exact this k5)
    have hone:∀ h z,(PV.msl h 0 N N z).one=true:=fun _ _=>rfl
    rw [Nat.add_mul] at h7
    obtain ⟨fuel,rfl⟩:∃ k,fuel=k+1:=⟨fuel-1,by omega⟩
    obtain ⟨op1,a1,b1,c1,d1,e1',f1,v1,l1⟩:=ei
    have hrow1':=hrow1
    simp only [IsE] at hrow1'
    obtain ⟨y,rows1,rfl,hy,hl1⟩:=hrow1'
    obtain ⟨y1,y2,y3⟩:=a0T hy
    generalize hei0:Ex.node op1 a1 b1 c1 d1 e1' f1 v1 l1=ei at *
    have ev1':a0e Tab (n+1) 51 [.agg [.int .i64 op1,.int .i64 a1,.int .i64 b1,.int .i64 c1,.int .i64 d1,.int .i64 e1',.int .i64 f1,.int .i64 v1,y],.agg [.int .i64 s.a,.int .i64 s.b,.int .i64 s.c,.int .i64 s.d,.int .i64 s.e,.int .i64 s.f]] (σ++g)=_:=ev1
    rw [Sys.loop,show saleroomref13_all_S.loops[0]?=some a1L from rfl]
    by_cases hor:op=3/\0 < i
    ·exact absurd hor.1 hno3
    ·have hmax:TabOk s N (a4Y op (l.take (i+1))) 1000000 (a1T (mxT (a2e ei s N)) A N):=by
      rw [hsn]
      unfold c0w
      split
      ·rename_i h3o
       have hi0:i=0:=by omega
       subst hi0
       have hb1:=h6 (.inr rfl)
       exact c7j hs hoki ⟨h3.len,fun j hj=>by have:=h3.all j hj; exact ⟨this.1,by omega,this.2.2⟩⟩
      ·rename_i h3o
       have hb1:=h6 (.inl h3o)
       exact c5Y hs hoki gX ⟨h3.len,fun j hj=>by have:=h3.all j hj; exact ⟨this.1,by omega,this.2.2⟩⟩
     have hltA:h < (σ++g++gT).length:=by simp at hlt ⊢; omega
     have hlp:=a3R (Φ:=a0e Tab (n+1)) (S:=saleroomref13_all_S) (q:=1) (fun k=>{ i:=c4E N i k op a b c d e' f v s,b:=[],v:=[.msl h 0 N N 1,.msl hT 0 N N 1,x],m:=mA (σ++g++gT) h (a1T (mxT (a2e ei s N)) A k),k:=σ.length })
      (e3s (σ:=σ++g++gT) hN1 h3.len (b3b _ _ _) hltA (by omega) t2 (i:Int)) N 0 (by omega) (fuel-N)
     rw [show fuel-N+N=fuel by omega,b9w,c3r hgA] at hlp
     have hxx:=c9w (q:=n+1) (σ:=mA (σ++g++gT) h (a1T (mxT (a2e ei s N)) A N)) (h:=h) (h':=hT) (N:=N) (x:=x) (op:=op) (a:=a) (b:=b) (c:=c) (d:=d) (e:=e') (f:=f) (v:=v) (s:=s) (K:=σ.length) i (by omega) (fuel-N-1)
     rw [show fuel-N-1+1=fuel-N by omega] at hxx
     rw [hxx] at hlp
     have hm':mA (σ++g++gT) h (a1T (mxT (a2e ei s N)) A N)=σ++(g++gT).set (h-σ.length) (.cells (iPV (a1T (mxT (a2e ei s N)) A N)) 2):=by
      unfold mA; rw [QC,X8 _ _ h1]
     obtain ⟨h',g',r1,r2,r3⟩:=ihd (i+1) (by omega) h _ _ 1000000 (fuel-N-1) h1 (by rw [<- hm']; exact b7R hltA _) hmax (by omega) (by omega) (by omega) (by omega)
     refine ⟨h',g',?_,r2,r3⟩
     rw [<- hm'] at r1
     rw [r1] at hlp
     refine Eq.trans ?_ hlp
     by_cases h3o:op=3
     ·have hi0:i=0:=by omega
      subst hi0 h3o
      have qi:ltB 0 ((0:Nat):Int)=false:=rfl
      simp -implicitDefEqProofs only [Q0,a1L,↓reduceIte,eq_self,ξ1,ξ2,ξ3,ξ4,ξ5,ξ6,ξ7,ξ8,ξ9,ξa,ξb,ξc,ξd,ξe,ξf,ξg,ξh,Nat.reduceAdd,ξi,if_true,if_false,ξl,ξm,ξn,ξo,ξp,ξq,ξr,ξs,ξt,ξu,ξv,ξw,ξx,ξy,ξz,ξA,ξB,ξC,ξD,ξE,q0,x1,x2,qb,hloc,y3,ev1',hone,a2Y,qi]
      rfl
     ·have e3:eqB op 3=false:=eqF h3o
      simp -implicitDefEqProofs only [Q0,a1L,↓reduceIte,eq_self,ξ1,ξ2,ξ3,ξ4,ξ5,ξ6,ξ7,ξ8,ξ9,ξa,ξb,ξc,ξd,ξe,ξf,ξg,ξh,Nat.reduceAdd,ξi,if_true,if_false,ξl,ξm,ξn,ξo,ξp,ξq,ξr,ξs,ξt,ξu,ξv,ξw,ξx,ξy,ξz,ξA,ξB,ξC,ξD,ξE,q0,x1,x2,qb,hloc,y3,ev1',hone,e3]
      rfl
  have hp:s.prod=(N:Int):=hN.symm
  have hcn:=b9S s hs σ n
  rw [hp] at hcn
  have hmul2:(l.length+1)*(N+3)<=9*20003:=Nat.mul_le_mul (by omega) (by omega)
  obtain ⟨h',g',r1,r2,r3⟩:=loop l.length 0 (by omega) σ.length [.cells (iPV (X9 N 0)) 2] (X9 N 0) 1000000 (n+1) (Qa _) (by simp) (c9e hs) (by omega) (by omega) (by omega) (by omega)
  refine ⟨h',g',?_,r2,r3⟩
  rw [a0e,b2p]
  simp only [Q0,Sys.run]
  show ((a0i [.sh (.agg [_,_,_,_,_,_,_,_,_]),.sh (.agg [_,_,_,_,_,_])] _).bind _)=_
  simp only [bpv] at hcn ⊢
  simp only [a0i,a0d,a0c,Q2,Q0,Q3,Q4,Q5,if_true,x3]
  show (PT.ev _ a5k _).bind _=_
  have hNi:0<=(N:Int)/\(N:Int)<=1000000/\8<=100000000:=by omega
  refine Eq.trans ?_ r1
  simp -implicitDefEqProofs only [a5k,↓reduceIte,eq_self,ξ1,ξ2,ξ3,ξ4,ξ5,ξ6,ξ7,ξ8,ξ9,ξa,ξb,ξc,ξd,ξe,ξf,ξg,ξh,Nat.reduceAdd,ξi,if_true,if_false,ξl,ξm,ξn,ξo,ξp,ξq,ξr,ξs,ξt,ξu,ξv,ξw,ξx,ξy,ξz,ξA,ξB,ξC,ξD,ξE,hcn,hNi,and_self,QK,b5C]
  rfl
theorem e3a {e:Ex} {row:List PV} {σ:List MO} (hw:a6u e) (hrow:IsE e row) (hsz:e.size<=400) (hno:∀ y∈e.pre,opX y≠3) (hlow:σ.all (MO.low σ.length)=true) (b:Bd) (n:Nat) (hn:4000000<=n) :
  a0e Tab n 21 [.agg row,.agg (bpv b)] σ=some (.int .i64 (if chk e=0/\b.Ok then vX e b.l else 0),σ):=by
 obtain ⟨n,rfl⟩:∃ m,n=m+2:=⟨n-2,by omega⟩
 have hck:=c4b σ e row hrow (n+1) (by omega) (by omega)
 have hbc:=b3H b σ n
 have hu:=fun k hk=>c9T σ e hw row hrow (n+1) (by omega) k hk
 have hv:chk e=0->b.Ok->∃ (h:Nat) (g:List MO) (N:Nat),a0e Tab (n+1) 51 [.agg row,.agg (bpv (d2Q e b))] σ=some (.msl h 0 N N 1,σ++g)/\1<=N/\N<=20000/\∃ t:List Int,(σ++g)[h]?=some (.cells (iPV t) 2)/\t[N-1]?=some (vX e b.l):=by
  intro h1 h2
  have hro:=d3i (e:=e) h2
  have hpl:=e2Z hro
  obtain ⟨N,hN⟩:∃ N:Nat,(N:Int)=(d2Q e b).prod:=⟨(d2Q e b).prod.toNat,by omega⟩
  obtain ⟨h,g,r1,r2,r3⟩:=e3l hro hN e (fun y hy=>⟨(c1v h1).2.2.2 y hy,hno y hy⟩) hsz row hrow (n+1) (by omega) σ
  refine ⟨h,g,N,r1,by omega,by omega,_,r3,?_⟩
  have:(a2e e (d2Q e b) N)[N-1]?=some (vX e ((d2Q e b).unr ((N-1:Nat):Int)).l):=by
   unfold a2e
   rw [List.getElem?_map,List.getElem?_range (by omega)]; rfl
  rw [this,e3g hro hN,d3k (a8v h1) h2]
 rw [<- d3m] at hv
 generalize chk e=ck at *
 generalize vX e b.l=vv at *
 have hus:∀ k,a5I k e=(fun k=>a5I k e) k:=fun _=>rfl
 generalize hU:(fun k=>a5I k e)=ux at *
 simp only [hus] at hu
 obtain ⟨op,a,b',c,d,e',f,v,l⟩:=e
 simp only [IsE] at hrow
 obtain ⟨x,rows,rfl,hx,hl⟩:=hrow
 obtain ⟨x1,x2,x3⟩:=a0T hx
 have step:∀ i:Nat,i < 6->∀ fuel,saleroomref13_Value_S.loop (a0e Tab (n+1)) (fuel+1) 0 { i:=[(i:Int),op,a,b',c,d,e',f,v,(zp ux b i).a,(zp ux b i).b,(zp ux b i).c,(zp ux b i).d,(zp ux b i).e,(zp ux b i).f],b:=[],v:=[x],m:=σ,k:=σ.length } =
   saleroomref13_Value_S.loop (a0e Tab (n+1)) fuel 0 { i:=[((i+1:Nat):Int),op,a,b',c,d,e',f,v,(zp ux b (i+1)).a,(zp ux b (i+1)).b,(zp ux b (i+1)).c,(zp ux b (i+1)).d,(zp ux b (i+1)).e,(zp ux b (i+1)).f],b:=[],v:=[x],m:=σ,k:=σ.length }:=by
  intro i hi fuel
  have h1:=hu i hi
  have q0:ltB (i:Int) 6=true:=by simp [ltB]; omega
  have q1:=a2h (i:=i) (by omega)
  rw [Sys.loop,show saleroomref13_Value_S.loops[0]?=some d2K from rfl]
  cases hux:ux i with
  | true =>
   rw [hux] at h1
   have hz:zp ux b (i+1)=zp ux b i:=by
    have h6:i=0\/i=1\/i=2\/i=3\/i=4\/i=5:=by omega
    rcases h6 with rfl | rfl | rfl | rfl | rfl | rfl<;>simp [zp,hux]
   rw [hz]
   simp -implicitDefEqProofs only [Q0,d2K,↓reduceIte,eq_self,ξ1,ξ2,ξ3,ξ4,ξ5,ξ6,ξ7,ξ8,ξ9,ξa,ξb,ξc,ξd,ξe,ξf,ξg,ξh,Nat.reduceAdd,ξi,if_true,if_false,ξl,ξm,ξn,ξo,ξp,ξq,ξr,ξs,ξt,ξu,ξv,ξw,ξx,ξy,ξz,ξA,ξB,ξC,ξD,ξE,q0,h1,q1,a0v]
  | false =>
   rw [hux] at h1
   have h6:i=0\/i=1\/i=2\/i=3\/i=4\/i=5:=by omega
   rcases h6 with rfl | rfl | rfl | rfl | rfl | rfl
   all_goals
    simp only [QX,Int.reduceAdd,Nat.reduceAdd] at h1 q0 ⊢
    simp -implicitDefEqProofs only [Q0,d2K,↓reduceIte,eq_self,ξ1,ξ2,ξ3,ξ4,ξ5,ξ6,ξ7,ξ8,ξ9,ξa,ξb,ξc,ξd,ξe,ξf,ξg,ξh,Nat.reduceAdd,ξi,if_true,if_false,ξl,ξm,ξn,ξo,ξp,ξq,ξr,ξs,ξt,ξu,ξv,ξw,ξx,ξy,ξz,ξA,ξB,ξC,ξD,ξE,q0,h1,a3x,Int.reduceEq,decide_true,decide_false,zp,hux,Nat.reduceLeDiff,Nat.le_zero_eq,Nat.reduceLeDiff,Qa,QM,Nat.one_ne_zero,Nat.reduceEqDiff,or_false,or_true,true_or,false_or,if_true,if_false,Q8]
 have h0:=a3R (fun i=>{ i:=[(i:Int),op,a,b',c,d,e',f,v,(zp ux b i).a,(zp ux b i).b,(zp ux b i).c,(zp ux b i).d,(zp ux b i).e,(zp ux b i).f],b:=[],v:=[x],m:=σ,k:=σ.length }) step 6 0 (by omega) (n+1-6)
 rw [show n+1-6+6=n+1 by omega,d3n] at h0
 rw [a0e,d2V]
 simp only [Q0,Sys.run]
 show ((a0i [.sh (.agg [_,_,_,_,_,_,_,_,_]),.sh (.agg [_,_,_,_,_,_])] _).bind _)=_
 simp only [bpv] at hbc hv ⊢
 simp only [a0i,a0d,a0c,Q2,Q0,Q3,Q4,Q5,if_true,x3]
 show (PT.ev _ d2M _).bind _=_
 by_cases hc0:ck=0
 case neg =>
  have q:eqB ck 0=false:=eqF hc0
  rw [if_neg (fun h=>hc0 h.1)]
  simp -implicitDefEqProofs only [d2M,↓reduceIte,eq_self,ξ1,ξ2,ξ3,ξ4,ξ5,ξ6,ξ7,ξ8,ξ9,ξa,ξb,ξc,ξd,ξe,ξf,ξg,ξh,Nat.reduceAdd,ξi,if_true,if_false,ξl,ξm,ξn,ξo,ξp,ξq,ξr,ξs,ξt,ξu,ξv,ξw,ξx,ξy,ξz,ξA,ξB,ξC,ξD,ξE,hck,q,a0k,or_true]
 subst hc0
 have qz:eqB 0 0=true:=rfl
 by_cases hb:b.Ok
 case neg =>
  have hb0:b.check=4:=by unfold Bd.check; rw [if_neg hb]
  rw [hb0] at hbc
  have q:eqB 4 0=false:=rfl
  rw [if_neg (fun h=>hb h.2)]
  simp -implicitDefEqProofs only [d2M,↓reduceIte,eq_self,ξ1,ξ2,ξ3,ξ4,ξ5,ξ6,ξ7,ξ8,ξ9,ξa,ξb,ξc,ξd,ξe,ξf,ξg,ξh,Nat.reduceAdd,ξi,if_true,if_false,ξl,ξm,ξn,ξo,ξp,ξq,ξr,ξs,ξt,ξu,ξv,ξw,ξx,ξy,ξz,ξA,ξB,ξC,ξD,ξE,hck,qz,hbc,q,a0k,or_true]
 have hb0:b.check=0:=Bd.check_zero.2 hb
 rw [hb0] at hbc
 rw [if_pos ⟨rfl,hb⟩]
 obtain ⟨h,g,N,r1,r2,r2',t,r3,r4⟩:=hv rfl hb
 refine Eq.trans (b:=saleroomref13_Value_S.loop (a0e Tab (n+1)) (n+1) 0 { i:=[((0:Nat):Int),op,a,b',c,d,e',f,v,b.a,b.b,b.c,b.d,b.e,b.f],b:=[],v:=[x],m:=σ,k:=σ.length }) ?_ ?_
 ·simp -implicitDefEqProofs only [d2M,↓reduceIte,eq_self,ξ1,ξ2,ξ3,ξ4,ξ5,ξ6,ξ7,ξ8,ξ9,ξa,ξb,ξc,ξd,ξe,ξf,ξg,ξh,Nat.reduceAdd,ξi,if_true,if_false,ξl,ξm,ξn,ξo,ξp,ξq,ξr,ξs,ξt,ξu,ξv,ξw,ξx,ξy,ξz,ξA,ξB,ξC,ξD,ξE,hck,qz,hbc]
  rfl
 rw [h0]
 obtain ⟨fu,hfu⟩:∃ k,n+1-6=k+1:=⟨n-6,by omega⟩
 rw [hfu,Sys.loop,show saleroomref13_Value_S.loops[0]?=some d2K from rfl]
 have q0:ltB ((6:Nat):Int) 6=false:=rfl
 have hone:(PV.msl h 0 N N 1).one=true:=rfl
 have hlen:(PV.msl h 0 N N 1).len=(N:Int):=rfl
 have hkind:(PV.msl h 0 N N 1).isKind 0=true:=rfl
 have hn1:(N:Int)-1=((N-1:Nat):Int):=by omega
 have l1:=a3p (h:=h) (c:=N) (i:=N-1) (n:=N) (by omega)
 have rd:=a7n r4
 have q3:(leB (-9223372036854775808) ((N-1:Nat):Int)&&leB ((N-1:Nat):Int) 9223372036854775807)=true:=a0u (by omega)
 have q4:ltB ((N-1:Nat):Int) (N:Int)=true:=by simp [ltB]; omega
 unfold a0f at rd
 have hret:∀ ρ:PEnv,ρ.m=σ++g->ρ.k=σ.length->a0k ρ false (.int .i64 vv)=some (.int .i64 vv,σ):=by
  intro ρ e1 e2
  unfold a0k
  rw [e1,e2]
  by_cases hg:(σ++g).length=σ.length
  ·have:g=[]:=by
    rw [QZ] at hg
    exact List.eq_nil_of_length_eq_zero (by omega)
   subst this
   rw [if_pos (.inr hg),Q3]
  ·rw [if_neg (by simp only [Q8,false_or]; exact hg),X0,if_pos hlow]
   rfl
 simp -implicitDefEqProofs only [Q0,d2K,↓reduceIte,eq_self,ξ1,ξ2,ξ3,ξ4,ξ5,ξ6,ξ7,ξ8,ξ9,ξa,ξb,ξc,ξd,ξe,ξf,ξg,ξh,Nat.reduceAdd,ξi,if_true,if_false,ξl,ξm,ξn,ξo,ξp,ξq,ξr,ξs,ξt,ξu,ξv,ξw,ξx,ξy,ξz,ξA,ξB,ξC,ξD,ξE,q0,r1,hone,hkind,hlen,hn1,q3,q4,le0,l1,r3,MO.list,rd,hret]
end Go.Proofs.Ythmkfeiapdbojaa
set_option maxRecDepth 100000
namespace Go.Proofs.Ythmkfeiapdbojaa
open Go.Sx Go.Kv Go.Bun
def slE (R:List (List PV)):PV:=match R with | []=>.nilS | _::_=>.sl 9 R
theorem e2H (R:List (List PV)):(slE R).rowsOf 9=some R/\(slE R).len=(R.length:Int)/\(slE R).isKind 0=true/\(slE R).one=true:=by
 cases R<;>simp [slE,PV.rowsOf,PV.len,PV.isKind,PV.one]
theorem e2X (R:List (List PV)) (r:List PV):PV.sl 9 (R++[r])=slE (R++[r]):=by cases R<;>rfl
section
variable {σ:List MO} {L:List Of} {x:PV}
def e3c (R:List (List PV)):List PV:=match R with | [r]=>r | _=>e0r (.sl 9 R)
theorem e2P (R:List (List PV)) (hne:R≠[]) (h9:∀ r∈R,∃ a b c d e f g v y,r=[.int .i64 a,.int .i64 b,.int .i64 c,.int .i64 d,.int .i64 e,.int .i64 f,.int .i64 g,.int .i64 v,y]/\y.one=true) (n:Nat):a0e Tab (n+1) 64 [slE R] σ=some (.agg (e3c R),σ):=by
 obtain ⟨s1,s2,s3,s4⟩:=e2H R
 rw [a0e,e2E]
 simp only [Q0,Sys.run]
 show ((a0i [.sh (.one _)] _).bind _)=_
 simp only [a0i,a0d,a0c,Q2,Q0,Q3,Q4,Q5,if_true,s4]
 show (PT.ev _ e2m _).bind _=_
 cases R with
 | nil=>exact absurd rfl hne
 | cons r R =>
  cases R with
  | nil =>
   obtain ⟨a,b,c,d,e,f,g,v,y,rfl,hy⟩:=h9 r (by simp)
   have q1:eqB 1 1=true:=rfl
   have q2:ltB 0 1=true:=rfl
   have l0:a3N 0 9 0 (slE [[.int .i64 a,.int .i64 b,.int .i64 c,.int .i64 d,.int .i64 e,.int .i64 f,.int .i64 g,.int .i64 v,y]])=some (.row [.int .i64 a,.int .i64 b,.int .i64 c,.int .i64 d,.int .i64 e,.int .i64 f,.int .i64 g,.int .i64 v,y] 0):=rfl
   simp only [Qt] at s2
   have hc:((1:Nat):Int)=1:=rfl
   rw [hc] at s2
   simp -implicitDefEqProofs only [e2m,↓reduceIte,eq_self,ξ1,ξ2,ξ3,ξ4,ξ5,ξ6,ξ7,ξ8,ξ9,ξa,ξb,ξc,ξd,ξe,ξf,ξg,ξh,Nat.reduceAdd,ξi,if_true,if_false,ξl,ξm,ξn,ξo,ξp,ξq,ξr,ξs,ξt,ξu,ξv,ξw,ξx,ξy,ξz,ξA,ξB,ξC,ξD,ξE,s2,s3,q1,q2,l0,hy,a0k,or_true]
   rfl
  | cons r2 R =>
   have q1:eqB (((r::r2::R).length:Nat):Int) 1=false:=eqF (by simp only [Q7]; omega)
   simp -implicitDefEqProofs only [e2m,↓reduceIte,eq_self,ξ1,ξ2,ξ3,ξ4,ξ5,ξ6,ξ7,ξ8,ξ9,ξa,ξb,ξc,ξd,ξe,ξf,ξg,ξh,Nat.reduceAdd,ξi,if_true,if_false,ξl,ξm,ξn,ξo,ξp,ξq,ξr,ξs,ξt,ξu,ξv,ξw,ξx,ξy,ξz,ξA,ξB,ξC,ξD,ξE,s2,s3,q1,a0k,or_true]
   rfl
theorem e3d:∀ r∈L.map atomR,∃ a b c d e f g v y,r=[.int .i64 a,.int .i64 b,.int .i64 c,.int .i64 d,.int .i64 e,.int .i64 f,.int .i64 g,.int .i64 v,y]/\y.one=true:=by
 intro r hr
 obtain ⟨o,_,rfl⟩:=Q1.1 hr
 exact ⟨_,_,_,_,_,_,_,_,_,rfl,rfl⟩
theorem e3f (L:List Of):e3c (L.map atomR)=groupR L:=by
 match L with
 | []=>rfl
 | [o]=>rfl
 | o::o2::L=>rfl
theorem e3m (j:Nat):∀ r∈chR L j,∃ a b c d e f g v y,r=[.int .i64 a,.int .i64 b,.int .i64 c,.int .i64 d,.int .i64 e,.int .i64 f,.int .i64 g,.int .i64 v,y]/\y.one=true:=by
 intro r hr
 obtain ⟨c,_,rfl⟩:=Q1.1 hr
 exact e0W c
def prt (L:List Of) (j k:Nat):List (List PV):=(((L.drop (8*j)).take k)).map atomR
theorem e3i {j k:Nat} {o:Of} (h:L[8*j+k]?=some o):prt L j (k+1)=prt L j k++[atomR o]:=by
 unfold prt
 rw [X1,X5,h,Qk]; rfl
theorem e3j (j:Nat) {k:Nat} (h:k=min 8 (L.length-8*j)):prt L j k=(a6t L j).map atomR:=by
 unfold prt a6t
 congr 1
 rw [List.drop_take,show 8*j+8-8*j=8 by omega]
 by_cases h8:8<=L.length-8*j
 ·rw [h,Nat.min_eq_left h8]
 ·rw [Qh (by rw [QJ]; omega),Qh (by rw [QJ]; omega)]
def rtE (σ:List MO) (L:List Of) (x:PV) (j k:Nat):PEnv:={ i:=[((8*j:Nat):Int),((8*j+k:Nat):Int)],b:=[],v:=[x,slE (chR L j),slE (prt L j k)],m:=σ,k:=σ.length }
def rsE (σ:List MO) (L:List Of) (x:PV) (j:Nat):PEnv:={ i:=[((8*j:Nat):Int)],b:=[],v:=[x,slE (chR L j)],m:=σ,k:=σ.length }
theorem e3t (hx:d5w L x) (hL:L.length<=64) {Φ:Fns} (j:Nat):∀ k,k < min 8 (L.length-8*j)->∀ fuel,saleroomref14_ToExpr_S.loop Φ (fuel+1) 1 (rtE σ L x j k)=saleroomref14_ToExpr_S.loop Φ fuel 1 (rtE σ L x j (k+1)):=by
 intro k hk fuel
 obtain ⟨x1,x2,x3⟩:=d5h hx
 obtain ⟨o,ho⟩:=a3n (l:=L) (i:=8*j+k) (by omega)
 have l1:=a4d (off:=1) hx (d5z ho)
 have l7:=a4d (off:=7) hx (d5z ho)
 have q0:ltB ((8*j+k:Nat):Int) (L.length:Int)=true:=by simp [ltB]; omega
 have q1:(leB (-9223372036854775808) (((8*j:Nat):Int)+8)&&leB (((8*j:Nat):Int)+8) 9223372036854775807)=true:=a0u (by omega)
 have q3:ltB ((8*j+k:Nat):Int) (((8*j:Nat):Int)+8)=true:=by simp [ltB]; omega
 have q4:leB 0 ((8*j+k:Nat):Int)=true:=le0 _
 have q2:(leB (-9223372036854775808) (((8*j+k:Nat):Int)+1)&&leB (((8*j+k:Nat):Int)+1) 9223372036854775807)=true:=a0u (by omega)
 have hnx:((8*j+(k+1):Nat):Int)=((8*j+k:Nat):Int)+1:=by omega
 obtain ⟨p1,p2,p3,p4⟩:=e2H (prt L j k)
 have hpl:(prt L j k).length+1<=1000000:=by unfold prt; rw [Qf,QE]; omega
 have hA:=e2X (prt L j k) (atomR o)
 rw [Sys.loop,show saleroomref14_ToExpr_S.loops[1]?=some e2i from rfl,Q0]
 unfold rtE
 rw [e3i ho,hnx]
 have g4:=(e2H (chR L j)).2.2.2
 generalize slE (prt L j k++[atomR o])=V2 at *
 generalize slE (prt L j k)=V1 at *
 generalize prt L j k=R at *
 generalize slE (chR L j)=G at *
 generalize ((8*j+k:Nat):Int)=ii at *
 generalize ((8*j:Nat):Int)=jj at *
 obtain ⟨p,⟨w0,w1,w2,w3,w4,w5⟩,v⟩:=o
 simp only [Of.pv,atomR] at l1 l7 hA
 have h67:(6:Nat)<=7:=by decide
 have key:e2i.ev Φ { i:=[jj,ii],b:=[],v:=[x,G,V1],m:=σ,k:=σ.length }=some (.jump 1 { i:=[jj,ii+1],b:=[],v:=[x,G,V2],m:=σ,k:=σ.length }):=by
  unfold e2i
  repeat (first | rw [a0B] | rw [a0A] | rw [a0D] | rw [a0p] | rw [a0q] | rw [a0m] | rw [a0M] | rw [a3f] | rw [a0C] | rw [a0y] | rw [a0r] | rw [a0N])<;>simp -implicitDefEqProofs only [↓reduceIte,eq_self,ξ2,ξ3,ξ4,ξ5,ξ6,ξ7,ξ8,ξ9,ξa,ξb,ξc,ξd,ξe,ξf,ξg,ξh,Nat.reduceAdd,ξi,if_true,if_false,ξl,ξm,ξn,ξo,ξp,ξq,ξr,ξs,ξt,ξu,ξv,ξw,ξx,ξy,ξz,ξA,ξB,ξC,ξD,ξE,x1,x2,x3,q0,q1,q2,q3,q4,l1,l7,a1x,Qu,Qv,Qw,Qy,Qz,QA,d6I,p1,hpl,hA,Qb,d6O,Qj,Qg,h67]
 rw [key]
 rfl
theorem e3n (hx:d5w L x) (hL:L.length<=64) {q j:Nat} (hj:8*j < L.length) (fuel:Nat):saleroomref14_ToExpr_S.loop (a0e Tab (q+1)) (fuel+10) 0 (rsE σ L x j)=saleroomref14_ToExpr_S.loop (a0e Tab (q+1)) (fuel+8-min 8 (L.length-8*j)) 0 (rsE σ L x (j+1)):=by
 obtain ⟨x1,x2,x3⟩:=d5h hx
 have q0:ltB ((8*j:Nat):Int) (L.length:Int)=true:=by simp [ltB]; omega
 have h1:saleroomref14_ToExpr_S.loop (a0e Tab (q+1)) (fuel+10) 0 (rsE σ L x j)=saleroomref14_ToExpr_S.loop (a0e Tab (q+1)) (fuel+9) 1 (rtE σ L x j 0):=by
  rw [Sys.loop,show saleroomref14_ToExpr_S.loops[0]?=some e2j from rfl,Q0]
  have hp0:slE (prt L j 0)=.nilS:=by simp [prt,slE]
  unfold rtE rsE
  rw [hp0]
  simp -implicitDefEqProofs only [e2j,↓reduceIte,eq_self,ξ1,ξ2,ξ3,ξ4,ξ5,ξ6,ξ7,ξ8,ξ9,ξa,ξb,ξc,ξd,ξe,ξf,ξg,ξh,Nat.reduceAdd,ξi,if_true,if_false,ξl,ξm,ξn,ξo,ξp,ξq,ξr,ξs,ξt,ξu,ξv,ξw,ξx,ξy,ξz,ξA,ξB,ξC,ξD,ξE,x1,x2,q0]
 obtain ⟨K,hK⟩:∃ K,K=min 8 (L.length-8*j):=⟨_,rfl⟩
 have hst:∀ k,k < K->∀ fuel,saleroomref14_ToExpr_S.loop (a0e Tab (q+1)) (fuel+1) 1 (rtE σ L x j k)=saleroomref14_ToExpr_S.loop (a0e Tab (q+1)) fuel 1 (rtE σ L x j (k+1)):=fun k hk=>e3t hx hL j k (by omega)
 have h2:=a3R (rtE σ L x j) hst K 0 (by omega) (fuel+9-K)
 rw [show fuel+9-K+K=fuel+9 by omega] at h2
 rw [h1,h2,<- hK,show fuel+9-K=(fuel+8-K)+1 by omega]
 have hcl:=e0O L hj
 have hpf:=e3j (L:=L) j hK
 have hgr:=e2P (σ:=σ) ((a6t L j).map atomR) (fun h=>by have:=congrArg List.length h; rw [Qf,Q6] at this; omega) e3d q
 rw [e3f] at hgr
 obtain ⟨p1,p2,p3,p4⟩:=e2H (chR L j)
 obtain ⟨c1,c2,c3,c4⟩:=e2H ((a6t L j).map atomR)
 have hpl:(chR L j).length+1<=1000000:=by rw [e1A]; omega
 have hA:PV.sl 9 (chR L j++[groupR (a6t L j)])=slE (chR L (j+1)):=by rw [e1Q]; exact e2X _ _
 have hnx:((8*(j+1):Nat):Int)=((8*j:Nat):Int)+8:=by omega
 have q1:(leB (-9223372036854775808) (((8*j:Nat):Int)+8)&&leB (((8*j:Nat):Int)+8) 9223372036854775807)=true:=a0u (by omega)
 rw [Sys.loop,show saleroomref14_ToExpr_S.loops[1]?=some e2i from rfl,Q0]
 unfold rtE rsE
 rw [hpf,hnx]
 obtain ⟨a,b,c,d,e,f,g,v,y,hG,hy⟩:=e0W (a6t L j)
 rw [hG] at hgr hA
 generalize slE (chR L (j+1))=V2 at *
 generalize slE (chR L j)=V1 at *
 generalize chR L j=R at *
 generalize slE ((a6t L j).map atomR)=C at *
 generalize a0e Tab (q+1)=Φ at *
 have hlt:ltB ((8*j+K:Nat):Int) (L.length:Int)=true->ltB ((8*j+K:Nat):Int) (((8*j:Nat):Int)+8)=false:=by
  intro h
  simp [ltB] at h ⊢
  omega
 generalize ((8*j+K:Nat):Int)=ii at *
 generalize ((8*j:Nat):Int)=jj at *
 have key:e2i.ev Φ { i:=[jj,ii],b:=[],v:=[x,V1,C],m:=σ,k:=σ.length }=some (.jump 0 { i:=[jj+8],b:=[],v:=[x,V2],m:=σ,k:=σ.length }):=by
  unfold e2i
  cases hq:ltB ii (L.length:Int) with
  | true =>
   have q3:=hlt hq
   repeat (first | rw [a0B] | rw [a0A] | rw [a0D] | rw [a0p] | rw [a0q] | rw [a0m] | rw [a0M] | rw [a3f] | rw [a0C] | rw [a0y] | rw [a0r] | rw [a0N])<;>simp -implicitDefEqProofs only [↓reduceIte,eq_self,ξ2,ξ3,ξ4,ξ5,ξ6,ξ7,ξ8,ξ9,ξa,ξb,ξc,ξd,ξe,ξf,ξg,ξh,Nat.reduceAdd,ξi,if_true,if_false,ξl,ξm,ξn,ξo,ξp,ξq,ξr,ξs,ξt,ξu,ξv,ξw,ξx,ξy,ξz,ξA,ξB,ξC,ξD,ξE,x1,x2,x3,hq,q1,q3,hgr,c4,hy,a1x,Qu,Qv,Qw,Qy,Qz,QA,d6I,p1,hpl,hA,Qb,d6O]
  | false =>
   repeat (first | rw [a0B] | rw [a0A] | rw [a0D] | rw [a0p] | rw [a0q] | rw [a0m] | rw [a0M] | rw [a3f] | rw [a0C] | rw [a0y] | rw [a0r] | rw [a0N])<;>simp -implicitDefEqProofs only [↓reduceIte,eq_self,ξ2,ξ3,ξ4,ξ5,ξ6,ξ7,ξ8,ξ9,ξa,ξb,ξc,ξd,ξe,ξf,ξg,ξh,Nat.reduceAdd,ξi,if_true,if_false,ξl,ξm,ξn,ξo,ξp,ξq,ξr,ξs,ξt,ξu,ξv,ξw,ξx,ξy,ξz,ξA,ξB,ξC,ξD,ξE,x1,x2,x3,hq,q1,hgr,c4,hy,a1x,Qu,Qv,Qw,Qy,Qz,QA,d6I,p1,hpl,hA,Qb,d6O]
 rw [key]
 rfl
end
end Go.Proofs.Ythmkfeiapdbojaa
set_option maxRecDepth 100000
namespace Go.Proofs.Ythmkfeiapdbojaa
open Go.Sx Go.Kv Go.Bun
theorem e2B {L:List Of} (h:L.length<=64):(toX L).size<=100:=by
 unfold toX
 split
 ·have:=e0H L; omega
 ·show a2a _+1<=100
  have:=e0X L ((L.length+7) / 8)
  unfold e0u
  omega
theorem e3q {L:List Of} (h0:L.length≠0):e3c (chR L ((L.length+7) / 8))=toR L:=by
 unfold toR
 split
 ·rename_i h8
  have h1:(L.length+7) / 8=1:=by omega
  rw [h1]
  have hc:a6t L 0=L:=by unfold a6t; rw [Nat.mul_zero,Qg,Qh (by omega)]
  have:chR L 1=[groupR (a6t L 0)]:=rfl
  rw [this,hc]; rfl
 ·rename_i h8
  have hl:=e1A (L:=L) ((L.length+7) / 8)
  have he:chR L ((L.length+7) / 8)=(e0u L).map groupR:=rfl
  rw [<- he]
  match hm:chR L ((L.length+7) / 8) with
  | []=>rw [hm] at hl; simp at hl; omega
  | [r]=>rw [hm] at hl; simp at hl; omega
  | r::r2::R=>rfl
section
variable {σ:List MO} {L:List Of} {x:PV}
theorem e3e (hx:d5w L x) (hL:L.length<=1000000) (n:Nat) (hn:2000<=n):a0e Tab n 40 [x] σ=some (toV L,σ):=by
 obtain ⟨q,rfl⟩:∃ q,n=q+2:=⟨n-2,by omega⟩
 obtain ⟨x1,x2,x3⟩:=d5h hx
 have hloop:L.length≠0->L.length<=64->∀ d j,j+d=(L.length+7) / 8->∀ fuel,10*d+1<=fuel->saleroomref14_ToExpr_S.loop (a0e Tab (q+1)) fuel 0 (rsE σ L x j)=some (toV L,σ):=by
  intro h0 h64 d
  induction d with
  | zero =>
   intro j hj fuel hf
   obtain ⟨fuel,rfl⟩:∃ k,fuel=k+1:=⟨fuel-1,by omega⟩
   have hgr:=e2P (σ:=σ) (chR L j) (fun h=>by have:=congrArg List.length h; rw [e1A,Q6] at this; omega) (e3m j) q
   have hjN:j=(L.length+7) / 8:=by omega
   have hgt:e3c (chR L j)=toR L:=by rw [hjN]; exact e3q h0
   rw [hgt] at hgr
   have hsz:=e2B h64
   have hck:=c4b σ (toX L) (toR L) (e1G L) (q+1) (by omega) (by omega)
   obtain ⟨a,b,c,d,e,f,g,v,y,hG,hy⟩:=e0S (e1G L)
   unfold toV e1f
   rw [if_neg h0,if_neg (by omega)]
   rw [hG] at hgr hck ⊢
   simp only [b2l] at hck
   have q0:ltB ((8*j:Nat):Int) (L.length:Int)=false:=by simp [ltB]; omega
   have c4:=(e2H (chR L j)).2.2.2
   unfold rsE
   generalize chk (toX L)=ck at *
   generalize slE (chR L j)=V at *
   generalize a0e Tab (q+1)=Φ at *
   rw [Sys.loop,show saleroomref14_ToExpr_S.loops[0]?=some e2j from rfl]
   by_cases hc:ck=0
   ·have q3:eqB ck 0=true:=by rw [hc]; rfl
    rw [if_neg (by simp [hc])]
    simp -implicitDefEqProofs only [Q0,e2j,↓reduceIte,eq_self,ξ1,ξ2,ξ3,ξ4,ξ5,ξ6,ξ7,ξ8,ξ9,ξa,ξb,ξc,ξd,ξe,ξf,ξg,ξh,Nat.reduceAdd,ξi,if_true,if_false,ξl,ξm,ξn,ξo,ξp,ξq,ξr,ξs,ξt,ξu,ξv,ξw,ξx,ξy,ξz,ξA,ξB,ξC,ξD,ξE,x1,x2,q0,c4,hgr,hy,hck,q3,a0k,or_true]
   ·have q3:eqB ck 0=false:=eqF hc
    rw [if_pos hc]
    simp -implicitDefEqProofs only [Q0,e2j,↓reduceIte,eq_self,ξ1,ξ2,ξ3,ξ4,ξ5,ξ6,ξ7,ξ8,ξ9,ξa,ξb,ξc,ξd,ξe,ξf,ξg,ξh,Nat.reduceAdd,ξi,if_true,if_false,ξl,ξm,ξn,ξo,ξp,ξq,ξr,ξs,ξt,ξu,ξv,ξw,ξx,ξy,ξz,ξA,ξB,ξC,ξD,ξE,x1,x2,q0,c4,hgr,hy,hck,q3,a0k,or_true]
  | succ d ih =>
   intro j hj fuel hf
   obtain ⟨fuel,rfl⟩:∃ k,fuel=k+10:=⟨fuel-10,by omega⟩
   rw [e3n hx h64 (by omega)]
   exact ih (j+1) (by omega) _ (by omega)
 rw [a0e,e2A]
 simp only [Q0,Sys.run]
 show ((a0i [.sh (.one _)] _).bind _)=_
 simp only [a0i,a0d,a0c,Q2,Q0,Q3,Q4,Q5,if_true,x3]
 show (PT.ev _ e2k _).bind _=_
 by_cases h0:L.length=0
 ·have q0:eqB (L.length:Int) 0=true:=by rw [h0]; rfl
  unfold toV e1f
  rw [if_pos h0]
  simp -implicitDefEqProofs only [e2k,↓reduceIte,eq_self,ξ1,ξ2,ξ3,ξ4,ξ5,ξ6,ξ7,ξ8,ξ9,ξa,ξb,ξc,ξd,ξe,ξf,ξg,ξh,Nat.reduceAdd,ξi,if_true,if_false,ξl,ξm,ξn,ξo,ξp,ξq,ξr,ξs,ξt,ξu,ξv,ξw,ξx,ξy,ξz,ξA,ξB,ξC,ξD,ξE,x1,x2,q0,a0k,or_true]
 have q0:eqB (L.length:Int) 0=false:=eqF (by omega)
 by_cases h64:64 < L.length
 ·have q1:ltB 64 (L.length:Int)=true:=by simp [ltB]; omega
  unfold toV e1f
  rw [if_neg h0,if_pos h64]
  simp -implicitDefEqProofs only [e2k,↓reduceIte,eq_self,ξ1,ξ2,ξ3,ξ4,ξ5,ξ6,ξ7,ξ8,ξ9,ξa,ξb,ξc,ξd,ξe,ξf,ξg,ξh,Nat.reduceAdd,ξi,if_true,if_false,ξl,ξm,ξn,ξo,ξp,ξq,ξr,ξs,ξt,ξu,ξv,ξw,ξx,ξy,ξz,ξA,ξB,ξC,ξD,ξE,x1,x2,q0,q1,a0k,or_true]
 have q1:ltB 64 (L.length:Int)=false:=by simp [ltB]; omega
 have h1:=hloop h0 (by omega) ((L.length+7) / 8) 0 (by omega) (q+1) (by omega)
 refine Eq.trans ?_ h1
 have:rsE σ L x 0={ i:=[((0:Nat):Int)],b:=[],v:=[x,.nilS],m:=σ,k:=σ.length }:=by simp [rsE,chR,slE]
 rw [this]
 simp -implicitDefEqProofs only [e2k,↓reduceIte,eq_self,ξ1,ξ2,ξ3,ξ4,ξ5,ξ6,ξ7,ξ8,ξ9,ξa,ξb,ξc,ξd,ξe,ξf,ξg,ξh,Nat.reduceAdd,ξi,if_true,if_false,ξl,ξm,ξn,ξo,ξp,ξq,ξr,ξs,ξt,ξu,ξv,ξw,ξx,ξy,ξz,ξA,ξB,ξC,ξD,ξE,x1,x2,q0,q1]
 rfl
end
theorem e3p {o:Of} (h:a2K (e0w o)=0):e0E o:=by
 unfold a2K at h
 split at h
 ·split at h
  ·rename_i h1 h2
   have hr:b3m 1 o.v ⟨o.w.a,o.w.b,o.w.c,o.w.d,o.w.e,o.w.f⟩:=of_decide_eq_true h2
   unfold b3m W6.ok W6.tot at hr
   obtain ⟨p,⟨a,b,c,d,e,f⟩,v⟩:=o
   simp only at hr
   refine ⟨?_,?_,?_,?_⟩
   ·simp only; omega
   ·simp only; omega
   ·simp only [Bd.Ok]; omega
   ·simp only [Bd.zero,ne_eq,Bd.mk.injEq]; omega
  ·cases h
 ·cases h
theorem e2T (e:Ex):e∈e.pre:=by obtain ⟨op,a,b,c,d,e',f,v,l⟩:=e; simp [Ex.pre]
theorem e3h {l:List Ex} {x y:Ex} (hx:x∈l) (hy:y∈x.pre):y∈(e0q l).pre:=by
 simp only [e0q,Ex.pre,QP]
 exact .inr (c2b hx hy)
theorem e2S {L:List Of} {o:Of} (h:o∈L):e0w o∈(e0s L).pre:=by
 unfold e0s
 split
 ·rename_i o2
  rw [List.mem_singleton.1 h]; exact e2T _
 ·exact e3h (Q1.2 ⟨o,h,rfl⟩) (e2T _)
theorem e3u {L:List Of} {o:Of} (h:o∈L):e0w o∈(toX L).pre:=by
 unfold toX
 split
 ·exact e2S h
 ·obtain ⟨c,hc,ho⟩:=e0I.2 h
  exact e3h (Q1.2 ⟨c,hc,rfl⟩) (e2S ho)
theorem e3k {L:List Of} (h:chk (toX L)=0):∀ o∈L,e0E o:=fun o ho=>e3p ((c1v h).2.2.2 _ (e3u ho))
theorem e2R {L:List Of} {y:Ex} (hy:y∈(e0s L).pre):opX y≠3:=by
 unfold e0s at hy
 split at hy
 ·rw [e1b hy]; simp [e0w,opX]
 ·rcases e1w hy with rfl | ⟨x,hx,hy⟩
  ·simp [e0q,opX]
  ·obtain ⟨o,_,rfl⟩:=Q1.1 hx
   rw [e1b hy]; simp [e0w,opX]
theorem e3v {L:List Of} {y:Ex} (hy:y∈(toX L).pre):opX y≠3:=by
 unfold toX at hy
 split at hy
 ·exact e2R hy
 ·rcases e1w hy with rfl | ⟨x,hx,hy⟩
  ·simp [e0q,opX]
  ·obtain ⟨c,_,rfl⟩:=Q1.1 hx
   exact e2R hy
theorem e2L {α:Type} {f:α->Ex}:∀ (L:List α),(∀ o∈L,a6u (f o))->b1X (L.map f)
 | [],_=>by simp [b1X]
 | o::L,h=>by
  simp only [Qd,b1X]
  exact ⟨h o (by simp),e2L L fun o ho=>h o (by simp [ho])⟩
theorem e2O (o:Of):a6u (e0w o):=by simp [e0w,a6u,b1X]
theorem e2M {L:List Of} (h:L.length<=64):a6u (e0s L):=by
 unfold e0s
 split
 ·exact e2O _
 ·simp only [e0q,a6u,Qf]
  exact ⟨by omega,e2L L fun o _=>e2O o⟩
theorem e3o {L:List Of} (h:L.length<=64):a6u (toX L):=by
 unfold toX
 split
 ·exact e2M h
 ·have hn:(e0u L).length=(L.length+7) / 8:=by unfold e0u; simp
  simp only [e0q,a6u,Qf]
  exact ⟨by omega,e2L _ fun c hc=>e2M (by have:=e1d hc; omega)⟩
section
variable {L:List Of} {x:PV}
theorem e2V (hx:d5w L x) (b:Bd) (n:Nat) (hn:6000000<=n):a0e a4u (n+1) e2l [x,.agg (bpv b)] []=some (.bool true,[]):=by
 have ha:=d5O (n:=n) (by omega)
 have hT:a4u e2l=some saleroomlaw14_FlattenExprs_S:=c3c _ _ e2t
 obtain ⟨x1,x2,x3⟩:=d5h hx
 have h1:L.length<=300->a0e a4u n 39 [x] []=some (toV L,[]):=fun h=>evH (e1J (σ:=[]) hx (by omega) rfl n (by omega))
 have h2:L.length<=300->a0e a4u n 40 [x] []=some (toV L,[]):=fun h=>evH (e3e (σ:=[]) hx (by omega) n (by omega))
 have heq:∀ (e:Ex) (row:List PV),IsE e row->e.size<=100->a0e a4u n 41 [.agg row,.agg row] []=some (.bool true,[]):=fun e row h1 h2=>by
  have:=evH (e3b [] e row h1 e row h1 n (by omega) (by omega))
  rw [e.beq_refl] at this
  exact this
 have hbc:a0e a4u n 16 [.agg (bpv b)] []=some (.int .i64 b.check,[]):=by
  obtain ⟨m,rfl⟩:∃ m,n=m+1:=⟨n-1,by omega⟩
  exact evH (b3H b [] m)
 have hv:chk (toX L)=0->L.length<=64->b.Ok->a0e a4u n 21 [.agg (toR L),.agg (bpv b)] []=some (.int .i64 (d5B b L),[]):=fun k1 k2 k3=>by
  have:=evH (e3a (σ:=[]) (e3o k2) (e1G L) (by have:=e2B k2; omega) (fun y hy=>e3v hy) rfl b n (by omega))
  rw [if_pos ⟨k1,k3⟩,e2b (e3k k1) k3] at this
  exact this
 have hfv:L.length<=300->a0e a4u n 37 [x,.agg (bpv b)] []=some (.int .i64 (d5B b L),[]):=fun h=>evH (d5K (σ:=[]) hx (by omega) b n (by omega))
 have hck:L.length<=64->a0e a4u n 42 [.agg (toR L)] []=some (.int .i64 (chk (toX L)),[]):=fun h=>evH (b9C [] rfl (toX L) (toR L) (e1G L) n (by have:=e2B h; omega) (by have:=e2B h; omega))
 have hzz:∀ z:Int,eqB z z=true:=a2Y
 have zE:IsE (.node 0 0 0 0 0 0 0 0 []) [.int .i64 0,.int .i64 0,.int .i64 0,.int .i64 0,.int .i64 0,.int .i64 0,.int .i64 0,.int .i64 0,.nilS]:=by
  simp only [IsE]
  exact ⟨.nilS,[],rfl,rfl,rfl⟩
 have hez:=heq _ _ zE (by simp [Ex.size,a2a])
 have heL:L.length<=64->a0e a4u n 41 [.agg (toR L),.agg (toR L)] []=some (.bool true,[]):=fun h=>heq _ _ (e1G L) (e2B h)
 obtain ⟨ga,gb,gc,gd,ge,gf,gg,gv,gy,hG,hgy⟩:=e0S (e1G L)
 have hshE:=fun z=>shE (a:=ga) (b:=gb) (c:=gc) (d:=gd) (e:=ge) (f:=gf) (g:=gg) (v:=gv) hgy z
 have hshZ:=fun z=>shE (a:=0) (b:=0) (c:=0) (d:=0) (e:=0) (f:=0) (g:=0) (v:=0) (y:=.nilS) rfl z
 unfold toV e1f at h1 h2
 rw [hG] at h1 h2 hv hck heL
 have hbk:b.check≠0\/b.Ok:=by
  by_cases h:b.Ok
  ·exact .inr h
  ·exact .inl fun h2=>h (Bd.check_zero.1 h2)
 have hb0:b.Ok->b.check=0:=fun h=>Bd.check_zero.2 h
 clear hG heq zE
 generalize chk (toX L)=ck at *
 generalize d5B b L=a7b at *
 generalize b.check=bc at *
 rw [a0e,hT]
 generalize a0e a4u n=Φ at *
 simp only [Q0,Sys.run]
 show ((a0i [.sh (.one _),.sh (.agg [_,_,_,_,_,_])] _).bind _)=_
 have hB:bpv b=[.int .i64 b.a,.int .i64 b.b,.int .i64 b.c,.int .i64 b.d,.int .i64 b.e,.int .i64 b.f]:=rfl
 rw [hB] at hbc hv hfv ⊢
 simp only [a0i,a0d,a0c,Q2,Q0,Q3,Q4,Q5,if_true,x3]
 show (PT.ev _ e2h _).bind _=_
 suffices key:e2h.ev Φ { i:=[b.a,b.b,b.c,b.d,b.e,b.f],b:=[],v:=[x],m:=[],k:=0 }=some (.ret (.bool true) []) from (congrArg (fun r=>Qe r _) key)
 have hnn:PV.nilS.one=true:=rfl
 by_cases h300:300 < L.length
 ·have q0:ltB 300 (L.length:Int)=true:=by simp [ltB]; omega
  unfold e2h
  repeat (first | rw [a0B] | rw [a0A] | rw [a0D] | rw [a0p] | rw [a0q] | rw [a0m] | rw [a0M] | rw [a3f] | rw [a0C] | rw [a0y] | rw [a0r] | rw [a0N])<;>simp -implicitDefEqProofs only [↓reduceIte,eq_self,ξ2,ξ3,ξ4,ξ5,ξ6,ξ7,ξ8,ξ9,ξa,ξb,ξc,ξd,ξe,ξf,ξg,ξh,Nat.reduceAdd,ξi,if_true,if_false,ξl,ξm,ξn,ξo,ξp,ξq,ξr,ξs,ξt,ξu,ξv,ξw,ξx,ξy,ξz,ξA,ξB,ξC,ξD,ξE,x1,x2,q0,ha,a0k,or_true,Q6]
 have q0:ltB 300 (L.length:Int)=false:=by simp [ltB]; omega
 have h1:=h1 (by omega)
 have h2:=h2 (by omega)
 have hfv:=hfv (by omega)
 have bad:∀ z:Int,z≠0->Φ 39 [x] []=some (.tup [.agg [.int .i64 0,.int .i64 0,.int .i64 0,.int .i64 0,.int .i64 0,.int .i64 0,.int .i64 0,.int .i64 0,.nilS],.int .i64 z],[])->Φ 40 [x] []=some (.tup [.agg [.int .i64 0,.int .i64 0,.int .i64 0,.int .i64 0,.int .i64 0,.int .i64 0,.int .i64 0,.int .i64 0,.nilS],.int .i64 z],[])->e2h.ev Φ { i:=[b.a,b.b,b.c,b.d,b.e,b.f],b:=[],v:=[x],m:=[],k:=0 }=some (.ret (.bool true) []):=by
  intro z hz k1 k2
  have hz0:eqB z 0=false:=eqF hz
  have hzz1:=hzz z
  have hsh:=hshZ z
  unfold e2h
  repeat (first | rw [a0B] | rw [a0A] | rw [a0D] | rw [a0p] | rw [a0q] | rw [a0m] | rw [a0M] | rw [a3f] | rw [a0C] | rw [a0y] | rw [a0r] | rw [a0N])<;>simp -implicitDefEqProofs only [↓reduceIte,eq_self,ξ2,ξ3,ξ4,ξ5,ξ6,ξ7,ξ8,ξ9,ξa,ξb,ξc,ξd,ξe,ξf,ξg,ξh,Nat.reduceAdd,ξi,if_true,if_false,ξl,ξm,ξn,ξo,ξp,ξq,ξr,ξs,ξt,ξu,ξv,ξw,ξx,ξy,ξz,ξA,ξB,ξC,ξD,ξE,x1,x2,x3,q0,k1,k2,hsh,hnn,hzz1,hez,hz0,ha,a0k,or_true,Q6]
 by_cases k0:L.length=0
 ·rw [if_pos k0] at h1 h2
  exact bad 1 (by decide) h1 h2
 rw [if_neg k0] at h1 h2
 by_cases k64:64 < L.length
 ·rw [if_pos k64] at h1 h2
  exact bad 3 (by decide) h1 h2
 rw [if_neg k64] at h1 h2
 by_cases kc:ck=0
 case neg =>
  rw [if_pos kc] at h1 h2
  exact bad ck kc h1 h2
 rw [if_neg (by simp [kc])] at h1 h2
 have heL:=heL (by omega)
 have hck:=hck (by omega)
 rw [kc] at hck
 have hz0:eqB 0 0=true:=rfl
 have hsh:=hshE 0
 rcases hbk with hb | hb
 ·have qb:eqB bc 0=false:=eqF hb
  unfold e2h
  repeat (first | rw [a0B] | rw [a0A] | rw [a0D] | rw [a0p] | rw [a0q] | rw [a0m] | rw [a0M] | rw [a3f] | rw [a0C] | rw [a0y] | rw [a0r] | rw [a0N])<;>simp -implicitDefEqProofs only [↓reduceIte,eq_self,ξ2,ξ3,ξ4,ξ5,ξ6,ξ7,ξ8,ξ9,ξa,ξb,ξc,ξd,ξe,ξf,ξg,ξh,Nat.reduceAdd,ξi,if_true,if_false,ξl,ξm,ξn,ξo,ξp,ξq,ξr,ξs,ξt,ξu,ξv,ξw,ξx,ξy,ξz,ξA,ξB,ξC,ξD,ξE,x1,x2,x3,q0,h1,h2,hsh,hgy,hz0,heL,hbc,qb,ha,a0k,or_true,Q6]
 ·have qb:eqB bc 0=true:=by rw [hb0 hb]; rfl
  have hv:=hv kc (by omega) hb
  have hzb:=hzz a7b
  unfold e2h
  repeat (first | rw [a0B] | rw [a0A] | rw [a0D] | rw [a0p] | rw [a0q] | rw [a0m] | rw [a0M] | rw [a3f] | rw [a0C] | rw [a0y] | rw [a0r] | rw [a0N])<;>simp -implicitDefEqProofs only [↓reduceIte,eq_self,ξ2,ξ3,ξ4,ξ5,ξ6,ξ7,ξ8,ξ9,ξa,ξb,ξc,ξd,ξe,ξf,ξg,ξh,Nat.reduceAdd,ξi,if_true,if_false,ξl,ξm,ξn,ξo,ξp,ξq,ξr,ξs,ξt,ξu,ξv,ξw,ξx,ξy,ξz,ξA,ξB,ξC,ξD,ξE,x1,x2,x3,q0,h1,h2,hsh,hgy,hz0,heL,hbc,qb,hv,hfv,hzb,hck,ha,a0k,or_true,Q6]
end
end Go.Proofs.Ythmkfeiapdbojaa
