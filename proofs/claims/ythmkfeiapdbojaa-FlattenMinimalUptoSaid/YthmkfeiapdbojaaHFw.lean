/- The check of an exclusive-or whose arguments are under way in memory. -/
import Derived.Test.YthmkfeiapdbojaaHFl
import Derived.Test.YthmkfeiapdbojaaHSaa
import Derived.Test.YthmkfeiapdbojaaHSab
import Derived.Test.YthmkfeiapdbojaaHSac
set_option linter.unusedSimpArgs false
set_option linter.unusedVariables false
open Go.Sx.PT renaming ev → ξ1
open Go.Sx.BE renaming safe → ξ2, pe → ξ3, all → ξz
open Go.Sx.IE renaming pe → ξ4
open Go.Sx renaming PEnv.at → ξ5
open Go.Sx.PEnv renaming push → ξt
open List renaming getD_cons_zero → ξ6, getD_cons_succ → ξ7, getElem?_cons_zero → ξ8, getElem?_cons_succ → ξ9, drop_zero → ξf, length_cons → ξg, length_nil → ξh, take_succ_cons → ξm, take_zero → ξn, cons_append → ξu, nil_append → ξv, append_nil → ξw, map_cons → ξD, map_nil → ξE
open Go.Sx renaming a0g → ξa, a0h → ξb, a0b → ξc, a0f → ξd, a0c → ξo, a0a → ξp, a0d → ξq, a0N → ξF, a0D → ξG, a0p → ξH, a0q → ξI, a0C → ξJ, a1d → ξK, a0Z → ξL, a1e → ξM, a0Y → ξN, a0A → ξO, a0n → ξP, a0B → ξQ, a0M → ξR, a0m → ξS, a0y → ξT, a0R → ξU, a0H → ξV, a0I → ξW, a0J → ξX, a0r → ξY
open Nat renaming add_zero → ξe, le_refl → ξi
open Bool renaming false_eq_true → ξl, and_self → ξA, not_true → ξB, not_false → ξC
open Option renaming map_some → ξr, bind_some → ξs
open Go.Sx.SV renaming pvs → ξx, pv → ξy
open Option renaming bind_some → Q0, map_some → Q2, bind → Qa, bind_eq_bind → QM, pure_def → QN
open List renaming mem_map → Q1, nil_append → Q3, append_nil → Q4, cons_append → Q5, length_nil → Q6, length_cons → Q7, map_cons → Qb, mem_range → Qd, mem_of_getElem? → Qe, getD_cons_zero → Qf, getD_cons_succ → Qg, getElem?_cons_zero → Qh, drop_succ_cons → Qk, drop_nil → Qm, all_eq_true → Qn, map_append → Qp, range → Qq, drop_zero → Qr, getElem?_eq_some_iff → Qt, length_singleton → Qu, getElem?_eq_none → Qv, take_of_length_le → Qw, drop_eq_getElem?_toList_append → Qy, append_assoc → Qz, length_map → QB, length_take → QC, drop_length → QE, getElem?_cons_succ → QH, mapM_cons → QJ, reverse_cons → QK, reverse_nil → QL, length_drop → QP, range_succ → QQ, mem_iff_getElem? → QS, ext_getElem? → QU, getElem?_map → QV, getD_eq_getElem?_getD → QW
open Bool renaming and_self → Q8, false_eq_true → Q9, and_eq_true → Qs, true_and → QA
open Nat renaming zero_add → Qj
open Int renaming toNat_natCast → QD
set_option maxRecDepth 100000
namespace Go.Proofs.Ythmkfeiapdbojaa
open Go.Sx Go.Kv Go.Bun
section
variable {σ:List MO} {h:Nat} {rows:List (List PV)} {l:List Ex}
def e0q (l:List Ex):Ex:=.node 2 0 0 0 0 0 0 0 l
def e0r (x:PV):List PV:=[.int .i64 2,.int .i64 0,.int .i64 0,.int .i64 0,.int .i64 0,.int .i64 0,.int .i64 0,.int .i64 0,x]
theorem e1o {i N:Nat} (hi:i < N):a3N (i:Int) 9 0 (.rsl h N 9)=some (.elt h N i 9 0):=by
 simp only [a3N]
 rw [if_pos ⟨by omega,by omega,trivial⟩,QD]
theorem e1t {ρ:PEnv} (hm:ρ.m[h]?=some (.row rows 9 26)) {i:Nat} {r:List PV} (hr:rows[i]?=some r) (h9:r.length=9):a0b ρ false 9 (.elt h rows.length i 9 0)=some r:=by
 simp only [a0b,Q9,if_false,hm,Q0,MO.elts,and_self,if_true,hr,Qr,a0f]
 rw [if_pos (by omega),Qw (by omega)]
theorem e0S {e:Ex} {r:List PV} (h:IsE e r):∃ a b c d e' f g v y,r=[.int .i64 a,.int .i64 b,.int .i64 c,.int .i64 d,.int .i64 e',.int .i64 f,.int .i64 g,.int .i64 v,y]/\y.one=true:=by
 obtain ⟨op,a,b,c,d,e',f,v,l⟩:=e
 simp only [IsE] at h
 obtain ⟨y,rows,rfl,hy,_⟩:=h
 exact ⟨_,_,_,_,_,_,_,_,y,rfl,(a0T hy).2.2⟩
theorem e1x (hl:a1k l rows) {i:Nat} (hi:i < l.length):∃ e r,l[i]?=some e/\rows[i]?=some r/\IsE e r:=by
 obtain ⟨e1,he1⟩:∃ e1,l[i]?=some e1:=⟨_,List.getElem?_eq_getElem hi⟩
 have hd:=hl.split i
 rw [Qy,he1] at hd
 simp only [Option.toList_some,List.singleton_append,a1k] at hd
 obtain ⟨r,rs,hd1,hd2,hd3⟩:=hd
 refine ⟨e1,r,he1,?_,hd2⟩
 have:=congrArg (fun l=>l[0]?) hd1
 simpa using this
theorem e1W (hm:σ[h]?=some (.row rows 9 26)) (hl:a1k l rows) (n:Nat) (hn:a2a l+10<=n) (hb:a2a l<=100000):a0e Tab n 65 [.agg (e0r (.rsl h rows.length 9))] σ=some (.int .i64 (e0q l).depth,σ):=by
 obtain ⟨q,rfl⟩:∃ q,n=q+1:=⟨n-1,by omega⟩
 have hlen:=hl.length
 have hsl:=a3d l
 have hone:(PV.rsl h rows.length 9).one=true:=rfl
 have hkind:(PV.rsl h rows.length 9).isKind 0=true:=rfl
 have hxl:(PV.rsl h rows.length 9).len=(rows.length:Int):=rfl
 have loop:∀ (fuel:Nat) (i:Nat) (acc:Int),l.length-i < fuel->i<=l.length->0<=acc->acc<=a2a l ->
   expr_Depth_S.loop (a0e Tab q) fuel 0 { i:=[acc,(rows.length:Int),(i:Int)],b:=[],v:=[.rsl h rows.length 9],m:=σ,k:=σ.length }=some (.int .i64 (a5o acc (l.drop i)+1),σ):=by
  intro fuel
  induction fuel with
  | zero=>intro i acc h; omega
  | succ fuel ihf =>
   intro i acc h1 h2 h3 h4
   by_cases hlt:i < l.length
   ·obtain ⟨e1,r,he1,hr,hE⟩:=e1x hl hlt
    have hsz:=a2Q (Qe he1)
    have hdl:=Ex.depth_le e1
    have hcall:=c5H σ e1 r hE q (by omega) (by omega)
    have hnx:=ihf (i+1) (mxI acc e1.depth) (by omega) (by omega) (by simp only [mxI]; split<;>omega) (by simp only [mxI]; split<;>omega)
    have hdr:l.drop i=e1::l.drop (i+1):=by rw [Qy (i:=i),he1]; rfl
    obtain ⟨a,b,c,d,e',f,g,v,y,rfl,y3⟩:=e0S hE
    have hrd:∀ ρ:PEnv,ρ.m=σ->a0b ρ false 9 (.elt h rows.length i 9 0)=_:=fun ρ hρ=>e1t (by rw [hρ]; exact hm) hr rfl
    have l1:=e1o (h:=h) (i:=i) (N:=rows.length) (by omega)
    have q0:ltB (i:Int) (rows.length:Int)=true:=by simp [ltB]; omega
    have q2:=a2h (i:=i) (by omega)
    rw [hdr,a5o,<- hnx]
    simp only [b4W] at hcall
    rw [Sys.loop,show expr_Depth_S.loops[0]?=some b3Q from rfl,Q0]
    have key:b3Q.ev (a0e Tab q) { i:=[acc,(rows.length:Int),(i:Int)],b:=[],v:=[.rsl h rows.length 9],m:=σ,k:=σ.length }=some (.jump 0 { i:=[mxI acc e1.depth,(rows.length:Int),((i+1:Nat):Int)],b:=[],v:=[.rsl h rows.length 9],m:=σ,k:=σ.length }):=by
     generalize a0e Tab q=Φ at *
     unfold b3Q
     simp -implicitDefEqProofs only [a0D,a0p,a0q,BE.safe,BE.pe,IE.pe,PEnv.at,Qf,Qg,if_true,q0,hkind,hxl,le0,Q8,a0g,Qh,Q0,l1,Q7,Q6,Nat.reduceAdd]
     rw [hrd _ rfl]
     simp -implicitDefEqProofs only [↓reduceIte,eq_self,ξ2,ξ3,ξ4,ξ5,ξ6,ξ7,ξ8,ξ9,ξa,ξb,ξc,ξd,ξe,ξf,ξg,ξh,Nat.reduceAdd,ξi,if_true,if_false,ξl,ξm,ξn,ξo,ξp,ξq,ξr,ξs,ξt,ξu,ξv,ξw,ξx,ξy,ξz,ξA,ξB,ξC,ξD,ξE,y3]
     repeat (first | rw [a0B] | rw [a0A] | rw [a0D] | rw [a0p] | rw [a0q] | rw [a0m] | rw [a0M] | rw [a3f] | rw [a0C] | rw [a0y] | rw [a0r] | rw [a0N])<;>simp -implicitDefEqProofs only [↓reduceIte,eq_self,ξ2,ξ3,ξ4,ξ5,ξ6,ξ7,ξ8,ξ9,ξa,ξb,ξc,ξd,ξe,ξf,ξg,ξh,Nat.reduceAdd,ξi,if_true,if_false,ξl,ξm,ξn,ξo,ξp,ξq,ξr,ξs,ξt,ξu,ξv,ξw,ξx,ξy,ξz,ξA,ξB,ξC,ξD,ξE,hcall,y3,q2,a0v,hone]
    rw [key]
    rfl
   ·obtain rfl:i=l.length:=by omega
    have q0:ltB (l.length:Int) (rows.length:Int)=false:=by simp [ltB]; omega
    have q2:(leB (-9223372036854775808) (acc+1)&&leB (acc+1) 9223372036854775807)=true:=a0u (by omega)
    rw [Sys.loop,show expr_Depth_S.loops[0]?=some b3Q from rfl,QE,a5o]
    simp -implicitDefEqProofs only [Q0,b3Q,↓reduceIte,eq_self,ξ1,ξ2,ξ3,ξ4,ξ5,ξ6,ξ7,ξ8,ξ9,ξa,ξb,ξc,ξd,ξe,ξf,ξg,ξh,Nat.reduceAdd,ξi,if_true,if_false,ξl,ξm,ξn,ξo,ξp,ξq,ξr,ξs,ξt,ξu,ξv,ξw,ξx,ξy,ξz,ξA,ξB,ξC,ξD,ξE,q0,q2,a0k,or_true]
 have h0:=loop q 0 0 (by omega) (Nat.zero_le _) (Int.le_refl _) (by omega)
 rw [Qr] at h0
 rw [a0e,b8U]
 simp only [Q0,Sys.run]
 show ((a0i [.sh (.agg [_,_,_,_,_,_,_,_,_])] _).bind _)=_
 unfold e0r
 simp only [a0i,a0d,a0c,Q2,Q0,Q4,Q3,Q5,if_true,hone]
 show (PT.ev _ c1o _).bind _=_
 refine Eq.trans ?_ h0
 simp -implicitDefEqProofs only [c1o,↓reduceIte,eq_self,ξ1,ξ2,ξ3,ξ4,ξ5,ξ6,ξ7,ξ8,ξ9,ξa,ξb,ξc,ξd,ξe,ξf,ξg,ξh,Nat.reduceAdd,ξi,if_true,if_false,ξl,ξm,ξn,ξo,ξp,ξq,ξr,ξs,ξt,ξu,ξv,ξw,ξx,ξy,ξz,ξA,ξB,ξC,ξD,ξE,hkind,hxl]
 rfl
theorem e1C {C:Nat} {caps:List PV} {n0:Nat} {st:List Ex->List MO} {go:List Ex->Ex->Bool} {fin:List Ex->Ex->List MO} (hV:Visits C caps n0 (e0q l).pre st go fin) (hm:∀ p,(st p)[h]?=some (.row rows 9 26)) (hl:a1k l rows)
  (hroot:∀ n,n0<=n->a0e Tab n C (.agg (e0r (.rsl h rows.length 9))::caps) (st [])=some (.bool (go [] (e0q l)),if go [] (e0q l) then st [e0q l] else fin [] (e0q l))) (n:Nat) (hn:a2a l+n0+10<=n) (hb:a2a l<=100000) :
  a0e Tab n 67 [.agg [.fn C caps],.agg (e0r (.rsl h rows.length 9))] (st [])=a5A st fin (e0q l).pre (a1W go [] (e0q l).pre):=by
 obtain ⟨q,rfl⟩:∃ q,n=q+1:=⟨n-1,by omega⟩
 have hlen:=hl.length
 have hsl:=a3d l
 have hone:(PV.rsl h rows.length 9).one=true:=rfl
 have hkind:(PV.rsl h rows.length 9).isKind 0=true:=rfl
 have hxl:(PV.rsl h rows.length 9).len=(rows.length:Int):=rfl
 have honeF:(PV.fn C caps).one=true:=rfl
 have hpre:(e0q l).pre=e0q l::a4g l:=rfl
 have loop:∀ (fuel i k:Nat) (p r:List Ex),l.length-i < fuel->i<=l.length->(e0q l).pre=p++a4g (l.drop i)++r ->
   expr_walker_walk_S.loop (a0e Tab q) fuel 0 { i:=[(rows.length:Int),(i:Int)],b:=[],v:=[.rsl h rows.length 9,.fn C caps],m:=st p,k:=k }=a5A st fin (p++a4g (l.drop i)) (a1W go p (a4g (l.drop i))):=by
  intro fuel
  induction fuel with
  | zero=>intro i k p r h; omega
  | succ fuel ihf =>
   intro i k p r h1 h2 h3
   by_cases hlt:i < l.length
   ·obtain ⟨e1,rr,he1,hr,hE⟩:=e1x hl hlt
    have hsz:=a2Q (Qe he1)
    have hdr:l.drop i=e1::l.drop (i+1):=by rw [Qy (i:=i),he1]; rfl
    rw [hdr] at h3 ⊢
    simp only [a4g] at h3 ⊢
    have hcall:=b7e hV e1 rr p (a4g (l.drop (i+1))++r) (by rw [h3]; simp) hE q (by omega) (by omega)
    have hnx:=ihf (i+1) k (p++e1.pre) r (by omega) (by omega) (by rw [h3]; simp)
    obtain ⟨a,b,c,d,e',f,g,v,y,rfl,y3⟩:=e0S hE
    have hrd:∀ ρ:PEnv,ρ.m=st p->a0b ρ false 9 (.elt h rows.length i 9 0)=_:=fun ρ hρ=>e1t (by rw [hρ]; exact hm p) hr rfl
    have l1:=e1o (h:=h) (i:=i) (N:=rows.length) (by omega)
    have q0:ltB (i:Int) (rows.length:Int)=true:=by simp [ltB]; omega
    have q2:=a2h (i:=i) (by omega)
    simp only [a5C] at hcall
    rw [a8E]
    rw [Sys.loop,show expr_walker_walk_S.loops[0]?=some a5e from rfl,Q0]
    generalize a0e Tab q=Φ at *
    cases hs:a1W go p e1.pre with
    | none =>
     rw [hs] at hcall
     simp only [a5A] at hcall
     have key:a5e.ev Φ { i:=[(rows.length:Int),(i:Int)],b:=[],v:=[.rsl h rows.length 9,.fn C caps],m:=st p,k:=k }=some (.jump 0 { i:=[(rows.length:Int),((i+1:Nat):Int)],b:=[],v:=[.rsl h rows.length 9,.fn C caps],m:=st (p++e1.pre),k:=k }):=by
      unfold a5e
      simp -implicitDefEqProofs only [a0D,a0p,a0q,BE.safe,BE.pe,IE.pe,PEnv.at,Qf,Qg,if_true,q0,hkind,hxl,le0,Q8,a0g,Qh,Q0,l1,Q7,Q6,Nat.reduceAdd]
      rw [hrd _ rfl]
      simp -implicitDefEqProofs only [↓reduceIte,eq_self,ξ2,ξ3,ξ4,ξ5,ξ6,ξ7,ξ8,ξ9,ξa,ξb,ξc,ξd,ξe,ξf,ξg,ξh,Nat.reduceAdd,ξi,if_true,if_false,ξl,ξm,ξn,ξo,ξp,ξq,ξr,ξs,ξt,ξu,ξv,ξw,ξx,ξy,ξz,ξA,ξB,ξC,ξD,ξE,y3]
      repeat (first | rw [a0B] | rw [a0A] | rw [a0D] | rw [a0p] | rw [a0q] | rw [a0m] | rw [a0M] | rw [a3f] | rw [a0C] | rw [a0y] | rw [a0r] | rw [a0N])<;>simp -implicitDefEqProofs only [↓reduceIte,eq_self,ξ2,ξ3,ξ4,ξ5,ξ6,ξ7,ξ8,ξ9,ξa,ξb,ξc,ξd,ξe,ξf,ξg,ξh,Nat.reduceAdd,ξi,if_true,if_false,ξl,ξm,ξn,ξo,ξp,ξq,ξr,ξs,ξt,ξu,ξv,ξw,ξx,ξy,ξz,ξA,ξB,ξC,ξD,ξE,hcall,y3,q2,a0v,hone,honeF]
     rw [key]
     simp only [Qz] at hnx
     rw [show (Res.jump 0 { i:=[(rows.length:Int),((i+1:Nat):Int)],b:=[],v:=[.rsl h rows.length 9,.fn C caps],m:=st (p++e1.pre),k:=k }:Res)=_ from rfl]
     rw [<- Qz] at hnx
     rw [<- Qz]
     exact hnx
    | some pr =>
     obtain ⟨p',x'⟩:=pr
     rw [hs] at hcall
     simp only [a5A] at hcall
     have key:a5e.ev Φ { i:=[(rows.length:Int),(i:Int)],b:=[],v:=[.rsl h rows.length 9,.fn C caps],m:=st p,k:=k }=some (.ret (.bool false) (fin p' x')):=by
      unfold a5e
      simp -implicitDefEqProofs only [a0D,a0p,a0q,BE.safe,BE.pe,IE.pe,PEnv.at,Qf,Qg,if_true,q0,hkind,hxl,le0,Q8,a0g,Qh,Q0,l1,Q7,Q6,Nat.reduceAdd]
      rw [hrd _ rfl]
      simp -implicitDefEqProofs only [↓reduceIte,eq_self,ξ2,ξ3,ξ4,ξ5,ξ6,ξ7,ξ8,ξ9,ξa,ξb,ξc,ξd,ξe,ξf,ξg,ξh,Nat.reduceAdd,ξi,if_true,if_false,ξl,ξm,ξn,ξo,ξp,ξq,ξr,ξs,ξt,ξu,ξv,ξw,ξx,ξy,ξz,ξA,ξB,ξC,ξD,ξE,y3]
      repeat (first | rw [a0B] | rw [a0A] | rw [a0D] | rw [a0p] | rw [a0q] | rw [a0m] | rw [a0M] | rw [a3f] | rw [a0C] | rw [a0y] | rw [a0r] | rw [a0N])<;>simp -implicitDefEqProofs only [↓reduceIte,eq_self,ξ2,ξ3,ξ4,ξ5,ξ6,ξ7,ξ8,ξ9,ξa,ξb,ξc,ξd,ξe,ξf,ξg,ξh,Nat.reduceAdd,ξi,if_true,if_false,ξl,ξm,ξn,ξo,ξp,ξq,ξr,ξs,ξt,ξu,ξv,ξw,ξx,ξy,ξz,ξA,ξB,ξC,ξD,ξE,hcall,y3,q2,a0v,hone,honeF,a0k,true_or]
     rw [key]
     rfl
   ·obtain rfl:i=l.length:=by omega
    have q0:ltB (l.length:Int) (rows.length:Int)=false:=by simp [ltB]; omega
    rw [Sys.loop,show expr_walker_walk_S.loops[0]?=some a5e from rfl,QE]
    simp -implicitDefEqProofs only [Q0,a5e,↓reduceIte,eq_self,ξ1,ξ2,ξ3,ξ4,ξ5,ξ6,ξ7,ξ8,ξ9,ξa,ξb,ξc,ξd,ξe,ξf,ξg,ξh,Nat.reduceAdd,ξi,if_true,if_false,ξl,ξm,ξn,ξo,ξp,ξq,ξr,ξs,ξt,ξu,ξv,ξw,ξx,ξy,ξz,ξA,ξB,ξC,ξD,ξE,q0,a0k,true_or,a4g,a1W,a5A,Q4]
 have hr:=hroot q (by omega)
 rw [a0e,b2R]
 simp only [Q0,Sys.run]
 show ((a0i [.sh (.agg [_]),.sh (.agg [_,_,_,_,_,_,_,_,_])] _).bind _)=_
 unfold e0r at hr ⊢
 simp only [a0i,a0d,a0c,Q2,Q0,Q4,Q3,Q5,if_true,hone,honeF]
 show (PT.ev _ a5D _).bind _=_
 rw [hpre,show e0q l::a4g l=[e0q l]++a4g l from rfl,a8E]
 cases hg:go [] (e0q l) with
 | false =>
  rw [hg] at hr
  simp only [Q9,if_false] at hr
  have key:∀ k,a5D.ev (a0e Tab q) { i:=[2,0,0,0,0,0,0,0],b:=[],v:=[.fn C caps,.rsl h rows.length 9],m:=st [],k:=k }=some (.ret (.bool false) (fin [] (e0q l))):=by
   intro k
   unfold a5D
   simp -implicitDefEqProofs only [↓reduceIte,eq_self,ξ1,ξ2,ξ3,ξ4,ξ5,ξ6,ξ7,ξ8,ξ9,ξa,ξb,ξc,ξd,ξe,ξf,ξg,ξh,Nat.reduceAdd,ξi,if_true,if_false,ξl,ξm,ξn,ξo,ξp,ξq,ξr,ξs,ξt,ξu,ξv,ξw,ξx,ξy,ξz,ξA,ξB,ξC,ξD,ξE,hr,hone,honeF,a0k,true_or]
  simp only [a1W,hg,Q9,if_false,a5A]
  exact (congrArg (fun r=>Qa r _) (key _))
 | true =>
  rw [hg] at hr
  simp only [if_true] at hr
  have key:∀ k,a5D.ev (a0e Tab q) { i:=[2,0,0,0,0,0,0,0],b:=[],v:=[.fn C caps,.rsl h rows.length 9],m:=st [],k:=k }=some (.jump 0 { i:=[(rows.length:Int),((0:Nat):Int)],b:=[],v:=[.rsl h rows.length 9,.fn C caps],m:=st [e0q l],k:=k }):=by
   intro k
   unfold a5D
   simp -implicitDefEqProofs only [↓reduceIte,eq_self,ξ1,ξ2,ξ3,ξ4,ξ5,ξ6,ξ7,ξ8,ξ9,ξa,ξb,ξc,ξd,ξe,ξf,ξg,ξh,Nat.reduceAdd,ξi,if_true,if_false,ξl,ξm,ξn,ξo,ξp,ξq,ξr,ξs,ξt,ξu,ξv,ξw,ξx,ξy,ξz,ξA,ξB,ξC,ξD,ξE,hr,hone,honeF,hkind,hxl]
   rfl
  simp only [a1W,hg,if_true,Q3]
  have h0:=loop q 0 (st []).length [e0q l] [] (by omega) (Nat.zero_le _) (by simp [hpre])
  rw [Qr] at h0
  refine Eq.trans (congrArg (fun r=>Qa r _) (key _)) ?_
  exact h0
end
end Go.Proofs.Ythmkfeiapdbojaa
set_option maxRecDepth 100000
namespace Go.Proofs.Ythmkfeiapdbojaa
open Go.Sx Go.Kv Go.Bun
section
variable {σ:List MO} {h:Nat} {rows:List (List PV)} {l:List Ex}
theorem e2a (hl:a1k l rows) (n:Nat) (hn:1<=n):a0e Tab n 70 [.agg (e0r (.rsl h rows.length 9))] σ=some (.bool (e0q l).form,σ):=by
 obtain ⟨n,rfl⟩:∃ k,n=k+1:=⟨n-1,by omega⟩
 have x1:(PV.rsl h rows.length 9).len=(rows.length:Int):=rfl
 have x2:(PV.rsl h rows.length 9).isKind 0=true:=rfl
 have x3:(PV.rsl h rows.length 9).one=true:=rfl
 have hlen:=hl.length
 simp only [e0q,Ex.form]
 rw [<- hlen]
 generalize PV.rsl h rows.length 9=x at *
 generalize hz:(rows.length:Int)=z at *
 rw [a0e,c0c]
 simp only [Q0,Sys.run]
 show ((a0i [.sh (.agg [_,_,_,_,_,_,_,_,_])] _).bind _)=_
 unfold e0r
 simp only [a0i,a0d,a0c,Q2,Q0,Q4,Q3,Q5,if_true,x3]
 show (PT.ev _ b1l _).bind _=_
 simp -implicitDefEqProofs only [b1l,↓reduceIte,eq_self,ξ1,ξ2,ξ3,ξ4,ξ5,ξ6,ξ7,ξ8,ξ9,ξa,ξb,ξc,ξd,ξe,ξf,ξg,ξh,Nat.reduceAdd,ξi,if_true,if_false,ξl,ξm,ξn,ξo,ξp,ξq,ξr,ξs,ξt,ξu,ξv,ξw,ξx,ξy,ξz,ξA,ξB,ξC,ξD,ξE,a0k,or_true,x1,x2]
 simp only [a2p,a1U,Qs]
 repeat' split
 all_goals (simp only [Q0]; congr 3; rw [Bool.eq_iff_iff,decide_eq_true_iff]; simp only [Qs,a2p,decide_eq_true_eq,b2K,Q9,false_iff]; first | omega | simp_all)
theorem e2g {x:PV} (hx:x.one=true) (n:Nat) (hn:1<=n):a0e Tab n 71 [.agg (e0r x)] σ=some (.bool true,σ):=by
 obtain ⟨n,rfl⟩:∃ k,n=k+1:=⟨n-1,by omega⟩
 rw [a0e,b8j]
 simp only [Q0,Sys.run]
 show ((a0i [.sh (.agg [_,_,_,_,_,_,_,_,_])] _).bind _)=_
 unfold e0r
 have h2:eqB 2 2=true:=rfl
 simp only [a0i,a0d,a0c,Q2,Q0,Q4,Q3,Q5,if_true,hx]
 show (PT.ev _ a8F _).bind _=_
 simp -implicitDefEqProofs only [a8F,↓reduceIte,eq_self,ξ1,ξ2,ξ3,ξ4,ξ5,ξ6,ξ7,ξ8,ξ9,ξa,ξb,ξc,ξd,ξe,ξf,ξg,ξh,Nat.reduceAdd,ξi,if_true,if_false,ξl,ξm,ξn,ξo,ξp,ξq,ξr,ξs,ξt,ξu,ξv,ξw,ξx,ξy,ξz,ξA,ξB,ξC,ξD,ξE,a0k,or_true,h2]
theorem e1v:(e0q l).rng=true:=by simp [e0q,Ex.rng,b3m]
theorem e2f (hl:a1k l rows) (n:Nat) (hn:1<=n):a0e Tab n b3Z [.agg (e0r (.rsl h rows.length 9)),.ref σ.length 0] (σ++[.cells [.int .i64 0] 3])=some (.bool true,σ++[.cells [.int .i64 1] 3]):=by
 obtain ⟨n,rfl⟩:∃ k,n=k+1:=⟨n-1,by omega⟩
 have x3:(PV.rsl h rows.length 9).one=true:=rfl
 generalize PV.rsl h rows.length 9=x at *
 simp only [a0e,b8m,Q0,Sys.run,c8o,c2P,c5o,c7J,e0r]
 simp only [a0i,a0d,a0c,x3,PV.isPtr,if_true,Q2,Q0,Q4,Q3,Q5]
 have q2:leB (-9223372036854775808) ((0:Int)+1)=true:=rfl
 have q3:leB ((0:Int)+1) 9223372036854775807=true:=rfl
 have hget:(σ++[MO.cells [.int .i64 0] 3])[σ.length]?=some (.cells [.int .i64 0] 3):=by simp
 simp -implicitDefEqProofs only [expr_Size_1_s,PT.ev,a0g,QH,Qh,Q0,a0h,Nat.add_zero,a0b,Q9,if_false,hget,MO.list,Qr,a0f,Q7,Q6,Nat.reduceAdd,Nat.le_refl,if_true,
  List.take_succ_cons,List.take_zero,a0c,Q2,PEnv.push,Q4,Q5,Q3,BE.safe,BE.pe,IE.pe,Q8,Qg,Qf,q2,q3,SV.pvs,SV.pv,a1A,Qj,Qk,Qm,a7G,a0k,true_or]
 rfl
theorem e2e (hl:a1k l rows) (n:Nat) (hn:1<=n):a0e Tab n b2a [.agg (e0r (.rsl h rows.length 9))] σ=some (.bool (decide ((e0q l).len<=8)),σ):=by
 obtain ⟨n,rfl⟩:∃ k,n=k+1:=⟨n-1,by omega⟩
 have x1:(PV.rsl h rows.length 9).len=(rows.length:Int):=rfl
 have x2:(PV.rsl h rows.length 9).isKind 0=true:=rfl
 have x3:(PV.rsl h rows.length 9).one=true:=rfl
 have hlen:=hl.length
 have hle:leB (rows.length:Int) 8=decide (l.length<=8):=by rw [hlen]; unfold leB; congr 1; rw [eq_iff_iff]; omega
 generalize PV.rsl h rows.length 9=x at *
 simp only [a0e,b6M,Q0,Sys.run]
 show ((a0i [.sh (.agg [_,_,_,_,_,_,_,_,_])] _).bind _)=_
 unfold e0r
 simp only [a0i,a0d,a0c,Q2,Q0,Q4,Q3,Q5,if_true,x3]
 show (PT.ev _ a7I _).bind _=_
 simp -implicitDefEqProofs only [a7I,↓reduceIte,eq_self,ξ1,ξ2,ξ3,ξ4,ξ5,ξ6,ξ7,ξ8,ξ9,ξa,ξb,ξc,ξd,ξe,ξf,ξg,ξh,Nat.reduceAdd,ξi,if_true,if_false,ξl,ξm,ξn,ξo,ξp,ξq,ξr,ξs,ξt,ξu,ξv,ξw,ξx,ξy,ξz,ξA,ξB,ξC,ξD,ξE,a0k,or_true,x1,x2,hle,e0q,Ex.len]
 rfl
theorem e2c (hl:a1k l rows) (n:Nat) (hn:3<=n):a0e Tab n b2j [.agg (e0r (.rsl h rows.length 9)),.ref σ.length 0] (σ++[.cells [.int .i64 0] 28])=some (.bool (decide (a2K (e0q l)=0)),σ++[.cells [.int .i64 (a2K (e0q l))] 28]):=by
 obtain ⟨n,rfl⟩:∃ k,n=k+1:=⟨n-1,by omega⟩
 have c1:=e2a (h:=h) (σ:=σ++[.cells [.int .i64 0] 28]) hl n (by omega)
 have x3:(PV.rsl h rows.length 9).one=true:=rfl
 have c2:=e2g (σ:=σ++[.cells [.int .i64 0] 28]) x3 n (by omega)
 have hnd:a2K (e0q l)=if (e0q l).form then (if (e0q l).rng then 0 else 4) else 2:=rfl
 rw [e1v] at hnd
 generalize a2K (e0q l)=nd at *
 generalize (e0q l).form=bf at *
 generalize PV.rsl h rows.length 9=x at *
 unfold e0r at *
 simp only [a0e,b7f,Q0,Sys.run]
 show ((a0i [.sh (.agg [_,_,_,_,_,_,_,_,_]),.ptr] _).bind _)=_
 have hptr:(PV.ref σ.length 0).isPtr=true:=rfl
 simp only [a0i,a0d,a0c,Q2,Q0,Q4,Q3,Q5,if_true,x3,hptr]
 show (PT.ev _ a4w _).bind _=_
 have hget:∀ z,(σ++[MO.cells [.int .i64 z] 28])[σ.length]?=some (.cells [.int .i64 z] 28):=by simp
 have e2:eqB 2 0=false:=rfl
 cases bf with
 | false =>
  obtain rfl:nd=2:=hnd
  simp -implicitDefEqProofs only [a4w,↓reduceIte,eq_self,ξ1,ξ2,ξ3,ξ4,ξ5,ξ6,ξ7,ξ8,ξ9,ξa,ξb,ξc,ξd,ξe,ξf,ξg,ξh,Nat.reduceAdd,ξi,if_true,if_false,ξl,ξm,ξn,ξo,ξp,ξq,ξr,ξs,ξt,ξu,ξv,ξw,ξx,ξy,ξz,ξA,ξB,ξC,ξD,ξE,c1,hget,MO.list,a1A,Qj,Qk,Qm,a7G,a0k,true_or,e2]
  rfl
 | true =>
  obtain rfl:nd=0:=hnd
  simp -implicitDefEqProofs only [a4w,↓reduceIte,eq_self,ξ1,ξ2,ξ3,ξ4,ξ5,ξ6,ξ7,ξ8,ξ9,ξa,ξb,ξc,ξd,ξe,ξf,ξg,ξh,Nat.reduceAdd,ξi,if_true,if_false,ξl,ξm,ξn,ξo,ξp,ξq,ξr,ξs,ξt,ξu,ξv,ξw,ξx,ξy,ξz,ξA,ξB,ξC,ξD,ξE,c1,c2,hget,MO.list,a1A,Qj,Qk,Qm,a7G,a0k,true_or,a2Y]
  rfl
theorem e1y {o:MO} {m:List MO} (hm:σ[h]?=some o):(σ++m)[h]?=some o:=by
 have:=(Qt.1 hm).1
 rw [List.getElem?_append_left this]; exact hm
theorem e1K:(e0q l).size=a2a l+1:=rfl
theorem e2d (hm:σ[h]?=some (.row rows 9 26)) (hσ:σ.all (MO.low σ.length)=true) (hl:a1k l rows) (n:Nat) (hn:a2a l+20<=n) (hb:a2a l<=100000):a0e Tab n 68 [.agg (e0r (.rsl h rows.length 9))] σ=some (.int .i64 (e0q l).size,σ):=by
 obtain ⟨n,rfl⟩:∃ k,n=k+1:=⟨n-1,by omega⟩
 have hw:=e1C (c2N σ (e0q l).pre (by rw [Ex.pre_len,e1K]; omega)) (fun p=>e1y hm) hl (fun n h0=>by simpa using e2f (h:=h) (σ:=σ) hl n h0) n (by omega) hb
 have hstop:∀ (l p:List Ex),a1W (fun _ _=>true) p l=none:=by
  intro l
  induction l with
  | nil=>intro p; rfl
  | cons x l ih=>intro p; simp [a1W,ih]
 rw [hstop] at hw
 simp only [a5A,Q3,Q6,Ex.pre_len,a5C,b3Z,Int.cast_ofNat_Int] at hw
 have x3:(PV.rsl h rows.length 9).one=true:=rfl
 generalize PV.rsl h rows.length 9=x at *
 unfold e0r at *
 simp only [a0e,c0m,Q0,Sys.run]
 show ((a0i [.sh (.agg [_,_,_,_,_,_,_,_,_])] _).bind _)=_
 simp only [a0i,a0d,a0c,x3,if_true,Q2,Q0,Q4,Q3,Q5]
 show (PT.ev _ b1p _).bind _=_
 have hσ':∀ x∈σ,MO.low σ.length x=true:=Qn.1 hσ
 simp [b1p,PT.ev,SV.pvs,SV.pv,IE.pe,PV.on,hw,a0a,a0d,a0c,PEnv.push,a0g,a0h,a0b,MO.list,a0f,a0k,PV.frz,a1A]
 rw [if_pos hσ']
 rfl
theorem e1X (hm:σ[h]?=some (.row rows 9 26)) (hσ:σ.all (MO.low σ.length)=true) (hl:a1k l rows) (n:Nat) (hn:a2a l+30<=n) (hb:a2a l<=100000):a0e Tab n 42 [.agg (e0r (.rsl h rows.length 9))] σ=some (.int .i64 (chk (e0q l)),σ):=by
 obtain ⟨n,rfl⟩:∃ k,n=k+1:=⟨n-1,by omega⟩
 have c1:=e1W hm hl n (by omega) hb
 have c2:=e2d hm hσ hl n (by omega) hb
 have w1:=e1C (c2p σ (e0q l).pre) (fun p=>hm) hl (fun n h0=>by simpa using e2e (h:=h) (σ:=σ) hl n h0) n (by omega) hb
 have w2:=e1C (c1r σ (e0q l).pre) (fun p=>e1y hm) hl (fun n h0=>by
  rw [e2c (h:=h) (σ:=σ) hl n h0]
  by_cases hz:a2K (e0q l)=0<;>simp [hz]) n (by omega) hb
 have s1:=b7J (fun x=>decide (x.len<=8)) (e0q l).pre []
 have s2:=b8F (e0q l).pre []
 simp only [chk]
 generalize (e0q l).pre=pr at *
 generalize a2W pr=ne at *
 have x3:(PV.rsl h rows.length 9).one=true:=rfl
 generalize PV.rsl h rows.length 9=x at *
 generalize e0q l=y0 at *
 unfold e0r at *
 simp only [b2a,b2j] at w1 w2
 rw [a0e,b9i]
 simp only [Q0,Sys.run]
 show ((a0i [.sh (.agg [_,_,_,_,_,_,_,_,_])] _).bind _)=_
 simp only [a0i,a0d,a0c,Q2,Q0,Q4,Q3,Q5,if_true,x3]
 show (PT.ev _ a9r _).bind _=_
 simp -implicitDefEqProofs only [a9r,↓reduceIte,eq_self,ξ1,ξ2,ξ3,ξ4,ξ5,ξ6,ξ7,ξ8,ξ9,ξa,ξb,ξc,ξd,ξe,ξf,ξg,ξh,Nat.reduceAdd,ξi,if_true,if_false,ξl,ξm,ξn,ξo,ξp,ξq,ξr,ξs,ξt,ξu,ξv,ξw,ξx,ξy,ξz,ξA,ξB,ξC,ξD,ξE,c1,a1n]
 by_cases h1:6 < y0.depth
 ·simp -implicitDefEqProofs only [if_pos h1,↓reduceIte,eq_self,ξ1,ξ2,ξ3,ξ4,ξ5,ξ6,ξ7,ξ8,ξ9,ξa,ξb,ξc,ξd,ξe,ξf,ξg,ξh,Nat.reduceAdd,ξi,if_true,if_false,ξl,ξm,ξn,ξo,ξp,ξq,ξr,ξs,ξt,ξu,ξv,ξw,ξx,ξy,ξz,ξA,ξB,ξC,ξD,ξE,a0k,or_true]
 simp -implicitDefEqProofs only [if_neg h1,↓reduceIte,eq_self,ξ1,ξ2,ξ3,ξ4,ξ5,ξ6,ξ7,ξ8,ξ9,ξa,ξb,ξc,ξd,ξe,ξf,ξg,ξh,Nat.reduceAdd,ξi,if_true,if_false,ξl,ξm,ξn,ξo,ξp,ξq,ξr,ξs,ξt,ξu,ξv,ξw,ξx,ξy,ξz,ξA,ξB,ξC,ξD,ξE]
 cases ha:pr.all (fun x=>decide (x.len<=8)) with
 | false =>
  obtain ⟨q,x',hs⟩:=s1.2 ha
  simp only [hs,a5A] at w1
  simp -implicitDefEqProofs only [↓reduceIte,eq_self,ξ1,ξ2,ξ3,ξ4,ξ5,ξ6,ξ7,ξ8,ξ9,ξa,ξb,ξc,ξd,ξe,ξf,ξg,ξh,Nat.reduceAdd,ξi,if_true,if_false,ξl,ξm,ξn,ξo,ξp,ξq,ξr,ξs,ξt,ξu,ξv,ξw,ξx,ξy,ξz,ξA,ξB,ξC,ξD,ξE,w1,a0k,or_true,ite_self]
 | true =>
  simp only [s1.1 ha,a5A] at w1
  simp -implicitDefEqProofs only [↓reduceIte,eq_self,ξ1,ξ2,ξ3,ξ4,ξ5,ξ6,ξ7,ξ8,ξ9,ξa,ξb,ξc,ξd,ξe,ξf,ξg,ξh,Nat.reduceAdd,ξi,if_true,if_false,ξl,ξm,ξn,ξo,ξp,ξq,ξr,ξs,ξt,ξu,ξv,ξw,ξx,ξy,ξz,ξA,ξB,ξC,ξD,ξE,w1,c2,a1n]
  by_cases h2:40 < y0.size
  ·rw [if_pos (by omega)]
   simp -implicitDefEqProofs only [if_pos h2,↓reduceIte,eq_self,ξ1,ξ2,ξ3,ξ4,ξ5,ξ6,ξ7,ξ8,ξ9,ξa,ξb,ξc,ξd,ξe,ξf,ξg,ξh,Nat.reduceAdd,ξi,if_true,if_false,ξl,ξm,ξn,ξo,ξp,ξq,ξr,ξs,ξt,ξu,ξv,ξw,ξx,ξy,ξz,ξA,ξB,ξC,ξD,ξE,a0k,or_true]
  ·rw [if_neg (by omega)]
   have hget:∀ z,(σ++[MO.cells [.int .i64 z] 28])[σ.length]?=some (.cells [.int .i64 z] 28):=by simp
   have hσ':∀ x∈σ,MO.low σ.length x=true:=Qn.1 hσ
   have hne:¬ (σ++[MO.cells [.int .i64 ne] 28]).length=σ.length:=by simp
   have htk:(σ++[MO.cells [.int .i64 ne] 28]).take σ.length=σ:=by simp
   rcases s2 with ⟨q,x',hs,hx'⟩ | ⟨hs,hz⟩
   ·simp only [hs,a5A,hx'] at w2
    simp -implicitDefEqProofs only [if_neg h2,↓reduceIte,eq_self,ξ1,ξ2,ξ3,ξ4,ξ5,ξ6,ξ7,ξ8,ξ9,ξa,ξb,ξc,ξd,ξe,ξf,ξg,ξh,Nat.reduceAdd,ξi,if_true,if_false,ξl,ξm,ξn,ξo,ξp,ξq,ξr,ξs,ξt,ξu,ξv,ξw,ξx,ξy,ξz,ξA,ξB,ξC,ξD,ξE,SV.pvs,PV.on,hget,MO.list,a1A,Qj,Qk,Qm,a7G,w2,a0k,Q9,false_or,if_neg hne,htk,hσ,PV.frz]
   ·simp only [hs,a5A] at w2
    subst hz
    simp -implicitDefEqProofs only [if_neg h2,↓reduceIte,eq_self,ξ1,ξ2,ξ3,ξ4,ξ5,ξ6,ξ7,ξ8,ξ9,ξa,ξb,ξc,ξd,ξe,ξf,ξg,ξh,Nat.reduceAdd,ξi,if_true,if_false,ξl,ξm,ξn,ξo,ξp,ξq,ξr,ξs,ξt,ξu,ξv,ξw,ξx,ξy,ξz,ξA,ξB,ξC,ξD,ξE,SV.pvs,PV.on,hget,MO.list,a1A,Qj,Qk,Qm,a7G,w2,a0k,Q9,false_or,if_neg hne,htk,hσ,PV.frz]
end
end Go.Proofs.Ythmkfeiapdbojaa
set_option maxRecDepth 100000
namespace Go.Proofs.Ythmkfeiapdbojaa
open Go.Sx Go.Kv Go.Bun
def gS (g:Nat) (R:List (List PV)):PV:=match R with | []=>.nilS | _::_=>.rsl g R.length 9
def gO (R:List (List PV)):List MO:=match R with | []=>[] | _::_=>[.row R 9 26]
section
variable {σ:List MO} {R:List (List PV)}
theorem e1T {Φ:Fns} {ρ:PEnv} {k:PT} {n3 n4:Nat} {r:List PV} (h3:ρ.v[n3]?=some (gS σ.length R)) (h4:ρ.v[n4]?=some (.sl 9 [r])) (hR:R.length<=100000) (hm:ρ.m=σ++gO R) :
  (PT.appM (.va n3) (.va n4) 9 26 k).ev Φ ρ=k.ev Φ { ρ with v:=ρ.v++[gS σ.length (R++[r])],m:=σ++gO (R++[r]) }:=by
 have hs:a1x ρ 9 (.va n4)=some [r]:=by simp only [a1x,h4,Q0,PV.rowsOf,if_true]
 have hd:(SV.va n3).pv ρ noOwn=some (gS σ.length R):=by simp only [SV.pv,h3]
 rw [a0y,hd,hs]
 cases R with
 | nil =>
  simp only [Q0,gS,Qu]
  have hl:(σ++gO []).length=σ.length:=by simp [gO]
  rw [if_pos (by omega),if_neg (by omega),hm,hl]
  simp [gO]
 | cons y R =>
  have h1:ρ.m[σ.length]?=some (.row (y::R) 9 26):=by rw [hm]; exact b5O _ _ _
  have h2:ρ.m.set σ.length (.row (y::R++[r]) 9 26)=σ++gO (y::R++[r]):=by rw [hm]; exact c8B _ _ _ _
  simp only [Q0,gS,h1,Qu]
  rw [if_pos ⟨trivial,trivial,trivial,trivial,by omega⟩,if_neg (by omega),h2]
  simp [gS]
theorem e1u:(gS σ.length R).len=(R.length:Int)/\(gS σ.length R).isKind 0=true/\(gS σ.length R).one=true:=by cases R<;>exact ⟨rfl,rfl,rfl⟩
theorem e1M (hlow:σ.all (MO.low σ.length)=true) (hR:∀ k,PV.lowss k R=true) (h1:∀ r∈R,r.all PV.one=true):(σ++gO R).all (MO.low (σ++gO R).length)=true:=by
 refine b7j hlow ?_
 cases R with
 | nil=>rfl
 | cons y R=>simp only [gO,List.all_cons,List.all_nil,MO.low,hR,Q8]
theorem e0T {ρ:PEnv} {p q:PV} {g:List MO} (hlow:σ.all (MO.low σ.length)=true) (h1:ρ.m=σ++g) (hg:g≠[]) (h2:ρ.k=σ.length) (hq:p.frz σ.length (a5V ρ 3)=some q):a0k ρ false p=some (q,σ):=by
 unfold a0k
 rw [h1,h2,if_neg (by rw [List.length_append]; have:=List.length_pos_iff.2 hg; simp; exact hg),List.take_left,if_pos hlow,<- h2,h2,hq]
 rfl
theorem e1F {ρ:PEnv} {y:List PV} (h1:ρ.m=σ++gO (y::R)) (h2:ρ.k=σ.length) (hR:PV.lowss σ.length (y::R)=true) (ho:∀ r∈y::R,r.all PV.one=true):a5V ρ 3 σ.length=some (.row (y::R) 9 26):=by
 have h0:ρ.m[σ.length]?=some (.row (y::R) 9 26):=by rw [h1]; exact b5O _ _ _
 simp only [a5V,h0,Q0]
 rw [h2,PV.frzss_low (y::R) hR ho]
 rfl
end
def e0w (o:Of):Ex:=.node 1 o.w.a o.w.b o.w.c o.w.d o.w.e o.w.f o.v []
def e0p (o:Of):List PV:=[.int .i64 1,.int .i64 o.w.a,.int .i64 o.w.b,.int .i64 o.w.c,.int .i64 o.w.d,.int .i64 o.w.e,.int .i64 o.w.f,.int .i64 o.v,.nilS]
def e0s (L:List Of):Ex:=match L with | [o]=>e0w o | _=>e0q (L.map e0w)
def e0t (L:List Of):List PV:=match L with | [o]=>e0p o | _=>e0r (.sl 9 (L.map e0p))
theorem e1q (o:Of):IsE (e0w o) (e0p o):=by
 simp only [e0w,e0p,IsE]
 exact ⟨.nilS,[],rfl,rfl,rfl⟩
theorem e0K {α:Type} {f:α->Ex} {g:α->List PV}:∀ (L:List α),(∀ o∈L,IsE (f o) (g o))->a1k (L.map f) (L.map g)
 | [],_=>by simp [a1k]
 | o::L,h=>by
  simp only [Qb,a1k]
  exact ⟨_,_,rfl,h o (by simp),e0K L fun o ho=>h o (by simp [ho])⟩
theorem e1z {l:List Ex} {rows:List (List PV)} (h:a1k l rows):IsE (e0q l) (e0r (.sl 9 rows)):=by
 simp only [e0q,e0r,IsE]
 exact ⟨_,rows,rfl,by simp [PV.rowsOf],h⟩
theorem e0G (L:List Of):IsE (e0s L) (e0t L):=by
 unfold e0s e0t
 split
 ·exact e1q _
 ·exact e1z (e0K L fun o _=>e1q o)
theorem e0M (k:Nat):∀ L:List Of,PV.lowss k (L.map e0p)=true
 | []=>rfl
 | o::L=>by have:=e0M k L; simp only [Qb,PV.lowss,e0p,PV.lows,PV.low,Q8,QA] at *; exact this
theorem e1D (L:List Of):∀ r∈L.map e0p,r.all PV.one=true:=by
 intro r hr
 obtain ⟨o,_,rfl⟩:=Q1.1 hr
 rfl
section
variable {σ:List MO} {L:List Of} {x:PV}
def gpE (σ:List MO) (L:List Of) (x:PV) (i:Nat):PEnv:={ i:=[(L.length:Int),(i:Int)],b:=[],v:=[x,gS σ.length ((L.take i).map e0p)],m:=σ++gO ((L.take i).map e0p),k:=σ.length }
theorem e1s (hx:d5w L x) (hL:L.length<=1000) (hne:L≠[]) (hlow:σ.all (MO.low σ.length)=true) (n:Nat) (hn:L.length+10<=n):a0e Tab n 63 [x] σ=some (.agg (e0t L),σ):=by
 obtain ⟨q,rfl⟩:∃ q,n=q+1:=⟨n-1,by omega⟩
 obtain ⟨x1,x2,x3⟩:=d5h hx
 have step:∀ i:Nat,i < L.length->∀ fuel,flatten_group_S.loop (a0e Tab q) (fuel+1) 0 (gpE σ L x i)=flatten_group_S.loop (a0e Tab q) fuel 0 (gpE σ L x (i+1)):=by
  intro i hi fuel
  obtain ⟨o,ho⟩:=a3n hi
  have l1:=a4d (off:=0) hx (d5z ho)
  have q0:ltB (i:Int) (L.length:Int)=true:=by simp [ltB]; exact hi
  have q2:=a2h (i:=i) (by omega)
  have htk:(L.take (i+1)).map e0p=(L.take i).map e0p++[e0p o]:=by
   rw [List.take_add_one,ho,Qp]; rfl
  have hl:((L.take i).map e0p).length<=100000:=by rw [QB,QC]; omega
  unfold gpE
  rw [htk]
  generalize (L.take i).map e0p=R at *
  have hap:∀ (ii:List Int) (k:PT),(PT.appM (.va 1) (.va 2) 9 26 k).ev (a0e Tab q) { i:=ii,b:=[],v:=[x,gS σ.length R,.sl 9 [e0p o]],m:=σ++gO R,k:=σ.length }=k.ev (a0e Tab q) { i:=ii,b:=[],v:=[x,gS σ.length R,.sl 9 [e0p o],gS σ.length (R++[e0p o])],m:=σ++gO (R++[e0p o]),k:=σ.length }:=fun ii k=>e1T rfl rfl hl rfl
  have ho1:=fun R=>(e1u (σ:=σ) (R:=R)).2.2
  rw [Sys.loop,show flatten_group_S.loops[0]?=some d5p from rfl,Q0]
  have key:d5p.ev (a0e Tab q) { i:=[(L.length:Int),(i:Int)],b:=[],v:=[x,gS σ.length R],m:=σ++gO R,k:=σ.length }=some (.jump 0 { i:=[(L.length:Int),((i+1:Nat):Int)],b:=[],v:=[x,gS σ.length (R++[e0p o])],m:=σ++gO (R++[e0p o]),k:=σ.length }):=by
   generalize a0e Tab q=Φ at *
   obtain ⟨p,⟨w0,w1,w2,w3,w4,w5⟩,v⟩:=o
   simp only [Of.pv] at l1
   simp only [e0p] at hap ⊢
   unfold d5p
   simp -implicitDefEqProofs only [a0C,a0D,a0p,a0q,a1x,QJ,List.mapM_nil,QK,QL,QM,QN,Q6,Qu,Q7,↓reduceIte,eq_self,ξ2,ξ3,ξ4,ξ5,ξ6,ξ7,ξ8,ξ9,ξa,ξb,ξc,ξd,ξe,ξf,ξg,ξh,Nat.reduceAdd,ξi,if_true,if_false,ξl,ξm,ξn,ξo,ξp,ξq,ξr,ξs,ξt,ξu,ξv,ξw,ξx,ξy,ξz,ξA,ξB,ξC,ξD,ξE,x1,x2,x3,q0,le0,l1]
   simp -implicitDefEqProofs only [Nat.reduceAdd,d6O,if_true,hap]
   repeat (first | rw [a0B] | rw [a0A] | rw [a0D] | rw [a0p] | rw [a0q] | rw [a0m] | rw [a0M] | rw [a3f] | rw [a0C] | rw [a0y] | rw [a0r] | rw [a0N])<;>simp -implicitDefEqProofs only [↓reduceIte,eq_self,ξ2,ξ3,ξ4,ξ5,ξ6,ξ7,ξ8,ξ9,ξa,ξb,ξc,ξd,ξe,ξf,ξg,ξh,Nat.reduceAdd,ξi,if_true,if_false,ξl,ξm,ξn,ξo,ξp,ξq,ξr,ξs,ξt,ξu,ξv,ξw,ξx,ξy,ξz,ξA,ξB,ξC,ξD,ξE,x3,ho1,q2,a0v,d6O]
  rw [key]
  rfl
 have h0:=d5C (gpE σ L x) step q (by omega)
 rw [a0e,e0U]
 simp only [Q0,Sys.run]
 show ((a0i [.sh (.one _)] _).bind _)=_
 simp only [a0i,a0d,a0c,Q2,Q0,Q4,Q3,Q5,if_true,x3]
 show (PT.ev _ d5s _).bind _=_
 have hE0:gpE σ L x 0={ i:=[(L.length:Int),((0:Nat):Int)],b:=[],v:=[x,.nilS],m:=σ,k:=σ.length }:=by simp [gpE,gS,gO]
 refine Eq.trans (b:=flatten_group_S.loop (a0e Tab q) q 0 (gpE σ L x 0)) ?_ ?_
 ·rw [hE0]
  simp -implicitDefEqProofs only [d5s,↓reduceIte,eq_self,ξ1,ξ2,ξ3,ξ4,ξ5,ξ6,ξ7,ξ8,ξ9,ξa,ξb,ξc,ξd,ξe,ξf,ξg,ξh,Nat.reduceAdd,ξi,if_true,if_false,ξl,ξm,ξn,ξo,ξp,ξq,ξr,ξs,ξt,ξu,ξv,ξw,ξx,ξy,ξz,ξA,ξB,ξC,ξD,ξE,x1,x2]
  rfl
 rw [h0]
 obtain ⟨fu,hfu⟩:∃ k,q-L.length=k+1:=⟨q-L.length-1,by omega⟩
 have q0:ltB (L.length:Int) (L.length:Int)=false:=by simp [ltB]
 rw [hfu,Sys.loop,show flatten_group_S.loops[0]?=some d5p from rfl,Q0]
 have hEn:gpE σ L x L.length={ i:=[(L.length:Int),(L.length:Int)],b:=[],v:=[x,gS σ.length (L.map e0p)],m:=σ++gO (L.map e0p),k:=σ.length }:=by unfold gpE; rw [List.take_length]
 rw [hEn]
 cases L with
 | nil=>exact absurd rfl hne
 | cons o L =>
  cases L with
  | nil =>
   have q1:eqB ((([o]:List Of).length:Nat):Int) 1=true:=rfl
   have hr:∀ ρ:PEnv,ρ.m=σ++gO ([o].map e0p)->ρ.k=σ.length->a0k ρ false (.agg (e0p o))=some (.agg (e0p o),σ):=fun ρ h1 h2=>e0T hlow h1 (by simp [gO]) h2 rfl
   have hget:(σ++gO ([o].map e0p))[σ.length]?=some (.row [e0p o] 9 26):=b5O _ _ _
   have l0:a3N 0 9 0 (gS σ.length ([o].map e0p))=some (.elt σ.length 1 0 9 0):=rfl
   have hln:(gS σ.length ([o].map e0p)).len=1:=rfl
   have q3:ltB 0 1=true:=rfl
   have hrd:∀ ρ:PEnv,ρ.m=σ++gO ([o].map e0p)->a0b ρ false 9 (.elt σ.length 1 0 9 0)=some (e0p o):=fun ρ hρ=>e1t (rows:=[e0p o]) (by rw [hρ]; exact hget) rfl rfl
   have key:d5p.ev (a0e Tab q) { i:=[(([o]:List Of).length:Int),(([o]:List Of).length:Int)],b:=[],v:=[x,gS σ.length ([o].map e0p)],m:=σ++gO ([o].map e0p),k:=σ.length }=some (.ret (.agg (e0p o)) σ):=by
    obtain ⟨p,⟨w0,w1,w2,w3,w4,w5⟩,v⟩:=o
    unfold d5p
    simp -implicitDefEqProofs only [a0D,a0p,a0q,BE.safe,BE.pe,IE.pe,PEnv.at,Qf,Qg,if_true,Q9,if_false,q0,q1,q3,x1,x2,hln,le0,Q8,a0g,Qh,QH,Q0,l0,Q7,Q6,Nat.reduceAdd]
    rw [hrd _ rfl]
    simp only [e0p] at hr ⊢
    simp -implicitDefEqProofs only [↓reduceIte,eq_self,ξ2,ξ3,ξ4,ξ5,ξ6,ξ7,ξ8,ξ9,ξa,ξb,ξc,ξd,ξe,ξf,ξg,ξh,Nat.reduceAdd,ξi,if_true,if_false,ξl,ξm,ξn,ξo,ξp,ξq,ξr,ξs,ξt,ξu,ξv,ξw,ξx,ξy,ξz,ξA,ξB,ξC,ξD,ξE,PV.one,a0N]
    rw [hr _ rfl rfl]
    rfl
   exact (congrArg (fun r=>Qa r _) key)
  | cons o2 L =>
   have q1:eqB (((o::o2::L).length:Nat):Int) 1=false:=eqF (by simp only [Q7]; omega)
   have hr:∀ ρ:PEnv,ρ.m=σ++gO ((o::o2::L).map e0p)->ρ.k=σ.length->a0k ρ false (.agg (e0r (gS σ.length ((o::o2::L).map e0p))))=some (.agg (e0r (.sl 9 ((o::o2::L).map e0p))),σ):=fun ρ h1 h2=>by
    refine e0T hlow h1 (by simp [gO]) h2 ?_
    have hlk:=e1F (y:=e0p o) (R:=(o2::L).map e0p) h1 h2 (e0M _ (o::o2::L)) (e1D (o::o2::L))
    simp only [e0r,gS,Qb,PV.frz,PV.frzs,Nat.lt_irrefl,if_false] at hlk ⊢
    rw [hlk]
    simp only [Q0,MO.elts,and_self,if_true,Q2]
   have hg2:e0t (o::o2::L)=e0r (.sl 9 ((o::o2::L).map e0p)):=rfl
   rw [hg2]
   generalize gS σ.length ((o::o2::L).map e0p)=V at *
   generalize (o::o2::L).map e0p=RR at *
   have key:d5p.ev (a0e Tab q) { i:=[((o::o2::L).length:Int),((o::o2::L).length:Int)],b:=[],v:=[x,V],m:=σ++gO RR,k:=σ.length }=some (.ret (.agg (e0r (.sl 9 RR))) σ):=by
    generalize ((o::o2::L).length:Int)=ll at *
    unfold d5p
    unfold e0r at *
    simp -implicitDefEqProofs only [↓reduceIte,eq_self,ξ1,ξ2,ξ3,ξ4,ξ5,ξ6,ξ7,ξ8,ξ9,ξa,ξb,ξc,ξd,ξe,ξf,ξg,ξh,Nat.reduceAdd,ξi,if_true,if_false,ξl,ξm,ξn,ξo,ξp,ξq,ξr,ξs,ξt,ξu,ξv,ξw,ξx,ξy,ξz,ξA,ξB,ξC,ξD,ξE,q0,q1,x1,x2,hr]
   exact (congrArg (fun r=>Qa r _) key)
end
end Go.Proofs.Ythmkfeiapdbojaa
set_option maxRecDepth 100000
namespace Go.Proofs.Ythmkfeiapdbojaa
open Go.Sx Go.Kv Go.Bun
def a6t (L:List Of) (j:Nat):List Of:=(L.take (8*j+8)).drop (8*j)
def e0u (L:List Of):List (List Of):=(Qq ((L.length+7) / 8)).map (a6t L)
def toX (L:List Of):Ex:=if L.length<=8 then e0s L else e0q ((e0u L).map e0s)
def toR (L:List Of):List PV:=if L.length<=8 then e0t L else e0r (.sl 9 ((e0u L).map e0t))
def e1f:PV:=.agg [.int .i64 0,.int .i64 0,.int .i64 0,.int .i64 0,.int .i64 0,.int .i64 0,.int .i64 0,.int .i64 0,.nilS]
def toV (L:List Of):PV:=if L.length=0 then .tup [e1f,.int .i64 1] else if 64 < L.length then .tup [e1f,.int .i64 3] else if chk (toX L)≠0 then .tup [e1f,.int .i64 (chk (toX L))] else .tup [.agg (toR L),.int .i64 0]
theorem e0O (L:List Of) {j:Nat} (hj:8*j < L.length):1<=(a6t L j).length/\(a6t L j).length<=8:=by
 unfold a6t
 rw [QP,QC]
 omega
theorem e1G (L:List Of):IsE (toX L) (toR L):=by
 unfold toX toR
 split
 ·exact e0G L
 ·exact e1z (e0K _ fun c _=>e0G c)
theorem e1L (k:Nat) (L:List Of):PV.lows k (e0t L)=true:=by
 unfold e0t
 split
 ·rfl
 ·simp only [e0r,PV.lows,PV.low,e0M,Q8]
theorem e1O (L:List Of):(e0t L).all PV.one=true:=by
 unfold e0t
 split<;>rfl
theorem e1e (k:Nat):∀ C:List (List Of),PV.lowss k (C.map e0t)=true
 | []=>rfl
 | c::C=>by simp only [Qb,PV.lowss,e1L,e1e k C,Q8]
theorem e1B (C:List (List Of)):∀ r∈C.map e0t,r.all PV.one=true:=by
 intro r hr
 obtain ⟨o,_,rfl⟩:=Q1.1 hr
 exact e1O o
theorem e1g:∀ L:List Of,a2a (L.map e0w)=L.length
 | []=>rfl
 | o::L=>by simp only [Qb,a2a,e1g L,Q7,e0w,Ex.size]; omega
theorem e0H (L:List Of):(e0s L).size<=L.length+1:=by
 unfold e0s
 split
 ·simp [e0w,Ex.size,a2a]
 ·show a2a _+1<=_
  rw [e1g]; omega
theorem e0V:∀ C:List (List Of),(∀ c∈C,c.length<=8)->a2a (C.map e0s)<=9*C.length
 | [],_=>by simp [a2a]
 | c::C,h=>by
  have h1:=e0H c
  have h2:=h c (by simp)
  have h3:=e0V C fun c hc=>h c (by simp [hc])
  simp only [Qb,a2a,Q7]; omega
theorem e0W (L:List Of):∃ a b c d e f g v y,e0t L=[.int .i64 a,.int .i64 b,.int .i64 c,.int .i64 d,.int .i64 e,.int .i64 f,.int .i64 g,.int .i64 v,y]/\y.one=true:=e0S (e0G L)
section
variable {σ:List MO} {L:List Of} {x:PV}
def chR (L:List Of) (j:Nat):List (List PV):=((Qq j).map (a6t L)).map e0t
theorem e1Q (j:Nat):chR L (j+1)=chR L j++[e0t (a6t L j)]:=by
 unfold chR; rw [QQ,Qp,Qp]; rfl
theorem e1A (j:Nat):(chR L j).length=j:=by simp [chR]
theorem e1m (k j:Nat):PV.lowss k (chR L j)=true:=e1e k _
theorem e1l (j:Nat):∀ r∈chR L j,r.all PV.one=true:=e1B _
def teE (σ:List MO) (L:List Of) (x:PV) (j:Nat):PEnv:={ i:=[((8*j:Nat):Int)],b:=[],v:=[x,gS σ.length (chR L j)],m:=σ++gO (chR L j),k:=σ.length }
theorem e1U (hx:d5w L x) (hL:L.length<=64) (hlow:σ.all (MO.low σ.length)=true) (q:Nat) (hq:100<=q) {j:Nat} (hj:8*j < L.length):d5c.ev (a0e Tab q) (teE σ L x j)=some (.jump 0 (teE σ L x (j+1))):=by
 obtain ⟨x1,x2,x3⟩:=d5h hx
 have hcl:=e0O L hj
 have hgr:=e1s (L:=a6t L j) (σ:=σ++gO (chR L j)) (x:=.sl 8 (osR (a6t L j))) (by simp [d5w,PV.rowsOf]) (by omega) (by intro h; rw [h] at hcl; simp at hcl) (e1M hlow (fun k=>e1m k j) (e1l j)) q (by omega)
 have hcut:((osR L).take (min ((L.length:Nat):Int) ((8*j:Nat)+8:Int)).toNat).drop (8*j)=osR (a6t L j):=by
  unfold osR a6t
  rw [List.map_drop,List.map_take]
  congr 1
  by_cases h:8*j+8<=L.length
  ·rw [show (min ((L.length:Nat):Int) ((8*j:Nat)+8:Int)).toNat=8*j+8 by omega]
  ·rw [Qw (by rw [QB]; omega),Qw (by rw [QB]; omega)]
 have hmn:mnI ((L.length:Nat):Int) ((8*j:Nat)+8:Int)=min ((L.length:Nat):Int) ((8*j:Nat)+8:Int):=by unfold mnI; split<;>omega
 have hlo:(((8*j:Nat):Int)).toNat=8*j:=QD _
 have hcnd:0<=((8*j:Nat):Int)/\((8*j:Nat):Int)<=min ((L.length:Nat):Int) ((8*j:Nat)+8:Int)/\min ((L.length:Nat):Int) ((8*j:Nat)+8:Int)<=((osR L).length:Nat):=by
  rw [d5U]; omega
 have q0:ltB ((8*j:Nat):Int) (L.length:Int)=true:=by simp [ltB]; omega
 have q2:(leB (-9223372036854775808) (((8*j:Nat):Int)+8)&&leB (((8*j:Nat):Int)+8) 9223372036854775807)=true:=a0u (by omega)
 have hnx:((8*(j+1):Nat):Int)=((8*j:Nat):Int)+8:=by omega
 have hl:(chR L j).length<=100000:=by rw [e1A]; omega
 have hap:∀ (n3 n4:Nat) (v:List PV) (ii:List Int) (k:PT),v[n3]?=some (gS σ.length (chR L j))->v[n4]?=some (.sl 9 [e0t (a6t L j)])->(PT.appM (.va n3) (.va n4) 9 26 k).ev (a0e Tab q) { i:=ii,b:=[],v:=v,m:=σ++gO (chR L j),k:=σ.length }=k.ev (a0e Tab q) { i:=ii,b:=[],v:=v++[gS σ.length (chR L (j+1))],m:=σ++gO (chR L (j+1)),k:=σ.length }:=fun n3 n4 v ii k h3 h4=>by
  rw [e1Q]; exact e1T h3 h4 hl rfl
 have ho1:=fun R=>(e1u (σ:=σ) (R:=R)).2.2
 unfold teE
 rw [hnx]
 obtain ⟨a,b,c,d,e,f,g,v,y,hG,hy⟩:=e0W (a6t L j)
 rw [hG] at hgr hap
 have hrw:(PV.sl 8 (osR (a6t L j))).one=true:=rfl
 generalize a0e Tab q=Φ at *
 have b2:d4c.ev Φ { i:=[((8*j:Nat):Int),a,b,c,d,e,f,g,v],b:=[],v:=[x,gS σ.length (chR L j),.sl 8 (osR (a6t L j)),y],m:=σ++gO (chR L j),k:=σ.length }=some (.jump 0 { i:=[((8*j:Nat):Int)+8],b:=[],v:=[x,gS σ.length (chR L (j+1))],m:=σ++gO (chR L (j+1)),k:=σ.length }):=by
  unfold d4c
  simp -implicitDefEqProofs only [a0C,a1x,QJ,List.mapM_nil,QK,QL,QM,QN,Q6,Qu,Q7,↓reduceIte,eq_self,ξ2,ξ3,ξ4,ξ5,ξ6,ξ7,ξ8,ξ9,ξa,ξb,ξc,ξd,ξe,ξf,ξg,ξh,Nat.reduceAdd,ξi,if_true,if_false,ξl,ξm,ξn,ξo,ξp,ξq,ξr,ξs,ξt,ξu,ξv,ξw,ξx,ξy,ξz,ξA,ξB,ξC,ξD,ξE]
  simp -implicitDefEqProofs only [Nat.reduceAdd,d6O,if_true]
  rw [hap 1 4 _ _ _ rfl rfl]
  repeat (first | rw [a0B] | rw [a0A] | rw [a0D] | rw [a0p] | rw [a0q] | rw [a0m] | rw [a0M] | rw [a3f] | rw [a0C] | rw [a0y] | rw [a0r] | rw [a0N])<;>simp -implicitDefEqProofs only [↓reduceIte,eq_self,ξ2,ξ3,ξ4,ξ5,ξ6,ξ7,ξ8,ξ9,ξa,ξb,ξc,ξd,ξe,ξf,ξg,ξh,Nat.reduceAdd,ξi,if_true,if_false,ξl,ξm,ξn,ξo,ξp,ξq,ξr,ξs,ξt,ξu,ξv,ξw,ξx,ξy,ξz,ξA,ξB,ξC,ξD,ξE,x3,ho1,q2]
 have b1:d4K.ev Φ { i:=[((8*j:Nat):Int)],b:=[],v:=[x,gS σ.length (chR L j),.sl 8 (osR (a6t L j))],m:=σ++gO (chR L j),k:=σ.length }=some (.jump 0 { i:=[((8*j:Nat):Int)+8],b:=[],v:=[x,gS σ.length (chR L (j+1))],m:=σ++gO (chR L (j+1)),k:=σ.length }):=by
  refine Eq.trans ?_ b2
  unfold d4K d4c
  simp -implicitDefEqProofs only [a0A,↓reduceIte,eq_self,ξ2,ξ3,ξ4,ξ5,ξ6,ξ7,ξ8,ξ9,ξa,ξb,ξc,ξd,ξe,ξf,ξg,ξh,Nat.reduceAdd,ξi,if_true,if_false,ξl,ξm,ξn,ξo,ξp,ξq,ξr,ξs,ξt,ξu,ξv,ξw,ξx,ξy,ξz,ξA,ξB,ξC,ξD,ξE,hgr,hy,hrw]
 have b3:d4C.ev Φ { i:=[((8*j:Nat):Int)],b:=[],v:=[x,gS σ.length (chR L j),.sl 8 (osR (a6t L j))],m:=σ++gO (chR L j),k:=σ.length }=some (.jump 0 { i:=[((8*j:Nat):Int)+8],b:=[],v:=[x,gS σ.length (chR L (j+1))],m:=σ++gO (chR L (j+1)),k:=σ.length }):=by
  refine Eq.trans ?_ (c3o b2 b2)
  unfold d4C
  simp -implicitDefEqProofs only [a0A,↓reduceIte,eq_self,ξ2,ξ3,ξ4,ξ5,ξ6,ξ7,ξ8,ξ9,ξa,ξb,ξc,ξd,ξe,ξf,ξg,ξh,Nat.reduceAdd,ξi,if_true,if_false,ξl,ξm,ξn,ξo,ξp,ξq,ξr,ξs,ξt,ξu,ξv,ξw,ξx,ξy,ξz,ξA,ξB,ξC,ξD,ξE,hgr,hy,hrw]
 have b4:=c3o b1 b3
 unfold d5c
 simp -implicitDefEqProofs only [a0D,a0p,a1d,a3q,a3t,↓reduceIte,eq_self,ξ2,ξ3,ξ4,ξ5,ξ6,ξ7,ξ8,ξ9,ξa,ξb,ξc,ξd,ξe,ξf,ξg,ξh,Nat.reduceAdd,ξi,if_true,if_false,ξl,ξm,ξn,ξo,ξp,ξq,ξr,ξs,ξt,ξu,ξv,ξw,ξx,ξy,ξz,ξA,ξB,ξC,ξD,ξE,x1,x2,q0,q2]
 rw [show x.rowsOf 8=some (osR L) from hx]
 simp -implicitDefEqProofs only [Q0,↓reduceIte,eq_self,ξ2,ξ3,ξ4,ξ5,ξ6,ξ7,ξ8,ξ9,ξa,ξb,ξc,ξd,ξe,ξf,ξg,ξh,Nat.reduceAdd,ξi,if_true,if_false,ξl,ξm,ξn,ξo,ξp,ξq,ξr,ξs,ξt,ξu,ξv,ξw,ξx,ξy,ξz,ξA,ξB,ξC,ξD,ξE,x1,hmn,if_pos hcnd,hlo,hcut,b4]
end
end Go.Proofs.Ythmkfeiapdbojaa
set_option maxRecDepth 100000
namespace Go.Proofs.Ythmkfeiapdbojaa
open Go.Sx Go.Kv Go.Bun
section
variable {σ:List MO} {L:List Of} {x:PV}
theorem e1J (hx:d5w L x) (hL:L.length<=1000000) (hlow:σ.all (MO.low σ.length)=true) (n:Nat) (hn:2000<=n):a0e Tab n 39 [x] σ=some (toV L,σ):=by
 obtain ⟨q,rfl⟩:∃ q,n=q+1:=⟨n-1,by omega⟩
 obtain ⟨x1,x2,x3⟩:=d5h hx
 rw [a0e,e0P]
 simp only [Q0,Sys.run]
 show ((a0i [.sh (.one _)] _).bind _)=_
 simp only [a0i,a0d,a0c,Q2,Q0,Q4,Q3,Q5,if_true,x3]
 show (PT.ev _ d5f _).bind _=_
 unfold toV e1f
 by_cases h0:L.length=0
 ·have q0:eqB (L.length:Int) 0=true:=by rw [h0]; rfl
  rw [if_pos h0]
  simp -implicitDefEqProofs only [d5f,↓reduceIte,eq_self,ξ1,ξ2,ξ3,ξ4,ξ5,ξ6,ξ7,ξ8,ξ9,ξa,ξb,ξc,ξd,ξe,ξf,ξg,ξh,Nat.reduceAdd,ξi,if_true,if_false,ξl,ξm,ξn,ξo,ξp,ξq,ξr,ξs,ξt,ξu,ξv,ξw,ξx,ξy,ξz,ξA,ξB,ξC,ξD,ξE,x1,x2,q0,a0k,or_true]
 have q0:eqB (L.length:Int) 0=false:=eqF (by omega)
 rw [if_neg h0]
 by_cases h64:64 < L.length
 ·have q1:ltB 64 (L.length:Int)=true:=by simp [ltB]; omega
  rw [if_pos h64]
  simp -implicitDefEqProofs only [d5f,↓reduceIte,eq_self,ξ1,ξ2,ξ3,ξ4,ξ5,ξ6,ξ7,ξ8,ξ9,ξa,ξb,ξc,ξd,ξe,ξf,ξg,ξh,Nat.reduceAdd,ξi,if_true,if_false,ξl,ξm,ξn,ξo,ξp,ξq,ξr,ξs,ξt,ξu,ξv,ξw,ξx,ξy,ξz,ξA,ξB,ξC,ξD,ξE,x1,x2,q0,q1,a0k,or_true]
 have q1:ltB 64 (L.length:Int)=false:=by simp [ltB]; omega
 rw [if_neg h64]
 by_cases h8:L.length<=8
 ·have q2:leB (L.length:Int) 8=true:=by simp [leB]; omega
  have hg:=e1s (σ:=σ) hx (by omega) (by intro h; rw [h] at h0; exact h0 rfl) hlow q (by omega)
  have hgs:=e0H L
  have hck:=b9C σ hlow (e0s L) (e0t L) (e0G L) q (by omega) (by omega)
  have ht:toX L=e0s L:=by unfold toX; rw [if_pos h8]
  have htr:toR L=e0t L:=by unfold toR; rw [if_pos h8]
  rw [ht,htr]
  obtain ⟨a,b,c,d,e,f,g,v,y,hG,hy⟩:=e0W L
  rw [hG] at hg hck ⊢
  simp only [c2f] at hck
  generalize chk (e0s L)=ck at *
  generalize a0e Tab q=Φ at *
  by_cases hc:ck=0
  ·have q3:eqB ck 0=true:=by rw [hc]; rfl
   rw [if_neg (by simp [hc])]
   have key:d5f.ev Φ { i:=[],b:=[],v:=[x],m:=σ,k:=σ.length }=some (.ret (.tup [.agg [.int .i64 a,.int .i64 b,.int .i64 c,.int .i64 d,.int .i64 e,.int .i64 f,.int .i64 g,.int .i64 v,y],.int .i64 0]) σ):=by
    unfold d5f
    simp -implicitDefEqProofs only [↓reduceIte,eq_self,ξ1,ξ2,ξ3,ξ4,ξ5,ξ6,ξ7,ξ8,ξ9,ξa,ξb,ξc,ξd,ξe,ξf,ξg,ξh,Nat.reduceAdd,ξi,if_true,if_false,ξl,ξm,ξn,ξo,ξp,ξq,ξr,ξs,ξt,ξu,ξv,ξw,ξx,ξy,ξz,ξA,ξB,ξC,ξD,ξE,x1,x2,q0,q1,q2,hg,hy,hck,q3,a0k,or_true]
   exact (congrArg (fun r=>Qa r _) key)
  ·have q3:eqB ck 0=false:=eqF hc
   rw [if_pos hc]
   have key:d5f.ev Φ { i:=[],b:=[],v:=[x],m:=σ,k:=σ.length }=some (.ret (.tup [.agg [.int .i64 0,.int .i64 0,.int .i64 0,.int .i64 0,.int .i64 0,.int .i64 0,.int .i64 0,.int .i64 0,.nilS],.int .i64 ck]) σ):=by
    unfold d5f
    simp -implicitDefEqProofs only [↓reduceIte,eq_self,ξ1,ξ2,ξ3,ξ4,ξ5,ξ6,ξ7,ξ8,ξ9,ξa,ξb,ξc,ξd,ξe,ξf,ξg,ξh,Nat.reduceAdd,ξi,if_true,if_false,ξl,ξm,ξn,ξo,ξp,ξq,ξr,ξs,ξt,ξu,ξv,ξw,ξx,ξy,ξz,ξA,ξB,ξC,ξD,ξE,x1,x2,q0,q1,q2,hg,hy,hck,q3,a0k,or_true]
   exact (congrArg (fun r=>Qa r _) key)
 have q2:leB (L.length:Int) 8=false:=by simp [leB]; omega
 have ht:toX L=e0q ((e0u L).map e0s):=by unfold toX; rw [if_neg h8]
 have htr:toR L=e0r (.sl 9 ((e0u L).map e0t)):=by unfold toR; rw [if_neg h8]
 rw [ht,htr]
 have hstart:d5f.ev (a0e Tab q) { i:=[],b:=[],v:=[x],m:=σ,k:=σ.length }=some (.jump 0 (teE σ L x 0)):=by
  have:teE σ L x 0={ i:=[((0:Nat):Int)],b:=[],v:=[x,.nilS],m:=σ,k:=σ.length }:=by simp [teE,chR,gS,gO]
  rw [this]
  simp -implicitDefEqProofs only [d5f,↓reduceIte,eq_self,ξ1,ξ2,ξ3,ξ4,ξ5,ξ6,ξ7,ξ8,ξ9,ξa,ξb,ξc,ξd,ξe,ξf,ξg,ξh,Nat.reduceAdd,ξi,if_true,if_false,ξl,ξm,ξn,ξo,ξp,ξq,ξr,ξs,ξt,ξu,ξv,ξw,ξx,ξy,ξz,ξA,ξB,ξC,ξD,ξE,x1,x2,q0,q1,q2]
  rfl
 rw [hstart]
 simp only [Q0]
 obtain ⟨N,hN⟩:∃ N,N=(L.length+7) / 8:=⟨_,rfl⟩
 have hloop:flatten_ToExpr_S.loop (a0e Tab q) q 0 (teE σ L x 0)=flatten_ToExpr_S.loop (a0e Tab q) (q-N) 0 (teE σ L x N):=by
  have key:∀ d j,j+d=N->∀ fuel,flatten_ToExpr_S.loop (a0e Tab q) (fuel+d) 0 (teE σ L x j)=flatten_ToExpr_S.loop (a0e Tab q) fuel 0 (teE σ L x N):=by
   intro d
   induction d with
   | zero =>
    intro j hj fuel
    obtain rfl:j=N:=by omega
    rfl
   | succ d ih =>
    intro j hj fuel
    have hs:=e1U hx (by omega) hlow q (by omega) (j:=j) (by omega)
    rw [show fuel+(d+1)=(fuel+d)+1 by omega,Sys.loop,show flatten_ToExpr_S.loops[0]?=some d5c from rfl,Q0,hs]
    exact ih (j+1) (by omega) fuel
  have:=key N 0 (by omega) (q-N)
  rwa [show q-N+N=q by omega] at this
 have hch:e0u L=(Qq N).map (a6t L):=by unfold e0u; rw [hN]
 have hrows:(e0u L).map e0t=chR L N:=by rw [hch]; rfl
 have hcl8:∀ c∈e0u L,c.length<=8:=by
  intro c hc
  rw [hch] at hc
  obtain ⟨j,hj,rfl⟩:=Q1.1 hc
  have:=Qd.1 hj
  exact (e0O L (by omega)).2
 have hsz:=e0V (e0u L) hcl8
 have hcln:(e0u L).length=N:=by rw [hch]; simp
 have hEs:a1k ((e0u L).map e0s) (chR L N):=by rw [<- hrows]; exact e0K _ fun c _=>e0G c
 have hN2:2<=N/\N<=8:=by omega
 have hlenR:=e1A (L:=L) N
 obtain ⟨y,R,hR⟩:∃ y R,chR L N=y::R:=by
  cases h:chR L N with
  | nil=>rw [h] at hlenR; simp at hlenR; omega
  | cons y R=>exact ⟨y,R,rfl⟩
 have hlw:=e1M (σ:=σ) hlow (fun k=>e1m (L:=L) k N) (e1l (L:=L) N)
 have hm:(σ++gO (chR L N))[σ.length]?=some (.row (chR L N) 9 26):=by rw [hR]; exact b5O _ _ _
 have hck:=e1X (h:=σ.length) hm hlw hEs q (by omega) (by omega)
 have hgS:gS σ.length (chR L N)=.rsl σ.length (chR L N).length 9:=by rw [hR]; rfl
 refine Eq.trans hloop ?_
 obtain ⟨fu,hfu⟩:∃ k,q-N=k+1:=⟨q-N-1,by omega⟩
 have q5:ltB ((8*N:Nat):Int) (L.length:Int)=false:=by simp [ltB]; omega
 rw [hfu,Sys.loop,show flatten_ToExpr_S.loops[0]?=some d5c from rfl,Q0,hrows]
 have hz:∀ (ρ:PEnv) (z:Int),ρ.m=σ++gO (chR L N)->ρ.k=σ.length->a0k ρ false (.tup [.agg [.int .i64 0,.int .i64 0,.int .i64 0,.int .i64 0,.int .i64 0,.int .i64 0,.int .i64 0,.int .i64 0,.nilS],.int .i64 z])=some (.tup [.agg [.int .i64 0,.int .i64 0,.int .i64 0,.int .i64 0,.int .i64 0,.int .i64 0,.int .i64 0,.int .i64 0,.nilS],.int .i64 z],σ) :=
  fun ρ z h1 h2=>e0T hlow h1 (by rw [hR]; simp [gO]) h2 rfl
 have hok:∀ ρ:PEnv,ρ.m=σ++gO (chR L N)->ρ.k=σ.length->a0k ρ false (.tup [.agg (e0r (gS σ.length (chR L N))),.int .i64 0])=some (.tup [.agg (e0r (.sl 9 (chR L N))),.int .i64 0],σ):=fun ρ h1 h2=>by
  refine e0T hlow h1 (by rw [hR]; simp [gO]) h2 ?_
  have hlo:=e1m (L:=L) σ.length N
  have hon:=e1l (L:=L) N
  rw [hR] at h1 hlo hon ⊢
  have hlk:=e1F h1 h2 hlo hon
  simp only [e0r,gS,PV.frz,PV.frzs,Nat.lt_irrefl,if_false,hlk,Q0,MO.elts,and_self,if_true,Q2]
 have hone:=(e1u (σ:=σ) (R:=chR L N)).2.2
 unfold teE
 rw [<- hgS] at hck
 generalize chk (e0q ((e0u L).map e0s))=ck at *
 generalize gS σ.length (chR L N)=V at *
 generalize σ++gO (chR L N)=m at *
 generalize a0e Tab q=Φ at *
 unfold e0r at *
 by_cases hc:ck=0
 ·have q3:eqB ck 0=true:=by rw [hc]; rfl
  rw [if_neg (by simp [hc])]
  simp -implicitDefEqProofs only [d5c,↓reduceIte,eq_self,ξ1,ξ2,ξ3,ξ4,ξ5,ξ6,ξ7,ξ8,ξ9,ξa,ξb,ξc,ξd,ξe,ξf,ξg,ξh,Nat.reduceAdd,ξi,if_true,if_false,ξl,ξm,ξn,ξo,ξp,ξq,ξr,ξs,ξt,ξu,ξv,ξw,ξx,ξy,ξz,ξA,ξB,ξC,ξD,ξE,x1,x2,q5,hck,hone,q3,hok]
 ·have q3:eqB ck 0=false:=eqF hc
  rw [if_pos hc]
  simp -implicitDefEqProofs only [d5c,↓reduceIte,eq_self,ξ1,ξ2,ξ3,ξ4,ξ5,ξ6,ξ7,ξ8,ξ9,ξa,ξb,ξc,ξd,ξe,ξf,ξg,ξh,Nat.reduceAdd,ξi,if_true,if_false,ξl,ξm,ξn,ξo,ξp,ξq,ξr,ξs,ξt,ξu,ξv,ξw,ξx,ξy,ξz,ξA,ξB,ξC,ξD,ξE,x1,x2,q5,hck,hone,q3,hz]
end
end Go.Proofs.Ythmkfeiapdbojaa
set_option maxRecDepth 100000
namespace Go.Proofs.Ythmkfeiapdbojaa
open Go.Sx Go.Kv Go.Bun
def e0E (o:Of):Prop:=1<=o.v/\o.v<=1000000/\o.w.Ok/\o.w≠Bd.zero
theorem e1r {y:Ex}:∀ {l:List Ex},y∈a4g l->∃ x∈l,y∈x.pre
 | [],h=>by simp [a4g] at h
 | e::l,h=>by
  simp only [a4g,List.mem_append] at h
  rcases h with h | h
  ·exact ⟨e,by simp,h⟩
  ·obtain ⟨x,hx,hy⟩:=e1r h
   exact ⟨x,by simp [hx],hy⟩
theorem e1w {l:List Ex} {y:Ex} (h:y∈(e0q l).pre):y=e0q l\/∃ x∈l,y∈x.pre:=by
 simp only [e0q,Ex.pre,List.mem_cons] at h
 rcases h with h | h
 ·exact .inl h
 ·exact .inr (e1r h)
theorem e1I {l:List Ex} (h1:1<=l.length) (h2:l.length<=8):a2K (e0q l)=0:=by
 have hp:b2K 2 0 0 0 0 0 0 0 (l.length:Int):=by unfold b2K; omega
 have hf:(e0q l).form=true:=decide_eq_true hp
 unfold a2K
 rw [hf,e1v]; rfl
theorem e1j {o:Of} (h:e0E o):a2K (e0w o)=0:=by
 obtain ⟨h1,h2,h3,h4⟩:=h
 have hf:(e0w o).form=true:=by simp [e0w,Ex.form,b2K]
 have ht:1<=o.w.a+o.w.b+o.w.c+o.w.d+o.w.e+o.w.f:=by
  obtain ⟨p,⟨a,b,c,d,e,f⟩,v⟩:=o
  simp only [Bd.Ok] at h3
  simp only [Bd.zero,ne_eq,Bd.mk.injEq] at h4
  simp only
  omega
 have hr:(e0w o).rng=true:=by
  obtain ⟨p,⟨a,b,c,d,e,f⟩,v⟩:=o
  simp only [Bd.Ok] at h3
  have hp:b3m 1 v ⟨a,b,c,d,e,f⟩:=by
   unfold b3m W6.ok W6.tot
   simp only at h1 h2 ht ⊢
   omega
  exact decide_eq_true hp
 unfold a2K
 rw [hf,hr]; rfl
theorem e1b {o:Of} {y:Ex} (h:y∈(e0w o).pre):y=e0w o:=by simpa [e0w,Ex.pre,a4g] using h
theorem e0Z {L:List Of} (h:∀ o∈L,e0E o) (h1:1<=L.length) (h8:L.length<=8):∀ y∈(e0s L).pre,a2K y=0/\y.len<=8:=by
 intro y hy
 unfold e0s at hy
 split at hy
 ·rename_i o
  rw [e1b hy]
  exact ⟨e1j (h o (by simp)),by simp [e0w,Ex.len]⟩
 ·rcases e1w hy with rfl | ⟨x,hx,hy⟩
  ·exact ⟨e1I (by simpa using h1) (by simpa using h8),by simpa [e0q,Ex.len] using h8⟩
  ·obtain ⟨o,ho,rfl⟩:=Q1.1 hx
   rw [e1b hy]
   exact ⟨e1j (h o ho),by simp [e0w,Ex.len]⟩
theorem e0R {d:Int}:∀ {l:List Ex} {m:Int},m<=d->(∀ x∈l,x.depth<=d)->a5o m l<=d
 | [],m,hm,_=>hm
 | e::l,m,hm,h=>by
  simp only [a5o]
  exact e0R (d8d.2 ⟨hm,h e (by simp)⟩) fun x hx=>h x (by simp [hx])
theorem e1h (o:Of):(e0w o).depth<=1:=by simp [e0w,Ex.depth,a5o]
theorem e0Y (L:List Of):(e0s L).depth<=2:=by
 unfold e0s
 split
 ·have:=e1h ‹_›; omega
 ·show a5o 0 _+1<=2
  have:=e0R (d:=1) (l:=L.map e0w) (m:=0) (by omega) (fun x hx=>by obtain ⟨o,_,rfl⟩:=Q1.1 hx; exact e1h o)
  omega
theorem e1R (L:List Of):(toX L).depth<=3:=by
 unfold toX
 split
 ·have:=e0Y L; omega
 ·show a5o 0 _+1<=3
  have:=e0R (d:=2) (l:=(e0u L).map e0s) (m:=0) (by omega) (fun x hx=>by obtain ⟨o,_,rfl⟩:=Q1.1 hx; exact e0Y o)
  omega
theorem e1n:∀ l m:List Ex,a2a (l++m)=a2a l+a2a m
 | [],m=>by simp [a2a]
 | e::l,m=>by simp only [Q5,a2a,e1n l m]; omega
theorem e0X (L:List Of):∀ k,a2a (((Qq k).map (a6t L)).map e0s)<=min (8*k) L.length+k
 | 0=>by simp [a2a]
 | k+1=>by
  have ih:=e0X L k
  have h1:=e0H (a6t L k)
  have h2:(a6t L k).length=min (8*k+8) L.length-8*k:=by unfold a6t; rw [QP,QC]
  rw [QQ,Qp,Qp,e1n]
  simp only [Qb,List.map_nil,a2a]
  omega
theorem e1V {L:List Of} (h:L.length<=30):(toX L).size<=40:=by
 unfold toX
 split
 ·have:=e0H L; omega
 ·show a2a _+1<=40
  have:=e0X L ((L.length+7) / 8)
  unfold e0u
  omega
theorem e1E {L:List Of} {j:Nat} {o:Of} (h:o∈a6t L j):o∈L:=List.mem_of_mem_take (List.mem_of_mem_drop h)
theorem e0I {L:List Of} {o:Of}:(∃ c∈e0u L,o∈c)↔o∈L:=by
 constructor
 ·rintro ⟨c,hc,ho⟩
  obtain ⟨j,_,rfl⟩:=Q1.1 hc
  exact e1E ho
 ·intro h
  obtain ⟨i,hi⟩:=QS.1 h
  have hil:=(Qt.1 hi).1
  refine ⟨a6t L (i / 8),Q1.2 ⟨i / 8,Qd.2 (by omega),rfl⟩,QS.2 ⟨i % 8,?_⟩⟩
  unfold a6t
  rw [List.getElem?_drop,List.getElem?_take_of_lt (by omega),show 8*(i / 8)+i % 8=i by omega,hi]
theorem e1d {L:List Of} {c:List Of} (h:c∈e0u L):1<=c.length/\c.length<=8:=by
 obtain ⟨j,hj,rfl⟩:=Q1.1 h
 have:=Qd.1 hj
 exact e0O L (by omega)
theorem e1Z {L:List Of} (h:∀ o∈L,e0E o) (h1:1<=L.length) (h64:L.length<=64):∀ y∈(toX L).pre,a2K y=0/\y.len<=8:=by
 intro y hy
 unfold toX at hy
 split at hy
 ·rename_i h8; exact e0Z h h1 h8 y hy
 ·have hn:((e0u L).map e0s).length=(L.length+7) / 8:=by unfold e0u; simp
  rcases e1w hy with rfl | ⟨x,hx,hy⟩
  ·exact ⟨e1I (by omega) (by omega),by show ((e0u L).map e0s).length<=8; omega⟩
  ·obtain ⟨c,hc,rfl⟩:=Q1.1 hx
   have hcl:=e1d hc
   exact e0Z (fun o ho=>h o (e0I.1 ⟨c,hc,ho⟩)) hcl.1 hcl.2 y hy
theorem e1i:∀ {l:List Ex},(∀ y∈l,a2K y=0)->a2W l=0
 | [],_=>rfl
 | x::l,h=>by
  simp only [a2W]
  rw [if_pos (h x (by simp))]
  exact e1i fun y hy=>h y (by simp [hy])
theorem e1Y {L:List Of} (h:∀ o∈L,e0E o) (h1:1<=L.length) (h64:L.length<=64):chk (toX L)=0\/(chk (toX L)=3/\30 < L.length):=by
 have hd:=e1R L
 have hn:=e1Z h h1 h64
 unfold chk
 rw [if_neg (by omega)]
 by_cases hs:40 < (toX L).size
 ·rw [if_pos hs]
  refine .inr ⟨rfl,?_⟩
  by_cases h30:L.length<=30
  ·have:=e1V h30; omega
  ·omega
 ·rw [if_neg hs,if_pos (Qn.2 fun y hy=>decide_eq_true (hn y hy).2)]
  exact .inl (e1i fun y hy=>(hn y hy).1)
theorem e1N {l:List Ex} (hl:∀ x∈l,okX x=true) {b:Bd} (hb:b.Ok) {c:Int}:vX (e0q l) b.l<=c↔0<=c/\∀ x∈l,vX x b.l<=c:=by
 unfold vX e0q
 simp only [a0z,Int.reduceEq,if_false,if_true]
 rw [a8u,b9n (c5c hb) (.nil _) (fun z hz=>by
  obtain ⟨x,hx,rfl⟩:=Q1.1 hz
  exact a2P a1t x (hl x hx)),a5c]
 simp only [Q1,forall_exists_index,and_imp,forall_apply_eq_imp_iff₂]
theorem e1k {o:Of} (h:e0E o) {b:Bd} (hb:b.Ok) {c:Int}:vX (e0w o) b.l<=c↔0<=c/\(o.w.Le b->o.v<=c):=by
 obtain ⟨h1,h2,h3,h4⟩:=h
 have hm:Go.Kv.mnM o.v=o.v:=by unfold Go.Kv.mnM; split<;>omega
 have hk:a0z a1t (e0w o)=a2I a1t [] o.w.l o.v:=by
  obtain ⟨p,⟨a,b,c,d,e,f⟩,v⟩:=o
  simp only [e0w,a0z,if_true]
  rfl
 unfold vX
 rw [hk,b7c (c0x h3) (c5c hb),hm,a7e]
theorem e1a {L:List Of} (h:∀ o∈L,e0E o) {b:Bd} (hb:b.Ok) {c:Int}:vX (e0s L) b.l<=c↔0<=c/\∀ o∈L,o.w.Le b->o.v<=c:=by
 unfold e0s
 split
 ·rename_i o
  rw [e1k (h o (by simp)) hb]
  simp
 ·rw [e1N (fun x hx=>by
   obtain ⟨o,ho,rfl⟩:=Q1.1 hx
   exact b7P _ fun y hy=>by rw [e1b hy]; exact e1j (h o ho)) hb]
  constructor
  ·rintro ⟨h0,h1⟩
   refine ⟨h0,fun o ho=>((e1k (h o ho) hb).1 (h1 _ (Q1.2 ⟨o,ho,rfl⟩))).2⟩
  ·rintro ⟨h0,h1⟩
   refine ⟨h0,fun x hx=>?_⟩
   obtain ⟨o,ho,rfl⟩:=Q1.1 hx
   exact (e1k (h o ho) hb).2 ⟨h0,h1 o ho⟩
theorem e2b {L:List Of} (h:∀ o∈L,e0E o) {b:Bd} (hb:b.Ok):vX (toX L) b.l=d5B b L:=by
 refine a1O fun c=>?_
 unfold d5B
 rw [e0i]
 unfold toX
 split
 ·exact e1a h hb
 ·have hg:∀ c∈e0u L,∀ o∈c,e0E o:=fun c hc o ho=>h o (e0I.1 ⟨c,hc,ho⟩)
  rw [e1N (fun x hx=>by
   obtain ⟨c,hc,rfl⟩:=Q1.1 hx
   have hcl:=e1d hc
   exact b7P _ fun y hy=>(e0Z (hg c hc) hcl.1 hcl.2 y hy).1) hb]
  constructor
  ·rintro ⟨h0,h1⟩
   refine ⟨h0,fun o ho=>?_⟩
   obtain ⟨c,hc,hoc⟩:=e0I.2 ho
   exact ((e1a (hg c hc) hb).1 (h1 _ (Q1.2 ⟨c,hc,rfl⟩))).2 o hoc
  ·rintro ⟨h0,h1⟩
   refine ⟨h0,fun x hx=>?_⟩
   obtain ⟨c,hc,rfl⟩:=Q1.1 hx
   exact (e1a (hg c hc) hb).2 ⟨h0,fun o ho=>h1 o (e0I.1 ⟨c,hc,ho⟩)⟩
end Go.Proofs.Ythmkfeiapdbojaa
set_option maxRecDepth 100000
namespace Go.Proofs.Ythmkfeiapdbojaa
open Go.Sx Go.Kv Go.Bun
section
variable {e:Ex} {row:List PV} {s:Bd} {t:List Int} {N:Nat}
theorem e1P {R:List Of} (h:∀ i < R.length,d6k R i=true):d5Y R=R:=by
 unfold d5Y d6c
 rw [List.filter_eq_self.2 (fun i hi=>h i (Qd.1 hi))]
 apply QU
 intro j
 rw [QV]
 rcases Nat.lt_or_ge j R.length with hj | hj
 ·rw [List.getElem?_range hj]
  obtain ⟨x,hx⟩:=a3n hj
  rw [hx,Q2,b5I hx]
 ·rw [Qv (by simpa using hj),Qv hj]; rfl
theorem e1H (h1:∀ o∈d7s s t N N,1<=o.v):d5Y (d7s s t N N)=d7s s t N N:=by
 refine e1P fun i hi=>?_
 obtain ⟨o,ho⟩:=a3n hi
 unfold d6k
 rw [b5I ho,decide_eq_true (h1 o (Qe ho)),QA]
 have hd:d6M (d7s s t N N) i=false:=by
  unfold d6M
  rw [List.any_eq_false]
  intro k hk hdom
  have hk:=Qd.1 hk
  obtain ⟨o2,ho2⟩:=a3n hk
  rw [d6r,b5I ho,b5I ho2] at hdom
  obtain ⟨hne,_,hw,hv,_⟩:=hdom
  obtain ⟨F,hF⟩:∃ F,F=(Qq N).filter fun i=>decide (0 < i)&&d7H s t N i:=⟨_,rfl⟩
  have hnd:F.Nodup:=by rw [hF]; exact List.Pairwise.filter _ List.nodup_range
  have hR:d7s s t N N=F.map (d7Z s t):=by rw [hF]; rfl
  rw [hR,QV] at ho ho2
  cases hfi:F[i]? with
  | none=>rw [hfi] at ho; cases ho
  | some a =>
   cases hfk:F[k]? with
   | none=>rw [hfk] at ho2; cases ho2
   | some b =>
    rw [hfi] at ho
    rw [hfk] at ho2
    simp only [Q2,Option.some.injEq] at ho ho2
    subst ho ho2
    have hab:b≠a:=by
     rintro rfl
     obtain ⟨l1,e1⟩:=Qt.1 hfi
     obtain ⟨l2,e2⟩:=Qt.1 hfk
     have hpw:=List.pairwise_iff_getElem.1 hnd
     rcases Nat.lt_trichotomy i k with hik | hik | hik
     ·exact hpw i k l1 l2 hik (e1.trans e2.symm)
     ·exact hne hik
     ·exact hpw k i l2 l1 hik (e2.trans e1.symm)
    have ha:a∈F:=Qe hfi
    have hb:b∈F:=Qe hfk
    rw [hF,List.mem_filter,Qs] at ha hb
    have:=Qn.1 ha.2.2 b hb.1
    unfold d7J at this
    simp only [d7Z] at hw hv
    rw [decide_eq_false hab,decide_eq_true hv,decide_eq_true hw] at this
    cases this
 rw [hd]; rfl
theorem e1c (h1:chk e=0) (h2:s.cnt≠0):∀ o∈d7s s (a5n e s) (a5n e s).length (a5n e s).length,e0E o:=by
 intro o ho
 obtain ⟨i,hi,hp,ha,rfl⟩:=e0h.1 ho
 have hs:=Bd.ok_of_cnt h2
 have hl:=d9t (e:=e) h2
 have hz:=d9M s hs
 have hz':s.unr ((0:Nat):Int)=Bd.zero:=hz
 have hv:=d9B h1 h2 hi
 have h00:=d9R h1 h2
 have hle:(s.unr ((0:Nat):Int)).Le (s.unr i):=by
  rw [hz']
  have:=(a3m hs i).1
  generalize s.unr i=u at *
  obtain ⟨a,b,c,d,e,f⟩:=u
  simp only [Bd.Ok] at this
  simp only [Bd.Le,Bd.zero]
  omega
 have h0:=Qn.1 ha 0 (Qd.2 (by omega))
 unfold d7J at h0
 rw [decide_eq_false (by omega),decide_eq_true hle,h00] at h0
 simp only [Bool.not_false,QA,Bool.and_true,Bool.not_eq_true',decide_eq_false_iff_not] at h0
 refine ⟨by simp only [d7Z]; omega,by simp only [d7Z]; rw [hv]; exact c7v (a8v h1) _,(a3m hs i).1,fun hw=>?_⟩
 simp only [d7Z] at hw
 have:=d8O hl (i:=i) (k:=0) hi (by omega) (by rw [hz',hw])
 omega
theorem e1S (h1:chk e=0) (h2:s.cnt≠0) (h3:chk (toX (d7s s (a5n e s) (a5n e s).length (a5n e s).length))=0):a5n (toX (d7s s (a5n e s) (a5n e s).length (a5n e s).length)) s=a5n e s:=by
 have hl:=d9t (e:=e) h2
 have hl2:=d9t (e:=toX (d7s s (a5n e s) (a5n e s).length (a5n e s).length)) h2
 apply QU
 intro j
 rcases Nat.lt_or_ge j (a5n e s).length with hj | hj
 ·obtain ⟨x,hx⟩:=a3n hj
  obtain ⟨y,hy⟩:=a3n (l:=a5n (toX (d7s s (a5n e s) (a5n e s).length (a5n e s).length)) s) (i:=j) (by omega)
  have e1:=e0n h1 h2 hj
  have e2:=d9B h3 h2 (i:=j) (by omega)
  rw [e2b (e1c h1 h2) (a3m (Bd.ok_of_cnt h2) j).1,e1,QW,QW,hx,hy] at e2
  rw [hx,hy]
  simp only [Option.getD_some] at e2
  rw [e2]
 ·rw [Qv hj,Qv (by omega)]
theorem shE {a b c d e f g v:Int} {y:PV} (hy:y.one=true) (z:Int):a2O [Sh.agg [.int .i64,.int .i64,.int .i64,.int .i64,.int .i64,.int .i64,.int .i64,.int .i64,.val],Sh.one (.int .i64)] [.agg [.int .i64 a,.int .i64 b,.int .i64 c,.int .i64 d,.int .i64 e,.int .i64 f,.int .i64 g,.int .i64 v,y],.int .i64 z]=some ([a,b,c,d,e,f,g,v,z],[],[y]):=by simp [a2O,a0d,a0c,hy]
theorem e1p (hrow:IsE e row) (hs:e.size<=1000000) (s:Bd) (n:Nat) (hn:6000000<=n):a0e a4u (n+1) e0v [.agg row,.agg (bpv s)] []=some (.bool true,[]):=by
 have ha:=d5O (n:=n) (by omega)
 have hT:a4u e0v=some saleroomlaw14_FlattenMinimal_S:=c3c _ _ e0A
 have h0:=evH (d9L (σ:=[]) hrow hs s rfl n (by omega))
 have h1:e.size<=60->a0e a4u n 31 [.agg row,.agg (bpv s)] []=some (d9A e s,[]):=fun h=>d9G (σ:=[]) hrow (by omega) s rfl n (by omega)
 obtain ⟨R,hR⟩:∃ R,R=d7s s (a5n e s) (a5n e s).length (a5n e s).length:=⟨_,rfl⟩
 have hRl:s.cnt≠0->R.length<=1024:=fun h=>by
  have:=d8g s (a5n e s) (a5n e s).length (a5n e s).length
  have h2:=d9t (e:=e) h
  have h3:=a6p h
  rw [hR]; omega
 have hgood:chk e=0->s.cnt≠0->∀ o∈R,e0E o:=fun k1 k2=>by rw [hR]; exact e1c k1 k2
 have hcl:chk e=0->s.cnt≠0->a0e a4u n 43 [oV R] []=some (oV R,[]):=fun k1 k2=>by
  have:=evH (d6X (σ:=[]) (d6E R) (by have:=hRl k2; omega) n (by have:=hRl k2; omega))
  rw [this]
  have hc:d5Y R=R:=by rw [hR]; exact e1H fun o ho=>(e1c k1 k2 o ho).1
  rw [hc]
 have hsm:s.cnt≠0->a0e a4u n 33 [oV R,oV R] []=some (.bool true,[]):=fun k2=>by
  have:=evH (d7l (σ:=[]) (d6E R) (d6E R) (by have:=hRl k2; omega) n (by have:=hRl k2; omega))
  rwa [decide_eq_true rfl] at this
 have hte:s.cnt≠0->a0e a4u n 39 [oV R] []=some (toV R,[]):=fun k2=>evH (e1J (σ:=[]) (d6E R) (by have:=hRl k2; omega) rfl n (by omega))
 have hoff:chk e=0->s.cnt≠0->chk (toX R)=0->R.length<=40->a0e a4u n 31 [.agg (toR R),.agg (bpv s)] []=some (.tup [oV R,.int .i64 0],[]):=fun k1 k2 k3 k4=>by
  have hsz:=(c1v k3).2.1
  rw [d9G (σ:=[]) (e1G R) (by omega) s rfl n (by omega)]
  have hsc:s.check=0:=Bd.check_zero.2 (Bd.ok_of_cnt k2)
  unfold d9A
  rw [if_neg (by simp [k3]),if_neg (by simp [hsc]),if_neg k2]
  have ht:a5n (toX R) s=a5n e s:=by rw [hR]; exact e1S k1 k2 (by rw [<- hR]; exact k3)
  rw [ht]
  unfold d7A
  rw [<- hR,if_neg (by omega)]
 have hsh:=fun z=>shV (d8r R) z
 have hshN:=fun z=>shV (V:=.nilS) rfl z
 have hw:(decide (e.size<=60)&&decide (s.cnt<=100))=true->e.size<=60:=fun h=>by simp only [Qs,decide_eq_true_eq] at h; exact h.1
 have hck:chk e=0->s.cnt≠0->R.length<=40->1<=R.length->chk (toX R)=0\/(chk (toX R)=3/\30 < R.length):=fun k1 k2 k3 k4=>e1Y (hgood k1 k2) k4 (by omega)
 obtain ⟨ga,gb,gc,gd,ge,gf,gg,gv,gy,hG,hgy⟩:=e0S (e1G R)
 have hshE:=fun z=>shE (a:=ga) (b:=gb) (c:=gc) (d:=gd) (e:=ge) (f:=gf) (g:=gg) (v:=gv) hgy z
 have hshZ:=fun z=>shE (a:=0) (b:=0) (c:=0) (d:=0) (e:=0) (f:=0) (g:=0) (v:=0) (y:=.nilS) rfl z
 obtain ⟨o1,o2,o3⟩:=d5h (d6E R)
 generalize (decide (e.size<=60)&&decide (s.cnt<=100))=w at *
 unfold d9A d7A at h1
 rw [<- hR] at h1
 unfold toV at hte
 rw [hG] at hte hoff
 clear hgood hG hRl
 generalize chk (toX R)=cR at *
 clear hR
 generalize oV R=V at *
 generalize R.length=rl at *
 generalize chk e=ck at *
 obtain ⟨op,a,b',c,d,e',f,v,l⟩:=e
 simp only [IsE] at hrow
 obtain ⟨x,rows,rfl,hx,hl⟩:=hrow
 obtain ⟨x1,x2,x3⟩:=a0T hx
 rw [a0e,hT]
 generalize a0e a4u n=Φ at *
 simp only [Q0,Sys.run]
 show ((a0i [.sh (.agg [_,_,_,_,_,_,_,_,_]),.sh (.agg [_,_,_,_,_,_])] _).bind _)=_
 have hB:bpv s=[.int .i64 s.a,.int .i64 s.b,.int .i64 s.c,.int .i64 s.d,.int .i64 s.e,.int .i64 s.f]:=rfl
 rw [hB] at h0 h1 hoff ⊢
 simp only [a0i,a0d,a0c,Q2,Q0,Q4,Q3,Q5,if_true,x3]
 show (PT.ev _ e0o _).bind _=_
 have hnn:PV.nilS.one=true:=rfl
 unfold err at h1
 unfold e1f at hte
 suffices key:e0o.ev Φ { i:=[op,a,b',c,d,e',f,v,s.a,s.b,s.c,s.d,s.e,s.f],b:=[],v:=[x],m:=[],k:=0 }=some (.ret (.bool true) []) from (congrArg (fun r=>Qa r _) key)
 have bad:∀ z:Int,z≠0->Φ 31 [.agg [.int .i64 op,.int .i64 a,.int .i64 b',.int .i64 c,.int .i64 d,.int .i64 e',.int .i64 f,.int .i64 v,x],.agg [.int .i64 s.a,.int .i64 s.b,.int .i64 s.c,.int .i64 s.d,.int .i64 s.e,.int .i64 s.f]] []=some (.tup [.nilS,.int .i64 z],[])->Φ d9E [.agg [.int .i64 op,.int .i64 a,.int .i64 b',.int .i64 c,.int .i64 d,.int .i64 e',.int .i64 f,.int .i64 v,x],.agg [.int .i64 s.a,.int .i64 s.b,.int .i64 s.c,.int .i64 s.d,.int .i64 s.e,.int .i64 s.f]] []=some (.bool true,[]) ->
   e0o.ev Φ { i:=[op,a,b',c,d,e',f,v,s.a,s.b,s.c,s.d,s.e,s.f],b:=[],v:=[x],m:=[],k:=0 }=some (.ret (.bool true) []):=by
  intro z hz hbad h0
  have hz0:eqB z 0=false:=eqF hz
  simp only [d9E] at h0
  unfold e0o
  repeat (first | rw [a0B] | rw [a0A] | rw [a0D] | rw [a0p] | rw [a0q] | rw [a0m] | rw [a0M] | rw [a3f] | rw [a0C] | rw [a0y] | rw [a0r] | rw [a0N])<;>simp -implicitDefEqProofs only [↓reduceIte,eq_self,ξ2,ξ3,ξ4,ξ5,ξ6,ξ7,ξ8,ξ9,ξa,ξb,ξc,ξd,ξe,ξf,ξg,ξh,Nat.reduceAdd,ξi,if_true,if_false,ξl,ξm,ξn,ξo,ξp,ξq,ξr,ξs,ξt,ξu,ξv,ξw,ξx,ξy,ξz,ξA,ξB,ξC,ξD,ξE,h0,x3,ha,hbad,hshN,hz0,hnn,a0k,or_true,Q6]
 cases w with
 | false =>
  unfold e0o
  repeat (first | rw [a0B] | rw [a0A] | rw [a0D] | rw [a0p] | rw [a0q] | rw [a0m] | rw [a0M] | rw [a3f] | rw [a0C] | rw [a0y] | rw [a0r] | rw [a0N])<;>simp -implicitDefEqProofs only [↓reduceIte,eq_self,ξ2,ξ3,ξ4,ξ5,ξ6,ξ7,ξ8,ξ9,ξa,ξb,ξc,ξd,ξe,ξf,ξg,ξh,Nat.reduceAdd,ξi,if_true,if_false,ξl,ξm,ξn,ξo,ξp,ξq,ξr,ξs,ξt,ξu,ξv,ξw,ξx,ξy,ξz,ξA,ξB,ξC,ξD,ξE,h0,x3,ha,a0k,or_true,Q6]
 | true =>
  have h1:=h1 (hw rfl)
  by_cases k1:ck=0
  case neg =>
   rw [if_pos k1] at h1
   exact bad ck k1 h1 h0
  rw [if_neg (by simp [k1])] at h1
  by_cases k2:s.check=0
  case neg =>
   rw [if_pos k2] at h1
   exact bad s.check k2 h1 h0
  rw [if_neg (by simp [k2])] at h1
  by_cases k3:s.cnt=0
  ·rw [if_pos k3] at h1
   exact bad 3 (by decide) h1 h0
  rw [if_neg k3] at h1
  by_cases k4:40 < rl
  ·rw [if_pos k4] at h1
   exact bad 3 (by decide) h1 h0
  rw [if_neg k4] at h1
  have hz0:eqB 0 0=true:=rfl
  have hsh0:=hsh 0
  by_cases k5:rl=0
  ·have q5:eqB (rl:Int) 0=true:=by rw [k5]; rfl
   unfold e0o
   repeat (first | rw [a0B] | rw [a0A] | rw [a0D] | rw [a0p] | rw [a0q] | rw [a0m] | rw [a0M] | rw [a3f] | rw [a0C] | rw [a0y] | rw [a0r] | rw [a0N])<;>simp -implicitDefEqProofs only [↓reduceIte,eq_self,ξ2,ξ3,ξ4,ξ5,ξ6,ξ7,ξ8,ξ9,ξa,ξb,ξc,ξd,ξe,ξf,ξg,ξh,Nat.reduceAdd,ξi,if_true,if_false,ξl,ξm,ξn,ξo,ξp,ξq,ξr,ξs,ξt,ξu,ξv,ξw,ξx,ξy,ξz,ξA,ξB,ξC,ξD,ξE,h0,x3,ha,h1,hsh0,o1,o2,o3,hz0,q5,a0k,or_true,Q6]
  have q5:eqB (rl:Int) 0=false:=eqF (by omega)
  have hcl:=hcl k1 k3
  have hsm:=hsm k3
  have hte:=hte k3
  rw [if_neg k5,if_neg (by omega)] at hte
  rcases hck k1 k3 (by omega) (by omega) with hc0 | ⟨hc3,h30⟩
  ·rw [hc0,if_neg (by simp)] at hte
   have hoff:=hoff k1 k3 hc0 (by omega)
   have hshE0:=hshE 0
   unfold e0o
   repeat (first | rw [a0B] | rw [a0A] | rw [a0D] | rw [a0p] | rw [a0q] | rw [a0m] | rw [a0M] | rw [a3f] | rw [a0C] | rw [a0y] | rw [a0r] | rw [a0N])<;>simp -implicitDefEqProofs only [↓reduceIte,eq_self,ξ2,ξ3,ξ4,ξ5,ξ6,ξ7,ξ8,ξ9,ξa,ξb,ξc,ξd,ξe,ξf,ξg,ξh,Nat.reduceAdd,ξi,if_true,if_false,ξl,ξm,ξn,ξo,ξp,ξq,ξr,ξs,ξt,ξu,ξv,ξw,ξx,ξy,ξz,ξA,ξB,ξC,ξD,ξE,h0,x3,ha,h1,hsh0,o1,o2,o3,hz0,q5,hcl,hsm,hte,hshE0,hgy,hoff,a0k,or_true,Q6]
  ·rw [hc3,if_pos (by decide)] at hte
   have q30:ltB 30 (rl:Int)=true:=by simp [ltB]; omega
   have q30z:eqB 3 0=false:=rfl
   have q33:eqB 3 3=true:=rfl
   have hshZ3:=hshZ 3
   unfold e0o
   repeat (first | rw [a0B] | rw [a0A] | rw [a0D] | rw [a0p] | rw [a0q] | rw [a0m] | rw [a0M] | rw [a3f] | rw [a0C] | rw [a0y] | rw [a0r] | rw [a0N])<;>simp -implicitDefEqProofs only [↓reduceIte,eq_self,ξ2,ξ3,ξ4,ξ5,ξ6,ξ7,ξ8,ξ9,ξa,ξb,ξc,ξd,ξe,ξf,ξg,ξh,Nat.reduceAdd,ξi,if_true,if_false,ξl,ξm,ξn,ξo,ξp,ξq,ξr,ξs,ξt,ξu,ξv,ξw,ξx,ξy,ξz,ξA,ξB,ξC,ξD,ξE,h0,x3,ha,h1,hsh0,o1,o2,o3,hz0,q5,hcl,hsm,hte,hshZ3,hnn,q30,q30z,q33,a0k,or_true,Q6]
end
end Go.Proofs.Ythmkfeiapdbojaa
