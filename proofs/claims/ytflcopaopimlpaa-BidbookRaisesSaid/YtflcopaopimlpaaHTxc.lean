/- SX: the executor's tree is enough for a whole function's body. -/
import Derived.Test.YtflcopaopimlpaaHTxb
import Derived.RangeFuncRecord
import Derived.RangeFuncIn
import Derived.RangeFuncLeaves
import Derived.ChangeKeysEq
import Derived.ProofKit
import Derived.OpenShut
import Derived.ChangeOld
set_option linter.unusedSimpArgs false
set_option linter.unusedVariables false
open Option.some renaming injEq → Q0
open Bool renaming and_eq_true → Q1, false_eq_true → Qa, not_eq_true' → QA, or_eq_true → QD
open List renaming replicate → Q2, map_cons → Q4, length_append → Q5, take_append_drop → Q6, length_take → Q7, getElem?_eq_some_iff → Q8, getElem?_append_left → Q9, range → Qb, append_assoc → Qd, length_drop → Qe, getElem?_set_ne → Qk, mem_cons → Qm, mem_map → Qn, all_eq_true → Qp, find?_some → Qr, mem_of_find?_eq_some → Qs, replicate_succ → Qt, getElem?_set → Qv, mapM_cons → Qw, getElem?_map → Qy, getElem?_eq_none → Qz, any_eq_true → QC, length_map → QE, getElem?_eq_getElem → QJ, getElem?_cons_zero → QL, take_succ_cons → QM, mem_of_getElem? → QN, getD_eq_getElem?_getD → QP, nodup_cons → QQ, ext_getElem? → QS, getElem?_take → QU, mem_of_mem_take → QV, getElem?_range → QX, foldl_cons → QY, contains_iff_mem → X4, mem_range → X5, mem_iff_getElem? → X7, foldl_nil → Xa, length_range → Xb, exists_of_findSome?_eq_some → Xc, take_zero → Xd, drop_left → Xe, drop_zero → Xf, getElem?_append → Xg, getElem?_set_self → Xh, getElem?_eq_none_iff → Xj
open Option renaming map_eq_some_iff → Q3, bind_eq_some_iff → Qj, bind_some → QW, map_some → X8
open Prod.mk renaming injEq → Qf
open Nat renaming min_eq_left → Qg, add_mul → Qh, eq_of_beq_eq_true → QB, add_comm → QH, add_assoc → QK, one_shiftLeft → QZ, testBit_two_pow → X0
open Array renaming ext' → Qq, replicate → Qu, getElem?_eq_getElem → X6, all_toList → X9
namespace Go.Sx
open Go.RowKit
def a1R (body:Code):PI->Item
 | .code p=>.code (sub body p)
 | .inBlock id=>.inBlock id
 | .inLoop p=>.inLoop (sub body p)
 | .inScope p=>.inScope (sub body p)
 | .reg p is=>.inRegion (a1j (sub body p)) is
 | .dreg _ _ _=>.inRegion #[] []
 | .begin=>.beginRound
section
variable {P:Program}
def a2q:List Nat->World->World
 | [],w=>w
 | D::Ds,w=>a2q Ds (w.putObj D (.deferred none))
theorem b0q {fr0:Frame} {cs:List Frame} (hm:fr0.mode=.returning):∀ (Ds:List Nat) (w:World),Ds.Nodup->(∀ D∈Ds,w.heap[D]?=some (.deferred (some []))) ->
  Steps P (lone { fr0 with defers:=Ds.map a6V } cs w) (lone { fr0 with defers:=[] } cs (a2q Ds w))
 | [],w,_,_=>.refl _ _
 | D::Ds,w,hn,h=>by
  have hk:=run_takeDeferred (P:=P) (h D (by simp))
  have h1:=step_collected (P:=P) (fr:={ fr0 with defers:=(D::Ds).map a6V }) (cs:=cs) (w:=w) (by show fr0.mode≠.run; rw [hm]; simp) (d:=a6V D) (ds:=Ds.map a6V) rfl rfl hk
  refine .head h1 ?_
  rw [QQ] at hn
  exact b0q hm Ds _ hn.2 (fun E hE=>(World.putObj_heap_other (by intro he; subst he; exact hn.1 hE)).trans (h E (by simp [hE])))
theorem b8h {f:FuncId} {fn:Func} {R:Ending->World->Prop} {todo:List Item} {a:Act} {w:World} {v:Value} {Ds:List Nat}
  (ht:todo=[]\/∃ k,todo=.code .ret::k) (hf:P.funcs[f]?=some fn) (hd:a.defers=Ds.map a6V) (hn:Ds.Nodup) (hm:∀ D∈Ds,w.heap[D]?=some (.deferred (some [])))
  (hr:(results fn a.tmps).run P (a2q Ds w)=.ok v (a2q Ds w)) (hR:R (.returned v) (a2q Ds w)):a2W P (f,none) R todo a w:=by
 intro cs _
 rcases ht with rfl | ⟨k,rfl⟩
 ·refine ⟨.returned v,_,lone { (atF (f,none)).atR a [] with mode:=.returning,defers:=[] } cs (a2q Ds w),hR,.head (stepR_end rfl) ?_,_,rfl,rfl,rfl,rfl,rfl,fn,hf,hr⟩
  have:=b0q (P:=P) (fr0:={ (atF (f,none)).atR a [] with mode:=.returning }) (cs:=cs) rfl Ds w hn hm
  rw [<- hd] at this
  exact this
 ·refine ⟨.returned v,_,lone { (atF (f,none)).atR a (.code .ret::k) with mode:=.returning,defers:=[] } cs (a2q Ds w),hR,.head (stepR_ret rfl) ?_,_,rfl,rfl,rfl,rfl,rfl,fn,hf,hr⟩
  have:=b0q (P:=P) (fr0:={ (atF (f,none)).atR a (.code .ret::k) with mode:=.returning }) (cs:=cs) rfl Ds w hn hm
  rw [<- hd] at this
  exact this
theorem c1S {w:World} {D:Nat} {o o':Obj} (hd:w.heap[D]?=some o) (ho:a9T o=true) {b off:Nat} {u:Value} (h:w.cell? ⟨b,off,none⟩=some u):(w.putObj D o').cell? ⟨b,off,none⟩=some u:=by
 have hne:b≠D:=by
  rintro rfl
  simp only [World.cell?,hd] at h
  cases o<;>simp_all [a9T]
 rw [<- h]
 exact World.cell?_of_block (World.putObj_heap_other hne)
theorem c3b {s:Hp} {w:World} {D:Nat} {o o':Obj} (h:Sub s w) (hd:w.heap[D]?=some o) (ho:a9T o=true):Sub s (w.putObj D o'):=fun b off u hb=>c1S hd ho (h b off u hb)
theorem c2j {E:Nat->Prop} {w w':World} {D:Nat} {o:Obj} (h:Grows E w w') (hD:w.heap.size<=D):Grows E w (w'.putObj D o) :=
 h.below ⟨rfl,rfl,rfl,by simp,fun k hk=>World.putObj_heap_other (by omega)⟩
structure MarksOk (w0:World) (Ds:List Nat):Prop where
 nd:Ds.Nodup
 ge:∀ D∈Ds,w0.heap.size<=D
theorem MarksOk.nil (w0:World):MarksOk w0 []:=⟨by simp,by simp⟩
theorem b0f {s:Hp} {E:Nat->Prop} {w0:World}:∀ (Ds:List Nat) (w:World),Ds.Nodup->(∀ D∈Ds,w0.heap.size<=D)->(∀ D∈Ds,w.heap[D]?=some (.deferred (some [])))->Grows E w0 w->Sub s w ->
  Grows E w0 (a2q Ds w)/\Sub s (a2q Ds w)/\∀ i,i ∉ Ds->(a2q Ds w).heap[i]?=w.heap[i]?
 | [],w,_,_,_,h1,h2=>⟨h1,h2,fun _ _=>rfl⟩
 | D::Ds,w,hn,hB,hd,h1,h2=>by
  rw [QQ] at hn
  have hD:=hd D (by simp)
  obtain ⟨a,b,c⟩:=b0f (s:=s) (E:=E) (w0:=w0) Ds (w.putObj D (.deferred none)) hn.2 (fun E hE=>hB E (by simp [hE]))
   (fun E hE=>(World.putObj_heap_other (by intro he; subst he; exact hn.1 hE)).trans (hd E (by simp [hE]))) (c2j h1 (hB D (by simp))) (c3b h2 hD rfl)
  refine ⟨a,b,fun i hi=>?_⟩
  simp only [Qm,not_or] at hi
  exact (c i hi.2).trans (World.putObj_heap_other hi.1)
end
section
variable (P:Program) (f:Fr) (R:Ending->World->Prop) (body:Code)
abbrev QG (k:List PI):Exit->Act->World->Prop:=fun e a w=>e=.normal/\a2W P f R (k.map (a1R body)) a w
def a3u (ρ:Env) (β:Nat->Nat) (s:Hp) (g:Cfg) (a:Act) (w:World):Prop :=
 match g.todo with
 | .dreg p done ks::k =>
   wpAnyH P .any (a1j (sub body p)) (QG P f R body k) (fun w'=>HOk ρ β (a5P ks g.H) w'/\Sub s w') ((a1j (sub body p)).size-done.length) (a1O (a1j (sub body p)).size done) a w
 | todo=>a2W P f R (todo.map (a1R body)) a w
def b1g (w0:World) (s0:Hp) (X:Fx) (g:Cfg) (ρ:Env) (s:Hp):Prop:=∀ β a w,Rel w0 s0 X ρ s β g a w->a3u P f R body ρ β s g a w
end
abbrev Reach (P:Program) (f:FuncId) (R:Ending->World->Prop) (body:Code) (w0:World) (s0:Hp) (m0:MS) (g:Cfg) (ρ:Env) (s:Hp):Prop:=b1g P (f,none) R body w0 s0 (Xm (a0S m0) []) g ρ s
section
variable {P:Program} {c:Ctx} {f:Fr} {fnc:Func} {fn:FnC} {w0:World} {s0:Hp} {X:Fx} {Q:Value->Hp->MS->Prop} {T:Cfg->Env->Hp->Prop}
theorem b3a (body:Code) (id:Nat):∀ (k k':List PI),a7a id k=some k'->exitTo id (k.map (a1R body))=some (k'.map (a1R body))
 | [],k',h=>by simp [a7a] at h
 | x::k,k',h=>by
  cases x<;>simp only [a7a] at h<;>simp only [Q4,a1R,exitTo]
  case inBlock id' =>
   split at h
   ·rename_i he; rw [if_pos he]; simp only [Q0] at h; rw [h]
   ·rename_i he; rw [if_neg he]; exact b3a body id k k' h
  all_goals first | (exact b3a body id k k' h) | (simp at h)
theorem c2H {R:Ending->World->Prop} {id:Nat} {ops:Array Oper} {S:World->Prop} {k:List Item} {a:Act} {w:World} (hm:P.follows .mixedOrders=true)
  (hnd:f.2=none\/∀ (i:Nat) (o:Oper),ops[i]?=some o->a5L o=false)
  (h:wpAnyH P .any ops (fun e a w=>e=.normal/\a2W P f R k a w) S ops.size (Qu ops.size false) a { w with drawn:=w.drawn+1 }):a2W P f R (.code (.region id ops true)::k) a w:=by
 intro cs hcs
 have h2:=wpAny_of_held _ _ _ _ h
 have h3:∀ t,wpOps P ops (fun e a w=>e=.normal/\a2W P f R k a w) (Region.schedule (P.follows .mixedOrders) ops t) a { w with drawn:=w.drawn+1 }:=fun t=>by
  simp only [Region.schedule,hm,Bool.true_or,if_true]
  exact wpAny_sound ops.size t _ a _ h2
 obtain ⟨e,w1,m,r,c,hl⟩:=a2W.ops hnd (h3 (w.tape w.drawn (.order (atF f).fn id))) cs hcs
 exact ⟨e,w1,m,r,.of_steps (.one stepR_region_draw) c,hl⟩
theorem Rel.drew {ρ s β} {g:Cfg} {a:Act} {w:World} (h:Rel w0 s0 X ρ s β g a w):Rel w0 s0 X ρ s β g a { w with drawn:=w.drawn+1 } :=
 h.grow (w':={ w with drawn:=w.drawn+1 }) ⟨rfl,rfl,rfl,Nat.le_refl _,fun _ _=>rfl⟩ (Hp.le_refl _) (fun b o u hu=>h.sb b o u hu) (fun b o u h1 h2=>by rw [h1] at h2; simp at h2)
theorem Rel.setsl {ρ s β} {g:Cfg} {a:Act} {w:World} (h:Rel w0 s0 X ρ s β g a w) {d:Nat} {v v':SV} (hd:g.sl[d]?=some v) (hv:v'.den ρ β=v.den ρ β) :
  Rel w0 s0 X ρ s β { g with sl:=g.sl.set d v' } a w:=by
 refine ⟨?_,h.df,h.sz,h.kp,h.ms,h.fs,h.ci,h.cb,h.cv,h.cj,h.ok,h.bel,h.sb,h.nw,h.le,h.bl,h.sp⟩
 rw [h.tm]
 apply congrArg
 simp only [SV.dens_map]
 rw [List.map_set,hv]
 symm
 apply QS
 intro j
 rw [Qv]
 split
 ·rename_i hj; subst hj
  obtain ⟨h1,h2⟩:=Q8.1 hd
  simp [h1,h2]
 ·rfl
def a9a (tmps:Array Value):ResultVar->Sem Value
 | .tmp t=>pure (tmps.getD t undef)
 | .cell a t=>do loadVar t (<- asAddr (tmps.getD a undef))
theorem c1W (fn:Func) (tmps:Array Value):results fn tmps=(fn.results.mapM (a9a tmps) >>= fun vs=>pure (if h:vs.size=1 then vs[0] else .tuple vs)):=by
 unfold results
 congr 1
theorem b0I (hP:ProgOk P c) {ρ:Env} {β:Nat->Nat} {sl:List SV} {H:List Blk} {a:Act} (ha:a.tmps=(SV.dens ρ β sl).toArray) {w:World} (hH:HOk ρ β H w) :
  ∀ (l:List ResultVar) (vs:List SV),a6p sl H c.tab l=some vs->(l.mapM (a9a a.tmps)).run P w=.ok (SV.dens ρ β vs) w
 | [],vs,h=>by simp only [a6p,Q0] at h; subst h; simp [SV.dens]
 | .tmp t::l,vs,h=>by
  simp only [a6p] at h
  split at h
  ·rename_i v vs' h1 h2
   simp only [Q0] at h; subst h
   have ih:=b0I hP ha hH l vs' h2
   have ht:a.tmps.getD t undef=v.den ρ β:=a0T (x:=.tmp t) (by simpa [ev] using h1) ha
   have h0:(a9a a.tmps (.tmp t)).run P w=.ok (v.den ρ β) w:=by simp only [a9a,ht,Sem.run_pure]
   simp only [Qw,Sem.run_bind,Sem.run_pure,h0,Result.andThen_ok,ih,SV.dens]
  ·simp at h
 | .cell x t::l,vs,h=>by
  simp only [a6p] at h
  split at h
  ·rename_i k off i vs' h1 h2 h3
   have ih:=b0I hP ha hH l vs' h3
   have hx:a.tmps.getD x undef=(SV.ptr k off).den ρ β:=a0T (x:=.tmp x) (by simpa [ev] using h1) ha
   split at h
   case h_2=>simp at h
   rename_i cs T hk
   have key:∀ v,a5w i cs off=some v->vs=v::vs'->(List.mapM (a9a a.tmps) (ResultVar.cell x t::l)).run P w=.ok (SV.dens ρ β vs) w:=by
    intro v hv he
    subst he
    have hl:=c0m (hP.tab _ _ h2) (ρ:=ρ) (β:=β) hv w (hH _ _ _ hk)
    have h0:(a9a a.tmps (.cell x t)).run P w=.ok (v.den ρ β) w:=by simp only [a9a,hx,SV.den,asAddr,Sem.run_bind,Sem.run_pure,Result.andThen_ok,hl]
    simp only [Qw,Sem.run_bind,Sem.run_pure,h0,Result.andThen_ok,ih,SV.dens]
   split at h
   ·rename_i hagg
    split at h
    ·rename_i hle
     simp only [Q0] at h
     exact key _ (by simp [a5w,hagg,hle]) h.symm
    ·simp at h
   ·rename_i hagg
    split at h
    ·rename_i v hv
     simp only [Q0] at h
     exact key v (by simp only [a5w,hagg]; simpa using hv) h.symm
    ·simp at h
  ·simp at h
theorem b9Q {α:Type} {l:List α} {n i:Nat} {x:α} (h:(l.take n)[i]?=some x):l[i]?=some x:=by
 rw [QU] at h
 split at h
 ·exact h
 ·cases h
theorem b7S {f:FuncId} (hP:ProgOk P c) {Ds:List Nat} {m0:MS} (hE:X.E=a0S m0) (hds:X.ds=Ds.map a6V) (hm:MarksOk w0 Ds) (hK:∀ D∈Ds,X.K (D,.deferred (some []))) (hf:P.funcs[f]?=some fnc) (hres:fn.res=fnc.results.toList) {g:Cfg} {ρ:Env} {s:Hp} {β:Nat->Nat} {a:Act} {w:World} (h:Rel w0 s0 X ρ s β g a w)
  (hvc:VC P Q T (b5L c fn g) ρ s) {todo:List Item} (ht:todo=[]\/∃ k,todo=.code .ret::k):a2W P (f,none) (Ret Q s0 m0 w0) todo a w:=by
 unfold b5L at hvc
 split at hvc
 case h_2=>exact hvc.elim
 rename_i vs hvs
 have hdf:∀ D∈Ds,w.heap[D]?=some (.deferred (some [])):=fun D hD=>(h.kp _ (.inl (hK D hD))).is
 have facts:=fun s1 (hs1:Sub s1 w)=>b0f (s:=s1) Ds w hm.nd hm.ge hdf h.bel hs1
 have hok:HOk ρ β g.H (a2q Ds w):=fun k cs T hk=>by
  rw [(facts s h.sb).2.2 _ (fun hD=>by have:=hdf _ hD; rw [h.hok k cs T hk] at this; simp at this)]
  exact h.hok k cs T hk
 have hr:=b0I (P:=P) hP h.tm hok _ _ hvs
 have hrun:(results fnc a.tmps).run P (a2q Ds w)=.ok ((a1E vs).den ρ β) (a2q Ds w):=by
  rw [c1W,Sem.run_bind,Array.mapM_eq_mapM_toList,<- hres]
  simp only [Sem.run_map,hr,Result.andThen_ok,Sem.run_pure]
  match vs with
  | []=>simp [a1E,SV.den,SV.dens]
  | [v]=>simp [a1E,SV.dens]
  | v1::v2::vs=>simp [a1E,SV.den,SV.dens]
 refine b8h ht hf (h.df.trans hds) hm.nd hdf hrun ?_
 have hmD:∀ i,i∈a0S ρ.m->i ∉ Ds:=fun i hi hD=>h.ms.dk _ (hK i hD) hi
 have fin:∀ (s1:Hp) (H':List Blk),s.le s1->Rel w0 s0 X ρ s1 β { g with H:=H' } a w->a8r ρ β H' s1->VC P Q T (.ret c.gen (a1E vs) H') ρ s->Ret Q s0 m0 w0 (.returned ((a1E vs).den ρ β)) (a2q Ds w):=by
  intro s1 H' hs1 hrel hsh hvc
  have hk0:ρ.k=m0.length:=by rw [<- hrel.ms.ek,hE]; simp [a0S]
  have hpos:∀ (m':MS),(∀ (i:Nat) x,m'[i]?=some x->ρ.m[i]?=some x)->∀ (i:Nat) x,m'[i]?=some x->(∃ y,m0[i]?=some y/\y.1=x.1)\/w0.heap.size<=x.1:=by
   intro m' hm' i x hx
   have hx:=hm' i x hx
   rcases Nat.lt_or_ge i ρ.k with hlt | hge
   ·rcases hrel.ms.ck i x hlt hx with h1 | h1
    ·rw [hE] at h1
     simp only [a0S,Qy,Q3] at h1
     exact .inl h1
    ·exact .inr h1
   ·exact .inr (hrel.ms.nw i x hge hx)
  cases hg:c.gen with
  | true =>
   rw [hg] at hvc
   obtain ⟨f1,f2,f3⟩:=facts s1 hrel.sb
   have hq:=hvc β s1 hs1 hsh (by simp)
   simp only [if_true] at hq
   refine ⟨_,s1,ρ.m,rfl,by rw [<- hE]; exact f1,hrel.le,f2,hrel.nw,⟨?_,hpos ρ.m (fun i x h=>h)⟩,⟨hrel.ms.nd,fun x hx=>?_,hrel.mok.un⟩,hq⟩
   ·rw [<- hk0]; exact hrel.ms.kl
   ·rw [f3 _ (hmD _ (Qn.2 ⟨x,hx,rfl⟩))]; exact hrel.mok.is x hx
  | false =>
   rw [hg] at hvc
   obtain ⟨t1,t2,t3,t4,t5⟩:=hrel.tell
   obtain ⟨f1,f2,f3⟩:=facts _ t2
   have hq:=hvc β _ (Hp.le_trans hs1 t1) (hsh.mono t1) (fun _=>t3)
   simp only [Qa,if_false] at hq
   refine ⟨_,_,ρ.m.take ρ.k,rfl,by rw [<- hE]; exact f1,Hp.le_trans hrel.le t1,f2,t4,⟨?_,hpos _ (fun i x h=>b9Q h)⟩,⟨t5.nd,fun x hx=>?_,t5.un⟩,hq⟩
   ·have:=hrel.ms.kl
    rw [Q7,<- hk0]
    exact Nat.le_min.2 ⟨Nat.le_refl _,this⟩
   rw [f3 _ (hmD _ (Qn.2 ⟨x,QV hx,rfl⟩))]; exact t5.is x hx
 split at hvc
 ·exact fin s g.H (Hp.le_refl s) h (fun k cs T hk=>(h.bl k _ hk).2.2.2 rfl) (fun β s' hs _=>hvc β s' hs (fun k cs T hk=>by simp at hk))
 ·obtain ⟨k1,k2,k3,_⟩:=h.shut (SV.ptrss vs)
  exact fin _ _ k2 k1 k3 hvc
theorem a3n {ops:Array Oper} {sl:List SV} {o:Oper} {b:Bool} (h:a2D ops sl o=.known b) {ρ:Env} {β:Nat->Nat} {a:Act} (ha:a.tmps=(SV.dens ρ β sl).toArray) :
  Region.wanted o (yielded ops a.tmps)=b:=by
 unfold a2D at h
 unfold Region.wanted
 split at h
 ·rename_i hg
  simp only [Gd.known.injEq] at h; subst h
  simp [hg]
 ·rename_i j want hg
  split at h
  ·simp at h
  ·rename_i d hd
   split at h
   ·rename_i b' hs
    simp only [Gd.known.injEq] at h; subst h
    have:a.tmps[d]?=some (.bool b'):=by rw [ha]; simp [SV.dens_map,hs,SV.den,BE.den]
    simp only [hg,yielded,hd,QW,this]
    cases b'<;>cases want<;>rfl
   ·simp at h
   ·rename_i hs
    simp only [Gd.known.injEq] at h; subst h
    have:a.tmps[d]?=some undef:=by rw [ha]; simp [SV.dens_map,hs,SV.den]
    simp only [hg,yielded,hd,QW,this]
    rfl
   ·simp at h
theorem b9s {ops:Array Oper} {sl:List SV} {o:Oper} {d:Nat} {b:BE} (h:a2D ops sl o=.on d b):sl[d]?=some (.bool b):=by
 unfold a2D at h
 split at h
 ·simp at h
 ·split at h
  ·simp at h
  ·split at h
   ·simp at h
   ·rename_i hs _
    simp only [Gd.on.injEq] at h
    obtain ⟨rfl,rfl⟩:=h
    assumption
   ·simp at h
   ·simp at h
theorem b0L (n:Nat) (done:List Nat) (j:Nat) (d:Bool):(a1O n done).getD j d=if j < n then (a7H done).testBit j else d:=by
 simp only [a1O,Array.getD_eq_getD_getElem?,List.getElem?_toArray,Qy]
 split
 ·rename_i h; rw [QX h]; rfl
 ·rename_i h; rw [Qz (by simp; omega)]; rfl
theorem c4r (ops:Array Oper) (o:Oper) (d:Nat):(b8y ops o).testBit d=(o.looksAt ops).contains d:=by
 have key:∀ (l:List Nat) (m:Nat),(l.foldl (fun m t=>m ||| (1 <<< t)) m).testBit d=(m.testBit d||l.contains d):=by
  intro l
  induction l with
  | nil=>intro m; simp
  | cons t l ih =>
   intro m
   rw [QY,ih,Nat.testBit_or,QZ,X0,List.contains_cons,Bool.or_assoc]
   congr 2
   by_cases h:t=d
   ·subst h; simp
   ·have:(d == t)=false:=by simp [Ne.symm h]
    simp [h,this]
 unfold b8y
 rw [key]; simp
theorem c3p {ops:Array Oper} {x y:Oper} (h:b8E ops x y=true):x.apart ops y=true:=by
 unfold b8E at h
 unfold Oper.apart
 cases hx:x.dst<;>cases hy:y.dst<;>simp only [hx,hy,c4r,Q1,QA,Bool.true_and,Bool.and_true,and_true,true_and] at h ⊢
 ·exact h
 ·simpa using h
 ·refine ⟨⟨h.1.1,?_⟩,h.2⟩
  rename_i a b
  have h2:¬ b=a:=by
   intro he; subst he
   simp at h
  simpa using h2
theorem b7A {ops:Array Oper} {done:List Nat} {j:Nat}:b3K ops done j=true↔(a1O ops.size done).getD j true=false:=by
 rw [b0L]
 unfold b3K
 by_cases h:j < ops.size<;>simp [h]
theorem b8j {ops:Array Oper} {done:List Nat} {i:Nat} {B:List Nat} (h:b4N ops done i B=true) :
  i∈B/\(∀ b∈B,(a1O ops.size done).getD b true=false)/\(∀ b∈B,b≠i->∃ ob,ops[b]?=some ob/\∃ e∈ob.after,Region.binds .any e=true/\e.on∈B) /\
  (∀ (j:Nat) oj,ops[j]?=some oj->j ∉ B->(a1O ops.size done).getD j true=false->a8y oj.op=true):=by
 unfold b4N at h
 simp only [Q1,Qp] at h
 obtain ⟨⟨⟨h1,h2⟩,h3⟩,h4⟩:=h
 refine ⟨by simpa using h1,fun b hb=>b7A.1 (h2 b hb),fun b hb hne=>?_,fun j oj hj hjB hu=>?_⟩
 ·have:=h3 b hb
  have hne':Nat.beq b i=false:=by
   cases he:Nat.beq b i with
   | false=>rfl
   | true=>exact absurd (QB he) hne
  rw [hne',Bool.false_or] at this
  split at this
  ·rename_i ob ho
   simp only [QC,Q1,Array.mem_toList_iff,X4] at this
   obtain ⟨e,he,hb,hon⟩:=this
   exact ⟨ob,ho,e,he,hb,hon⟩
  ·cases this
 ·have:=h4 (oj,j) (by rw [List.mem_zipIdx_iff_getElem?]; simpa using hj)
  simp only [QD,QA,X4] at this
  rcases this with (this | this) | this
  ·exact absurd this hjB
  ·rw [b7A.2 hu] at this; cases this
  ·exact this
theorem b2B {ops:Array Oper} {done:List Nat} {i:Nat} (h:b3U ops done i=true):Region.free .any ops (a1O ops.size done) i=true:=by
 unfold b3U at h
 unfold Region.free
 split at h
 ·cases h
 ·rename_i oi hi
  simp only [hi]
  rw [Qp] at h ⊢
  intro j hj
  have hj:=X5.1 hj
  have hoj:ops[j]?=some ops[j]:=X6 hj
  have hm:(ops[j],j)∈ops.toList.zipIdx:=by
   rw [X7]
   exact ⟨j,by simp [List.getElem?_zipIdx,hoj]⟩
  have h1:=h _ hm
  simp only [QD] at h1
  simp only [hoj,b0L,hj,if_true,QD]
  rcases h1 with ((h1 | h1) | h1) | h1
  ·exact .inl (.inl (by have:=QB h1; simp [this]))
  ·exact .inl (.inr h1)
  ·refine .inr (.inl ?_)
   rw [<- Array.any_toList]
   rw [QC] at h1 ⊢
   obtain ⟨e,he,hb⟩:=h1
   simp only [Q1] at hb
   exact ⟨e,he,by simp only [Q1,hb.1,true_and]; have:=QB hb.2; simp [this]⟩
  ·exact .inr (.inr (c3p h1))
theorem a6y (ops:Array Oper) (done:List Nat):b9C ops done=Region.ready .any ops (a1O ops.size done):=by
 unfold b9C Region.ready
 refine List.filter_congr (fun i hi=>?_)
 have hi:=X5.1 hi
 have hoi:ops[i]?=some ops[i]:=X6 hi
 simp only [hoi,b0L,hi,if_true,X8,Option.getD_some,<- X9]
 congr 1
 congr 1
 funext e
 congr 1
 by_cases h:e.on < ops.size
 ·simp [h,Nat.blt_eq]
 ·have:Nat.blt e.on ops.size=false:=by
   cases hb:Nat.blt e.on ops.size with
   | false=>rfl
   | true=>rw [Nat.blt_eq] at hb; exact absurd hb h
  simp [h,this]
theorem b8N {ops:Array Oper} (h:a9U ops=true):Region.noSelect ops=true:=by
 unfold a9U at h
 unfold Region.noSelect
 rw [<- X9]; exact h
theorem c1V (n:Nat):a1O n []=Qu n false:=by
 apply Qq
 simp only [a1O,a7H,Xa,Nat.zero_testBit,List.map_const',Xb,Array.toList_replicate]
theorem a4h (n:Nat) (done:List Nat) (i:Nat):a1O n (done++[i])=(a1O n done).setIfInBounds i true:=by
 apply Qq
 apply QS
 intro j
 simp only [a1O,a7H,List.foldl_append,QY,Xa,Array.toList_setIfInBounds,Qy,Qv,QE,Xb,Nat.testBit_or]
 by_cases hj:j < n
 ·rw [QX hj]
  simp only [X8]
  have h1:(1 <<< i).testBit j=decide (i=j):=by
   rw [QZ,X0]
  rw [h1]
  by_cases hij:i=j
  ·subst hij; simp [hj]
  ·simp [hij]
 ·rw [Qz (by simp; omega)]
  simp only [Option.map_none]
  split
  ·rename_i h; subst h; simp [hj]
  ·rfl
theorem b9r {ρ:Env} {β:Nat->Nat} {H:List Blk} {w:World} (h:HOk ρ β H w) (ks:List Nat):HOk ρ β (a5P ks H) w:=fun k cs T hk=>by
 rw [a5Y] at hk
 split at hk
 ·exact h k cs T hk
 ·simp at hk
def b8B (P:Program) (c:Ctx) (fn:FnC) (f:Fr) (X:Fx) (R:Ending->World->Prop) (Q:Value->Hp->MS->Prop) (s0:Hp) (w0:World):Prop :=
 c.leaf=true\/∃ (f':FuncId) (fnc:Func) (Ds:List Nat) (m0:MS),f=(f',none)/\X.E=a0S m0/\X.ds=Ds.map a6V/\MarksOk w0 Ds/\(∀ D∈Ds,X.K (D,.deferred (some [])))/\R=Ret Q s0 m0 w0/\P.funcs[f']?=some fnc/\fn.res=fnc.results.toList
theorem b8B.marks {f':FuncId} (m0:MS) (Ds:List Nat) (hm:MarksOk w0 Ds) (hf:P.funcs[f']?=some fnc) (hres:fn.res=fnc.results.toList):b8B P c fn (f',none) (Xm (a0S m0) Ds) (Ret Q s0 m0 w0) Q s0 w0 :=
 .inr ⟨f',fnc,Ds,m0,rfl,rfl,rfl,hm,fun D hD=>⟨hD,rfl⟩,rfl,hf,hres⟩
theorem a5X {md:Region.Mode} {ops:Array Oper} {Qx:Exit->Act->World->Prop} {S S':World->Prop} (h:∀ w,S w->S' w):∀ (fuel:Nat) (listed:Array Bool) (a:Act) (w:World),wpAnyH P md ops Qx S fuel listed a w->wpAnyH P md ops Qx S' fuel listed a w
 | 0,_,_,_,k=>k
 | fuel+1,_,_,_,k=>⟨k.1,fun i hi=>wpOp_mono (fun a' w' h'=>⟨h w' h'.1,a5X h fuel _ a' w' h'.2⟩) (k.2 i hi)⟩
theorem Rel.mapsl {ρ s β} {g:Cfg} {a:Act} {w:World} (h:Rel w0 s0 X ρ s β g a w) {k:IntKind} {e:IE} {j:Nat} (he:e.den ρ=(j:Int)) :
  Rel w0 s0 X ρ s β { g with sl:=g.sl.map fun v=>if SV.beq v (.int k e) then .int k (.l j) else v } a w:=by
 refine ⟨?_,h.df,h.sz,h.kp,h.ms,h.fs,h.ci,h.cb,h.cv,h.cj,h.ok,h.bel,h.sb,h.nw,h.le,h.bl,h.sp⟩
 rw [h.tm]
 apply congrArg
 simp only [SV.dens_map,List.map_map]
 apply List.map_congr_left
 intro v _
 simp only [Function.comp]
 split
 ·rename_i hb
  rw [SV.eq_of_beq _ _ hb]
  simp only [SV.den,IE.den,he]
 ·rfl
theorem b5n {g:Cfg} {d:Nat} {k:IntKind} {e:IE} {r:Cfg->Out} {ρ:Env} {s:Hp}:∀ m,VC P Q T (a9g g d k e r m) ρ s->∃ j:Nat,e.den ρ=(j:Int)/\VC P Q T (r { g with sl:=g.sl.map fun v=>if SV.beq v (.int k e) then .int k (.l j) else v }) ρ s
 | 0,h=>h.elim
 | m+1,h=>by
  have h:((BE.eq e (.l m)).den ρ=true->VC P Q T (r { g with sl:=g.sl.map fun v=>if SV.beq v (.int k e) then .int k (.l m) else v }) ρ s)/\((BE.eq e (.l m)).den ρ=false->VC P Q T (a9g g d k e r m) ρ s):=h
  cases hb:(BE.eq e (.l m)).den ρ with
  | true=>exact ⟨m,by simpa [BE.den,IE.den,a8O] using hb,h.1 hb⟩
  | false=>exact b5n m (h.2 hb)
theorem c0o {R:Ending->World->Prop} {body:Code} {ρ:Env} {β:Nat->Nat} {s:Hp} {g:Cfg} {a:Act} {w:World} (h:a3u P f R body ρ β s g a w) (h2:∀ p d ks k,g.todo≠.dreg p d ks::k):a2W P f R (g.todo.map (a1R body)) a w:=by
 unfold a3u at h
 split at h
 ·rename_i p d ks k he
  exact absurd he (h2 _ _ _ _)
 ·exact h
theorem c5V {α:Type} {b:Bool} {p:α->Bool} {l:List α} {i:α} (h:(if b=true then none else l.find? p)=some i):l.find? p=some i:=by
 split at h
 ·cases h
 ·exact h
theorem c1h {R:Ending->World->Prop} (hP:ProgOk P c)
  (hend:b8B P c fn f X R Q s0 w0)
  (hnd:f.2=none\/∀ p (i:Nat) (o:Oper),(a1j (sub fn.body p))[i]?=some o->a5L o=false)
  (hT:∀ g ρ s,T g ρ s->b1g P f R fn.body w0 s0 X g ρ s) :
  ∀ (n:Nat) (g:Cfg) (ρ:Env) (s:Hp),VC P Q T (run c fn n g) ρ s->b1g P f R fn.body w0 s0 X g ρ s:=by
 intro n
 induction n with
 | zero=>intro g ρ s h; exact h.elim
 | succ n ih =>
  intro g ρ s hvc β a w h
  have goto:∀ {g':Cfg} {t:List Item},(∀ cs,Steps P (lone ((atF f).atR a t) cs w) (lone ((atF f).atR a (g'.todo.map (a1R fn.body))) cs w)) ->
    a3u P f R fn.body ρ β s g' a w->(∀ p d ks k,g'.todo≠.dreg p d ks::k)->a2W P f R t a w :=
   fun hs hg h2=>a2W.step hs (c0o hg h2)
  have ite:∀ {b:BE} {x y:Out},VC P Q T (.ite b x y) ρ s->(b.den ρ=true/\VC P Q T x ρ s)\/(b.den ρ=false/\VC P Q T y ρ s):=by
   intro b x y hv
   cases hb:b.den ρ with
   | true=>exact .inl ⟨rfl,hv.1 hb⟩
   | false=>exact .inr ⟨rfl,hv.2 hb⟩
  obtain ⟨todo,sl,H,ni,nb,nv,nj,fs⟩:=g
  unfold run at hvc
  simp only at hvc
  split at hvc
  case isTrue=>exact hvc.elim
  rename_i hnoD
  have nod:∀ (k:List PI),(∀ x∈k,x.isD=false)->∀ p d ks k',k≠.dreg p d ks::k':=by
   intro k hk p d ks k' he
   have:=hk (.dreg p d ks) (by rw [he]; simp)
   simp [PI.isD] at this
  have hk:∀ x∈todo.drop 1,x.isD=false:=by
   intro x hx
   cases hd:x.isD with
   | false=>rfl
   | true=>exact absurd (QC.2 ⟨x,hx,hd⟩) hnoD
  split at hvc
  ·
   split at hvc
   ·exact hT _ _ _ hvc β a w h
   ·rename_i hl
    rcases hend with h0 | ⟨f',fnc,Ds,m0,rfl,hE,hds,hm,hK,rfl,hf,hres⟩
    ·exact absurd h0 hl
    ·exact b7S hP hE hds hm hK hf hres h hvc (.inl rfl)
  ·exact hT _ _ _ hvc β a w h
  ·rename_i id k
   exact goto (fun cs=>.one stepR_inBlock) (ih _ _ _ hvc β a w (h.todo k)) (nod k hk)
  ·rename_i p k
   exact goto (fun cs=>.one (step_lone_go (by simp [stepG,stepG.exec,Frame.atR,a1R]))) (ih _ _ _ hvc β a w (h.todo k)) (nod k hk)
  ·rename_i p k
   exact goto (fun cs=>.one stepR_region_end) (ih _ _ _ hvc β a w (h.todo k)) (nod k hk)
  ·
   rename_i p k
   have hk':∀ x∈(PI.code p::.inLoop p::k),x.isD=false:=by
    intro x hx
    simp only [Qm] at hx
    rcases hx with rfl | rfl | hx
    ·rfl
    ·rfl
    ·exact hk x hx
   have hsub:∀ cs,Steps P (lone ((atF f).atR a (.inLoop (sub fn.body p)::k.map (a1R fn.body))) cs w) (lone ((atF f).atR a ((PI.code p::.inLoop p::k).map (a1R fn.body))) cs w):=fun cs=>.one stepR_inLoop
   split at hvc
   ·exact goto (g':={ todo:=.code p::.inLoop p::k,sl:=sl,H:=H,ni:=ni,nb:=nb,nv:=nv,nj:=nj,fs:=fs }) hsub (hT _ _ _ hvc β a w (h.todo _)) (nod _ hk')
   ·exact goto (g':={ todo:=.code p::.inLoop p::k,sl:=sl,H:=H,ni:=ni,nb:=nb,nv:=nv,nj:=nj,fs:=fs }) hsub (ih _ _ _ hvc β a w (h.todo _)) (nod _ hk')
  ·
   rename_i p k
   have hk1:∀ (x:PI),x.isD=false->∀ y∈(x::k),y.isD=false:=by
    intro x hx y hy
    rcases Qm.1 hy with rfl | hy
    ·exact hx
    ·exact hk y hy
   have hk2:∀ (x z:PI),x.isD=false->z.isD=false->∀ y∈(x::z::k),y.isD=false:=by
    intro x z hx hz y hy
    rcases Qm.1 hy with rfl | hy
    ·exact hx
    ·exact hk1 z hz y hy
   show a2W P f _ (.code (sub fn.body p)::k.map (a1R fn.body)) a w
   split at hvc
   ·rename_i hs; rw [hs]
    exact goto (fun cs=>.one stepR_skip) (ih _ _ _ hvc β a w (h.todo k)) (nod k hk)
   ·rename_i l hs; rw [hs]
    exact goto (fun cs=>.one stepR_label) (ih _ _ _ hvc β a w (h.todo k)) (nod k hk)
   ·rename_i x y hs
    have e1:sub fn.body (false::p)=x:=by simp [sub,hs,b0k]
    have e2:sub fn.body (true::p)=y:=by simp [sub,hs,b0k]
    rw [hs]
    have hst:∀ cs,Steps P (lone ((atF f).atR a (.code (.seq x y)::k.map (a1R fn.body))) cs w) (lone ((atF f).atR a ((PI.code (false::p)::.code (true::p)::k).map (a1R fn.body))) cs w):=by
     intro cs
     refine .one ?_
     simp only [Q4,a1R,e1,e2]
     exact stepR_seq
    split at hvc
    ·exact goto (g':={ todo:=.code (false::p)::.code (true::p)::k,sl:=sl,H:=H,ni:=ni,nb:=nb,nv:=nv,nj:=nj,fs:=fs }) hst (hT _ _ _ hvc β a w (h.todo _)) (nod _ (hk2 _ _ rfl rfl))
    ·exact goto (g':={ todo:=.code (false::p)::.code (true::p)::k,sl:=sl,H:=H,ni:=ni,nb:=nb,nv:=nv,nj:=nj,fs:=fs }) hst (ih _ _ _ hvc β a w (h.todo _)) (nod _ (hk2 _ _ rfl rfl))
   ·rename_i x y z hs
    have e1:sub fn.body (false::p)=y:=by simp [sub,hs,b0k]
    have e2:sub fn.body (true::p)=z:=by simp [sub,hs,b0k]
    rw [hs]
    have cond:∀ b:Bool,a.eval x=.bool b->∀ cs,Steps P (lone ((atF f).atR a (.code (.cond x y z)::k.map (a1R fn.body))) cs w) (lone ((atF f).atR a ((PI.code ((!b)::p)::k).map (a1R fn.body))) cs w):=by
     intro b hb cs
     refine .one ?_
     rw [stepR_cond hb]
     cases b<;>simp [a1R,e1,e2]
    split at hvc
    ·rename_i b hb
     exact goto (cond b (a0T hb h.tm)) (ih _ _ _ hvc β a w (h.todo _)) (nod _ (hk1 _ rfl))
    ·rename_i b _ hb
     have hev:=a0T hb h.tm
     rcases ite hvc with ⟨hb',hv⟩ | ⟨hb',hv⟩
     ·simp only [SV.den,hb'] at hev
      exact goto (cond true hev) (ih _ _ _ hv β a w (h.todo _)) (nod _ (hk1 _ rfl))
     ·simp only [SV.den,hb'] at hev
      exact goto (cond false hev) (ih _ _ _ hv β a w (h.todo _)) (nod _ (hk1 _ rfl))
    ·exact hvc.elim
   ·rename_i id x hs
    have e1:sub fn.body (false::p)=x:=by simp [sub,hs,b0k]
    rw [hs]
    refine goto (fun cs=>.one ?_) (ih _ _ _ hvc β a w (h.todo _)) (nod _ (hk2 _ _ rfl rfl))
    simp only [Q4,a1R,e1]
    exact stepR_block
   ·rename_i x hs
    have e1:sub fn.body (false::p)=x:=by simp [sub,hs,b0k]
    rw [hs]
    have hst:∀ cs,Steps P (lone ((atF f).atR a (.code (.loop x)::k.map (a1R fn.body))) cs w) (lone ((atF f).atR a ((PI.code (false::p)::.inLoop (false::p)::k).map (a1R fn.body))) cs w):=by
     intro cs
     simp only [Q4,a1R,e1]
     exact .one stepR_loop
    split at hvc
    ·exact goto (g':={ todo:=.code (false::p)::.inLoop (false::p)::k,sl:=sl,H:=H,ni:=ni,nb:=nb,nv:=nv,nj:=nj,fs:=fs }) hst (hT _ _ _ hvc β a w (h.todo _)) (nod _ (hk2 _ _ rfl rfl))
    ·exact goto (g':={ todo:=.code (false::p)::.inLoop (false::p)::k,sl:=sl,H:=H,ni:=ni,nb:=nb,nv:=nv,nj:=nj,fs:=fs }) hst (ih _ _ _ hvc β a w (h.todo _)) (nod _ (hk2 _ _ rfl rfl))
   ·rename_i x hs
    have e1:sub fn.body (false::p)=x:=by simp [sub,hs,b0k]
    rw [hs]
    refine goto (fun cs=>.one ?_) (ih _ _ _ hvc β a w (h.todo _)) (nod _ (hk2 _ _ rfl rfl))
    simp only [Q4,a1R,e1]
    exact step_lone_go (by simp [stepG,stepG.exec,Frame.atR])
   ·rename_i id hs
    rw [hs]
    split at hvc
    ·rename_i k' hk'
     have hmem:∀ (k k':List PI),a7a id k=some k'->∀ x∈k',x∈k:=by
      intro k
      induction k with
      | nil=>intro k' h; simp [a7a] at h
      | cons y k ihk =>
       intro k' h x hx
       cases y<;>simp only [a7a] at h
       case inBlock id' =>
        split at h
        ·simp only [Q0] at h; subst h; simp [hx]
        ·simp [ihk _ h x hx]
       all_goals first | (simp at h; done) | (simp [ihk _ h x hx])
     exact goto (fun cs=>.one (stepR_exit (b3a fn.body id _ _ hk'))) (ih _ _ _ hvc β a w (h.todo k')) (nod k' (fun x hx=>hk x (hmem _ _ hk' x hx)))
    ·split at hvc
     ·have:=hT _ _ _ hvc β a w h
      simp only [a3u,Q4,a1R,hs] at this
      exact this
     ·exact hvc.elim
   ·rename_i hs
    rw [hs]
    split at hvc
    ·have:=hT _ _ _ hvc β a w h
     simp only [a3u,Q4,a1R,hs] at this
     exact this
    ·rename_i hl
     rcases hend with h0 | ⟨f',fnc,Ds,m0,rfl,hE,hds,hm,hK,rfl,hf,hres⟩
     ·exact absurd h0 hl
     ·exact b7S hP hE hds hm hK hf hres h hvc (.inr ⟨_,rfl⟩)
   ·rename_i id ops draw hs
    have e1:a1j (sub fn.body p)=ops:=by simp [hs,a1j]
    rw [hs]
    split at hvc
    ·rename_i hd
     subst hd
     split at hvc
     ·have:=hT _ _ _ hvc β a w h
      simp only [a3u,Q4,a1R,hs] at this
      exact this
     split at hvc
     case isFalse=>exact hvc.elim
     rename_i hns
     refine c2H (S:=fun w'=>HOk ρ β (a5P (b1G ops sl H.length) H) w'/\Sub s w') hP.mixed (hnd.imp (fun h0=>h0) (fun h0=>by have:=h0 p; rw [e1] at this; exact this)) ?_
     have:=ih _ _ _ hvc β a _ ((h.drew).todo (.dreg p [] (b1G ops sl H.length)::k))
     simp only [a3u] at this
     rw [e1,c1V] at this
     exact this
    ·rename_i hd
     have hd:draw=false:=by simpa using hd
     subst hd
     refine a2W.step (fun cs=>.one stepR_region) ?_
     have:=ih _ _ _ hvc β a w (h.todo (.reg p (Qb ops.size)::k))
     simp only [a3u,Q4,a1R] at this
     rw [e1] at this
     exact this
   ·exact hT _ _ _ hvc β a w h
   ·exact hvc.elim
  ·
   rename_i p i is k
   show a2W P f R (.inRegion (a1j (sub fn.body p)) (i::is)::k.map (a1R fn.body)) a w
   split at hvc
   ·exact hvc.elim
   rename_i o ho
   have hnd':f.2=none\/a5L o=false:=hnd.imp (fun h0=>h0) (fun h0=>h0 p i o ho)
   split at hvc
   ·rename_i hg
    split at hvc
    ·exact hT _ _ _ hvc β a w h
    split at hvc
    ·rename_i d kd e m hsp
     obtain ⟨j,hj,hv⟩:=b5n m hvc
     exact ih _ _ _ hv β a w (h.mapsl hj)
    ·refine c0K ho hnd' ?_
     rw [if_pos (a3n hg h.tm)]
     refine b4A hP (h.todo (.reg p is::k)) hvc ?_
     intro ρ' s' β' g' a' w' hv hr _ htd _
     have:=ih _ _ _ hv β' a' w' hr
     unfold a3u at this
     rw [htd] at this
     exact this
   ·rename_i hg
    have:=a3n hg h.tm
    refine c0K ho hnd' ?_
    rw [if_neg (by rw [this]; simp)]
    have h2:=(h.todo (.reg p is::k)).put o.dst .undef
    exact ih _ _ _ hvc β _ w h2
   ·rename_i d b hg
    have hd:=b9s hg
    rcases ite hvc with ⟨hb',hv⟩ | ⟨hb',hv⟩
    ·exact ih _ _ _ hv β a w (h.setsl hd (by simp [SV.den,BE.den,hb']))
    ·exact ih _ _ _ hv β a w (h.setsl hd (by simp [SV.den,BE.den,hb']))
   ·exact hvc.elim
  ·
   rename_i p done ks k
   have hSw:HOk ρ β (a5P ks H) w/\Sub s w:=⟨b9r h.hok ks,h.sb⟩
   show wpAnyH P .any (a1j (sub fn.body p)) (QG P f R fn.body k) (fun w'=>HOk ρ β (a5P ks H) w'/\Sub s w') ((a1j (sub fn.body p)).size-done.length) (a1O (a1j (sub fn.body p)).size done) a w
   have dset:∀ {d:Nat} {b:BE},sl[d]?=some (.bool b)->VC P Q T (.ite b (run c fn n { todo:=.dreg p done ks::k,sl:=sl.set d (.bool (.t true)),H:=H,ni:=ni,nb:=nb,nv:=nv,nj:=nj,fs:=fs })
     (run c fn n { todo:=.dreg p done ks::k,sl:=sl.set d (.bool (.t false)),H:=H,ni:=ni,nb:=nb,nv:=nv,nj:=nj,fs:=fs })) ρ s ->
     wpAnyH P .any (a1j (sub fn.body p)) (QG P f R fn.body k) (fun w'=>HOk ρ β (a5P ks H) w'/\Sub s w') ((a1j (sub fn.body p)).size-done.length) (a1O (a1j (sub fn.body p)).size done) a w:=by
    intro d b hd hv
    rcases ite hv with ⟨hb',hv⟩ | ⟨hb',hv⟩
    ·exact ih _ _ _ hv β a w (h.setsl hd (by simp [SV.den,BE.den,hb']))
    ·exact ih _ _ _ hv β a w (h.setsl hd (by simp [SV.den,BE.den,hb']))
   split at hvc
   ·rename_i hr
    exact wpAnyH_done (by rw [<- a6y]; exact hr) ⟨rfl,c0o (ih _ _ _ hvc β a w (h.todo k)) (nod k hk)⟩ _
   rename_i rs hne
   split at hvc
   case isTrue=>exact hvc.elim
   rename_i hchk
   simp only [QA,Bool.not_eq_false,Q1,decide_eq_true_eq,Qp] at hchk
   obtain ⟨⟨hlt,hks⟩,hns⟩:=hchk
   have hns:=b8N hns
   have hfuel:(a1j (sub fn.body p)).size-done.length=((a1j (sub fn.body p)).size-(done.length+1))+1:=by omega
   rw [hfuel]
   have hlen:∀ i,(done++[i]).length=done.length+1:=by simp
   split at hvc
   ·
    rename_i i hfind
    split at hvc
    ·exact hvc.elim
    rename_i o ho
    have hfl:=Qr hfind
    have hmem:=Qs hfind
    unfold c3x at hfl
    simp only [ho,Q1] at hfl
    obtain ⟨hfree,hfl⟩:=hfl
    have hfree:=b2B hfree
    have hready:(Region.ready .any (a1j (sub fn.body p)) (a1O (a1j (sub fn.body p)).size done)).contains i=true:=by rw [<- a6y]; simpa using hmem
    split at hvc
    ·rename_i hg
     split at hvc
     ·rename_i ns v hpv
      obtain ⟨hn,hvc⟩:=b1J P Q T _ _ _ _ hvc
      refine wpAnyH_take ho hns hfree hready (by intro c a w hq; exact absurd hq.1 (by simp)) (v:=v.den ρ β) (.inl ⟨a3n hg h.tm,fun w' hw'=>b9i hP h.ok hpv hn h.tm hw'.1⟩) hSw ?_
      have:=ih _ _ _ hvc β _ w ((h.todo (.dreg p (done++[i]) ks::k)).put o.dst v)
      simp only [a3u] at this
      rw [hlen,a4h] at this
      exact this
     ·exact hvc.elim
    ·rename_i hg
     have hoff:a2D (a1j (sub fn.body p)) sl o=.known false:=by
      cases hgo:a2D (a1j (sub fn.body p)) sl o with
      | known b =>
       cases b with
       | true=>exact absurd hgo hg
       | false=>rfl
      | on d b=>rw [hgo] at hfl; simp at hfl
      | bad=>rw [hgo] at hfl; simp at hfl
     refine wpAnyH_take ho hns hfree hready (by intro c a w hq; exact absurd hq.1 (by simp)) (v:=undef) (.inr ⟨a3n hoff h.tm,rfl⟩) hSw ?_
     have:=ih _ _ _ hvc β _ w ((h.todo (.dreg p (done++[i]) ks::k)).put o.dst .undef)
     simp only [a3u] at this
     rw [hlen,a4h] at this
     exact this
   ·split at hvc
    ·
     rename_i i hfind
     replace hfind:=c5V hfind
     split at hvc
     ·exact hvc.elim
     rename_i o ho
     have hfl:=Qr hfind
     have hmem:=Qs hfind
     unfold c0R at hfl
     simp only [ho,Q1] at hfl
     obtain ⟨hfree,hfl⟩:=hfl
     have hfree:=b2B hfree
     have hready:(Region.ready .any (a1j (sub fn.body p)) (a1O (a1j (sub fn.body p)).size done)).contains i=true:=by rw [<- a6y]; simpa using hmem
     split at hfl
     case h_2=>simp at hfl
     rename_i t x hg hop
     rw [hop] at hvc
     simp only at hvc
     split at hvc
     case h_2=>exact hvc.elim
     rename_i xs hxs
     obtain ⟨v,ρ',g',hrun,hvc',hr',hst,htd⟩:=b1R hP (h.todo (.dreg p (done++[i]) ks::k)) hop hxs hvc
     have hstab:=(hst (fun _=>False)).2 ks (fun q hq=>⟨hks q hq,fun h0=>h0⟩)
     refine wpAnyH_take ho hns hfree hready (by intro c a w hq; exact absurd hq.1 (by simp)) (v:=v) (.inl ⟨a3n hg h.tm,fun w' hw'=>hrun w' hw'.2 (.inl rfl)⟩) hSw ?_
     have:=ih _ _ _ hvc' β _ w hr'
     unfold a3u at this
     rw [htd] at this
     simp only at this
     rw [hlen,a4h] at this
     exact a5X (fun w' hw'=>⟨(hstab w').1 hw'.1,hw'.2⟩) _ _ _ _ this
    split at hvc
    ·
     rename_i i hfind
     split at hvc
     ·exact hvc.elim
     rename_i o ho
     have hfl:=Qr hfind
     have hmem:=Qs hfind
     unfold c0P at hfl
     simp only [ho,Q1] at hfl
     obtain ⟨hfree,hfl⟩:=hfl
     have hfree:=b2B hfree
     have hready:(Region.ready .any (a1j (sub fn.body p)) (a1O (a1j (sub fn.body p)).size done)).contains i=true:=by rw [<- a6y]; simpa using hmem
     have hg:a2D (a1j (sub fn.body p)) sl o=.known true:=by
      cases hgo:a2D (a1j (sub fn.body p)) sl o with
      | known b =>
       cases b with
       | true=>rfl
       | false=>rw [hgo] at hfl; simp at hfl
      | on d b=>rw [hgo] at hfl; simp at hfl
      | bad=>rw [hgo] at hfl; simp at hfl
     have fin:∀ {v:Value} {ρ':Env} {g':Cfg},(∀ w',(execOp a.eval o).run P w'=.ok (.value v) w')->VC P Q T (run c fn n g') ρ' s->Rel w0 s0 X ρ' s β g' (a.put o.dst v) w ->
       (∀ bad,a9h ρ β { todo:=.dreg p (done++[i]) ks::k,sl:=sl,H:=H,ni:=ni,nb:=nb,nv:=nv,nj:=nj,fs:=fs } ρ' β g' bad)->g'.todo=.dreg p (done++[i]) ks::k ->
       wpAnyH P .any (a1j (sub fn.body p)) (QG P f R fn.body k) (fun w'=>HOk ρ β (a5P ks H) w'/\Sub s w') ((a1j (sub fn.body p)).size-(done.length+1)+1) (a1O (a1j (sub fn.body p)).size done) a w:=by
      intro v ρ' g' hrun hvc' hr' hst htd
      have hstab:=(hst (fun _=>False)).2 ks (fun q hq=>⟨hks q hq,fun h0=>h0⟩)
      refine wpAnyH_take ho hns hfree hready (by intro c a w hq; exact absurd hq.1 (by simp)) (v:=v) (.inl ⟨a3n hg h.tm,fun w' hw'=>hrun w'⟩) hSw ?_
      have:=ih _ _ _ hvc' β _ w hr'
      unfold a3u at this
      rw [htd] at this
      simp only at this
      rw [hlen,a4h] at this
      exact a5X (fun w' hw'=>⟨(hstab w').1 hw'.1,hw'.2⟩) _ _ _ _ this
     split at hvc
     ·rename_i hop
      split at hvc
      case h_2=>exact hvc.elim
      rename_i xs hxs
      obtain ⟨v,ρ',g',hrun,hvc',hr',hst,htd⟩:=b7R hP (h.todo (.dreg p (done++[i]) ks::k)) hop hxs hvc
      exact fin hrun hvc' hr' hst htd
     ·rename_i hop
      obtain ⟨v,ρ',g',hrun,hvc',hr',hst,htd⟩:=b7J hP (h.todo (.dreg p (done++[i]) ks::k)) hop hvc
      exact fin hrun hvc' hr' hst htd
     ·exact hvc.elim
    split at hvc
    ·
     rename_i i hfind
     split at hvc
     ·exact hvc.elim
     rename_i o ho
     have hfl:=Qr hfind
     have hmem:=Qs hfind
     unfold c0G at hfl
     simp only [ho,Q1] at hfl
     obtain ⟨⟨hfl,hfree⟩,hbeh⟩:=hfl
     have hfree:=b2B hfree
     have hready:(Region.ready .any (a1j (sub fn.body p)) (a1O (a1j (sub fn.body p)).size done)).contains i=true:=by rw [<- a6y]; simpa using hmem
     obtain ⟨b1,b2,b3,b4⟩:=b8j hbeh
     split at hfl
     case h_2=>simp at hfl
     rename_i t x hg hop
     split at hvc
     ·rename_i ns v hpv
      obtain ⟨hn,hvc⟩:=b1J P Q T _ _ _ _ hvc
      refine b2H ho (Region.noSelect_spec hns) (by intro c a w hq; exact absurd hq.1 (by simp)) b1 b3 _ _ _ (Region.free_spec ho hfree) b2 b4 (by simpa using hready) (v:=v.den ρ β) (.inl ⟨a3n hg h.tm,fun w' hw'=>by subst hw'; exact b9i hP h.ok hpv hn h.tm h.hok⟩) hSw ?_
      have:=ih _ _ _ hvc β _ w ((h.todo (.dreg p (done++[i]) ks::k)).put o.dst v)
      simp only [a3u] at this
      rw [hlen,a4h] at this
      exact this
     ·rw [hop] at hvc
      simp only at hvc
      split at hvc
      case h_2=>exact hvc.elim
      rename_i xs hxs
      obtain ⟨v,ρ',g',hrun,hvc',hr',hst,htd⟩:=b1R hP (h.todo (.dreg p (done++[i]) ks::k)) hop hxs hvc
      have hstab:=(hst (fun _=>False)).2 ks (fun q hq=>⟨hks q hq,fun h0=>h0⟩)
      refine b2H ho (Region.noSelect_spec hns) (by intro c a w hq; exact absurd hq.1 (by simp)) b1 b3 _ _ _ (Region.free_spec ho hfree) b2 b4 (by simpa using hready) (v:=v) (.inl ⟨a3n hg h.tm,fun w' hw'=>by subst hw'; exact hrun _ h.sb (.inr rfl)⟩) hSw ?_
      have:=ih _ _ _ hvc' β _ w hr'
      unfold a3u at this
      rw [htd] at this
      simp only at this
      rw [hlen,a4h] at this
      exact a5X (fun w' hw'=>⟨(hstab w').1 hw'.1,hw'.2⟩) _ _ _ _ this
    split at hvc
    ·rename_i d kd e m hfs
     rw [<- hfuel]
     obtain ⟨i,hi,hh⟩:=Xc hfs
     unfold b9c at hh
     split at hh
     ·simp at hh
     ·split at hh
      ·obtain ⟨j,hj,hv⟩:=b5n m hvc
       exact ih _ _ _ hv β a w (h.mapsl hj)
      ·simp at hh
    split at hvc
    ·rename_i d b hfs
     rw [<- hfuel]
     obtain ⟨i,hi,hh⟩:=Xc hfs
     unfold c5q at hh
     split at hh
     ·simp at hh
     ·split at hh
      ·rename_i hg
       simp only [Q0,Qf] at hh
       obtain ⟨rfl,rfl⟩:=hh
       exact dset (b9s hg) hvc
      ·simp at hh
    ·obtain ⟨hne2,hall⟩:=b6P _ _ _ _ _ _ hvc
     refine wpAnyH_all (a6y _ _).symm (by intro h0; rw [h0] at hne2; simp at hne2) ?_
     intro i hi
     have hvc:=hall _ (Qn.2 ⟨i,hi,rfl⟩)
     split at hvc
     ·exact hvc.elim
     rename_i o ho
     split at hvc
     ·rename_i hg
      split at hvc
      case isTrue=>exact hvc.elim
      rename_i hbad
      unfold wpOp
      simp only [ho]
      rw [if_pos (a3n hg h.tm)]
      refine .inl (b4A hP (h.todo (.dreg p (done++[i]) ks::k)) hvc ?_)
      intro ρ' s' β' g' a' w' hv hr hst htd hle
      have hstab:=hst.2 ks (fun q hq=>⟨hks q hq,fun ⟨off,new,hso⟩=>by
       apply hbad
       unfold b9G
       have hso:a8A c sl H o.op=some (q,off,new):=hso
       simp only [hso]
       simpa using hq⟩)
      refine ⟨⟨(hstab w').1 (b9r hr.hok ks),fun b o u hb=>hr.sb b o u (hle b o u hb)⟩,?_⟩
      have:=ih _ _ _ hv β' a' w' hr
      unfold a3u at this
      rw [htd] at this
      simp only at this
      rw [hlen,a4h] at this
      exact a5X (fun w'' hw''=>⟨(hstab w'').1 hw''.1,fun b o u hb=>hw''.2 b o u (hle b o u hb)⟩) _ _ _ _ this
     ·exact hvc.elim
theorem b7y {f:FuncId} (hP:ProgOk P c) (hf:P.funcs[f]?=some fnc) (hres:fn.res=fnc.results.toList) {m0:MS} (hT:∀ g ρ s,T g ρ s->Reach P f (Ret Q s0 m0 w0) fn.body w0 s0 m0 g ρ s) :
  ∀ (n:Nat) (g:Cfg) (ρ:Env) (s:Hp),VC P Q T (run c fn n g) ρ s->Reach P f (Ret Q s0 m0 w0) fn.body w0 s0 m0 g ρ s :=
 c1h hP (b8B.marks m0 [] (.nil _) hf hres) (.inl rfl) hT
end
end Go.Sx
namespace Go.Sx
open Go.RowKit
def b3r (f:Func):FnC:=⟨f.body.getD .skip,f.results.toList⟩
def a4F (ntmps:Nat) (args:List SV) (ni nb nv:Nat):Cfg:={ todo:=[.code []],sl:=args++Q2 (ntmps-args.length) .undef,H:=[],ni,nb,nv,nj:=0 }
theorem c0b (ρ:Env) (β:Nat->Nat) (l m:List SV):SV.dens ρ β (l++m)=SV.dens ρ β l++SV.dens ρ β m:=by simp [SV.dens_map]
theorem b7l (ρ:Env) (β:Nat->Nat) (n:Nat):SV.dens ρ β (Q2 n .undef)=Q2 n undef:=by simp [SV.dens_map,SV.den]
section
variable {P:Program} {c:Ctx} {f:FuncId} {fnc:Func} {fn:FnC} {Q:Value->Hp->MS->Prop}
theorem c6M (hP:ProgOk P c) (hf:P.funcs[f]?=some fnc) (hb:fnc.body=some fn.body) (hres:fn.res=fnc.results.toList) (n:Nat) {args:List SV} {ρ:Env} {s0:Hp} (hρ:ρ.Ok) (hj:ρ.j=[]) (hk:ρ.k=ρ.m.length)
  (h:∀ w0,VC P Q (Reach P f (Ret Q s0 ρ.m w0) fn.body w0 s0 ρ.m) (run c fn n (a4F fnc.ntmps args ρ.i.length ρ.b.length ρ.v.length)) ρ s0):Ct P f (SV.dens ρ id args) s0 ρ.m Q:=by
 intro w hsub hmok
 refine b8r hf hb ?_
 have hr:Rel w s0 (Xm (a0S ρ.m) []) ρ s0 id (a4F fnc.ntmps args ρ.i.length ρ.b.length ρ.v.length) { tmps:=(SV.dens ρ id args).toArray++Qu (fnc.ntmps-(SV.dens ρ id args).toArray.size) undef,defers:=[] } w:=by
  refine ⟨?_,rfl,Nat.zero_le _,fun x hx=>?_,⟨?_,?_,by omega,hmok.nd,fun x hx=>by simp [Xm] at hx,fun i x hi hx=>by rw [Qz (by omega)] at hx; cases hx⟩,rfl,rfl,rfl,rfl,by simp [hj,a4F],hρ,Grows.refl _ _,hsub,fun b o u h1 h2=>by rw [h1] at h2; simp at h2,Hp.le_refl _,fun k b hk=>by simp [a4F] at hk,fun j k bj bk _ hj=>by simp [a4F] at hj⟩
  ·simp only [a4F,c0b,b7l,List.size_toArray,a0R]
   apply Qq
   simp
  ·rcases hx with hx | hx
   ·simp [Xm] at hx
   ·exact ⟨hmok.is x hx,fun k b hk=>by simp [a4F] at hk,hmok.un x hx⟩
  ·show (a0S ρ.m).length=_
   simp [a0S,hk]
  ·intro i x _ hx
   left
   show (a0S ρ.m)[i]?=_
   simp [a0S,hx]
 have:=b7y (w0:=w) (s0:=s0) hP hf hres (fun _ _ _ h=>h) n _ _ _ (h w) id _ w hr
 exact this
structure Asg where
 is:List IE
 bs:List BE
 vs:List SV
 js:List SV
 deriving Inhabited
structure Base where
 ni:Nat
 nb:Nat
 nv:Nat
 nj:Nat
 deriving Inhabited
def Cfg.base (g:Cfg):Base:=⟨g.ni,g.nb,g.nv,g.nj⟩
section
variable (m:Base) (A:Asg)
def a5f (n:Nat):Option SV:=if n < m.nv then some (.va n) else A.vs[n-m.nv]?
def IE.sbt:IE->Option IE
 | .a n=>if n < m.ni then some (.a n) else A.is[n-m.ni]?
 | .l z=>some (.l z)
 | .add x y=>match x.sbt,y.sbt with | some x,some y=>some (.add x y) | _,_=>none
 | .sub x y=>match x.sbt,y.sbt with | some x,some y=>some (.sub x y) | _,_=>none
 | .mul x y=>match x.sbt,y.sbt with | some x,some y=>some (.mul x y) | _,_=>none
 | .tdiv x y=>match x.sbt,y.sbt with | some x,some y=>some (.tdiv x y) | _,_=>none
 | .tmod x y=>match x.sbt,y.sbt with | some x,some y=>some (.tmod x y) | _,_=>none
 | .mn x y=>match x.sbt,y.sbt with | some x,some y=>some (.mn x y) | _,_=>none
 | .mx x y=>match x.sbt,y.sbt with | some x,some y=>some (.mx x y) | _,_=>none
 | .ifeq p q x y=>match p.sbt,q.sbt,x.sbt,y.sbt with | some p,some q,some x,some y=>some (.ifeq p q x y) | _,_,_,_=>none
 | .wr k x=>x.sbt.map (.wr k)
 | .slen n=>if n < m.nv then some (.slen n) else match A.vs[n-m.nv]? with
  | some (.va k)=>some (.slen k)
  | _=>none
 | .stl n=>match a5f m A n with
  | some (.va k)=>some (.stl k)
  | _=>none
 | .sat n i=>match a5f m A n,i.sbt with
  | some (.va k),some i=>some (.sat k i)
  | _,_=>none
def BE.sbt:BE->Option BE
 | .t b=>some (.t b)
 | .a n=>if n < m.nb then some (.a n) else A.bs[n-m.nb]?
 | .lt x y=>match x.sbt m A,y.sbt m A with | some x,some y=>some (.lt x y) | _,_=>none
 | .le x y=>match x.sbt m A,y.sbt m A with | some x,some y=>some (.le x y) | _,_=>none
 | .eq x y=>match x.sbt m A,y.sbt m A with | some x,some y=>some (.eq x y) | _,_=>none
 | .not x=>x.sbt.map .not
 | .and x y=>match x.sbt,y.sbt with | some x,some y=>some (.and x y) | _,_=>none
 | .or x y=>match x.sbt,y.sbt with | some x,some y=>some (.or x y) | _,_=>none
 | .nil n=>if n < m.nv then some (.nil n) else match A.vs[n-m.nv]? with
  | some (.va k)=>some (.nil k)
  | _=>none
 | .is q n=>if n < m.nv then some (.is q n) else match A.vs[n-m.nv]? with
  | some (.va k)=>some (.is q k)
  | _=>none
 | .seq n n'=>match a5f m A n,a5f m A n' with
  | some (.va k),some (.va k')=>some (.seq k k')
  | _,_=>none
 | .sis n l=>match a5f m A n with
  | some (.va k)=>some (.sis k l)
  | _=>none
mutual
def SV.sbt:SV->Option SV
 | .int k e=>(e.sbt m A).map (.int k)
 | .bool b=>(b.sbt m A).map .bool
 | .va n=>a5f m A n
 | .junk n=>if n < m.nj then some (.junk n) else A.js[n-m.nj]?
 | .ea n i size off=>match a5f m A n,i.sbt m A with | some (.va k),some i=>some (.ea k i size off) | _,_=>none
 | .pa n off=>match a5f m A n with | some (.va k)=>some (.pa k off) | _=>none
 | .agg cs=>(SV.sbts cs).map .agg
 | .tup cs=>(SV.sbts cs).map .tup
 | .fn f n cs=>(SV.sbts cs).map (.fn f n)
 | .fs n=>match a5f m A n with | some (.va k)=>some (.fs k) | _=>none
 | .str s=>some (.str s)
 | .undef=>some .undef
 | .nilS=>some .nilS
 | .nilF=>some .nilF
 | .nilP=>some .nilP
 | .nilI=>some .nilI
 | .nilM=>some .nilM
 | .ptr k o=>some (.ptr k o)
 | .sl k n=>some (.sl k n)
 | .slc k n q=>some (.slc k n q)
def SV.sbts:List SV->Option (List SV)
 | []=>some []
 | x::l=>match x.sbt,SV.sbts l with | some x,some l=>some (x::l) | _,_=>none
end
def a8x:Option (List SV)->List SV->Bool
 | some l,l'=>SV.beqs l l'
 | none,_=>false
def b1j:Blk->Option Blk->Bool
 | .cells cs T sh,some (.cells cs' T' sh')=>a8x (SV.sbts m A cs) cs'&&T == T'&&sh == sh'
 | .row n T size,b=>0 < size&&match a5f m A n with
  | some .nilS=>true
  | some (.va n')=>match b with
   | some (.row n2 T' size')=>n2 == n'&&T == T'&&size == size'
   | _=>false
  | _=>false
 | _,_=>false
def b3S:List Blk->List Blk->Bool
 | [],_=>true
 | b::l,[]=>b1j m A b none&&b3S l []
 | b::l,b'::l'=>b1j m A b (some b')&&b3S l l'
def b1r:List (List SV)->List (List SV)->Bool
 | [],[]=>true
 | x::l,y::l'=>a8x (SV.sbts m A x) y&&b1r l l'
 | _,_=>false
def fits (t g:Cfg):Bool :=
 decide (t.todo=g.todo)&&b1r m A t.fs g.fs&&a8x (SV.sbts m A t.sl) g.sl&&b3S m A t.H g.H &&
 t.ni == m.ni+A.is.length&&t.nb == m.nb+A.bs.length&&t.nv == m.nv+A.vs.length&&t.nj == m.nj+A.js.length &&
 m.ni<=g.ni&&m.nb<=g.nb&&m.nv<=g.nv&&m.nj<=g.nj &&
 A.vs.all SV.flat&&SV.oks g.ni g.nb g.nv g.nj (fun _=>false) A.vs
end
def Env.asg (ρ:Env) (β:Nat->Nat) (m:Base) (A:Asg):Env :=
 { ρ with i:=ρ.i.take m.ni++A.is.map (IE.den ρ),b:=ρ.b.take m.nb++A.bs.map (BE.den ρ),v:=ρ.v.take m.nv++SV.dens ρ β A.vs,j:=ρ.j.take m.nj++SV.dens ρ β A.js }
theorem a6q {α:Type} (l x:List α) (m n:Nat) (d:α) (hm:m<=l.length) (h:n < m):(l.take m++x).getD n d=l.getD n d:=by
 simp only [List.getD]
 rw [Q9 (by simp; omega),QU,if_pos h]
theorem b2b {α:Type} (l x:List α) (m n:Nat) (d:α) (hm:m<=l.length) (h:¬ n < m):(l.take m++x).getD n d=x.getD (n-m) d:=by
 simp only [List.getD]
 rw [List.getElem?_append_right (by simp; omega)]
 simp [Qg hm]
structure Lens (m:Base) (ρ:Env):Prop where
 i:m.ni<=ρ.i.length
 b:m.nb<=ρ.b.length
 v:m.nv<=ρ.v.length
 j:m.nj<=ρ.j.length
section
variable {m:Base} {A:Asg} {ρ:Env} {β:Nat->Nat}
theorem a2d (hL:Lens m ρ) {n:Nat} {v:SV} (h:a5f m A n=some v):(ρ.asg β m A).v.getD n vd=v.den ρ β:=by
 unfold a5f at h
 simp only [Env.asg]
 split at h
 ·rename_i hn
  simp only [Q0] at h; subst h
  rw [a6q _ _ _ _ _ hL.v hn]; rfl
 ·rename_i hn
  rw [b2b _ _ _ _ _ hL.v hn]
  simp [SV.dens_map,h]
theorem IE.sbt_den (hL:Lens m ρ):∀ (e e':IE),e.sbt m A=some e'->e.den (ρ.asg β m A)=e'.den ρ:=by
 intro e
 induction e with
 | a n =>
  intro e' h
  simp only [IE.sbt] at h
  simp only [IE.den,Env.asg]
  split at h
  ·rename_i hn
   simp only [Q0] at h; subst h
   rw [a6q _ _ _ _ _ hL.i hn]; rfl
  ·rename_i hn
   rw [b2b _ _ _ _ _ hL.i hn]
   simp [h]
 | l z=>intro e' h; simp only [IE.sbt,Q0] at h; subst h; rfl
 | slen n =>
  intro e' h
  simp only [IE.sbt] at h
  simp only [IE.den]
  split at h
  ·rename_i hn
   simp only [Q0] at h; subst h
   rw [a2d (β:=β) hL (v:=.va n) (by simp [a5f,hn])]; rfl
  ·rename_i hn
   split at h
   ·rename_i k hk
    simp only [Q0] at h; subst h
    rw [a2d (β:=β) hL (v:=.va k) (by simp [a5f,hn,hk])]; rfl
   ·simp at h
 | stl n =>
  intro e' h
  simp only [IE.sbt] at h
  simp only [IE.den]
  split at h
  ·rename_i k hk
   simp only [Q0] at h; subst h
   rw [a2d (β:=β) hL hk]; rfl
  ·simp at h
 | sat n i ih =>
  intro e' h
  simp only [IE.sbt] at h
  simp only [IE.den]
  split at h
  ·rename_i k i' hk hi
   simp only [Q0] at h; subst h
   rw [a2d (β:=β) hL hk,ih _ hi]; rfl
  ·simp at h
 | wr k x ih =>
  intro e' h
  simp only [IE.sbt,Q3] at h
  obtain ⟨x',h1,rfl⟩:=h
  simp only [IE.den,ih _ h1]
 | ifeq p q x y i1 i2 i3 i4 =>
  intro e' h
  simp only [IE.sbt] at h
  split at h
  ·rename_i p' q' x' y' h1 h2 h3 h4
   simp only [Q0] at h; subst h
   simp only [IE.den,i1 _ h1,i2 _ h2,i3 _ h3,i4 _ h4]
  ·simp at h
 | _ x y i1 i2 =>
  intro e' h
  simp only [IE.sbt] at h
  split at h
  ·rename_i x' y' h1 h2
   simp only [Q0] at h; subst h
   simp only [IE.den,i1 _ h1,i2 _ h2]
  ·simp at h
theorem BE.sbt_den (hL:Lens m ρ):∀ (e e':BE),e.sbt m A=some e'->e.den (ρ.asg β m A)=e'.den ρ:=by
 intro e
 induction e with
 | t b=>intro e' h; simp only [BE.sbt,Q0] at h; subst h; rfl
 | a n =>
  intro e' h
  simp only [BE.sbt] at h
  simp only [BE.den,Env.asg]
  split at h
  ·rename_i hn
   simp only [Q0] at h; subst h
   rw [a6q _ _ _ _ _ hL.b hn]; rfl
  ·rename_i hn
   rw [b2b _ _ _ _ _ hL.b hn]
   simp [h]
 | nil n =>
  intro e' h
  simp only [BE.sbt] at h
  simp only [BE.den]
  split at h
  ·rename_i hn
   simp only [Q0] at h; subst h
   rw [a2d (β:=β) hL (v:=.va n) (by simp [a5f,hn])]; rfl
  ·rename_i hn
   split at h
   ·rename_i k hk
    simp only [Q0] at h; subst h
    rw [a2d (β:=β) hL (v:=.va k) (by simp [a5f,hn,hk])]; rfl
   ·simp at h
 | is q n =>
  intro e' h
  simp only [BE.sbt] at h
  simp only [BE.den]
  split at h
  ·rename_i hn
   simp only [Q0] at h; subst h
   rw [a2d (β:=β) hL (v:=.va n) (by simp [a5f,hn])]; rfl
  ·rename_i hn
   split at h
   ·rename_i k hk
    simp only [Q0] at h; subst h
    rw [a2d (β:=β) hL (v:=.va k) (by simp [a5f,hn,hk])]; rfl
   ·simp at h
 | seq n n' =>
  intro e' h
  simp only [BE.sbt] at h
  simp only [BE.den]
  split at h
  ·rename_i k k' hk hk'
   simp only [Q0] at h; subst h
   rw [a2d (β:=β) hL hk,a2d (β:=β) hL hk']; rfl
  ·simp at h
 | sis n l =>
  intro e' h
  simp only [BE.sbt] at h
  simp only [BE.den]
  split at h
  ·rename_i k hk
   simp only [Q0] at h; subst h
   rw [a2d (β:=β) hL hk]; rfl
  ·simp at h
 | not x ih =>
  intro e' h
  simp only [BE.sbt,Q3] at h
  obtain ⟨x',h1,rfl⟩:=h
  simp only [BE.den,ih _ h1]
 | and x y i1 i2 =>
  intro e' h
  simp only [BE.sbt] at h
  split at h
  ·rename_i x' y' h1 h2
   simp only [Q0] at h; subst h
   simp only [BE.den,i1 _ h1,i2 _ h2]
  ·simp at h
 | or x y i1 i2 =>
  intro e' h
  simp only [BE.sbt] at h
  split at h
  ·rename_i x' y' h1 h2
   simp only [Q0] at h; subst h
   simp only [BE.den,i1 _ h1,i2 _ h2]
  ·simp at h
 | _ x y =>
  intro e' h
  simp only [BE.sbt] at h
  split at h
  ·rename_i x' y' h1 h2
   simp only [Q0] at h; subst h
   simp only [BE.den,IE.sbt_den (β:=β) hL _ _ h1,IE.sbt_den (β:=β) hL _ _ h2]
  ·simp at h
mutual
theorem SV.sbt_den (hL:Lens m ρ):∀ (v v':SV),v.sbt m A=some v'->v.den (ρ.asg β m A) β=v'.den ρ β
 | .int k e,v',h=>by
  simp only [SV.sbt,Q3] at h
  obtain ⟨x',h1,rfl⟩:=h
  simp only [SV.den,IE.sbt_den (β:=β) hL _ _ h1]
 | .bool b,v',h=>by
  simp only [SV.sbt,Q3] at h
  obtain ⟨x',h1,rfl⟩:=h
  simp only [SV.den,BE.sbt_den (β:=β) hL _ _ h1]
 | .va n,v',h=>by simp only [SV.sbt] at h; simp only [SV.den]; exact a2d hL h
 | .junk n,v',h=>by
  simp only [SV.sbt] at h
  simp only [SV.den,Env.asg]
  split at h
  ·rename_i hn
   simp only [Q0] at h; subst h
   rw [a6q _ _ _ _ _ hL.j hn]; rfl
  ·rename_i hn
   rw [b2b _ _ _ _ _ hL.j hn]
   simp [SV.dens_map,h]
 | .ea n i size off,v',h=>by
  simp only [SV.sbt] at h
  split at h
  ·rename_i k i' h1 h2
   simp only [Q0] at h; subst h
   simp only [SV.den,IE.sbt_den (β:=β) hL _ _ h2]
   rw [a2d (β:=β) hL h1]; rfl
  ·simp at h
 | .pa n off,v',h=>by
  simp only [SV.sbt] at h
  split at h
  ·rename_i k h1
   simp only [Q0] at h; subst h
   simp only [SV.den]
   rw [a2d (β:=β) hL h1]; rfl
  ·simp at h
 | .agg cs,v',h=>by
  simp only [SV.sbt,Q3] at h
  obtain ⟨x',h1,rfl⟩:=h
  simp only [SV.den,SV.sbts_den hL _ _ h1]
 | .tup cs,v',h=>by
  simp only [SV.sbt,Q3] at h
  obtain ⟨x',h1,rfl⟩:=h
  simp only [SV.den,SV.sbts_den hL _ _ h1]
 | .fs n,v',h=>by
  simp only [SV.sbt] at h
  split at h
  ·rename_i k h1
   simp only [Q0] at h; subst h
   simp only [SV.den]
   rw [a2d (β:=β) hL h1]; rfl
  ·simp at h
 | .fn f n cs,v',h=>by
  simp only [SV.sbt,Q3] at h
  obtain ⟨x',h1,rfl⟩:=h
  simp only [SV.den,SV.sbts_den hL _ _ h1]
 | .str s,v',h=>by simp only [SV.sbt,Q0] at h; subst h; rfl
 | .undef,v',h=>by simp only [SV.sbt,Q0] at h; subst h; rfl
 | .nilS,v',h=>by simp only [SV.sbt,Q0] at h; subst h; rfl
 | .nilF,v',h=>by simp only [SV.sbt,Q0] at h; subst h; rfl
 | .nilP,v',h=>by simp only [SV.sbt,Q0] at h; subst h; rfl
 | .nilI,v',h=>by simp only [SV.sbt,Q0] at h; subst h; rfl
 | .nilM,v',h=>by simp only [SV.sbt,Q0] at h; subst h; rfl
 | .ptr k o,v',h=>by simp only [SV.sbt,Q0] at h; subst h; rfl
 | .sl k n,v',h=>by simp only [SV.sbt,Q0] at h; subst h; rfl
 | .slc k n q,v',h=>by simp only [SV.sbt,Q0] at h; subst h; rfl
theorem SV.sbts_den (hL:Lens m ρ):∀ (l l':List SV),SV.sbts m A l=some l'->SV.dens (ρ.asg β m A) β l=SV.dens ρ β l'
 | [],l',h=>by simp only [SV.sbts,Q0] at h; subst h; rfl
 | x::l,l',h=>by
  simp only [SV.sbts] at h
  split at h
  ·rename_i x' l'' h1 h2
   simp only [Q0] at h; subst h
   simp only [SV.dens,SV.sbt_den hL _ _ h1,SV.sbts_den hL _ _ h2]
  ·simp at h
end
end
theorem c2U {ρ:Env} (hρ:ρ.Ok) (β:Nat->Nat) {v:SV} (h:v.flat=true):a2Y (v.den ρ β)=true:=by
 cases v<;>simp [SV.flat] at h<;>try rfl
 exact hρ.fine _
theorem a9e {x:Option (List SV)} {l:List SV} (h:a8x x l=true):x=some l:=by
 cases x with
 | none=>simp [a8x] at h
 | some x=>simp only [a8x] at h; rw [SV.eq_of_beqs _ _ h]
theorem b3J {m:Base} {A:Asg}:∀ (l l':List Blk),b3S m A l l'=true->∀ (k:Nat) (b:Blk),l[k]?=some b->b1j m A b l'[k]?=true
 | [],_,_,k,b,hk=>by simp at hk
 | x::l,[],h,k,b,hk=>by
  simp only [b3S,Q1] at h
  cases k with
  | zero=>simp at hk; subst hk; simpa using h.1
  | succ k=>simpa using b3J l [] h.2 k b (by simpa using hk)
 | x::l,y::l',h,k,b,hk=>by
  simp only [b3S,Q1] at h
  cases k with
  | zero=>simp at hk; subst hk; simpa using h.1
  | succ k=>simpa using b3J l l' h.2 k b (by simpa using hk)
theorem b4w {m:Base} {A:Asg} {ρ:Env} {β:Nat->Nat} (hL:Lens m ρ):∀ (l l':List (List SV)),b1r m A l l'=true->(l.map fun x=>(SV.dens (ρ.asg β m A) β x).toArray)=l'.map fun x=>(SV.dens ρ β x).toArray
 | [],[],_=>rfl
 | x::l,y::l',h=>by
  simp only [b1r,Q1] at h
  simp only [Q4,SV.sbts_den hL _ _ (a9e h.1),b4w hL l l' h.2]
 | [],_::_,h=>by simp [b1r] at h
 | _::_,[],h=>by simp [b1r] at h
theorem Rel.fits {w0:World} {s0:Hp} {X:Fx} {ρ:Env} {s:Hp} {β:Nat->Nat} {t g:Cfg} {a:Act} {w:World} (h:Rel w0 s0 X ρ s β g a w) {m:Base} {A:Asg} (hf:fits m A t g=true) :
  Rel w0 s0 X (ρ.asg β m A) s β t a w/\t.todo=g.todo:=by
 unfold Sx.fits at hf
 simp only [Q1,decide_eq_true_eq,beq_iff_eq] at hf
 obtain ⟨⟨⟨⟨⟨⟨⟨⟨⟨⟨⟨⟨⟨htd,hfs⟩,hsl⟩,hH⟩,n1⟩,n2⟩,n3⟩,n4⟩,m1⟩,m2⟩,m3⟩,m4⟩,hflat⟩,hvok⟩:=hf
 have hi:m.ni<=ρ.i.length:=by rw [h.ci]; exact m1
 have hb:m.nb<=ρ.b.length:=by rw [h.cb]; exact m2
 have hv:m.nv<=ρ.v.length:=by rw [h.cv]; exact m3
 have hj:m.nj<=ρ.j.length:=by rw [h.cj]; exact m4
 have hL:Lens m ρ:=⟨hi,hb,hv,hj⟩
 have hsl':=a9e hsl
 have hblk:=b3J _ _ hH
 have hcells:∀ (k:Nat) (cs:List SV) (T:Nat) (sh:Bool),t.H[k]?=some (Blk.cells cs T sh)->∃ cs',g.H[k]?=some (Blk.cells cs' T sh)/\SV.dens (ρ.asg β m A) β cs=SV.dens ρ β cs':=by
  intro k cs T sh hk
  have:=hblk k _ hk
  unfold b1j at this
  cases hg:g.H[k]? with
  | none=>rw [hg] at this; simp at this
  | some b =>
   rw [hg] at this
   cases b with
   | row n T' size=>simp at this
   | cells cs' T' sh' =>
    simp only [Q1,beq_iff_eq] at this
    obtain ⟨⟨e1,rfl⟩,rfl⟩:=this
    exact ⟨cs',rfl,SV.sbts_den hL _ _ (a9e e1)⟩
 have hrow:∀ (k n T size:Nat),t.H[k]?=some (.row n T size)->0 < size/\((ρ.asg β m A).v.getD n vd=.slice none 0 0\/∃ n',g.H[k]?=some (.row n' T size)/\(ρ.asg β m A).v.getD n vd=ρ.v.getD n' vd):=by
  intro k n T size hk
  have:=hblk k _ hk
  unfold b1j at this
  simp only [Q1,decide_eq_true_eq] at this
  refine ⟨this.1,?_⟩
  have h2:=this.2
  split at h2
  ·rename_i hvs
   left; rw [a2d hL hvs]; rfl
  ·rename_i n' hvs
   split at h2
   ·rename_i n2 T' size' hg
    simp only [Q1,beq_iff_eq] at h2
    obtain ⟨⟨rfl,rfl⟩,rfl⟩:=h2
    right
    exact ⟨_,hg,by rw [a2d hL hvs]; rfl⟩
   ·simp at h2
  ·simp at h2
 have key:∀ (i:Nat) (b:Blk),t.H[i]?=some b->act (ρ.asg β m A) b->∃ b',g.H[i]?=some b'/\act ρ b':=by
  intro i b hb' hab
  cases b with
  | cells cs T sh =>
   obtain ⟨cs',hg,_⟩:=hcells i cs T sh hb'
   exact ⟨_,hg,trivial⟩
  | row n T size =>
   obtain ⟨_,h1 | ⟨n',hg,he⟩⟩:=hrow i n T size hb'
   ·exact absurd h1 hab
   ·exact ⟨_,hg,by simp only [act] at hab ⊢; rw [<- he]; exact hab⟩
 have hkp:∀ x,X.K x\/x∈ρ.m->Kept s (ρ.asg β m A) β t.H w x:=fun x hx=>⟨(h.kp x hx).is,fun k b hk hb=>by
  obtain ⟨b',e1,e2⟩:=key k b hk hb
  exact (h.kp x hx).own k b' e1 e2,(h.kp x hx).un⟩
 refine ⟨⟨?_,h.df,h.sz,hkp,h.ms.env rfl rfl,by rw [b4w hL _ _ hfs]; exact h.fs,?_,?_,?_,?_,?_,h.bel,h.sb,h.nw,h.le,?_,?_⟩,htd⟩
 ·rw [SV.sbts_den hL _ _ hsl']; exact h.tm
 ·simp only [Env.asg,Q5,Q7,QE,Qg hi,n1]
 ·simp only [Env.asg,Q5,Q7,QE,Qg hb,n2]
 ·simp only [Env.asg,Q5,Q7,a0R,Qg hv,n3]
 ·simp only [Env.asg,Q5,Q7,a0R,Qg hj,n4]
 ·intro x hx
  simp only [Env.asg,List.mem_append] at hx
  rcases hx with hx | hx
  ·exact h.ok x (QV hx)
  ·rw [SV.dens_map] at hx
   obtain ⟨y,hy,rfl⟩:=Qn.1 hx
   exact c2U h.ok β (Qp.1 hflat y hy)
 ·intro k b hk
  cases b with
  | cells cs T sh =>
   obtain ⟨cs',hg,he⟩:=hcells k cs T sh hk
   have:=h.bl k _ hg
   simp only [BOk] at this ⊢
   rw [he]; exact this
  | row n T size =>
   obtain ⟨hsz,h1 | ⟨n',hg,he⟩⟩:=hrow k n T size hk
   ·exact ⟨hsz,.inl h1⟩
   ·have:=h.bl k _ hg
    simp only [BOk] at this ⊢
    rw [he]; exact this
 ·intro j k bj bk hjk hj' hk' aj ak
  have key:∀ (i:Nat) (b:Blk),t.H[i]?=some b->act (ρ.asg β m A) b->∃ b',g.H[i]?=some b'/\act ρ b':=by
   intro i b hb' hab
   cases b with
   | cells cs T sh =>
    obtain ⟨cs',hg,_⟩:=hcells i cs T sh hb'
    exact ⟨_,hg,trivial⟩
   | row n T size =>
    obtain ⟨_,h1 | ⟨n',hg,he⟩⟩:=hrow i n T size hb'
    ·exact absurd h1 hab
    ·exact ⟨_,hg,by simp only [act] at hab ⊢; rw [<- he]; exact hab⟩
  obtain ⟨b1,c1,c2⟩:=key j bj hj' aj
  obtain ⟨b2,d1,d2⟩:=key k bk hk' ak
  exact h.sp j k b1 b2 hjk c1 d1 c2 d2
def Env.ext (ρ:Env) (is:List Int) (bs:List Bool) (vs js:List Value):Env:={ ρ with i:=ρ.i++is,b:=ρ.b++bs,v:=ρ.v++vs,j:=ρ.j++js }
theorem b9O {f:Fr} {R:Ending->World->Prop} {body:Code} {ρ ρ':Env} {β β':Nat->Nat} {s s':Hp} {t g:Cfg} {a:Act} {w:World} (htd:t.todo=g.todo) (hhead:∀ p d ks k,t.todo≠.dreg p d ks::k)
  (h:a3u P f R body ρ β s t a w):a3u P f R body ρ' β' s' g a w:=by
 unfold a3u at h ⊢
 rw [<- htd]
 generalize t.todo=td at *
 cases td with
 | nil=>exact h
 | cons x k=>cases x<;>first | exact h | exact absurd rfl (hhead _ _ _ _)
end
end Go.Sx
namespace Go.Sx
section
variable {P:Program} {c:Ctx} {fnc:Func} {fn:FnC} {Q:Value->Hp->MS->Prop}
theorem c5e {ρ:Env} {β:Nat->Nat} {A:Asg} {t g:Cfg} (hfit:Sx.fits ⟨0,0,0,0⟩ A t g=true) :
  ρ.asg β ⟨0,0,0,0⟩ A={ i:=A.is.map (IE.den ρ),b:=A.bs.map (BE.den ρ),v:=SV.dens ρ id A.vs,j:=SV.dens ρ β A.js,m:=ρ.m,k:=ρ.k }:=by
 have hv:SV.dens ρ β A.vs=SV.dens ρ id A.vs:=by
  unfold Sx.fits at hfit
  simp only [Q1] at hfit
  exact SV.dens_le (kf:=fun _=>false) ⟨fun _ _=>rfl,fun _ _=>rfl,fun _ _=>rfl,fun _ _=>rfl⟩ (by simp) _ hfit.2
 simp only [Env.asg,Xd,List.nil_append,hv]
section
variable {f:Fr} {R:Ending->World->Prop} {w0:World} {s0:Hp} {X:Fx}
theorem b8d {body:Code} {t:Cfg} {A:Asg} {g:Cfg} {ρ:Env} {s:Hp} (hfit:Sx.fits ⟨0,0,0,0⟩ A t g=true) (hhead:∀ p d ks k,t.todo≠.dreg p d ks::k)
  (h:∀ js,js.length=A.js.length->b1g P f R body w0 s0 X t { i:=A.is.map (IE.den ρ),b:=A.bs.map (BE.den ρ),v:=SV.dens ρ id A.vs,j:=js,m:=ρ.m,k:=ρ.k } s):b1g P f R body w0 s0 X g ρ s:=by
 intro β a w hr
 obtain ⟨hr',htd⟩:=hr.fits hfit
 rw [c5e hfit] at hr'
 exact b9O htd hhead (h _ (by simp [a0R]) β a w hr')
end
end
end Go.Sx
namespace Go.Sx
def mkV (agg:Bool) (l:List Value):Value:=if agg then .agg l.toArray else l.headD undef
structure EqT (P:Program) (d:Nat) (t:TypeId) (b:Bool) (ks:List Kd):Prop where
 agg:∀ w,(isAgg t).run P w=.ok b w
 size:∀ w,(sizeOf t).run P w=.ok ks.length w
 cells:P.cellsOf t=ks.length
 one:b=false->ks.length=1
 eq:∀ (w:World) (zs us:List Int),zs.length=ks.length->us.length=ks.length->(Op.equalIn d t (mkV b (a0X ks zs)) (mkV b (a0X ks us))).run P w=.ok (decide (zs=us)) w
section
variable {P:Program}
theorem a3A:∀ (ks ls:List Kd) (zs us:List Int),zs.length=ks.length->a0X (ks++ls) (zs++us)=a0X ks zs++a0X ls us
 | [],ls,[],us,_=>rfl
 | k::ks,ls,z::zs,us,h=>by simp only [List.cons_append,a0X,a3A ks ls zs us (by simpa using h)]
 | [],ls,z::zs,us,h=>by simp at h
 | k::ks,ls,[],us,h=>by simp at h
theorem a3W:∀ (ks:List Kd) (zs:List Int),zs.length=ks.length->(a0X ks zs).length=ks.length
 | [],[],_=>rfl
 | k::ks,z::zs,h=>by simp only [a0X,List.length_cons,a3W ks zs (by simpa using h)]
 | [],z::zs,h=>by simp at h
 | k::ks,[],h=>by simp at h
theorem EqT.part {d:Nat} {t:TypeId} {b:Bool} {ks:List Kd} (h:EqT P d t b ks) (A B:List Value) {zs:List Int} (hz:zs.length=ks.length) (w:World) :
  (part t (A++a0X ks zs++B).toArray A.length).run P w=.ok (mkV b (a0X ks zs)) w:=by
 have hl:=a3W ks zs hz
 unfold Go.part
 simp only [Sem.run_bind,h.agg,Result.andThen_ok]
 cases b with
 | true =>
  simp only [if_true,Sem.run_bind,h.size,Result.andThen_ok,Sem.run_pure,mkV]
  congr 2
  apply Qq
  simp only [List.extract_toArray,List.extract_eq_take_drop,Nat.add_sub_cancel_left]
  rw [Qd,Xe,<- hl,List.take_left]
 | false =>
  have h1:=h.one rfl
  rw [h1] at hl
  simp only [Qa,if_false,mkV]
  match hc:a0X ks zs,hl with
  | [v],_=>simp
theorem a2c {t:TypeId} {k:IntKind} (hu:P.underlying t=some (.int k)) (hs:∀ w,(sizeOf t).run P w=.ok 1 w) (hc:P.cellsOf t=1) (d:Nat):EqT P (d+1) t false [.int k] where
 agg w:=by simp [isAgg,run_underlying hu]
 size w:=hs w
 cells:=hc
 one _:=rfl
 eq w zs us h1 h2:=by
  match zs,h1,us,h2 with
  | [z],_,[u],_ =>
   simp only [mkV,a0X,b6v,Qa,if_false,List.headD_cons]
   rw [run_equalIn_int w d t k k z u hu]
   simp [BEq.beq]
theorem b2V {d:Nat} {e:TypeId} {b:Bool} {ks:List Kd} (h:EqT P d e b ks):∀ (n:Nat) (A B:List Value) (zs us:List Int) (w:World) (o:Nat),A.length=o*ks.length->B.length=o*ks.length ->
  zs.length=n*ks.length->us.length=n*ks.length ->
  (Op.eqItems d e (P.cellsOf e) (A++a0X (Q2 n ks).flatten zs).toArray (B++a0X (Q2 n ks).flatten us).toArray ((Qb n).map (o+·))).run P w=.ok (decide (zs=us)) w
 | 0,A,B,zs,us,w,o,_,_,h1,h2=>by
  simp at h1 h2; subst h1; subst h2
  simp [Op.eqItems]
 | n+1,A,B,zs,us,w,o,hA,hB,h1,h2=>by
  rw [Qh,Nat.one_mul,QH] at h1 h2
  have hz:(zs.take ks.length).length=ks.length:=by rw [Q7]; omega
  have hu:(us.take ks.length).length=ks.length:=by rw [Q7]; omega
  have hz2:(zs.drop ks.length).length=n*ks.length:=by rw [Qe]; omega
  have hu2:(us.drop ks.length).length=n*ks.length:=by rw [Qe]; omega
  have ez:a0X (Q2 (n+1) ks).flatten zs=a0X ks (zs.take ks.length)++a0X (Q2 n ks).flatten (zs.drop ks.length):=by
   rw [<- a3A _ _ _ _ hz,Q6]; simp [Qt]
  have eu:a0X (Q2 (n+1) ks).flatten us=a0X ks (us.take ks.length)++a0X (Q2 n ks).flatten (us.drop ks.length):=by
   rw [<- a3A _ _ _ _ hu,Q6]; simp [Qt]
  have ih:=b2V h n (A++a0X ks (zs.take ks.length)) (B++a0X ks (us.take ks.length)) (zs.drop ks.length) (us.drop ks.length) w (o+1)
   (by rw [Q5,a3W _ _ hz,hA,Qh]; omega) (by rw [Q5,a3W _ _ hu,hB,Qh]; omega) hz2 hu2
  rw [List.range_succ_eq_map]
  simp only [Q4,List.map_map,Op.eqItems,Sem.run_bind,Nat.add_zero]
  have p1:=h.part A (a0X (Q2 n ks).flatten (zs.drop ks.length)) hz w
  have p2:=h.part B (a0X (Q2 n ks).flatten (us.drop ks.length)) hu w
  rw [hA] at p1
  rw [hB] at p2
  rw [ez,eu,<- Qd,<- Qd,h.cells,p1]
  simp only [Result.andThen_ok,p2,h.eq w _ _ hz hu]
  have hsplit:(zs=us)↔(zs.take ks.length=us.take ks.length/\zs.drop ks.length=us.drop ks.length):=by
   constructor
   ·intro e; subst e; exact ⟨rfl,rfl⟩
   ·intro ⟨e1,e2⟩; rw [<- Q6 ks.length zs,e1,e2,Q6]
  by_cases he:zs.take ks.length=us.take ks.length
  ·simp only [he,decide_true,Bool.not_true,Qa,if_false]
   rw [h.cells] at ih
   rw [show ((fun x=>o+x) ∘ Nat.succ)=(fun x=>o+1+x) by funext x; simp; omega]
   rw [ez,eu] at *
   have:decide (zs=us)=decide (zs.drop ks.length=us.drop ks.length):=by simp [hsplit,he]
   rw [he] at ih
   rw [this]; exact ih
  ·have:decide (zs=us)=false:=by simp [hsplit,he]
   simp [he,this]
theorem a9X {d:Nat} {t e:TypeId} {n:Nat} {b:Bool} {ks:List Kd} {inf:TypeInfo} (h:EqT P d e b ks) (hu:P.underlying t=some (.array n e)) (hinf:P.info? e=some inf) (hs:∀ w,(sizeOf t).run P w=.ok (n*ks.length) w) (hc:P.cellsOf t=n*ks.length) :
  EqT P (d+1) t true (Q2 n ks).flatten where
 agg w:=by simp [isAgg,run_underlying hu]
 size w:=by rw [hs]; simp
 cells:=by rw [hc]; simp
 one hb:=by simp at hb
 eq w zs us h1 h2:=by
  simp only [mkV,if_true]
  rw [run_equalIn_array w d _ _ hu hinf]
  have:=b2V h n [] [] zs us w 0 (by simp) (by simp) (by simpa using h1) (by simpa using h2)
  simpa using this
inductive EqFs (P:Program) (d:Nat):Nat->List Field->List Kd->Prop where
 | nil (o:Nat):EqFs P d o [] []
 | cons {o : Nat} {f : Field} {fs : List Field} {b : Bool} {ks ls : List Kd} (hn : f.name ≠ "_") (ho : f.offset = o) (h : EqT P d f.type b ks) (r : EqFs P d (o + ks.length) fs ls) : EqFs P d o (f :: fs) (ks ++ ls)
theorem c3o {d o:Nat} {fs:List Field} {ks:List Kd} (h:EqFs P d o fs ks):∀ (A B:List Value) (zs us:List Int) (w:World),A.length=o->B.length=o->zs.length=ks.length->us.length=ks.length ->
  (Op.eqFields d (A++a0X ks zs).toArray (B++a0X ks us).toArray fs).run P w=.ok (decide (zs=us)) w:=by
 induction h with
 | nil o =>
  intro A B zs us w _ _ h1 h2
  simp at h1 h2; subst h1; subst h2
  simp [Op.eqFields]
 | cons hn ho h r ih =>
  rename_i o f fs b ks ls
  intro A B zs us w hA hB h1 h2
  rw [Q5] at h1 h2
  have hz:(zs.take ks.length).length=ks.length:=by rw [Q7]; omega
  have hu:(us.take ks.length).length=ks.length:=by rw [Q7]; omega
  have hz2:(zs.drop ks.length).length=ls.length:=by rw [Qe]; omega
  have hu2:(us.drop ks.length).length=ls.length:=by rw [Qe]; omega
  have ez:a0X (ks++ls) zs=a0X ks (zs.take ks.length)++a0X ls (zs.drop ks.length):=by
   rw [<- a3A _ _ _ _ hz,Q6]
  have eu:a0X (ks++ls) us=a0X ks (us.take ks.length)++a0X ls (us.drop ks.length):=by
   rw [<- a3A _ _ _ _ hu,Q6]
  have ih:=ih (A++a0X ks (zs.take ks.length)) (B++a0X ks (us.take ks.length)) (zs.drop ks.length) (us.drop ks.length) w
   (by rw [Q5,a3W _ _ hz,hA]) (by rw [Q5,a3W _ _ hu,hB]) hz2 hu2
  have p1:=h.part A (a0X ls (zs.drop ks.length)) hz w
  have p2:=h.part B (a0X ls (us.drop ks.length)) hu w
  rw [hA] at p1
  rw [hB] at p2
  simp only [Op.eqFields]
  rw [if_pos hn,ez,eu,<- Qd,<- Qd,ho]
  simp only [Sem.run_bind,p1,Result.andThen_ok,p2,h.eq w _ _ hz hu]
  have hsplit:(zs=us)↔(zs.take ks.length=us.take ks.length/\zs.drop ks.length=us.drop ks.length):=by
   constructor
   ·intro e; subst e; exact ⟨rfl,rfl⟩
   ·intro ⟨e1,e2⟩; rw [<- Q6 ks.length zs,e1,e2,Q6]
  by_cases he:zs.take ks.length=us.take ks.length
  ·have:decide (zs=us)=decide (zs.drop ks.length=us.drop ks.length):=by simp [hsplit,he]
   rw [this]
   simpa [he] using ih
  ·have:decide (zs=us)=false:=by simp [hsplit,he]
   simp [he,this]
theorem a5O {d:Nat} {t:TypeId} {ks:List Kd} {fields:Array Field} (hu:P.underlying t=some (.struct fields)) (hF:EqFs P d 0 fields.toList ks) (hp:P.stoodInHeld t=false) (hs:∀ w,(sizeOf t).run P w=.ok ks.length w) (hc:P.cellsOf t=ks.length) :
  EqT P (d+1) t true ks where
 agg w:=by simp [isAgg,run_underlying hu]
 size w:=hs w
 cells:=hc
 one hb:=by simp at hb
 eq w zs us h1 h2:=by
  have hfo:P.fieldsOf t=fields:=by simp [Program.fieldsOf,hu]
  simp only [mkV,if_true]
  rw [run_equalIn_struct w d t _ _ (by rw [hfo]; exact hu) hp]
  have:=c3o hF [] [] zs us w rfl rfl h1 h2
  rw [hfo]
  simpa using this
end
end Go.Sx
namespace Go.Sx
open Go.ChangeShapes
def okI:List Kd->List Int->Prop
 | [],[]=>True
 | .int k::ks,z::zs=>loI k<=z/\z<=hiI k/\okI ks zs
 | _,_=>False
theorem b1H:∀ (ks ls:List Kd) (zs us:List Int),okI ks zs->okI ls us->okI (ks++ls) (zs++us)
 | [],ls,[],us,_,h=>h
 | .int k::ks,ls,z::zs,us,h,h'=>⟨h.1,h.2.1,b1H ks ls zs us h.2.2 h'⟩
 | [],_,_::_,_,h,_=>h.elim
 | .int _::_,_,[],_,h,_=>h.elim
 | .bool::_,_,_,_,h,_=>by cases h
 | .val::_,_,_,_,h,_=>by cases h
theorem b7s:∀ (ks:List Kd) (zs:List Int),okI ks zs->zs.length=ks.length
 | [],[],_=>rfl
 | .int k::ks,z::zs,h=>by simp [b7s ks zs h.2.2]
 | [],_::_,h=>h.elim
 | .int _::_,[],h=>h.elim
 | .bool::_,_,h=>by cases h
 | .val::_,_,h=>by cases h
mutual
inductive FlatI (P:Program):TypeId->List Kd->Prop where
 | int {t:TypeId} {k:IntKind} (hu:P.underlying t=some (.int k)) (hc:P.cellsOf t=1):FlatI P t [.int k]
 | arr {t e:TypeId} {n:Nat} {ks:List Kd} (hu:P.underlying t=some (.array n e)) (h:FlatI P e ks) (he:P.cellsOf e=ks.length) (hc:P.cellsOf t=n*ks.length):FlatI P t (Q2 n ks).flatten
 | st {t:TypeId} {fields:Array Field} {ks:List Kd} (hu:P.underlying t=some (.struct fields)) (h:FlatFs P 0 fields.toList ks) (hc:P.cellsOf t=ks.length):FlatI P t ks
inductive FlatFs (P:Program):Nat->List Field->List Kd->Prop where
 | nil (o:Nat):FlatFs P o [] []
 | cons {o:Nat} {f:Field} {fs:List Field} {ks ls:List Kd} (ho:f.offset=o) (h:FlatI P f.type ks) (hc:P.cellsOf f.type=ks.length) (r:FlatFs P (o+ks.length) fs ls):FlatFs P o (f::fs) (ks++ls)
end
theorem b9w {k:IntKind} {n:Int} (h:(Lit.int k n).wf=true):loI k<=n/\n<=hiI k:=by
 simp only [Lit.wf,Q1,decide_eq_true_eq] at h
 cases k<;>simp [IntKind.min,IntKind.max,IntKind.signed,IntKind.bits] at h<;>simp [loI,hiI,IntKind.signed,IntKind.bits]<;>omega
theorem b4F {ks:List Kd}:∀ (n:Nat) (cs:List Value),cs.length=n*ks.length->(∀ i,i < n->∃ zs,okI ks zs/\(cs.drop (i*ks.length)).take ks.length=a0X ks zs) ->
  ∃ zs,okI (Q2 n ks).flatten zs/\cs=a0X (Q2 n ks).flatten zs
 | 0,cs,hl,_=>by
  simp at hl; subst hl
  exact ⟨[],trivial,rfl⟩
 | n+1,cs,hl,h=>by
  obtain ⟨z0,h0,e0⟩:=h 0 (by omega)
  simp only [Nat.zero_mul,Xf] at e0
  obtain ⟨zs,h1,e1⟩:=b4F (ks:=ks) n (cs.drop ks.length) (by rw [Qe,hl,Qh]; omega) (fun i hi=>by
   obtain ⟨z,a,b⟩:=h (i+1) (by omega)
   refine ⟨z,a,?_⟩
   rw [List.drop_drop]
   rw [Qh,Nat.one_mul,QH] at b
   exact b)
  refine ⟨z0++zs,by simpa [Qt] using b1H _ _ _ _ h0 h1,?_⟩
  have:a0X (Q2 (n+1) ks).flatten (z0++zs)=a0X ks z0++a0X (Q2 n ks).flatten zs:=by
   rw [<- a3A _ _ _ _ (b7s _ _ h0)]; simp [Qt]
  rw [this,<- e0,<- e1,Q6]
section
variable {H:Type} {enc:TypeId × Value->H} {P:Program} {w:World} {base:Nat} {spare:Nat->Bool} {held:Bool}
mutual
theorem b8f {t:TypeId} {ks:List Kd}:FlatI P t ks->∀ {fuel:Nat} {cs:List Value} {x},DataW.trod enc P w base spare held fuel t cs=some x->∃ zs,okI ks zs/\cs=a0X ks zs
 | .int hu hc,fuel,cs,x,h=>by
  obtain ⟨n,rfl,_,hw⟩:=DataW.trod_int hu h
  exact ⟨[n],⟨(b9w hw).1,(b9w hw).2,trivial⟩,rfl⟩
 | .arr hu he hce hc,fuel,cs,x,h=>by
  obtain ⟨xs,m,_,_,hl,hn,hi⟩:=DataW.trod_array hu h
  rw [hc] at hl
  refine b4F _ cs hl (fun i hi'=>?_)
  have:=hi i hi'
  rw [hce,QJ (by omega)] at this
  exact b8f he this
 | .st hu hf hc,fuel,cs,x,h=>by
  obtain ⟨xs,m,_,_,hl,hn,hi⟩:=DataW.trod_struct hu h
  rw [hc] at hl
  obtain ⟨zs,a,b⟩:=b5M hf [] cs rfl hl (m:=m) (xs:=xs) (fun j f hj=>by simpa using hi j f (by simpa using hj)) hn
  exact ⟨zs,a,b⟩
theorem b5M {o:Nat} {fs:List Field} {ks:List Kd}:FlatFs P o fs ks->∀ (A cs:List Value),A.length=o->cs.length=ks.length->∀ {m:Nat} {xs:List (DataW H × List MemPlace)},
  (∀ (j:Nat) f,fs[j]?=some f->DataW.trod enc P w base spare held m f.type (((A++cs).drop f.offset).take (P.cellsOf f.type))=xs[j]?)->xs.length=fs.length->∃ zs,okI ks zs/\cs=a0X ks zs
 | .nil o,A,cs,hA,hl,m,xs,_,_=>by
  simp at hl; subst hl
  exact ⟨[],trivial,rfl⟩
 | .cons (f:=f) (ks:=ks) (ls:=ls) ho h hc r,A,cs,hA,hl,m,xs,hi,hn=>by
  have h0:=hi 0 f rfl
  rw [QJ (by simp at hn; omega),ho,<- hA,Xe,hc] at h0
  obtain ⟨z0,a0,b0⟩:=b8f h h0
  rw [Q5] at hl
  have hl0:(cs.take ks.length).length=ks.length:=by rw [Q7]; omega
  obtain ⟨zs,a1,b1⟩:=b5M r (A++cs.take ks.length) (cs.drop ks.length) (by rw [Q5,hl0,hA]) (by rw [Qe]; omega) (m:=m) (xs:=xs.drop 1) (fun j f' hj=>by
   have:=hi (j+1) f' (by simpa using hj)
   rw [Qd,Q6]
   rw [this,List.getElem?_drop,QH]) (by simp at hn; simp; omega)
  refine ⟨z0++zs,b1H _ _ _ _ a0 a1,?_⟩
  rw [a3A _ _ _ _ (b7s _ _ a0),<- b0,<- b1,Q6]
end
def hpOf (w:World):Hp:=fun b o=>w.cell? ⟨b,o,none⟩
theorem b8I (w:World):Sub (hpOf w) w:=fun _ _ _ h=>h
theorem b1S {α β:Type} {f:α->Option β}:∀ {l:List α} {ys:List β},l.mapM f=some ys->ys.length=l.length/\∀ (i:Nat) x,l[i]?=some x->∃ y,ys[i]?=some y/\f x=some y
 | [],ys,h=>by simp at h; subst h; exact ⟨rfl,by simp⟩
 | x::l,ys,h=>by
  simp only [Qw,Option.bind_eq_bind,Qj,Option.pure_def,Q0] at h
  obtain ⟨y,hy,ys',hys,rfl⟩:=h
  obtain ⟨a,b⟩:=b1S hys
  refine ⟨by simp [a],fun i z hz=>?_⟩
  cases i with
  | zero=>simp at hz; subst hz; exact ⟨y,by simp,hy⟩
  | succ i=>simpa using b i z (by simpa using hz)
theorem c0s {α:Type} {p:Nat->α->Prop}:∀ (n:Nat),(∀ i,i < n->∃ z,p i z)->∃ l:List α,l.length=n/\∀ i z,l[i]?=some z->p i z
 | 0,_=>⟨[],rfl,by simp⟩
 | n+1,h=>by
  obtain ⟨l,e1,e2⟩:=c0s n (fun i hi=>h i (by omega))
  obtain ⟨z,hz⟩:=h n (by omega)
  refine ⟨l++[z],by simp [e1],fun i y hy=>?_⟩
  rw [Xg] at hy
  split at hy
  ·exact e2 i y hy
  ·have:=(Q8.1 hy).1
   simp at this
   have hin:i=n:=by omega
   subst hin
   simp [e1] at hy; subst hy; exact hz
theorem c5a {w:World} {a:Addr} {j k:Nat} {u:Value} (h0:a.spot=none) (h:w.cell? ((a.add j).add k)=some u):w.cell? ⟨a.block,a.off+j+k,none⟩=some u:=by
 obtain ⟨b,o,sp⟩:=a
 simp only at h0; subst h0
 rw [Addr.add_add0] at h
 unfold Addr.add at h
 split at h
 ·have h1:j=0:=by omega
  have h2:k=0:=by omega
  subst h1; subst h2; exact h
 ·rw [<- QK] at h; exact h
end
end Go.Sx
namespace Go.Sx
open Go.RowKit
inductive PV where
 | int (k:IntKind) (z:Int)
 | bool (b:Bool)
 | str (s:List UInt8)
 | undef
 | nilS | nilF | nilP | nilI | nilM
 | sl (n:Nat) (rows:List (List PV))
 | cell (l:List PV) (off:Nat)
 | ref (h off:Nat)
 | msl (h off len cap sz:Nat)
 | rsl (h len sz:Nat)
 | rpl (h len r sz:Nat)
 | fn (f:Nat) (cap:List PV)
 | agg (l:List PV)
 | tup (l:List PV)
 | mp (h:Nat)
 deriving Inhabited
inductive MO where
 | cells (l:List PV) (T:Nat)
 | row (rows:List (List PV)) (sz T:Nat)
 | mp (ks:List Int) (vs:List PV) (K:IntKind)
 | mq (kv:KV) (ver:Nat)
 | it (h ver:Nat) (seen:List (List Int))
 | dead
 deriving Inhabited
def b9I (es:Array MapEntry) (clock:Nat) (kv:KV):Prop:=∃ kv',QIs es kv'/\kv'.Perm kv/\(kv.map (·.1)).Nodup/\a6l es clock
def PV.one:PV->Bool
 | .undef | .agg _ | .tup _=>false
 | _=>true
def PV.len:PV->Int
 | .sl _ rows=>rows.length
 | .msl _ _ len _ _=>len
 | .rsl _ len _=>len
 | .rpl _ len _ _=>len
 | _=>0
def PV.sLen:PV->Int
 | .str l=>l.length
 | _=>0
def PV.sAt:PV->Int->Int
 | .str l,i=>(((l[i.toNat]?).getD 0).toNat:Int)
 | _,_=>0
def PV.sEq:PV->PV->Bool
 | .str a,.str b=>decide (a=b)
 | _,_=>false
def PV.sIs (l:List UInt8):PV->Bool
 | .str a=>decide (a=l)
 | _=>false
def PV.isNil:PV->Bool
 | .nilS | .nilF | .nilP=>true
 | _=>false
def PV.nilOk:PV->Bool
 | .sl _ []=>false
 | _=>true
def PV.isKind:Nat->PV->Bool
 | 0,.nilS | 0,.sl .. | 0,.msl .. | 0,.rsl .. | 0,.rpl ..=>true
 | 1,.cell .. | 1,.ref ..=>true
 | 2,.fn .. | 2,.nilF=>true
 | 3,.str _=>true
 | 4,.cell .. | 4,.ref .. | 4,.nilP=>true
 | _,_=>false
abbrev Inf:=List (Nat × Nat × Nat)
mutual
def Rep (s:Hp) (B:Inf):PV->Value->Prop
 | .int k z,v=>v=.int k z
 | .bool b,v=>v=.bool b
 | .str t,v=>v=.string ⟨t.toArray⟩
 | .undef,v=>v=Go.undef
 | .nilS,v=>v=.slice none 0 0
 | .nilF,v=>v=.nilFunc
 | .nilP,v=>v=.pointer none
 | .nilI,v=>v=.nilIface
 | .nilM,v=>v=.map none
 | .sl n rows,v=>∃ xs,a1s s n v xs/\a0M s B rows xs/\∀ r∈rows,∀ p∈r,p.one=true
 | .cell l off,v=>∃ b base vs,v=.pointer (some ⟨b,base+off,none⟩)/\Reps s B l vs/\∀ o u,vs[o]?=some u->s b (base+o)=some u
 | .ref h off,v=>∃ b n,B[h]?=some (b,n,0)/\v=.pointer (some ⟨b,off,none⟩)
 | .mp h,v=>∃ b n,B[h]?=some (b,n,0)/\v=.map (some b)
 | .msl h off len cap _,v=>∃ b n,B[h]?=some (b,n,0)/\v=.slice (some ⟨b,off,none⟩) len cap
 | .rsl h len sz,v=>0 < len/\∃ b cap,v=.slice (some ⟨b,0,none⟩) len cap/\∃ b' n r,B[h]?=some (b',n,r)/\len<=r/\(r=len->b'=b/\n=cap*sz/\len<=cap)
 | .rpl h len r sz,v=>0 < r/\len<=r/\∃ b cap,v=.slice (some ⟨b,0,none⟩) len cap/\∃ b' n r',B[h]?=some (b',n,r')/\r<=r'/\(r'=r->b'=b/\n=cap*sz/\r<=cap)
 | .fn f caps,v=>∃ vs,v=.func (.func f) #[] vs.toArray/\Reps s B caps vs
 | .agg l,v=>∃ vs,v=.agg vs.toArray/\Reps s B l vs
 | .tup l,v=>∃ vs,v=.tuple vs.toArray/\Reps s B l vs
def Reps (s:Hp) (B:Inf):List PV->List Value->Prop
 | [],vs=>vs=[]
 | p::l,vs=>∃ v r,vs=v::r/\Rep s B p v/\Reps s B l r
def a0M (s:Hp) (B:Inf):List (List PV)->List (List Value)->Prop
 | [],xs=>xs=[]
 | l::ls,xs=>∃ x r,xs=x::r/\Reps s B l x/\a0M s B ls r
end
def a0P (s:Hp) (B:Inf):List MO->MS->Prop
 | [],m=>m=[]
 | .cells l T::σ,m=>∃ b vs r,m=(b,.cells vs.toArray T (0,0))::r/\Reps s B l vs/\a0P s B σ r
 | .row rows sz T::σ,m=>∃ b cur r,m=(b,.cells cur T (0,0))::r/\(rows≠[]/\0 < sz/\(∃ cap,cur.size=cap*sz/\rows.length<=cap/\cap<=maxLen)/\(∀ r∈rows,∀ p∈r,p.one=true) /\
   ∃ xs,a0M s B rows xs/\(∀ x∈xs,x.length=sz)/\∀ (j:Nat) (u:Value),xs.flatten[j]?=some u->cur[j]?=some u)/\a0P s B σ r
 | .mp ks vs K::σ,m=>∃ b es clock vv r,m=(b,.map es clock)::r/\(a8n K es ks vv/\Reps s B vs vv)/\a0P s B σ r
 | .mq kv _::σ,m=>∃ b es clock r,m=(b,.map es clock)::r/\b9I es clock kv/\a0P s B σ r
 | .it _ _ _::σ,m=>∃ b mb since sn c0 r,m=(b,.mapIter mb since sn c0)::r/\a0P s B σ r
 | .dead::σ,m=>∃ x r,m=x::r/\a0P s B σ r
def a3d:Obj->Nat
 | .cells cur _ _=>cur.size
 | _=>0
def a1L:MO->Nat × Obj->Nat × Nat × Nat
 | .cells _ _,x=>(x.1,a3d x.2,0)
 | .row rows _ _,x=>(x.1,a3d x.2,rows.length)
 | .mp _ _ _,x=>(x.1,a3d x.2,0)
 | .mq _ _,x=>(x.1,a3d x.2,0)
 | .it _ _ _,x=>(x.1,a3d x.2,0)
 | .dead,x=>(x.1,a3d x.2,0)
def inf (σ:List MO) (m:MS):Inf:=List.zipWith a1L σ m
def BLe (B B':Inf):Prop:=∀ (h:Nat) x,B[h]?=some x->∃ x',B'[h]?=some x'/\(x'=x\/(1<=x.2.2/\x.2.2 < x'.2.2))
theorem BLe.refl (B:Inf):BLe B B:=fun _ x h=>⟨x,h,.inl rfl⟩
theorem BLe.trans {A B C:Inf} (h:BLe A B) (k:BLe B C):BLe A C:=fun i x hx=>by
 obtain ⟨y,hy,h1⟩:=h i x hx
 obtain ⟨z,hz,h2⟩:=k i y hy
 refine ⟨z,hz,?_⟩
 rcases h1 with rfl | h1
 ·exact h2
 ·rcases h2 with rfl | h2
  ·exact .inr h1
  ·exact .inr ⟨h1.1,by omega⟩
theorem BLe.pre {B B':Inf} (h:B <+: B'):BLe B B':=fun i x hx=>by
 obtain ⟨r,rfl⟩:=h
 exact ⟨x,by rw [Q9 (Q8.1 hx).1]; exact hx,.inl rfl⟩
theorem b6W {B B':Inf} (h:BLe B B') {i b n:Nat} (hb:B[i]?=some (b,n,0)):B'[i]?=some (b,n,0):=by
 obtain ⟨x,hx,h1⟩:=h i _ hb
 rcases h1 with rfl | h1
 ·exact hx
 ·simp at h1
mutual
theorem Rep.mono {s t:Hp} {B B':Inf} (h:s.le t) (hB:BLe B B'):∀ (p:PV) (v:Value),Rep s B p v->Rep t B' p v
 | .int ..,v,k=>k
 | .bool ..,v,k=>k
 | .str ..,v,k=>k
 | .undef,v,k=>k
 | .nilS,v,k=>k
 | .nilF,v,k=>k
 | .nilP,v,k=>k
 | .nilI,v,k=>k
 | .nilM,v,k=>k
 | .sl n rows,v,k=>by
  simp only [Rep] at k ⊢
  obtain ⟨xs,h1,h2,h3⟩:=k
  exact ⟨xs,h1.mono h,a0M.mono h hB rows xs h2,h3⟩
 | .cell l off,v,k=>by
  simp only [Rep] at k ⊢
  obtain ⟨b,base,vs,h1,h2,h3⟩:=k
  exact ⟨b,base,vs,h1,Reps.mono h hB l vs h2,fun o u hu=>h _ _ _ (h3 o u hu)⟩
 | .ref h' off,v,k=>by
  simp only [Rep] at k ⊢
  obtain ⟨b,n,h1,h2⟩:=k
  exact ⟨b,n,b6W hB h1,h2⟩
 | .msl h' off len cap _,v,k=>by
  simp only [Rep] at k ⊢
  obtain ⟨b,n,h1,h2⟩:=k
  exact ⟨b,n,b6W hB h1,h2⟩
 | .mp h',v,k=>by
  simp only [Rep] at k ⊢
  obtain ⟨b,n,h1,h2⟩:=k
  exact ⟨b,n,b6W hB h1,h2⟩
 | .rsl h' len sz,v,k=>by
  simp only [Rep] at k ⊢
  obtain ⟨h0,b,cap,h1,b',n,r,h2,h3,h4⟩:=k
  obtain ⟨⟨b2,n2,r2⟩,hx,h5⟩:=hB _ _ h2
  refine ⟨h0,b,cap,h1,b2,n2,r2,hx,?_,?_⟩
  ·rcases h5 with h5 | h5
   ·simp only [Qf] at h5; omega
   ·simp only at h5; omega
  ·intro hr
   rcases h5 with h5 | h5
   ·simp only [Qf] at h5
    obtain ⟨rfl,rfl,rfl⟩:=h5
    exact h4 hr
   ·simp only at h5; omega
 | .rpl h' len r0 sz,v,k=>by
  simp only [Rep] at k ⊢
  obtain ⟨h0,hl,b,cap,h1,b',n,r,h2,h3,h4⟩:=k
  obtain ⟨⟨b2,n2,r2⟩,hx,h5⟩:=hB _ _ h2
  refine ⟨h0,hl,b,cap,h1,b2,n2,r2,hx,?_,?_⟩
  ·rcases h5 with h5 | h5
   ·simp only [Qf] at h5; omega
   ·simp only at h5; omega
  ·intro hr
   rcases h5 with h5 | h5
   ·simp only [Qf] at h5
    obtain ⟨rfl,rfl,rfl⟩:=h5
    exact h4 hr
   ·simp only at h5; omega
 | .fn f caps,v,k=>by
  simp only [Rep] at k ⊢
  obtain ⟨vs,h1,h2⟩:=k
  exact ⟨vs,h1,Reps.mono h hB caps vs h2⟩
 | .agg l,v,k=>by
  simp only [Rep] at k ⊢
  obtain ⟨vs,h1,h2⟩:=k
  exact ⟨vs,h1,Reps.mono h hB l vs h2⟩
 | .tup l,v,k=>by
  simp only [Rep] at k ⊢
  obtain ⟨vs,h1,h2⟩:=k
  exact ⟨vs,h1,Reps.mono h hB l vs h2⟩
theorem Reps.mono {s t:Hp} {B B':Inf} (h:s.le t) (hB:BLe B B'):∀ (l:List PV) (vs:List Value),Reps s B l vs->Reps t B' l vs
 | [],vs,k=>k
 | p::l,vs,k=>by
  simp only [Reps] at k ⊢
  obtain ⟨v,r,h1,h2,h3⟩:=k
  exact ⟨v,r,h1,Rep.mono h hB p v h2,Reps.mono h hB l r h3⟩
theorem a0M.mono {s t:Hp} {B B':Inf} (h:s.le t) (hB:BLe B B'):∀ (ls:List (List PV)) (xs:List (List Value)),a0M s B ls xs->a0M t B' ls xs
 | [],xs,k=>k
 | l::ls,xs,k=>by
  simp only [a0M] at k ⊢
  obtain ⟨x,r,h1,h2,h3⟩:=k
  exact ⟨x,r,h1,Reps.mono h hB l x h2,a0M.mono h hB ls r h3⟩
end
theorem a0P.mono {s t:Hp} {B B':Inf} (h:s.le t) (hB:BLe B B'):∀ (σ:List MO) (m:MS),a0P s B σ m->a0P t B' σ m
 | [],m,k=>k
 | .cells l T::σ,m,k=>by
  simp only [a0P] at k ⊢
  obtain ⟨b,vs,r,h1,h2,h3⟩:=k
  exact ⟨b,vs,r,h1,Reps.mono h hB l vs h2,a0P.mono h hB σ r h3⟩
 | .row rows sz T::σ,m,k=>by
  simp only [a0P] at k ⊢
  obtain ⟨b,cur,r,h1,⟨a1,a2,a3,a4,xs,a5,a6,a7⟩,h3⟩:=k
  exact ⟨b,cur,r,h1,⟨a1,a2,a3,a4,xs,a0M.mono h hB rows xs a5,a6,a7⟩,a0P.mono h hB σ r h3⟩
 | .mp ks vs K::σ,m,k=>by
  simp only [a0P] at k ⊢
  obtain ⟨b,es,clock,vv,r,h1,h2,h3⟩:=k
  exact ⟨b,es,clock,vv,r,h1,⟨h2.1,Reps.mono h hB vs vv h2.2⟩,a0P.mono h hB σ r h3⟩
 | .mq kv ver::σ,m,k=>by
  simp only [a0P] at k ⊢
  obtain ⟨b,es,clock,r,h1,h2,h3⟩:=k
  exact ⟨b,es,clock,r,h1,h2,a0P.mono h hB σ r h3⟩
 | .it h' ver seen::σ,m,k=>by
  simp only [a0P] at k ⊢
  obtain ⟨b,mb,since,sn,c0,r,h1,h3⟩:=k
  exact ⟨b,mb,since,sn,c0,r,h1,a0P.mono h hB σ r h3⟩
 | .dead::σ,m,k=>by
  simp only [a0P] at k ⊢
  obtain ⟨x,r,h1,h3⟩:=k
  exact ⟨x,r,h1,a0P.mono h hB σ r h3⟩
section
variable {s:Hp} {B:Inf}
theorem Reps.length:∀ {l:List PV} {vs:List Value},Reps s B l vs->vs.length=l.length
 | [],vs,k=>by simp only [Reps] at k; subst k; rfl
 | p::l,vs,k=>by
  simp only [Reps] at k
  obtain ⟨v,r,rfl,_,h⟩:=k
  simp [Reps.length h]
theorem a0M.length:∀ {l:List (List PV)} {vs:List (List Value)},a0M s B l vs->vs.length=l.length
 | [],vs,k=>by simp only [a0M] at k; subst k; rfl
 | p::l,vs,k=>by
  simp only [a0M] at k
  obtain ⟨v,r,rfl,_,h⟩:=k
  simp [a0M.length h]
theorem Reps.get:∀ {l:List PV} {vs:List Value},Reps s B l vs->∀ {i:Nat} {p:PV},l[i]?=some p->∃ v,vs[i]?=some v/\Rep s B p v
 | [],vs,k,i,p,h=>by simp at h
 | q::l,vs,k,i,p,h=>by
  simp only [Reps] at k
  obtain ⟨v,r,rfl,h1,h2⟩:=k
  cases i with
  | zero=>simp only [QL,Q0] at h; subst h; exact ⟨v,rfl,h1⟩
  | succ i=>simpa using Reps.get h2 (by simpa using h)
theorem a0M.get:∀ {l:List (List PV)} {vs:List (List Value)},a0M s B l vs->∀ {i:Nat} {p:List PV},l[i]?=some p->∃ v,vs[i]?=some v/\Reps s B p v
 | [],vs,k,i,p,h=>by simp at h
 | q::l,vs,k,i,p,h=>by
  simp only [a0M] at k
  obtain ⟨v,r,rfl,h1,h2⟩:=k
  cases i with
  | zero=>simp only [QL,Q0] at h; subst h; exact ⟨v,rfl,h1⟩
  | succ i=>simpa using a0M.get h2 (by simpa using h)
theorem Reps.append:∀ {l l':List PV} {vs vs':List Value},Reps s B l vs->Reps s B l' vs'->Reps s B (l++l') (vs++vs')
 | [],l',vs,vs',h,h'=>by simp only [Reps] at h; subst h; exact h'
 | p::l,l',vs,vs',h,h'=>by
  simp only [Reps] at h
  obtain ⟨v,r,rfl,h1,h2⟩:=h
  exact ⟨v,r++vs',rfl,h1,Reps.append h2 h'⟩
theorem a0M.append:∀ {l l':List (List PV)} {vs vs':List (List Value)},a0M s B l vs->a0M s B l' vs'->a0M s B (l++l') (vs++vs')
 | [],l',vs,vs',h,h'=>by simp only [a0M] at h; subst h; exact h'
 | p::l,l',vs,vs',h,h'=>by
  simp only [a0M] at h
  obtain ⟨v,r,rfl,h1,h2⟩:=h
  exact ⟨v,r++vs',rfl,h1,a0M.append h2 h'⟩
theorem Reps.drop:∀ {l:List PV} {vs:List Value} (n:Nat),Reps s B l vs->Reps s B (l.drop n) (vs.drop n)
 | l,vs,0,h=>by simpa using h
 | [],vs,n+1,h=>by simp only [Reps] at h; subst h; simp [Reps]
 | p::l,vs,n+1,h=>by
  simp only [Reps] at h
  obtain ⟨v,r,rfl,_,h2⟩:=h
  simpa using Reps.drop n h2
theorem Reps.take:∀ {l:List PV} {vs:List Value} (n:Nat),Reps s B l vs->Reps s B (l.take n) (vs.take n)
 | l,vs,0,h=>by simp [Reps]
 | [],vs,n+1,h=>by simp only [Reps] at h; subst h; simp [Reps]
 | p::l,vs,n+1,h=>by
  simp only [Reps] at h
  obtain ⟨v,r,rfl,h1,h2⟩:=h
  simp only [QM]
  exact ⟨v,_,rfl,h1,Reps.take n h2⟩
theorem a0M.drop:∀ {l:List (List PV)} {vs:List (List Value)} (n:Nat),a0M s B l vs->a0M s B (l.drop n) (vs.drop n)
 | l,vs,0,h=>by simpa using h
 | [],vs,n+1,h=>by simp only [a0M] at h; subst h; simp [a0M]
 | p::l,vs,n+1,h=>by
  simp only [a0M] at h
  obtain ⟨v,r,rfl,_,h2⟩:=h
  simpa using a0M.drop n h2
theorem a0M.take:∀ {l:List (List PV)} {vs:List (List Value)} (n:Nat),a0M s B l vs->a0M s B (l.take n) (vs.take n)
 | l,vs,0,h=>by simp [a0M]
 | [],vs,n+1,h=>by simp only [a0M] at h; subst h; simp [a0M]
 | p::l,vs,n+1,h=>by
  simp only [a0M] at h
  obtain ⟨v,r,rfl,h1,h2⟩:=h
  simp only [QM]
  exact ⟨v,_,rfl,h1,a0M.take n h2⟩
theorem a0P.length:∀ {σ:List MO} {m:MS},a0P s B σ m->m.length=σ.length
 | [],m,k=>by simp only [a0P] at k; subst k; rfl
 | .cells l T::σ,m,k=>by
  simp only [a0P] at k
  obtain ⟨b,vs,r,rfl,_,h⟩:=k
  simp [a0P.length h]
 | .row rows sz T::σ,m,k=>by
  simp only [a0P] at k
  obtain ⟨b,vs,r,rfl,_,h⟩:=k
  simp [a0P.length h]
 | .mp ks vs K::σ,m,k=>by
  simp only [a0P] at k
  obtain ⟨b,es,clock,vv,r,rfl,_,h⟩:=k
  simp [a0P.length h]
 | .mq kv ver::σ,m,k=>by
  simp only [a0P] at k
  obtain ⟨b,es,clock,r,rfl,_,h⟩:=k
  simp [a0P.length h]
 | .it h' ver seen::σ,m,k=>by
  simp only [a0P] at k
  obtain ⟨b,mb,since,sn,c0,r,rfl,h⟩:=k
  simp [a0P.length h]
 | .dead::σ,m,k=>by
  simp only [a0P] at k
  obtain ⟨x,r,rfl,h⟩:=k
  simp [a0P.length h]
theorem a1C {σ:List MO} {m:MS} {i:Nat} {o:MO} {x:Nat × Obj} (h:σ[i]?=some o) (k:m[i]?=some x):(inf σ m)[i]?=some (a1L o x):=by
 simp [inf,List.getElem?_zipWith,h,k]
theorem c3P (σ:List MO) (m:MS) (n:Nat):inf (σ.take n) (m.take n)=(inf σ m).take n:=by simp [inf,List.take_zipWith]
def a3m (s:Hp) (B:Inf):MO->Nat × Obj->Prop
 | .cells l T,x=>∃ vs,x.2=.cells vs.toArray T (0,0)/\Reps s B l vs
 | .row rows sz T,x=>∃ cur,x.2=.cells cur T (0,0)/\rows≠[]/\0 < sz/\(∃ cap,cur.size=cap*sz/\rows.length<=cap/\cap<=maxLen)/\(∀ r∈rows,∀ p∈r,p.one=true) /\
   ∃ xs,a0M s B rows xs/\(∀ x∈xs,x.length=sz)/\∀ (j:Nat) (u:Value),xs.flatten[j]?=some u->cur[j]?=some u
 | .mp ks vs K,x=>∃ es clock vv,x.2=.map es clock/\a8n K es ks vv/\Reps s B vs vv
 | .mq kv _,x=>∃ es clock,x.2=.map es clock/\b9I es clock kv
 | .it _ _ _,x=>∃ mb since sn c0,x.2=.mapIter mb since sn c0
 | .dead,_=>True
theorem a2r {o:MO} {σ:List MO} {m:MS}:a0P s B (o::σ) m↔∃ x r,m=x::r/\a3m s B o x/\a0P s B σ r:=by
 cases o with
 | cells l T =>
  simp only [a0P,a3m]
  constructor
  ·rintro ⟨b,vs,r,rfl,h,k⟩; exact ⟨_,r,rfl,⟨vs,rfl,h⟩,k⟩
  ·rintro ⟨⟨b,o⟩,r,rfl,⟨vs,h0,h⟩,k⟩; simp only at h0; subst h0; exact ⟨b,vs,r,rfl,h,k⟩
 | row rows sz T =>
  simp only [a0P,a3m]
  constructor
  ·rintro ⟨b,cur,r,rfl,h,k⟩; exact ⟨_,r,rfl,⟨cur,rfl,h⟩,k⟩
  ·rintro ⟨⟨b,o⟩,r,rfl,⟨cur,h0,h⟩,k⟩; simp only at h0; subst h0; exact ⟨b,cur,r,rfl,h,k⟩
 | mp ks vs K =>
  simp only [a0P,a3m]
  constructor
  ·rintro ⟨b,es,clock,vv,r,rfl,h,k⟩; exact ⟨_,r,rfl,⟨es,clock,vv,rfl,h.1,h.2⟩,k⟩
  ·rintro ⟨⟨b,o⟩,r,rfl,⟨es,clock,vv,h0,h,h'⟩,k⟩; simp only at h0; subst h0; exact ⟨b,es,clock,vv,r,rfl,⟨h,h'⟩,k⟩
 | mq kv ver =>
  simp only [a0P,a3m]
  constructor
  ·rintro ⟨b,es,clock,r,rfl,h,k⟩; exact ⟨_,r,rfl,⟨es,clock,rfl,h⟩,k⟩
  ·rintro ⟨⟨b,o⟩,r,rfl,⟨es,clock,h0,h⟩,k⟩; simp only at h0; subst h0; exact ⟨b,es,clock,r,rfl,h,k⟩
 | it h' ver seen =>
  simp only [a0P,a3m]
  constructor
  ·rintro ⟨b,mb,since,sn,c0,r,rfl,k⟩; exact ⟨_,r,rfl,⟨mb,since,sn,c0,rfl⟩,k⟩
  ·rintro ⟨⟨b,o⟩,r,rfl,⟨mb,since,sn,c0,h0⟩,k⟩; simp only at h0; subst h0; exact ⟨b,mb,since,sn,c0,r,rfl,k⟩
 | dead =>
  simp only [a0P,a3m]
  constructor
  ·rintro ⟨x,r,rfl,k⟩; exact ⟨x,r,rfl,trivial,k⟩
  ·rintro ⟨x,r,rfl,_,k⟩; exact ⟨x,r,rfl,k⟩
theorem a0P.obj:∀ {σ:List MO} {m:MS},a0P s B σ m->∀ {i:Nat} {o:MO},σ[i]?=some o->∃ x,m[i]?=some x/\a3m s B o x
 | [],m,k,i,o,h=>by simp at h
 | o'::σ,m,k,i,o,h=>by
  obtain ⟨x,r,rfl,h1,h2⟩:=a2r.1 k
  cases i with
  | zero=>simp only [QL,Q0] at h; subst h; exact ⟨x,rfl,h1⟩
  | succ i=>simpa using a0P.obj h2 (by simpa using h)
theorem a0P.get {σ:List MO} {m:MS} (k:a0P s B σ m) {i:Nat} {l:List PV} {T:Nat} (h:σ[i]?=some (.cells l T)):∃ b vs,m[i]?=some (b,.cells vs.toArray T (0,0))/\Reps s B l vs:=by
 obtain ⟨⟨b,o⟩,h1,vs,h2,h3⟩:=k.obj h
 simp only at h2; subst h2
 exact ⟨b,vs,h1,h3⟩
theorem a0P.append:∀ {σ σ':List MO} {m m':MS},a0P s B σ m->a0P s B σ' m'->a0P s B (σ++σ') (m++m')
 | [],σ',m,m',h,h'=>by simp only [a0P] at h; subst h; exact h'
 | o::σ,σ',m,m',h,h'=>by
  obtain ⟨x,r,rfl,h1,h2⟩:=a2r.1 h
  exact a2r.2 ⟨x,r++m',rfl,h1,a0P.append h2 h'⟩
theorem a0P.take:∀ {σ:List MO} {m:MS} (n:Nat),a0P s B σ m->a0P s B (σ.take n) (m.take n)
 | σ,m,0,h=>by simp [a0P]
 | [],m,n+1,h=>by simp only [a0P] at h; subst h; simp [a0P]
 | o::σ,m,n+1,h=>by
  obtain ⟨x,r,rfl,h1,h2⟩:=a2r.1 h
  simp only [QM]
  exact a2r.2 ⟨x,_,rfl,h1,a0P.take n h2⟩
theorem a0P.set:∀ {σ:List MO} {m:MS} {i:Nat} {o:MO} {x:Nat × Obj},a0P s B σ m->i < σ.length->a3m s B o x->a0P s B (σ.set i o) (m.set i x)
 | [],m,i,o,x,k,h,_=>by simp at h
 | o'::σ,m,i,o,x,k,h,h'=>by
  obtain ⟨y,r,rfl,h1,h2⟩:=a2r.1 k
  cases i with
  | zero=>exact a2r.2 ⟨x,r,rfl,h',h2⟩
  | succ i=>exact a2r.2 ⟨y,_,rfl,h1,a0P.set h2 (by simpa using h) h'⟩
theorem a3m.mono {s t:Hp} {B B':Inf} (h:s.le t) (hB:BLe B B') {o:MO} {x:Nat × Obj} (k:a3m s B o x):a3m t B' o x:=by
 cases o with
 | cells l T=>obtain ⟨vs,h1,h2⟩:=k; exact ⟨vs,h1,Reps.mono h hB l vs h2⟩
 | row rows sz T=>obtain ⟨cur,h1,a1,a2,a3,a4,xs,a5,a6,a7⟩:=k; exact ⟨cur,h1,a1,a2,a3,a4,xs,a0M.mono h hB rows xs a5,a6,a7⟩
 | mp ks vs K=>obtain ⟨es,clock,vv,h1,h2,h3⟩:=k; exact ⟨es,clock,vv,h1,h2,Reps.mono h hB vs vv h3⟩
 | mq kv ver=>exact k
 | it h' ver seen=>exact k
 | dead=>exact k
theorem Rep.fine {p:PV} {v:Value} (h:Rep s B p v) (h1:p.one=true):a2Y v=true:=by
 cases p<;>simp only [PV.one] at h1<;>simp only [Rep] at h
 case sl=>obtain ⟨_,h,_⟩:=h; exact h.fine
 case cell=>obtain ⟨_,_,_,rfl,_⟩:=h; rfl
 case ref=>obtain ⟨_,_,_,rfl⟩:=h; rfl
 case mp=>obtain ⟨_,_,_,rfl⟩:=h; rfl
 case msl=>obtain ⟨_,_,_,rfl⟩:=h; rfl
 case rsl=>obtain ⟨_,_,_,rfl,_⟩:=h; rfl
 case rpl=>obtain ⟨_,_,_,_,rfl,_⟩:=h; rfl
 case fn=>obtain ⟨_,rfl,_⟩:=h; rfl
 all_goals first | (subst h; rfl) | cases h1
theorem Rep.len {p:PV} {v:Value} (h:Rep s B p v):a4Q v=p.len:=by
 cases p<;>simp only [Rep] at h
 case sl=>obtain ⟨_,h,h',_⟩:=h; rw [h.len,h'.length]; rfl
 case cell=>obtain ⟨_,_,_,rfl,_⟩:=h; rfl
 case ref=>obtain ⟨_,_,_,rfl⟩:=h; rfl
 case mp=>obtain ⟨_,_,_,rfl⟩:=h; rfl
 case msl=>obtain ⟨_,_,_,rfl⟩:=h; rfl
 case rsl=>obtain ⟨_,_,_,rfl,_⟩:=h; rfl
 case rpl=>obtain ⟨_,_,_,_,rfl,_⟩:=h; rfl
 case fn=>obtain ⟨_,rfl,_⟩:=h; rfl
 case agg=>obtain ⟨_,rfl,_⟩:=h; rfl
 case tup=>obtain ⟨_,rfl,_⟩:=h; rfl
 all_goals (subst h; rfl)
theorem Rep.nil {p:PV} {v:Value} (h:Rep s B p v) (hn:p.nilOk=true):b1a v=p.isNil:=by
 cases p<;>simp only [Rep] at h
 case sl n rows =>
  obtain ⟨xs,⟨_,a,cap,rfl,_,h⟩,h',_⟩:=h
  cases rows with
  | nil=>simp [PV.nilOk] at hn
  | cons r rows =>
   obtain ⟨b,o,rfl,_⟩:=h (by intro h0; subst h0; have:=h'.length; simp at this)
   rfl
 case cell=>obtain ⟨_,_,_,rfl,_⟩:=h; rfl
 case ref=>obtain ⟨_,_,_,rfl⟩:=h; rfl
 case mp=>obtain ⟨_,_,_,rfl⟩:=h; rfl
 case msl=>obtain ⟨_,_,_,rfl⟩:=h; rfl
 case rsl=>obtain ⟨_,_,_,rfl,_⟩:=h; rfl
 case rpl=>obtain ⟨_,_,_,_,rfl,_⟩:=h; rfl
 case fn=>obtain ⟨_,rfl,_⟩:=h; rfl
 case agg=>obtain ⟨_,rfl,_⟩:=h; rfl
 case tup=>obtain ⟨_,rfl,_⟩:=h; rfl
 all_goals (subst h; rfl)
theorem Rep.noStr {p:PV} {v:Value} (h:Rep s B p v) (hp:∀ l,p≠.str l):∀ b,v≠.string b:=by
 intro b hb
 subst hb
 cases p<;>simp only [Rep,reduceCtorEq] at h
 case str l=>exact hp l rfl
 case undef=>simp [undef] at h
 case sl=>obtain ⟨_,⟨_,_,_,h,_⟩,_⟩:=h; cases h
 case cell=>obtain ⟨_,_,_,h,_⟩:=h; cases h
 case ref=>obtain ⟨_,_,_,h⟩:=h; cases h
 case msl=>obtain ⟨_,_,_,h⟩:=h; cases h
 case mp=>obtain ⟨_,_,_,h⟩:=h; cases h
 case rsl=>obtain ⟨_,_,_,h,_⟩:=h; cases h
 case rpl=>obtain ⟨_,_,_,_,h,_⟩:=h; cases h
 case fn=>obtain ⟨_,h,_⟩:=h; cases h
 case agg=>obtain ⟨_,h,_⟩:=h; cases h
 case tup=>obtain ⟨_,h,_⟩:=h; cases h
theorem Rep.sLen {p:PV} {v:Value} (h:Rep s B p v):b0Q v=p.sLen:=by
 by_cases hp:∃ l,p=.str l
 ·obtain ⟨l,rfl⟩:=hp
  simp only [Rep] at h; subst h; simp [b0Q,PV.sLen]
 ·have hv:=h.noStr (fun l e=>hp ⟨l,e⟩)
  have e1:b0Q v=0:=by cases v<;>first | rfl | exact absurd rfl (hv _)
  have e2:p.sLen=0:=by cases p<;>first | rfl | exact absurd ⟨_,rfl⟩ hp
  rw [e1,e2]
theorem Rep.sAt {p:PV} {v:Value} (h:Rep s B p v) (i:Int):b5R v i=p.sAt i:=by
 by_cases hp:∃ l,p=.str l
 ·obtain ⟨l,rfl⟩:=hp
  simp only [Rep] at h; subst h; simp [b5R,PV.sAt]
 ·have hv:=h.noStr (fun l e=>hp ⟨l,e⟩)
  have e1:b5R v i=0:=by cases v<;>first | rfl | exact absurd rfl (hv _)
  have e2:p.sAt i=0:=by cases p<;>first | rfl | exact absurd ⟨_,rfl⟩ hp
  rw [e1,e2]
theorem Rep.sIs {p:PV} {v:Value} (h:Rep s B p v) (l:List UInt8):b6c l v=p.sIs l:=by
 by_cases hp:∃ l,p=.str l
 ·obtain ⟨l',rfl⟩:=hp
  simp only [Rep] at h; subst h; simp [b6c,PV.sIs]
 ·have hv:=h.noStr (fun l e=>hp ⟨l,e⟩)
  have e1:b6c l v=false:=by cases v<;>first | rfl | exact absurd rfl (hv _)
  have e2:p.sIs l=false:=by cases p<;>first | rfl | exact absurd ⟨_,rfl⟩ hp
  rw [e1,e2]
theorem Rep.sEq {p q:PV} {v u:Value} (h:Rep s B p v) (k:Rep s B q u):b4e v u=p.sEq q:=by
 by_cases hp:∃ l,p=.str l
 ·obtain ⟨l,rfl⟩:=hp
  simp only [Rep] at h; subst h
  by_cases hq:∃ l,q=.str l
  ·obtain ⟨l',rfl⟩:=hq
   simp only [Rep] at k; subst k; simp [b4e,PV.sEq]
  ·have hv:=k.noStr (fun l e=>hq ⟨l,e⟩)
   have e1:∀ x,b4e (.string x) u=false:=by intro x; cases u<;>first | rfl | exact absurd rfl (hv _)
   have e2:PV.sEq (.str l) q=false:=by cases q<;>first | rfl | exact absurd ⟨_,rfl⟩ hq
   rw [e1,e2]
 ·have hv:=h.noStr (fun l e=>hp ⟨l,e⟩)
  have e1:b4e v u=false:=by cases v<;>first | rfl | exact absurd rfl (hv _)
  have e2:p.sEq q=false:=by cases p<;>first | rfl | exact absurd ⟨_,rfl⟩ hp
  rw [e1,e2]
theorem Rep.kind {p:PV} {v:Value} (h:Rep s B p v) (k:Nat):a4w k v=p.isKind k:=by
 cases p<;>simp only [Rep] at h
 case sl n rows =>
  obtain ⟨xs,⟨_,a,cap,rfl,_,h⟩,h',_⟩:=h
  match k with | 0=>rfl | 1=>rfl | 2=>rfl | 3=>rfl | 4=>rfl | k+5=>rfl
 case cell=>obtain ⟨_,_,_,rfl,_⟩:=h; match k with | 0=>rfl | 1=>rfl | 2=>rfl | 3=>rfl | 4=>rfl | k+5=>rfl
 case ref=>obtain ⟨_,_,_,rfl⟩:=h; match k with | 0=>rfl | 1=>rfl | 2=>rfl | 3=>rfl | 4=>rfl | k+5=>rfl
 case mp=>obtain ⟨_,_,_,rfl⟩:=h; match k with | 0=>rfl | 1=>rfl | 2=>rfl | 3=>rfl | 4=>rfl | k+5=>rfl
 case msl=>obtain ⟨_,_,_,rfl⟩:=h; match k with | 0=>rfl | 1=>rfl | 2=>rfl | 3=>rfl | 4=>rfl | k+5=>rfl
 case rsl=>obtain ⟨_,_,_,rfl,_⟩:=h; match k with | 0=>rfl | 1=>rfl | 2=>rfl | 3=>rfl | 4=>rfl | k+5=>rfl
 case rpl=>obtain ⟨_,_,_,_,rfl,_⟩:=h; match k with | 0=>rfl | 1=>rfl | 2=>rfl | 3=>rfl | 4=>rfl | k+5=>rfl
 case fn=>obtain ⟨_,rfl,_⟩:=h; match k with | 0=>rfl | 1=>rfl | 2=>rfl | 3=>rfl | 4=>rfl | k+5=>rfl
 case agg=>obtain ⟨_,rfl,_⟩:=h; match k with | 0=>rfl | 1=>rfl | 2=>rfl | 3=>rfl | 4=>rfl | k+5=>rfl
 case tup=>obtain ⟨_,rfl,_⟩:=h; match k with | 0=>rfl | 1=>rfl | 2=>rfl | 3=>rfl | 4=>rfl | k+5=>rfl
 all_goals (subst h; match k with | 0=>rfl | 1=>rfl | 2=>rfl | 3=>rfl | 4=>rfl | k+5=>rfl)
end
def c9w (x y:Nat × Obj) (seen:List (List Int)):Prop :=
 ∃ b' b clock sn es,x=(b',.mapIter (some b) clock sn clock)/\y=(b,.map es clock)/\(∀ e∈es.toList,e.born < clock) /\
  (∀ e∈es.toList,sn.contains e.born=true↔∃ k∈seen,e.key=qkey k)/\(∀ k,seen.getLast?=some k->∃ e∈es.toList,∃ sn':Array Nat,sn=sn'.push e.born/\e.key=qkey k)
def Coh (σ:List MO) (m:MS):Prop :=
 ∀ (i h ver:Nat) (seen:List (List Int)),σ[i]?=some (.it h ver seen)->∃ kv ver',σ[h]?=some (.mq kv ver')/\ver<=ver'/\(ver=ver'->∃ x y,m[i]?=some x/\m[h]?=some y/\c9w x y seen)
def MO.Step (o o':MO) (same:Prop):Prop:=match o,o' with
 | .mq kv v,.mq kv' v'=>v<=v'/\(v=v'->kv=kv'/\same)
 | .it h v sn,.it h' v' sn'=>h=h'/\v=v'/\sn.length<=sn'.length/\(sn.length=sn'.length->sn=sn'/\same)
 | .it ..,.dead | .dead,.dead=>True
 | .cells ..,.cells .. | .cells ..,.row .. | .cells ..,.mp .. | .row ..,.cells .. | .row ..,.row .. | .row ..,.mp .. | .mp ..,.cells .. | .mp ..,.row .. | .mp ..,.mp ..=>True
 | _,_=>False
theorem MO.Step.refl (o:MO) {p:Prop} (h:p):MO.Step o o p:=by
 cases o<;>simp [MO.Step,h]
theorem MO.Step.trans {a b c:MO} {p q r:Prop} (h:MO.Step a b p) (k:MO.Step b c q) (hr:p->q->r):MO.Step a c r:=by
 cases a<;>cases b<;>simp only [MO.Step] at h<;>cases c<;>simp only [MO.Step] at k ⊢
 ·obtain ⟨h1,h2⟩:=h
  obtain ⟨k1,k2⟩:=k
  refine ⟨Nat.le_trans h1 k1,fun he=>?_⟩
  obtain ⟨e1,e2⟩:=h2 (by omega)
  obtain ⟨e3,e4⟩:=k2 (by omega)
  exact ⟨e1.trans e3,hr e2 e4⟩
 ·obtain ⟨rfl,rfl,h3,h4⟩:=h
  obtain ⟨rfl,rfl,k3,k4⟩:=k
  refine ⟨rfl,rfl,Nat.le_trans h3 k3,fun he=>?_⟩
  obtain ⟨e1,e2⟩:=h4 (by omega)
  obtain ⟨e3,e4⟩:=k4 (by omega)
  exact ⟨e1.trans e3,hr e2 e4⟩
def a6u (σ:List MO) (m:MS) (σ':List MO) (m':MS):Prop:=∀ (i:Nat) o,σ[i]?=some o->∃ o',σ'[i]?=some o'/\MO.Step o o' (m'[i]?=m[i]?)
theorem a6u.refl (σ:List MO) (m:MS):a6u σ m σ m:=fun _ o h=>⟨o,h,MO.Step.refl o rfl⟩
theorem a6u.trans {σ σ' σ'':List MO} {m m' m'':MS} (h:a6u σ m σ' m') (k:a6u σ' m' σ'' m''):a6u σ m σ'' m'':=fun i o ho=>by
 obtain ⟨o',h1,h2⟩:=h i o ho
 obtain ⟨o'',k1,k2⟩:=k i o' h1
 exact ⟨o'',k1,h2.trans k2 (fun a b=>b.trans a)⟩
structure Le2 (σ:List MO) (m:MS) (σ':List MO) (m':MS):Prop where
 ble:BLe (inf σ m) (inf σ' m')
 stay:a6u σ m σ' m'
theorem Le2.refl (σ:List MO) (m:MS):Le2 σ m σ m:=⟨BLe.refl _,a6u.refl _ _⟩
theorem Le2.trans {σ σ' σ'':List MO} {m m' m'':MS} (h:Le2 σ m σ' m') (k:Le2 σ' m' σ'' m''):Le2 σ m σ'' m'':=⟨h.ble.trans k.ble,h.stay.trans k.stay⟩
def MO.isIt:MO->Bool
 | .it ..=>true
 | _=>false
theorem Coh.of_none {σ:List MO} {m:MS} (h:∀ o∈σ,o.isIt=false):Coh σ m:=fun i hd ver seen hi=>by
 have:=h _ (QN hi); simp [MO.isIt] at this
theorem Coh.append {σ:List MO} {m:MS} {o:MO} {x:Nat × Obj} (h:Coh σ m) (ho:o.isIt=false) (hl:m.length=σ.length):Coh (σ++[o]) (m++[x]):=fun i hd ver seen hi=>by
 rw [Xg] at hi
 split at hi
 ·rename_i hlt
  obtain ⟨kv,ver',h1,h2,h3⟩:=h i hd ver seen hi
  have hlt2:=(Q8.1 h1).1
  refine ⟨kv,ver',by rw [Q9 hlt2]; exact h1,h2,fun he=>?_⟩
  obtain ⟨x',y',e1,e2,e3⟩:=h3 he
  exact ⟨x',y',by rw [Q9 (by omega)]; exact e1,by rw [Q9 (by omega)]; exact e2,e3⟩
 ·have:=QN hi
  simp only [List.mem_singleton] at this
  subst this; simp [MO.isIt] at ho
theorem Coh.set {σ:List MO} {m:MS} {j:Nat} {o o0:MO} {x:Nat × Obj} (h:Coh σ m) (h0:σ[j]?=some o0) (ho:o.isIt=false) (ho0:o0.isIt=false) (hst:MO.Step o0 o False):Coh (σ.set j o) (m.set j x):=fun i hd ver seen hi=>by
 rw [Qv] at hi
 split at hi
 ·rename_i hij
  split at hi
  ·simp only [Q0] at hi; subst hi; simp [MO.isIt] at ho
  ·cases hi
 ·rename_i hij
  obtain ⟨kv,ver',h1,h2,h3⟩:=h i hd ver seen hi
  by_cases hjh:j=hd
  ·subst hjh
   rw [h0] at h1
   simp only [Q0] at h1
   subst h1
   cases o<;>simp only [MO.Step] at hst
   rename_i kv2 ver2
   refine ⟨kv2,ver2,?_,by omega,fun he=>?_⟩
   ·rw [Xh (Q8.1 h0).1]
   ·exact absurd (hst.2 (by omega)).2 id
  ·refine ⟨kv,ver',by rw [Qk hjh]; exact h1,h2,fun he=>?_⟩
   obtain ⟨x',y',e1,e2,e3⟩:=h3 he
   exact ⟨x',y',by rw [Qk hij]; exact e1,by rw [Qk hjh]; exact e2,e3⟩
theorem a6u.append {σ:List MO} {m:MS} (o:List MO) (x:MS) (hl:m.length=σ.length):a6u σ m (σ++o) (m++x):=fun i o' h=>by
 have hlt:=(Q8.1 h).1
 exact ⟨o',by rw [Q9 hlt]; exact h,MO.Step.refl _ (by rw [Q9 (by omega)])⟩
theorem a6u.set {σ:List MO} {m:MS} {j:Nat} {o o0:MO} {x:Nat × Obj} (h0:σ[j]?=some o0) (hst:MO.Step o0 o False):a6u σ m (σ.set j o) (m.set j x):=fun i o' h=>by
 by_cases hij:j=i
 ·subst hij
  rw [h0] at h
  simp only [Q0] at h
  subst h
  exact ⟨o,by rw [Xh (Q8.1 h0).1],hst.trans (MO.Step.refl o True.intro) (fun h _=>h.elim)⟩
 ·exact ⟨o',by rw [Qk hij]; exact h,MO.Step.refl _ (by rw [Qk hij])⟩
end Go.Sx
namespace Go.Sx
open Go.RowKit
structure PEnv where
 i:List Int
 b:List Bool
 v:List PV
 m:List MO:=[]
 k:Nat:=0
 deriving Inhabited
def PEnv.at (ρ:PEnv) (n:Nat):PV:=ρ.v.getD n (.bool false)
def IE.pe (ρ:PEnv):IE->Int
 | .a n=>ρ.i.getD n 0
 | .l z=>z
 | .add x y=>x.pe ρ+y.pe ρ
 | .sub x y=>x.pe ρ-y.pe ρ
 | .mul x y=>x.pe ρ*y.pe ρ
 | .tdiv x y=>(x.pe ρ).tdiv (y.pe ρ)
 | .tmod x y=>(x.pe ρ).tmod (y.pe ρ)
 | .mn x y=>mnI (x.pe ρ) (y.pe ρ)
 | .mx x y=>mxI (x.pe ρ) (y.pe ρ)
 | .ifeq p q x y=>b7n (p.pe ρ) (q.pe ρ) (x.pe ρ) (y.pe ρ)
 | .wr k x=>k.wrap (x.pe ρ)
 | .slen n=>(ρ.at n).len
 | .stl n=>(ρ.at n).sLen
 | .sat n i=>(ρ.at n).sAt (i.pe ρ)
def BE.pe (ρ:PEnv):BE->Bool
 | .t b=>b
 | .a n=>ρ.b.getD n false
 | .lt x y=>ltB (x.pe ρ) (y.pe ρ)
 | .le x y=>leB (x.pe ρ) (y.pe ρ)
 | .eq x y=>eqB (x.pe ρ) (y.pe ρ)
 | .not x=>!x.pe ρ
 | .and x y=>x.pe ρ&&y.pe ρ
 | .or x y=>x.pe ρ||y.pe ρ
 | .nil n=>(ρ.at n).isNil
 | .is k n=>(ρ.at n).isKind k
 | .seq n m=>(ρ.at n).sEq (ρ.at m)
 | .sis n l=>(ρ.at n).sIs l
def BE.safe (ρ:PEnv):BE->Bool
 | .not x=>x.safe ρ
 | .and x y=>x.safe ρ&&y.safe ρ
 | .or x y=>x.safe ρ&&y.safe ρ
 | .nil n=>(ρ.at n).nilOk
 | _=>true
def PV.on (off:Nat):PV->Option PV
 | .cell l o=>some (.cell l (o+off))
 | .ref h o=>some (.ref h (o+off))
 | _=>none
def PV.el (i:Int) (size off:Nat):PV->Option PV
 | .msl h o len _ sz=>if 0<=i/\i < len/\sz=size then some (.ref h (o+(i.toNat*size+off))) else none
 | _=>none
mutual
def SV.pv (ρ:PEnv) (own:Nat->Option (List PV)):SV->Option PV
 | .int k e=>some (.int k (e.pe ρ))
 | .bool b=>if b.safe ρ then some (.bool (b.pe ρ)) else none
 | .va n=>ρ.v[n]?
 | .junk _=>none
 | .str s=>some (.str s)
 | .undef=>some .undef
 | .nilS=>some .nilS
 | .nilF=>some .nilF
 | .nilP=>some .nilP
 | .nilI=>some .nilI
 | .nilM=>some .nilM
 | .ptr k off=>(own k).map fun l=>.cell l off
 | .sl _ _=>none
 | .slc _ _ _=>none
 | .ea n i size off=>(ρ.v[n]?).bind (PV.el (i.pe ρ) size off)
 | .pa n off=>(ρ.v[n]?).bind (PV.on off)
 | .agg cs=>(SV.pvs ρ own cs).map .agg
 | .tup cs=>(SV.pvs ρ own cs).map .tup
 | .fn f n cap=>if n=0 then (SV.pvs ρ own cap).map (.fn f) else none
 | .fs _=>none
def SV.pvs (ρ:PEnv) (own:Nat->Option (List PV)):List SV->Option (List PV)
 | []=>some []
 | x::l=>(SV.pv ρ own x).bind fun p=>(SV.pvs ρ own l).map (p::·)
end
def noOwn:Nat->Option (List PV):=fun _=>none
def a6e (ρ:PEnv) (H:List Blk):Nat->Nat->Option (List PV)
 | 0,_=>none
 | d+1,k=>match H[k]? with
  | some (.cells cs _ true)=>SV.pvs ρ (a6e ρ H d) cs
  | _=>none
structure EnvRep (s:Hp) (ρp:PEnv) (ρ:Env):Prop where
 i:ρ.i=ρp.i
 b:ρ.b=ρp.b
 v:Reps s (inf ρp.m ρ.m) ρp.v ρ.v
 m:a0P s (inf ρp.m ρ.m) ρp.m ρ.m
 k:ρ.k=ρp.k
 one:∀ p∈ρp.v,p.one=true
 coh:Coh ρp.m ρ.m
section
variable {s:Hp} {ρp:PEnv} {ρ:Env}
theorem EnvRep.ok (h:EnvRep s ρp ρ):ρ.Ok:=by
 intro x hx
 obtain ⟨i,hi⟩:=X7.1 hx
 have hl:=h.v.length
 have hlt:=(Q8.1 hi).1
 obtain ⟨v,h1,h2⟩:=h.v.get (QJ (l:=ρp.v) (i:=i) (by omega))
 rw [hi] at h1
 simp only [Q0] at h1
 subst h1
 exact h2.fine (h.one _ (List.getElem_mem _))
theorem EnvRep.mono {t:Hp} (h:EnvRep s ρp ρ) (hst:s.le t):EnvRep t ρp ρ :=
 ⟨h.i,h.b,Reps.mono hst (BLe.refl _) _ _ h.v,a0P.mono hst (BLe.refl _) _ _ h.m,h.k,h.one,h.coh⟩
theorem EnvRep.get (h:EnvRep s ρp ρ) {n:Nat} {p:PV} (hp:ρp.v[n]?=some p):∃ v,ρ.v[n]?=some v/\ρ.v.getD n vd=v/\Rep s (inf ρp.m ρ.m) p v:=by
 obtain ⟨v,h1,h2⟩:=h.v.get hp
 exact ⟨v,h1,by simp [QP,h1],h2⟩
theorem EnvRep.getD (h:EnvRep s ρp ρ) (n:Nat):Rep s (inf ρp.m ρ.m) (ρp.at n) (ρ.v.getD n vd):=by
 unfold PEnv.at
 cases hp:ρp.v[n]? with
 | none =>
  have hl:=h.v.length
  have h1:=Xj.1 hp
  have h2:ρ.v[n]?=none:=Xj.2 (by omega)
  simp [QP,hp,h2,Rep,vd]
 | some p =>
  obtain ⟨v,h1,h2,h3⟩:=h.get hp
  rw [h2]
  simpa [QP,hp] using h3
theorem IE.pe_den (h:EnvRep s ρp ρ):∀ e:IE,e.den ρ=e.pe ρp
 | .a n=>by simp only [IE.den,IE.pe,h.i]
 | .l _=>rfl
 | .add x y=>by simp only [IE.den,IE.pe,IE.pe_den h x,IE.pe_den h y]
 | .sub x y=>by simp only [IE.den,IE.pe,IE.pe_den h x,IE.pe_den h y]
 | .mul x y=>by simp only [IE.den,IE.pe,IE.pe_den h x,IE.pe_den h y]
 | .tdiv x y=>by simp only [IE.den,IE.pe,IE.pe_den h x,IE.pe_den h y]
 | .tmod x y=>by simp only [IE.den,IE.pe,IE.pe_den h x,IE.pe_den h y]
 | .mn x y=>by simp only [IE.den,IE.pe,IE.pe_den h x,IE.pe_den h y]
 | .mx x y=>by simp only [IE.den,IE.pe,IE.pe_den h x,IE.pe_den h y]
 | .ifeq p q x y=>by simp only [IE.den,IE.pe,IE.pe_den h p,IE.pe_den h q,IE.pe_den h x,IE.pe_den h y]
 | .wr k x=>by simp only [IE.den,IE.pe,IE.pe_den h x]
 | .slen n=>by simp only [IE.den,IE.pe,(h.getD n).len]
 | .stl n=>by simp only [IE.den,IE.pe,(h.getD n).sLen]
 | .sat n i=>by simp only [IE.den,IE.pe,(h.getD n).sAt,IE.pe_den h i]
theorem BE.pe_den (h:EnvRep s ρp ρ):∀ e:BE,e.safe ρp=true->e.den ρ=e.pe ρp
 | .t _,_=>rfl
 | .a n,_=>by simp only [BE.den,BE.pe,h.b]
 | .lt x y,_=>by simp only [BE.den,BE.pe,IE.pe_den h]
 | .le x y,_=>by simp only [BE.den,BE.pe,IE.pe_den h]
 | .eq x y,_=>by simp only [BE.den,BE.pe,IE.pe_den h]
 | .not x,k=>by simp only [BE.den,BE.pe,BE.pe_den h x k]
 | .and x y,k=>by simp only [BE.safe,Q1] at k; simp only [BE.den,BE.pe,BE.pe_den h x k.1,BE.pe_den h y k.2]
 | .or x y,k=>by simp only [BE.safe,Q1] at k; simp only [BE.den,BE.pe,BE.pe_den h x k.1,BE.pe_den h y k.2]
 | .nil n,k=>by simp only [BE.den,BE.pe,(h.getD n).nil k]
 | .is q n,_=>by simp only [BE.den,BE.pe,(h.getD n).kind]
 | .seq n m,_=>by simp only [BE.den,BE.pe,(h.getD n).sEq (h.getD m)]
 | .sis n l,_=>by simp only [BE.den,BE.pe,(h.getD n).sIs]
theorem a4Y (b o j:Nat):(⟨b,o,none⟩:Addr).add j=⟨b,o+j,none⟩:=by unfold Addr.add; split<;>simp_all
def b4d (t:Hp) (B:Inf) (β:Nat->Nat) (own:Nat->Option (List PV)):Prop:=∀ k l,own k=some l->∃ vs,Reps t B l vs/\∀ o u,vs[o]?=some u->t (β k) o=some u
theorem a3l (t:Hp) (B:Inf) (β:Nat->Nat):b4d t B β noOwn:=fun _ _ h=>by cases h
theorem PV.on_rep {B:Inf} {p q:PV} {v:Value} {off:Nat} (h:Rep s B p v) (hq:PV.on off p=some q):Rep s B q (.pointer (some (((a1D v).getD ⟨0,0,none⟩).add off))):=by
 cases p<;>simp only [PV.on,Q0,reduceCtorEq] at hq
 case cell l o =>
  subst hq
  simp only [Rep] at h ⊢
  obtain ⟨b,base,vs,rfl,h1,h2⟩:=h
  exact ⟨b,base,vs,by simp [a1D,a4Y,QK],h1,h2⟩
 case ref h' o =>
  subst hq
  simp only [Rep] at h ⊢
  obtain ⟨b,n,h1,rfl⟩:=h
  exact ⟨b,n,h1,by simp [a1D,a4Y]⟩
theorem PV.el_rep {B:Inf} {p q:PV} {v:Value} {i:Int} {size off:Nat} (h:Rep s B p v) (hq:PV.el i size off p=some q):Rep s B q (.pointer (some ((((a1D v).getD ⟨0,0,none⟩).add (i.toNat*size)).add off))):=by
 cases p<;>simp only [PV.el,reduceCtorEq] at hq
 case msl h' o len cap sz =>
  split at hq
  ·simp only [Q0] at hq
   subst hq
   simp only [Rep] at h ⊢
   obtain ⟨b,n,h1,rfl⟩:=h
   exact ⟨b,n,h1,by simp [a1D,a4Y,QK]⟩
  ·cases hq
mutual
theorem SV.pv_rep {t:Hp} {β:Nat->Nat} {own:Nat->Option (List PV)} (h:EnvRep t ρp ρ) (ho:b4d t (inf ρp.m ρ.m) β own):∀ (x:SV) (p:PV),x.pv ρp own=some p->Rep t (inf ρp.m ρ.m) p (x.den ρ β)
 | .int k e,p,hp=>by simp only [SV.pv,Q0] at hp; subst hp; simp only [SV.den,Rep,IE.pe_den h]
 | .bool b,p,hp=>by
  simp only [SV.pv] at hp
  split at hp
  ·rename_i hs
   simp only [Q0] at hp; subst hp; simp only [SV.den,Rep,BE.pe_den h b hs]
  ·cases hp
 | .va n,p,hp=>by
  simp only [SV.pv] at hp
  obtain ⟨v,_,h2,h3⟩:=h.get hp
  simp only [SV.den,h2]; exact h3
 | .junk _,p,hp=>by simp only [SV.pv] at hp; cases hp
 | .str _,p,hp=>by simp only [SV.pv,Q0] at hp; subst hp; simp only [SV.den,Rep]
 | .undef,p,hp=>by simp only [SV.pv,Q0] at hp; subst hp; simp only [SV.den,Rep]
 | .nilS,p,hp=>by simp only [SV.pv,Q0] at hp; subst hp; simp only [SV.den,Rep]
 | .nilF,p,hp=>by simp only [SV.pv,Q0] at hp; subst hp; simp only [SV.den,Rep]
 | .nilP,p,hp=>by simp only [SV.pv,Q0] at hp; subst hp; simp only [SV.den,Rep]
 | .nilI,p,hp=>by simp only [SV.pv,Q0] at hp; subst hp; simp only [SV.den,Rep]
 | .nilM,p,hp=>by simp only [SV.pv,Q0] at hp; subst hp; simp only [SV.den,Rep]
 | .ptr k off,p,hp=>by
  simp only [SV.pv,Q3] at hp
  obtain ⟨l,h1,rfl⟩:=hp
  obtain ⟨vs,h2,h3⟩:=ho k l h1
  simp only [SV.den,Rep]
  exact ⟨β k,0,vs,by simp,h2,fun o u hu=>by simpa using h3 o u hu⟩
 | .sl _ _,p,hp=>by simp only [SV.pv] at hp; cases hp
 | .slc _ _ _,p,hp=>by simp only [SV.pv] at hp; cases hp
 | .ea n i size off,p,hp=>by
  simp only [SV.pv,Qj] at hp
  obtain ⟨q,h1,h2⟩:=hp
  obtain ⟨v,_,h3,h4⟩:=h.get h1
  simp only [SV.den,h3,IE.pe_den h]
  exact PV.el_rep h4 h2
 | .pa n off,p,hp=>by
  simp only [SV.pv,Qj] at hp
  obtain ⟨q,h1,h2⟩:=hp
  obtain ⟨v,_,h3,h4⟩:=h.get h1
  simp only [SV.den,h3]
  exact PV.on_rep h4 h2
 | .agg cs,p,hp=>by
  simp only [SV.pv,Q3] at hp
  obtain ⟨l,h1,rfl⟩:=hp
  simp only [SV.den,Rep]
  exact ⟨_,rfl,SV.pvs_rep h ho cs l h1⟩
 | .tup cs,p,hp=>by
  simp only [SV.pv,Q3] at hp
  obtain ⟨l,h1,rfl⟩:=hp
  simp only [SV.den,Rep]
  exact ⟨_,rfl,SV.pvs_rep h ho cs l h1⟩
 | .fn f n cs,p,hp=>by
  simp only [SV.pv] at hp
  split at hp
  case isFalse=>cases hp
  rename_i hn
  subst hn
  simp only [Q3] at hp
  obtain ⟨l,h1,rfl⟩:=hp
  simp only [SV.den,Rep,Xd,Xf]
  exact ⟨_,rfl,SV.pvs_rep h ho cs l h1⟩
 | .fs _,p,hp=>by simp only [SV.pv] at hp; cases hp
theorem SV.pvs_rep {t:Hp} {β:Nat->Nat} {own:Nat->Option (List PV)} (h:EnvRep t ρp ρ) (ho:b4d t (inf ρp.m ρ.m) β own):∀ (x:List SV) (p:List PV),SV.pvs ρp own x=some p->Reps t (inf ρp.m ρ.m) p (SV.dens ρ β x)
 | [],p,hp=>by simp only [SV.pvs,Q0] at hp; subst hp; rfl
 | x::l,p,hp=>by
  simp only [SV.pvs,Qj,Q3] at hp
  obtain ⟨q,h1,r,h2,rfl⟩:=hp
  simp only [SV.dens,Reps]
  exact ⟨_,_,rfl,SV.pv_rep h ho x q h1,SV.pvs_rep h ho l r h2⟩
end
theorem b2z {t:Hp} {β:Nat->Nat} {H:List Blk} (h:EnvRep t ρp ρ) (hs:a8r ρ β H t):∀ d,b4d t (inf ρp.m ρ.m) β (a6e ρp H d)
 | 0,k,l,hk=>by simp only [a6e] at hk; cases hk
 | d+1,k,l,hk=>by
  simp only [a6e] at hk
  split at hk
  ·rename_i cs T hc
   exact ⟨_,SV.pvs_rep h (b2z h hs d) cs l hk,fun o u hu=>hs k cs T hc o u hu⟩
  ·cases hk
theorem b7W (h:EnvRep s ρp ρ) {own:Nat->Option (List PV)} {x:SV} {p:PV} (hf:x.flat=true) (hp:x.pv ρp own=some p):p.one=true:=by
 cases x<;>simp only [SV.flat,Qa] at hf<;>simp only [SV.pv,Q0,reduceCtorEq,Q3,Qj] at hp
 case va n=>exact h.one _ (QN hp)
 case bool b =>
  split at hp
  ·simp only [Q0] at hp; subst hp; rfl
  ·cases hp
 case ptr=>obtain ⟨_,_,rfl⟩:=hp; rfl
 case ea =>
  obtain ⟨q,_,h2⟩:=hp
  cases q<;>simp only [PV.el,reduceCtorEq] at h2
  split at h2
  ·simp only [Q0] at h2; subst h2; rfl
  ·cases h2
 case pa =>
  obtain ⟨q,_,h2⟩:=hp
  cases q<;>simp only [PV.on,reduceCtorEq,Q0] at h2<;>subst h2<;>rfl
 case fn =>
  split at hp
  ·simp only [Q3] at hp; obtain ⟨_,_,rfl⟩:=hp; rfl
  ·cases hp
 all_goals (subst hp; rfl)
end
end Go.Sx
namespace Go.Sx
open Go.RowKit
inductive PT where
 | ret (gen:Bool) (v:SV) (H:List Blk)
 | ite (c:BE) (x y:PT)
 | need (c:BE) (k:PT)
 | load (fl:Bool) (a:SV) (ks:List Kd) (k:PT)
 | app (d:Option Nat) (src:Src) (size:Nat) (k:PT)
 | cut (n:Nat) (lo hi:Option IE) (size:Nat) (k:PT)
 | chk (n size:Nat) (k:PT)
 | scut (n:Nat) (lo hi:Option IE) (k:PT)
 | appF (n:Nat) (src:Src) (size:Nat) (k:PT)
 | call (f:Nat) (args:List SV) (H:List Blk) (shs:List Sh) (k:PT)
 | callv (n:Nat) (args:List SV) (shs:List Sh) (k:PT)
 | newM (cs:List SV) (T:Nat) (k:PT)
 | mkM (n:IE) (zero:List SV) (T size bytes:Nat) (k:PT)
 | storeM (a:SV) (cs:List SV) (k:PT)
 | appM (d:SV) (src:Src) (size T:Nat) (k:PT)
 | mkMap (K:IntKind) (k:PT)
 | mapGet (n:Nat) (K:IntKind) (key:IE) (dflt:SV) (ok:Bool) (shs:List Sh) (k:PT)
 | mapSet (n:Nat) (K:IntKind) (key:IE) (val:SV) (k:PT)
 | mapClr (n:Nat) (k:PT)
 | mkQ (k:PT)
 | qGet (n:Nat) (key:List IE) (ok:Bool) (k:PT)
 | qSet (n:Nat) (key:List IE) (v:IE) (k:PT)
 | qDel (n:Nat) (key:List IE) (k:PT)
 | qLen (n:Nat) (k:PT)
 | rng (n:Nat) (k:PT)
 | next (n w:Nat) (x y:PT)
 | entry (n w:Nat) (k:PT)
 | copyM (d x size:Nat) (k:PT)
 | both (x y:PT)
 | jump (q:Nat) (is:List IE) (bs:List BE) (vs:List SV)
 | stuck
 deriving Inhabited
def a0w:List Kd->List PV->Option (List Int × List Bool × List PV)
 | [],[]=>some ([],[],[])
 | .int k::ks,.int k' z::l=>if k'=k then (a0w ks l).map fun r=>(z::r.1,r.2.1,r.2.2) else none
 | .bool::ks,.bool b::l=>(a0w ks l).map fun r=>(r.1,b::r.2.1,r.2.2)
 | .val::ks,p::l=>if p.one then (a0w ks l).map fun r=>(r.1,r.2.1,p::r.2.2) else none
 | _,_=>none
def a0x:Sh->PV->Option (List Int × List Bool × List PV)
 | .one k,p=>a0w [k] [p]
 | .agg ks,.agg l=>a0w ks l
 | _,_=>none
def a1w:List Sh->List PV->Option (List Int × List Bool × List PV)
 | [],[]=>some ([],[],[])
 | sh::shs,p::l=>(a0x sh p).bind fun a=>(a1w shs l).map fun r=>(a.1++r.1,a.2.1++r.2.1,a.2.2++r.2.2)
 | _,_=>none
def a0p:List Sh->PV->Option (List Int × List Bool × List PV)
 | [sh],r=>a0x sh r
 | shs,.tup l=>a1w shs l
 | _,_=>none
def PEnv.push (ρ:PEnv) (r:List Int × List Bool × List PV):PEnv:={ ρ with i:=ρ.i++r.1,b:=ρ.b++r.2.1,v:=ρ.v++r.2.2 }
inductive Loc where
 | row (l:List PV) (off:Nat)
 | obj (h off:Nat)
 | elt (h len i sz off:Nat)
def a1z (i:Int) (size off:Nat):PV->Option Loc
 | .sl sz rows=>if sz=size/\0<=i then (rows[i.toNat]?).map fun r=>.row r off else none
 | .msl h o len _ sz=>if 0<=i/\i < len/\sz=size then some (.obj h (o+(i.toNat*size+off))) else none
 | .rsl h len sz=>if 0<=i/\i < len/\sz=size then some (.elt h len i.toNat sz off) else none
 | .rpl h len r sz=>if 0<=i/\i < len/\len<=r/\sz=size then some (.elt h r i.toNat sz off) else none
 | _=>none
def a0A (off:Nat):PV->Option Loc
 | .cell l o=>some (.row l (o+off))
 | .ref h o=>some (.obj h (o+off))
 | _=>none
def a0y (ρ:PEnv):SV->Option Loc
 | .ea n i size off=>(ρ.v[n]?).bind (a1z (i.pe ρ) size off)
 | .pa n off=>(ρ.v[n]?).bind (a0A off)
 | _=>none
def a0z (n:Nat) (l:List PV):Option (List PV):=if n<=l.length then some (l.take n) else none
def MO.list:MO->Option (List PV)
 | .cells l _=>some l
 | .row ..=>none
 | .mp ..=>none
 | .mq ..=>none
 | .it ..=>none
 | .dead=>none
def MO.elts (len sz:Nat):MO->Option (List (List PV))
 | .row rows sz' _=>if rows.length=len/\sz'=sz then some rows else none
 | .cells ..=>none
 | .mp ..=>none
 | .mq ..=>none
 | .it ..=>none
 | .dead=>none
def a0o (ρ:PEnv) (fl:Bool) (n:Nat):Loc->Option (List PV)
 | .row l off=>a0z n (l.drop off)
 | .obj h off=>if fl then none else (ρ.m[h]?).bind fun o=>o.list.bind fun l=>a0z n (l.drop off)
 | .elt h len i sz off=>if fl then none else (ρ.m[h]?).bind fun o=>(o.elts len sz).bind fun rows=>(rows[i]?).bind fun r=>a0z n (r.drop off)
def a3T (l:List PV) (o:Nat) (new:List PV):List PV:=l.take o++new++l.drop (o+new.length)
def PV.rowsOf (size:Nat):PV->Option (List (List PV))
 | .nilS=>some []
 | .sl n rows=>if n=size then some rows else none
 | _=>none
def a1f (ρ:PEnv) (size:Nat):Src->Option (List (List PV))
 | .lit l=>l.mapM (SV.pvs ρ noOwn)
 | .va n=>(ρ.v[n]?).bind (PV.rowsOf size)
def a2k (ρ:PEnv):Option IE->Int
 | some e=>e.pe ρ
 | none=>0
def a2i (ρ:PEnv):Option IE->Nat->Int
 | some e,_=>e.pe ρ
 | none,n=>n
def BE.all (ρ:PEnv):List BE->Option (List Bool)
 | []=>some []
 | b::l=>if b.safe ρ then (BE.all ρ l).map (b.pe ρ::·) else none
mutual
def PV.low (k:Nat):PV->Bool
 | .ref h _=>decide (h < k)
 | .mp h=>decide (h < k)
 | .msl h _ _ _ _=>decide (h < k)
 | .rsl h _ _=>decide (h < k)
 | .rpl h _ _ _=>decide (h < k)
 | .sl _ rows=>PV.lowss k rows
 | .cell l _=>PV.lows k l
 | .fn _ l=>PV.lows k l
 | .agg l=>PV.lows k l
 | .tup l=>PV.lows k l
 | _=>true
def PV.lows (k:Nat):List PV->Bool
 | []=>true
 | p::l=>p.low k&&PV.lows k l
def PV.lowss (k:Nat):List (List PV)->Bool
 | []=>true
 | p::l=>PV.lows k p&&PV.lowss k l
end
def MO.low (k:Nat):MO->Bool
 | .cells l _=>PV.lows k l
 | .row rows _ _=>PV.lowss k rows
 | .mp _ vs _=>PV.lows k vs
 | .mq _ _=>true
 | .it _ _ _=>false
 | .dead=>true
def b6j (sz:Nat):Nat->List PV->Option (List (List PV))
 | 0,_=>some []
 | n+1,l=>if sz<=l.length/\(l.take sz).all PV.one=true then (b6j sz n (l.drop sz)).map (l.take sz::·) else none
mutual
def PV.frz (k:Nat) (look:Nat->Option MO):PV->Option PV
 | .mp h=>if h < k then some (.mp h) else none
 | .ref h off=>if h < k then some (.ref h off) else (look h).bind fun o=>o.list.map fun l=>.cell l off
 | .rsl h len sz=>if h < k then some (.rsl h len sz) else (look h).bind fun o=>(o.elts len sz).map (.sl sz)
 | .rpl h len r sz=>if h < k then some (.rpl h len r sz) else (look h).bind fun o=>(o.elts r sz).map fun rows=>.sl sz (rows.take len)
 | .msl h off len cap sz=>if h < k then some (.msl h off len cap sz) else (look h).bind fun o=>o.list.bind fun l=>(if len<=cap then b6j sz len (l.drop off) else none).map (.sl sz)
 | .sl n rows=>if PV.lowss k rows then some (.sl n rows) else none
 | .cell l off=>if PV.lows k l then some (.cell l off) else none
 | .fn f l=>(PV.frzs k look l).map (.fn f)
 | .agg l=>(PV.frzs k look l).map .agg
 | .tup l=>(PV.frzs k look l).map .tup
 | .int kd z=>some (.int kd z)
 | .bool b=>some (.bool b)
 | .str s=>some (.str s)
 | .undef=>some .undef
 | .nilS=>some .nilS
 | .nilF=>some .nilF
 | .nilP=>some .nilP
 | .nilI=>some .nilI
 | .nilM=>some .nilM
def PV.frzs (k:Nat) (look:Nat->Option MO):List PV->Option (List PV)
 | []=>some []
 | p::l=>(PV.frz k look p).bind fun q=>(PV.frzs k look l).map (q::·)
end
def PV.frzss (k:Nat) (look:Nat->Option MO):List (List PV)->Option (List (List PV))
 | []=>some []
 | l::ls=>(PV.frzs k look l).bind fun q=>if q.all PV.one=true then (PV.frzss k look ls).map (q::·) else none
def a8l (ρ:PEnv):Nat->Nat->Option MO
 | 0,_=>none
 | d+1,h=>(ρ.m[h]?).bind fun
  | .cells l T=>(PV.frzs ρ.k (a8l ρ d) l).map (.cells · T)
  | .row rows sz T=>(PV.frzss ρ.k (a8l ρ d) rows).map (.row · sz T)
  | .mp ..=>none
  | .mq ..=>none
  | .it ..=>none
  | .dead=>none
def MO.frzM (k:Nat) (look:Nat->Option MO):MO->Option MO
 | .cells l T=>(PV.frzs k look l).map (.cells · T)
 | .row rows sz T=>(PV.frzss k look rows).map (.row · sz T)
 | o=>if o.low k then some o else none
def b5F (k:Nat) (look:Nat->Option MO):List MO->Option (List MO)
 | []=>some []
 | o::σ=>(o.frzM k look).bind fun o'=>(b5F k look σ).map (o'::·)
def a0D (ρ:PEnv) (gen:Bool) (p:PV):Option (PV × List MO) :=
 if gen=true\/ρ.m.length=ρ.k then some (p,ρ.m)
 else if (ρ.m.take ρ.k).all (MO.low ρ.k) then (p.frz ρ.k (a8l ρ 3)).map fun q=>(q,ρ.m.take ρ.k)
 else (b5F ρ.k (a8l ρ 3) (ρ.m.take ρ.k)).bind fun σ=>(p.frz ρ.k (a8l ρ 3)).map fun q=>(q,σ)
mutual
def PV.beq:PV->PV->Bool
 | .int k z,.int k' z'=>decide (k=k')&&decide (z=z')
 | .bool b,.bool b'=>b == b'
 | .str s,.str s'=>decide (s=s')
 | .undef,.undef | .nilS,.nilS | .nilF,.nilF | .nilP,.nilP | .nilI,.nilI | .nilM,.nilM=>true
 | .sl n r,.sl n' r'=>decide (n=n')&&PV.beqss r r'
 | .cell l o,.cell l' o'=>decide (o=o')&&PV.beqs l l'
 | .ref h o,.ref h' o'=>decide (h=h')&&decide (o=o')
 | .mp h,.mp h'=>decide (h=h')
 | .msl a b c d e,.msl a' b' c' d' e'=>decide (a=a')&&decide (b=b')&&decide (c=c')&&decide (d=d')&&decide (e=e')
 | .rsl a b c,.rsl a' b' c'=>decide (a=a')&&decide (b=b')&&decide (c=c')
 | .rpl a b c d,.rpl a' b' c' d'=>decide (a=a')&&decide (b=b')&&decide (c=c')&&decide (d=d')
 | .fn f l,.fn f' l'=>decide (f=f')&&PV.beqs l l'
 | .agg l,.agg l'=>PV.beqs l l'
 | .tup l,.tup l'=>PV.beqs l l'
 | _,_=>false
def PV.beqs:List PV->List PV->Bool
 | [],[]=>true
 | x::l,y::m=>PV.beq x y&&PV.beqs l m
 | _,_=>false
def PV.beqss:List (List PV)->List (List PV)->Bool
 | [],[]=>true
 | x::l,y::m=>PV.beqs x y&&PV.beqss l m
 | _,_=>false
end
mutual
theorem PV.beq_eq:∀ {x y:PV},PV.beq x y=true->x=y
 | .int ..,y,h=>by cases y<;>simp [PV.beq] at h; obtain ⟨rfl,rfl⟩:=h; rfl
 | .bool ..,y,h=>by cases y<;>simp [PV.beq] at h; subst h; rfl
 | .str ..,y,h=>by cases y<;>simp [PV.beq] at h; subst h; rfl
 | .undef,y,h=>by cases y<;>simp [PV.beq] at h; rfl
 | .nilS,y,h=>by cases y<;>simp [PV.beq] at h; rfl
 | .nilF,y,h=>by cases y<;>simp [PV.beq] at h; rfl
 | .nilP,y,h=>by cases y<;>simp [PV.beq] at h; rfl
 | .nilI,y,h=>by cases y<;>simp [PV.beq] at h; rfl
 | .nilM,y,h=>by cases y<;>simp [PV.beq] at h; rfl
 | .sl n r,y,h=>by cases y<;>simp [PV.beq] at h; obtain ⟨rfl,h⟩:=h; rw [PV.beqss_eq h]
 | .cell n r,y,h=>by cases y<;>simp [PV.beq] at h; obtain ⟨rfl,h⟩:=h; rw [PV.beqs_eq h]
 | .ref ..,y,h=>by cases y<;>simp [PV.beq] at h; obtain ⟨rfl,rfl⟩:=h; rfl
 | .mp ..,y,h=>by cases y<;>simp [PV.beq] at h; subst h; rfl
 | .msl ..,y,h=>by cases y<;>simp [PV.beq] at h; obtain ⟨⟨⟨⟨rfl,rfl⟩,rfl⟩,rfl⟩,rfl⟩:=h; rfl
 | .rsl ..,y,h=>by cases y<;>simp [PV.beq] at h; obtain ⟨⟨rfl,rfl⟩,rfl⟩:=h; rfl
 | .rpl ..,y,h=>by cases y<;>simp [PV.beq] at h; obtain ⟨⟨⟨rfl,rfl⟩,rfl⟩,rfl⟩:=h; rfl
 | .fn n r,y,h=>by cases y<;>simp [PV.beq] at h; obtain ⟨rfl,h⟩:=h; rw [PV.beqs_eq h]
 | .agg r,y,h=>by cases y<;>simp [PV.beq] at h; rw [PV.beqs_eq h]
 | .tup r,y,h=>by cases y<;>simp [PV.beq] at h; rw [PV.beqs_eq h]
theorem PV.beqs_eq:∀ {x y:List PV},PV.beqs x y=true->x=y
 | [],y,h=>by cases y<;>simp [PV.beqs] at h; rfl
 | x::l,y,h=>by
  cases y with
  | nil=>simp [PV.beqs] at h
  | cons y m=>simp [PV.beqs] at h; rw [PV.beq_eq h.1,PV.beqs_eq h.2]
theorem PV.beqss_eq:∀ {x y:List (List PV)},PV.beqss x y=true->x=y
 | [],y,h=>by cases y<;>simp [PV.beqss] at h; rfl
 | x::l,y,h=>by
  cases y with
  | nil=>simp [PV.beqss] at h
  | cons y m=>simp [PV.beqss] at h; rw [PV.beqs_eq h.1,PV.beqss_eq h.2]
end
mutual
theorem PV.beq_self:∀ x:PV,PV.beq x x=true
 | .int ..=>by simp [PV.beq]
 | .bool ..=>by simp [PV.beq]
 | .str ..=>by simp [PV.beq]
 | .undef=>rfl
 | .nilS=>rfl
 | .nilF=>rfl
 | .nilP=>rfl
 | .nilI=>rfl
 | .nilM=>rfl
 | .sl n r=>by simp [PV.beq,PV.beqss_self r]
 | .cell n r=>by simp [PV.beq,PV.beqs_self n]
 | .ref ..=>by simp [PV.beq]
 | .mp ..=>by simp [PV.beq]
 | .msl ..=>by simp [PV.beq]
 | .rsl ..=>by simp [PV.beq]
 | .rpl ..=>by simp [PV.beq]
 | .fn n r=>by simp [PV.beq,PV.beqs_self r]
 | .agg r=>by simp [PV.beq,PV.beqs_self r]
 | .tup r=>by simp [PV.beq,PV.beqs_self r]
theorem PV.beqs_self:∀ x:List PV,PV.beqs x x=true
 | []=>rfl
 | x::l=>by simp [PV.beqs,PV.beq_self x,PV.beqs_self l]
theorem PV.beqss_self:∀ x:List (List PV),PV.beqss x x=true
 | []=>rfl
 | x::l=>by simp [PV.beqss,PV.beqs_self x,PV.beqss_self l]
end
def MO.beq1:MO->MO->Bool
 | .cells l T,.cells l' T'=>decide (T=T')&&PV.beqs l l'
 | .row l n T,.row l' n' T'=>decide (T=T')&&decide (n=n')&&PV.beqss l l'
 | .mp ks vs K,.mp ks' vs' K'=>decide (ks=ks')&&decide (K=K')&&PV.beqs vs vs'
 | .mq kv ver,.mq kv' ver'=>decide (kv=kv')&&decide (ver=ver')
 | .it h ver seen,.it h' ver' seen'=>decide (h=h')&&decide (ver=ver')&&decide (seen=seen')
 | .dead,.dead=>true
 | _,_=>false
theorem MO.beq1_eq {x y:MO} (h:MO.beq1 x y=true):x=y:=by
 cases x<;>cases y<;>simp only [MO.beq1,Q1,decide_eq_true_eq,Qa] at h
 ·obtain ⟨rfl,h1⟩:=h; rw [PV.beqs_eq h1]
 ·obtain ⟨⟨rfl,rfl⟩,h1⟩:=h; rw [PV.beqss_eq h1]
 ·obtain ⟨⟨rfl,rfl⟩,h1⟩:=h; rw [PV.beqs_eq h1]
 ·obtain ⟨rfl,rfl⟩:=h; rfl
 ·obtain ⟨⟨rfl,rfl⟩,rfl⟩:=h; rfl
 ·rfl
theorem MO.beq1_self (x:MO):MO.beq1 x x=true:=by
 cases x<;>simp [MO.beq1,PV.beqs_self,PV.beqss_self]
def MO.beqs:List MO->List MO->Bool
 | [],[]=>true
 | x::l,y::m=>MO.beq1 x y&&MO.beqs l m
 | _,_=>false
theorem MO.beqs_eq:∀ {x y:List MO},MO.beqs x y=true->x=y
 | [],[],_=>rfl
 | x::l,y::m,h=>by
  simp only [MO.beqs,Q1] at h
  rw [MO.beq1_eq h.1,MO.beqs_eq h.2]
 | [],_::_,h=>by simp [MO.beqs] at h
 | _::_,[],h=>by simp [MO.beqs] at h
theorem MO.beqs_self:∀ x:List MO,MO.beqs x x=true
 | []=>rfl
 | x::l=>by simp [MO.beqs,MO.beq1_self,MO.beqs_self l]
inductive Res where
 | ret (r:PV) (σ:List MO)
 | jump (q:Nat) (ρ:PEnv)
 deriving Inhabited
def Res.beq:Res->Res->Bool
 | .ret r σ,.ret r' σ'=>PV.beq r r'&&MO.beqs σ σ'
 | .jump q ρ,.jump q' ρ'=>decide (q=q')&&decide (ρ.i=ρ'.i)&&decide (ρ.b=ρ'.b)&&PV.beqs ρ.v ρ'.v&&MO.beqs ρ.m ρ'.m&&decide (ρ.k=ρ'.k)
 | _,_=>false
theorem Res.beq_eq {x y:Res} (h:Res.beq x y=true):x=y:=by
 cases x<;>cases y<;>simp [Res.beq] at h
 ·rw [PV.beq_eq h.1,MO.beqs_eq h.2]
 ·rename_i q ρ q' ρ'
  obtain ⟨⟨⟨⟨⟨rfl,h1⟩,h2⟩,h3⟩,h4⟩,h5⟩:=h
  cases ρ; cases ρ'
  simp only at h1 h2 h3 h4 h5
  rw [h1,h2,h5,PV.beqs_eq h3,MO.beqs_eq h4]
theorem Res.beq_self (x:Res):Res.beq x x=true:=by
 cases x<;>simp [Res.beq,PV.beq_self,PV.beqs_self,MO.beqs_self]
def b2D (ρ:PEnv) (size x:Nat):Option (Nat × List PV):=match ρ.v[x]? with
 | some .nilS=>some (0,[])
 | some (.sl n rows)=>if n=size then some (rows.length,rows.flatten) else none
 | some (.msl h o len _ sz)=>if sz=size then (ρ.m[h]?).bind fun ob=>ob.list.bind fun l=>if o+len*size<=l.length then some (len,(l.drop o).take (len*size)) else none else none
 | some (.rsl h len sz)=>if sz=size then (ρ.m[h]?).bind fun ob=>(ob.elts len sz).map fun rows=>(len,rows.flatten) else none
 | _=>none
def ltK:List Int->List Int->Bool
 | x::l,y::m=>decide (x < y)||(decide (x=y)&&ltK l m)
 | _,_=>false
def a3M:KV->List Int × Int->KV
 | [],p=>[p]
 | q::l,p=>if ltK p.1 q.1 then p::q::l else q::a3M l p
def a3q (kv:KV) (k:List Int):KV:=kv.filter fun p=>!decide (p.1=k)
def a3B (kv:KV) (k:List Int) (v:Int):KV:=a3M (a3q kv k) (k,v)
def a4E (n:Nat) (kv:KV):Bool:=kv.all fun p=>decide (p.1.length=n)
def a5M (kv:KV) (seen:List (List Int)):KV:=kv.filter fun p=>!seen.any fun k=>decide (k=p.1)
abbrev Fns:=Nat->List PV->List MO->Option (PV × List MO)
def PT.ev (Φ:Fns):PT->PEnv->Option Res
 | .ret gen v H,ρ=>(v.pv ρ (a6e ρ H 3)).bind fun p=>(a0D ρ gen p).map fun r=>.ret r.1 r.2
 | .ite c x y,ρ=>if c.safe ρ then (if c.pe ρ then x.ev Φ ρ else y.ev Φ ρ) else none
 | .need c k,ρ=>if c.safe ρ then (if c.pe ρ then k.ev Φ ρ else none) else none
 | .load fl a ks k,ρ=>(a0y ρ a).bind fun l=>(a0o ρ fl ks.length l).bind fun x=>(a0w ks x).bind fun r=>k.ev Φ (ρ.push r)
 | .app d src size k,ρ=>(match d with | none=>some [] | some n=>(ρ.v[n]?).bind (PV.rowsOf size)).bind fun xs=>(a1f ρ size src).bind fun es =>
   if xs.length+es.length<=1000000 then k.ev Φ { ρ with v:=ρ.v++[PV.sl size (xs++es)] } else none
 | .cut n lo hi size k,ρ=>((ρ.v[n]?).bind (PV.rowsOf size)).bind fun xs =>
   if 0<=a2k ρ lo/\a2k ρ lo<=a2i ρ hi xs.length/\a2i ρ hi xs.length<=xs.length then k.ev Φ { ρ with v:=ρ.v++[.sl size ((xs.take (a2i ρ hi xs.length).toNat).drop (a2k ρ lo).toNat)] } else none
 | .scut n lo hi k,ρ=>match ρ.v[n]? with
  | some (.str l)=>if 0<=a2k ρ lo/\a2k ρ lo<=a2i ρ hi l.length/\a2i ρ hi l.length<=l.length then k.ev Φ { ρ with v:=ρ.v++[.str ((l.take (a2i ρ hi l.length).toNat).drop (a2k ρ lo).toNat)] } else none
  | _=>none
 | .chk n size k,ρ=>((ρ.v[n]?).bind (PV.rowsOf size)).bind fun _=>k.ev Φ ρ
 | .appF n src size k,ρ=>((ρ.v[n]?).bind (PV.rowsOf size)).bind fun xs=>(a1f ρ size src).bind fun es =>
   if es.length≠0/\xs.length+es.length<=1000000 then k.ev Φ { ρ with v:=ρ.v++[PV.sl size (xs++es)] } else none
 | .call f args H shs k,ρ=>(SV.pvs ρ (a6e ρ H 3) args).bind fun as=>(Φ f as ρ.m).bind fun r=>(a0p shs r.1).bind fun x=>k.ev Φ { ρ.push x with m:=r.2 }
 | .callv n args shs k,ρ=>match ρ.v[n]? with
  | some (.fn f cap)=>(SV.pvs ρ noOwn args).bind fun as=>(Φ f (as++cap) ρ.m).bind fun r=>(a0p shs r.1).bind fun x=>k.ev Φ { ρ.push x with m:=r.2 }
  | _=>none
 | .newM cs T k,ρ=>(SV.pvs ρ noOwn cs).bind fun l=>k.ev Φ { ρ with v:=ρ.v++[.ref ρ.m.length 0],m:=ρ.m++[.cells l T] }
 | .mkM n zero T size bytes k,ρ=>(SV.pvs ρ noOwn zero).bind fun z =>
   if 0<=n.pe ρ/\n.pe ρ<=1000000/\bytes<=100000000 then k.ev Φ { ρ with v:=ρ.v++[.msl ρ.m.length 0 (n.pe ρ).toNat (n.pe ρ).toNat size],m:=ρ.m++[.cells (Q2 (n.pe ρ).toNat z).flatten T] } else none
 | .storeM a cs k,ρ=>match a0y ρ a with
  | some (.obj h off)=>match ρ.m[h]? with
   | some (.cells l T)=>(SV.pvs ρ noOwn cs).bind fun new=>if off+new.length<=l.length then k.ev Φ { ρ with m:=ρ.m.set h (.cells (a3T l off new) T) } else none
   | _=>none
  | some (.elt h len i sz off)=>match ρ.m[h]? with
   | some (.row rows sz' T)=>if rows.length=len/\sz'=sz then (rows[i]?).bind fun r=>(SV.pvs ρ noOwn cs).bind fun new=>if off+new.length<=r.length/\new.all PV.one=true then k.ev Φ { ρ with m:=ρ.m.set h (.row (rows.set i (a3T r off new)) sz' T) } else none else none
   | _=>none
  | _=>none
 | .appM d src size T k,ρ=>(d.pv ρ noOwn).bind fun p=>(a1f ρ size src).bind fun es=>match p with
  | .nilS=>if es.length<=1000000 then (if es.length=0 then k.ev Φ { ρ with v:=ρ.v++[.nilS] } else k.ev Φ { ρ with v:=ρ.v++[.rsl ρ.m.length es.length size],m:=ρ.m++[.row es size T] }) else none
  | .rsl h len sz=>match ρ.m[h]? with
   | some (.row rows sz' T')=>if rows.length=len/\sz=size/\sz'=size/\T'=T/\len+es.length<=1000000 then
     (if es.length=0 then k.ev Φ { ρ with v:=ρ.v++[.rsl h len sz] } else k.ev Φ { ρ with v:=ρ.v++[.rsl h (len+es.length) size],m:=ρ.m.set h (.row (rows++es) size T) }) else none
   | _=>none
  | _=>none
 | .mkMap K k,ρ=>k.ev Φ { ρ with v:=ρ.v++[.mp ρ.m.length],m:=ρ.m++[.mp [] [] K] }
 | .mapGet n K key dflt ok shs k,ρ=>match ρ.v[n]? with
  | some (.mp h)=>match ρ.m[h]? with
   | some (.mp ks vs K')=>if K'=K then (dflt.pv ρ noOwn).bind fun d =>
     (a0p shs (if ok then .tup [(a2j ks vs (key.pe ρ)).getD d,.bool (a2j ks vs (key.pe ρ)).isSome] else (a2j ks vs (key.pe ρ)).getD d)).bind fun x=>k.ev Φ (ρ.push x) else none
   | _=>none
  | _=>none
 | .mapSet n K key v k,ρ=>match ρ.v[n]? with
  | some (.mp h)=>match ρ.m[h]? with
   | some (.mp ks vs K')=>if K'=K then (v.pv ρ noOwn).bind fun x=>k.ev Φ { ρ with m:=ρ.m.set h (.mp (a3p ks vs (key.pe ρ) x).1 (a3p ks vs (key.pe ρ) x).2 K) } else none
   | _=>none
  | _=>none
 | .mapClr n k,ρ=>match ρ.v[n]? with
  | some (.mp h)=>match ρ.m[h]? with
   | some (.mp _ _ K')=>k.ev Φ { ρ with m:=ρ.m.set h (.mp [] [] K') }
   | _=>none
  | _=>none
 | .mkQ k,ρ=>k.ev Φ { ρ with v:=ρ.v++[.mp ρ.m.length],m:=ρ.m++[.mq [] 0] }
 | .qGet n key ok k,ρ=>match ρ.v[n]? with
  | some (.mp h)=>match ρ.m[h]? with
   | some (.mq kv _)=>if a4E key.length kv then k.ev Φ (ρ.push ([(a0K kv (key.map (IE.pe ρ))).getD 0],if ok then [(a0K kv (key.map (IE.pe ρ))).isSome] else [],[])) else none
   | _=>none
  | _=>none
 | .qSet n key v k,ρ=>match ρ.v[n]? with
  | some (.mp h)=>match ρ.m[h]? with
   | some (.mq kv ver)=>if a4E key.length kv then k.ev Φ { ρ with m:=ρ.m.set h (.mq (a3B kv (key.map (IE.pe ρ)) (v.pe ρ)) (ver+1)) } else none
   | _=>none
  | _=>none
 | .qDel n key k,ρ=>match ρ.v[n]? with
  | some (.mp h)=>match ρ.m[h]? with
   | some (.mq kv ver)=>if a4E key.length kv then k.ev Φ { ρ with m:=ρ.m.set h (.mq (a3q kv (key.map (IE.pe ρ))) (ver+1)) } else none
   | _=>none
  | _=>none
 | .qLen n k,ρ=>match ρ.v[n]? with
  | some (.mp h)=>match ρ.m[h]? with
   | some (.mq kv _)=>k.ev Φ (ρ.push ([(kv.length:Int)],[],[]))
   | _=>none
  | _=>none
 | .rng n k,ρ=>match ρ.v[n]? with
  | some (.mp h)=>match ρ.m[h]? with
   | some (.mq _ ver)=>k.ev Φ { ρ with v:=ρ.v++[.ref ρ.m.length 0],m:=ρ.m++[.it h ver []] }
   | _=>none
  | _=>none
 | .next _ _ _ _,_=>none
 | .entry n w k,ρ=>match ρ.v[n]? with
  | some (.ref i 0)=>match ρ.m[i]? with
   | some (.it h ver seen)=>match seen.getLast? with
    | some key=>match ρ.m[h]? with
     | some (.mq kv ver')=>if ver'=ver then (a0K kv key).bind fun v=>if key.length=w then k.ev Φ (ρ.push (key++[v],[],[])) else none else none
     | _=>none
    | none=>none
   | _=>none
  | _=>none
 | .copyM d x size k,ρ=>match ρ.v[d]? with
  | some (.msl h o len _ sz)=>match ρ.m[h]? with
   | some (.cells l T)=>(b2D ρ size x).bind fun sc=>if sz=size/\o+min sc.1 len*size<=l.length/\min sc.1 len*size<=sc.2.length/\sc.2.all PV.one=true then
     k.ev Φ { ρ.push ([((min sc.1 len:Nat):Int)],[],[]) with m:=ρ.m.set h (.cells (a3T l o (sc.2.take (min sc.1 len*size))) T) } else none
   | _=>none
  | _=>none
 | .both x y,ρ=>(x.ev Φ ρ).bind fun r=>(y.ev Φ ρ).bind fun r'=>if Res.beq r r' then some r else none
 | .jump q is bs vs,ρ=>(BE.all ρ bs).bind fun b=>(SV.pvs ρ noOwn vs).map fun v=>.jump q { i:=is.map (IE.pe ρ),b,v,m:=ρ.m,k:=ρ.k }
 | .stuck,_=>none
def a8Y (ρ:PEnv) (size:Nat) (d:Option Nat):Option (List (List PV)):=match d with | none=>some [] | some n=>(ρ.v[n]?).bind (PV.rowsOf size)
def PT.wp (Φ:Fns):PT->PEnv->(Res->Prop)->Prop
 | .ret gen v H,ρ,R=>∃ p,v.pv ρ (a6e ρ H 3)=some p/\∃ r,a0D ρ gen p=some r/\R (.ret r.1 r.2)
 | .ite c x y,ρ,R=>if c.safe ρ then (if c.pe ρ then x.wp Φ ρ R else y.wp Φ ρ R) else x.wp Φ ρ R/\y.wp Φ ρ R
 | .need c k,ρ,R=>if c.safe ρ then (if c.pe ρ then k.wp Φ ρ R else False) else False
 | .load fl a ks k,ρ,R=>∃ l,a0y ρ a=some l/\∃ x,a0o ρ fl ks.length l=some x/\∃ r,a0w ks x=some r/\k.wp Φ (ρ.push r) R
 | .app d src size k,ρ,R=>∃ xs,a8Y ρ size d=some xs/\∃ es,a1f ρ size src=some es /\
   if xs.length+es.length<=1000000 then k.wp Φ { ρ with v:=ρ.v++[PV.sl size (xs++es)] } R else False
 | .cut n lo hi size k,ρ,R=>∃ xs,(ρ.v[n]?).bind (PV.rowsOf size)=some xs /\
   if 0<=a2k ρ lo/\a2k ρ lo<=a2i ρ hi xs.length/\a2i ρ hi xs.length<=xs.length then k.wp Φ { ρ with v:=ρ.v++[.sl size ((xs.take (a2i ρ hi xs.length).toNat).drop (a2k ρ lo).toNat)] } R else False
 | .scut n lo hi k,ρ,R=>match ρ.v[n]? with
  | some (.str l)=>if 0<=a2k ρ lo/\a2k ρ lo<=a2i ρ hi l.length/\a2i ρ hi l.length<=l.length then k.wp Φ { ρ with v:=ρ.v++[.str ((l.take (a2i ρ hi l.length).toNat).drop (a2k ρ lo).toNat)] } R else False
  | _=>False
 | .chk n size k,ρ,R=>∃ xs,(ρ.v[n]?).bind (PV.rowsOf size)=some xs/\k.wp Φ ρ R
 | .appF n src size k,ρ,R=>∃ xs,(ρ.v[n]?).bind (PV.rowsOf size)=some xs/\∃ es,a1f ρ size src=some es /\
   if es.length≠0/\xs.length+es.length<=1000000 then k.wp Φ { ρ with v:=ρ.v++[PV.sl size (xs++es)] } R else False
 | .call f args H shs k,ρ,R=>∃ as,SV.pvs ρ (a6e ρ H 3) args=some as/\∃ r,Φ f as ρ.m=some r/\∃ x,a0p shs r.1=some x/\k.wp Φ { ρ.push x with m:=r.2 } R
 | .callv n args shs k,ρ,R=>match ρ.v[n]? with
  | some (.fn f cap)=>∃ as,SV.pvs ρ noOwn args=some as/\∃ r,Φ f (as++cap) ρ.m=some r/\∃ x,a0p shs r.1=some x/\k.wp Φ { ρ.push x with m:=r.2 } R
  | _=>False
 | .newM cs T k,ρ,R=>∃ l,SV.pvs ρ noOwn cs=some l/\k.wp Φ { ρ with v:=ρ.v++[.ref ρ.m.length 0],m:=ρ.m++[.cells l T] } R
 | .mkM n zero T size bytes k,ρ,R=>∃ z,SV.pvs ρ noOwn zero=some z /\
   if 0<=n.pe ρ/\n.pe ρ<=1000000/\bytes<=100000000 then k.wp Φ { ρ with v:=ρ.v++[.msl ρ.m.length 0 (n.pe ρ).toNat (n.pe ρ).toNat size],m:=ρ.m++[.cells (Q2 (n.pe ρ).toNat z).flatten T] } R else False
 | .storeM a cs k,ρ,R=>match a0y ρ a with
  | some (.obj h off)=>match ρ.m[h]? with
   | some (.cells l T)=>∃ new,SV.pvs ρ noOwn cs=some new/\if off+new.length<=l.length then k.wp Φ { ρ with m:=ρ.m.set h (.cells (a3T l off new) T) } R else False
   | _=>False
  | some (.elt h len i sz off)=>match ρ.m[h]? with
   | some (.row rows sz' T)=>if rows.length=len/\sz'=sz then ∃ r,rows[i]?=some r/\∃ new,SV.pvs ρ noOwn cs=some new/\if off+new.length<=r.length/\new.all PV.one=true then k.wp Φ { ρ with m:=ρ.m.set h (.row (rows.set i (a3T r off new)) sz' T) } R else False else False
   | _=>False
  | _=>False
 | .appM d src size T k,ρ,R=>∃ p,d.pv ρ noOwn=some p/\∃ es,a1f ρ size src=some es/\match p with
  | .nilS=>if es.length<=1000000 then (if es.length=0 then k.wp Φ { ρ with v:=ρ.v++[.nilS] } R else k.wp Φ { ρ with v:=ρ.v++[.rsl ρ.m.length es.length size],m:=ρ.m++[.row es size T] } R) else False
  | .rsl h len sz=>match ρ.m[h]? with
   | some (.row rows sz' T')=>if rows.length=len/\sz=size/\sz'=size/\T'=T/\len+es.length<=1000000 then
     (if es.length=0 then k.wp Φ { ρ with v:=ρ.v++[.rsl h len sz] } R else k.wp Φ { ρ with v:=ρ.v++[.rsl h (len+es.length) size],m:=ρ.m.set h (.row (rows++es) size T) } R) else False
   | _=>False
  | _=>False
 | .mkMap K k,ρ,R=>k.wp Φ { ρ with v:=ρ.v++[.mp ρ.m.length],m:=ρ.m++[.mp [] [] K] } R
 | .mapGet n K key dflt ok shs k,ρ,R=>match ρ.v[n]? with
  | some (.mp h)=>match ρ.m[h]? with
   | some (.mp ks vs K')=>if K'=K then ∃ d,dflt.pv ρ noOwn=some d /\
     ∃ x,a0p shs (if ok then .tup [(a2j ks vs (key.pe ρ)).getD d,.bool (a2j ks vs (key.pe ρ)).isSome] else (a2j ks vs (key.pe ρ)).getD d)=some x/\k.wp Φ (ρ.push x) R else False
   | _=>False
  | _=>False
 | .mapSet n K key v k,ρ,R=>match ρ.v[n]? with
  | some (.mp h)=>match ρ.m[h]? with
   | some (.mp ks vs K')=>if K'=K then ∃ x,v.pv ρ noOwn=some x/\k.wp Φ { ρ with m:=ρ.m.set h (.mp (a3p ks vs (key.pe ρ) x).1 (a3p ks vs (key.pe ρ) x).2 K) } R else False
   | _=>False
  | _=>False
 | .mapClr n k,ρ,R=>match ρ.v[n]? with
  | some (.mp h)=>match ρ.m[h]? with
   | some (.mp _ _ K')=>k.wp Φ { ρ with m:=ρ.m.set h (.mp [] [] K') } R
   | _=>False
  | _=>False
 | .mkQ k,ρ,R=>k.wp Φ { ρ with v:=ρ.v++[.mp ρ.m.length],m:=ρ.m++[.mq [] 0] } R
 | .qGet n key ok k,ρ,R=>match ρ.v[n]? with
  | some (.mp h)=>match ρ.m[h]? with
   | some (.mq kv _)=>if a4E key.length kv then k.wp Φ (ρ.push ([(a0K kv (key.map (IE.pe ρ))).getD 0],if ok then [(a0K kv (key.map (IE.pe ρ))).isSome] else [],[])) R else False
   | _=>False
  | _=>False
 | .qSet n key v k,ρ,R=>match ρ.v[n]? with
  | some (.mp h)=>match ρ.m[h]? with
   | some (.mq kv ver)=>if a4E key.length kv then k.wp Φ { ρ with m:=ρ.m.set h (.mq (a3B kv (key.map (IE.pe ρ)) (v.pe ρ)) (ver+1)) } R else False
   | _=>False
  | _=>False
 | .qDel n key k,ρ,R=>match ρ.v[n]? with
  | some (.mp h)=>match ρ.m[h]? with
   | some (.mq kv ver)=>if a4E key.length kv then k.wp Φ { ρ with m:=ρ.m.set h (.mq (a3q kv (key.map (IE.pe ρ))) (ver+1)) } R else False
   | _=>False
  | _=>False
 | .qLen n k,ρ,R=>match ρ.v[n]? with
  | some (.mp h)=>match ρ.m[h]? with
   | some (.mq kv _)=>k.wp Φ (ρ.push ([(kv.length:Int)],[],[])) R
   | _=>False
  | _=>False
 | .rng n k,ρ,R=>match ρ.v[n]? with
  | some (.mp h)=>match ρ.m[h]? with
   | some (.mq _ ver)=>k.wp Φ { ρ with v:=ρ.v++[.ref ρ.m.length 0],m:=ρ.m++[.it h ver []] } R
   | _=>False
  | _=>False
 | .next n w x y,ρ,R=>match ρ.v[n]? with
  | some (.ref i 0)=>match ρ.m[i]? with
   | some (.it h ver seen)=>match ρ.m[h]? with
    | some (.mq kv ver')=>if ver'=ver/\a4E w kv=true then (if a5M kv seen=[] then x.wp Φ { ρ with m:=ρ.m.set i .dead } R else ∀ p∈a5M kv seen,y.wp Φ { ρ.push (p.1++[p.2],[],[]) with m:=ρ.m.set i (.it h ver (seen++[p.1])) } R) else False
    | _=>False
   | _=>False
  | _=>False
 | .entry n w k,ρ,R=>match ρ.v[n]? with
  | some (.ref i 0)=>match ρ.m[i]? with
   | some (.it h ver seen)=>match seen.getLast? with
    | some key=>match ρ.m[h]? with
     | some (.mq kv ver')=>if ver'=ver then ∃ v,a0K kv key=some v/\if key.length=w then k.wp Φ (ρ.push (key++[v],[],[])) R else False else False
     | _=>False
    | none=>False
   | _=>False
  | _=>False
 | .copyM d x size k,ρ,R=>match ρ.v[d]? with
  | some (.msl h o len _ sz)=>match ρ.m[h]? with
   | some (.cells l T)=>∃ sc,b2D ρ size x=some sc/\if sz=size/\o+min sc.1 len*size<=l.length/\min sc.1 len*size<=sc.2.length/\sc.2.all PV.one=true then
     k.wp Φ { ρ.push ([((min sc.1 len:Nat):Int)],[],[]) with m:=ρ.m.set h (.cells (a3T l o (sc.2.take (min sc.1 len*size))) T) } R else False
   | _=>False
  | _=>False
 | .both x y,ρ,R=>x.wp Φ ρ R/\y.wp Φ ρ R
 | .jump q is bs vs,ρ,R=>∃ b,BE.all ρ bs=some b/\∃ v,SV.pvs ρ noOwn vs=some v/\R (.jump q { i:=is.map (IE.pe ρ),b,v,m:=ρ.m,k:=ρ.k })
 | .stuck,_,_=>False
def b7p:List SV->Option (List Kd)
 | []=>some []
 | .int k (.a _)::l=>(b7p l).map (.int k::·)
 | .bool (.a _)::l=>(b7p l).map (.bool::·)
 | .va _::l=>(b7p l).map (.val::·)
 | _=>none
def c5s:SV->Option Sh
 | .agg cs=>(b7p cs).map .agg
 | v=>(b7p [v]).bind fun | [k]=>some (.one k) | _=>none
def c1Y:SV->Option (List Sh)
 | .tup l=>l.mapM c5s
 | v=>(c5s v).map ([·])
abbrev Acc:=List (Nat × IE) × List (Nat × BE) × List (Nat × SV) × List (Nat × SV)
def a4X:Nat->List (SV × SV)->Acc->Acc
 | 0,_,acc=>acc
 | _,[],acc=>acc
 | n+1,(x,y)::r,acc=>match x,y,acc with
  | .int _ (.a k),.int _ e,(a,b,c,d)=>a4X n r ((k,e)::a,b,c,d)
  | .bool (.a k),.bool e,(a,b,c,d)=>a4X n r (a,(k,e)::b,c,d)
  | .va k,y,(a,b,c,d)=>a4X n r (a,b,(k,y)::c,d)
  | .junk k,y,(a,b,c,d)=>a4X n r (a,b,c,(k,y)::d)
  | .pa k _,.pa m _,(a,b,c,d)=>a4X n r (a,b,(k,.va m)::c,d)
  | .fs k,.fs m,(a,b,c,d)=>a4X n r (a,b,(k,.va m)::c,d)
  | .ea k (.a q) _ _,.ea m e _ _,(a,b,c,d)=>a4X n r ((q,e)::a,b,(k,.va m)::c,d)
  | .agg l,.agg m,acc=>a4X n (l.zip m++r) acc
  | .tup l,.tup m,acc=>a4X n (l.zip m++r) acc
  | .fn _ _ l,.fn _ _ m,acc=>a4X n (l.zip m++r) acc
  | _,_,acc=>a4X n r acc
def c2k (x y:SV) (acc:Acc):Acc:=a4X 1000 [(x,y)] acc
def c6K:Blk->Blk->List (Nat × IE) × List (Nat × BE) × List (Nat × SV) × List (Nat × SV)->List (Nat × IE) × List (Nat × BE) × List (Nat × SV) × List (Nat × SV)
 | .cells l _ _,.cells m _ _,acc=>(l.zip m).foldl (fun acc (x:SV × SV)=>c2k x.1 x.2 acc) acc
 | .row n _ _,.row m _ _,acc=>(acc.1,acc.2.1,acc.2.2.1++[(n,.va m)],acc.2.2.2)
 | .row n _ _,_,acc=>(acc.1,acc.2.1,acc.2.2.1++[(n,.nilS)],acc.2.2.2)
 | _,_,acc=>acc
def c5t (t g:Cfg):Asg :=
 let r:=(t.H.zipIdx).foldl (fun acc (x:Blk × Nat)=>c6K x.1 (g.H.getD x.2 (.cells [] 0 false)) acc) (((t.sl++t.fs.flatten).zip (g.sl++g.fs.flatten)).foldl (fun acc (x:SV × SV)=>c2k x.1 x.2 acc) ([],[],[],[]))
 ⟨(Qb t.ni).map fun n=>(r.1.lookup n).getD (.l 0),(Qb t.nb).map fun n=>(r.2.1.lookup n).getD (.t true),(Qb t.nv).map fun n=>(r.2.2.1.lookup n).getD .nilS,(Qb t.nj).map fun n=>(r.2.2.2.lookup n).getD .undef⟩
def b3F (t:Cfg):Bool:=match t.todo with | .dreg _ _ _::_=>false | _=>true
def b6h (g:Cfg):List Cfg->Nat->Option (Nat × Asg)
 | [],_=>none
 | t::l,q=>if decide (t.todo=g.todo)&&fits ⟨0,0,0,0⟩ (c5t t g) t g&&b3F t then some (q,c5t t g) else b6h g l (q+1)
def b6R:Src->Bool
 | .lit l=>l.all fun x=>x.all SV.flat
 | .va _=>true
def c6A (n:Nat):Src->Bool
 | .lit l=>l.all fun x=>decide (x.length=n)
 | .va _=>true
def comp (pats:List Cfg):Out->Nat->Nat->Nat->Option PT
 | .ret gen v H,_,_,_=>some (.ret gen v H)
 | .ite c x y,a,b,d=>(comp pats x a b d).bind fun x=>(comp pats y a b d).map fun y=>.ite c x y
 | .need c k,a,b,d=>(comp pats k a b d).map (.need c)
 | .load fl x cs di db dv k,a,b,d=>(b7p cs).bind fun ks =>
   if SV.beqs (a0Y ks a b d).1 cs&&decide ((a0Y ks a b d).2=(a+di,b+db,d+dv)) then (comp pats k (a+di) (b+db) (d+dv)).map (.load fl x ks) else none
 | .app n src size bytes k,a,b,d=>if b6R src&&decide (bytes<=100000000) then (comp pats k a b (d+1)).map (.app n src size) else none
 | .cut n lo hi size k,a,b,d=>(comp pats k a b (d+1)).map (.cut n lo hi size)
 | .scut n lo hi k,a,b,d=>(comp pats k a b (d+1)).map (.scut n lo hi)
 | .chk n size k,a,b,d=>(comp pats k a b d).map (.chk n size)
 | .appF n src size bytes k,a,b,d=>if b6R src&&decide (bytes<=100000000) then (comp pats k a b (d+1)).map (.appF n src size) else none
 | .hole ..,_,_,_=>some .stuck
 | .fill ..,_,_,_=>some .stuck
 | .call f args H res di db dv k,a,b,d=>(c1Y res).bind fun shs =>
   if SV.beq (a1E (a1b shs a b d).1) res&&decide ((a1b shs a b d).2=(a+di,b+db,d+dv)) then (comp pats k (a+di) (b+db) (d+dv)).map (.call f args H shs) else none
 | .callv n args res di db dv k,a,b,d=>(c1Y res).bind fun shs =>
   if SV.beq (a1E (a1b shs a b d).1) res&&decide ((a1b shs a b d).2=(a+di,b+db,d+dv)) then (comp pats k (a+di) (b+db) (d+dv)).map (.callv n args shs) else none
 | .newM cs T k,a,b,d=>(comp pats k a b (d+1)).map (.newM cs T)
 | .mkM n zero T size bytes k,a,b,d=>if zero.length=size then (comp pats k a b (d+1)).map (.mkM n zero T size bytes) else none
 | .storeM x cs k,a,b,d=>(comp pats k a b d).map (.storeM x cs)
 | .appM x src size bytes T k,a,b,d=>if b6R src&&c6A size src&&decide (bytes<=100000000)&&decide (0 < size)&&x.flat then (comp pats k a b (d+1)).map (.appM x src size T) else none
 | .mkMap K k,a,b,d=>(comp pats k a b (d+1)).map (.mkMap K)
 | .mapGet n K key dflt ok res di db dv k,a,b,d=>(c1Y res).bind fun shs =>
   if SV.beq (a1E (a1b shs a b d).1) res&&decide ((a1b shs a b d).2=(a+di,b+db,d+dv)) then (comp pats k (a+di) (b+db) (d+dv)).map (.mapGet n K key dflt ok shs) else none
 | .mapSet n K key v k,a,b,d=>(comp pats k a b d).map (.mapSet n K key v)
 | .mapClr n k,a,b,d=>(comp pats k a b d).map (.mapClr n)
 | .mkQ k,a,b,d=>(comp pats k a b (d+1)).map .mkQ
 | .qGet n key ok k,a,b,d=>(comp pats k (a+1) (if ok then b+1 else b) d).map (.qGet n key ok)
 | .qSet n key v k,a,b,d=>(comp pats k a b d).map (.qSet n key v)
 | .qDel n key k,a,b,d=>(comp pats k a b d).map (.qDel n key)
 | .qLen n k,a,b,d=>(comp pats k (a+1) b d).map (.qLen n)
 | .rng n k,a,b,d=>(comp pats k a b (d+1)).map (.rng n)
 | .next n w x y,a,b,d=>(comp pats x a b d).bind fun x=>(comp pats y (a+(w+1)) b d).map fun y=>.next n w x y
 | .entry n w k,a,b,d=>(comp pats k (a+(w+1)) b d).map (.entry n w)
 | .copyM n x size k,a,b,d=>(comp pats k (a+1) b d).map (.copyM n x size)
 | .both x y,a,b,d=>(comp pats x a b d).bind fun x=>(comp pats y a b d).map fun y=>.both x y
 | .stop g,_,_,_=>(b6h g pats 0).map fun r=>.jump r.1 r.2.is r.2.bs r.2.vs
 | .fail _,_,_,_=>some .stuck
def PT.wrap (f:PT->PT):PT->PT
 | .stuck=>.stuck
 | k=>f k
def PT.prune:PT->PT
 | .ret gen v H=>.ret gen v H
 | .ite c x y=>match x.prune,y.prune with
  | .stuck,.stuck=>.stuck
  | x,y=>.ite c x y
 | .need c k=>PT.wrap (.need c) k.prune
 | .load fl a ks k=>PT.wrap (.load fl a ks) k.prune
 | .app d src size k=>PT.wrap (.app d src size) k.prune
 | .cut n lo hi size k=>PT.wrap (.cut n lo hi size) k.prune
 | .chk n size k=>PT.wrap (.chk n size) k.prune
 | .scut n lo hi k=>PT.wrap (.scut n lo hi) k.prune
 | .appF n src size k=>PT.wrap (.appF n src size) k.prune
 | .call f args H shs k=>PT.wrap (.call f args H shs) k.prune
 | .callv n args shs k=>PT.wrap (.callv n args shs) k.prune
 | .newM cs T k=>PT.wrap (.newM cs T) k.prune
 | .mkM n zero T size bytes k=>PT.wrap (.mkM n zero T size bytes) k.prune
 | .storeM a cs k=>PT.wrap (.storeM a cs) k.prune
 | .appM d src size T k=>PT.wrap (.appM d src size T) k.prune
 | .mkMap K k=>PT.wrap (.mkMap K) k.prune
 | .mapGet n K key dflt ok shs k=>PT.wrap (.mapGet n K key dflt ok shs) k.prune
 | .mapSet n K key val k=>PT.wrap (.mapSet n K key val) k.prune
 | .mapClr n k=>PT.wrap (.mapClr n) k.prune
 | .mkQ k=>PT.wrap .mkQ k.prune
 | .qGet n key ok k=>PT.wrap (.qGet n key ok) k.prune
 | .qSet n key v k=>PT.wrap (.qSet n key v) k.prune
 | .qDel n key k=>PT.wrap (.qDel n key) k.prune
 | .qLen n k=>PT.wrap (.qLen n) k.prune
 | .rng n k=>PT.wrap (.rng n) k.prune
 | .next n w x y=>match x.prune,y.prune with
  | .stuck,.stuck=>.stuck
  | x,y=>.next n w x y
 | .entry n w k=>PT.wrap (.entry n w) k.prune
 | .copyM d x size k=>PT.wrap (.copyM d x size) k.prune
 | .both x y=>match x.prune,y.prune with
  | .stuck,_=>.stuck
  | _,.stuck=>.stuck
  | x,y=>.both x y
 | .jump q is bs vs=>.jump q is bs vs
 | .stuck=>.stuck
inductive PSh where
 | sh (s:Sh)
 | ptr
 deriving Inhabited
structure Rg where
 n:Nat
 sh:List Sh
 it:Nat->List PV->Option (List (List PV))
 round:PT
 after:PT
structure Sys where
 ps:List PSh
 start:PT
 loops:List PT
 prim:Option (List PV->List MO->Option (PV × List MO))
 rg:Option Rg:=none
 deriving Inhabited
def PV.isPtr:PV->Bool
 | .cell .. | .ref ..=>true
 | _=>false
def a0E:List PSh->List PV->Option (List Int × List Bool × List PV)
 | [],[]=>some ([],[],[])
 | .sh s::shs,p::l=>(a0x s p).bind fun a=>(a0E shs l).map fun r=>(a.1++r.1,a.2.1++r.2.1,a.2.2++r.2.2)
 | .ptr::shs,p::l=>if p.isPtr then (a0E shs l).map fun r=>(r.1,r.2.1,p::r.2.2) else none
 | _,_=>none
def a6X:List PSh->Nat->Nat->Nat->List SV × Nat × Nat × Nat
 | [],a,b,c=>([],a,b,c)
 | .sh s::l,a,b,c=>let r:=a1b [s] a b c; let q:=a6X l r.2.1 r.2.2.1 r.2.2.2; (r.1++q.1,q.2)
 | .ptr::l,a,b,c=>let q:=a6X l a b (c+1); (.pa c 0::q.1,q.2)
def Sys.loop (Φ:Fns) (S:Sys):Nat->Nat->PEnv->Option (PV × List MO)
 | 0,_,_=>none
 | n+1,q,ρ=>(S.loops[q]?).bind fun t=>(t.ev Φ ρ).bind fun
  | .ret r σ=>some (r,σ)
  | .jump q' ρ'=>S.loop Φ n q' ρ'
def a8L (Φ:Fns) (G:Rg):List (List PV)->PEnv->Option PEnv
 | [],ρ=>some ρ
 | y::ys,ρ=>(a1w G.sh y).bind fun r=>(G.round.ev Φ (ρ.push r)).bind fun
  | .jump 0 ρ'=>a8L Φ G ys ρ'
  | _=>none
def c4p (Φ:Fns) (S:Sys) (G:Rg) (as:List PV) (σ:List MO):Option (PV × List MO) :=
 (a0E S.ps as).bind fun r=>(S.start.ev Φ { i:=r.1,b:=r.2.1,v:=r.2.2,m:=σ,k:=σ.length }).bind fun
  | .ret r σ=>some (r,σ)
  | .jump _ ρ=>match ρ.v[G.n]? with
   | some (.fn f caps)=>(G.it f caps).bind fun ys=>(a8L Φ G ys ρ).bind fun ρ'=>(G.after.ev Φ ρ').bind fun
    | .ret r σ=>some (r,σ)
    | .jump _ _=>none
   | _=>none
def Sys.run (Φ:Fns) (S:Sys) (n:Nat) (as:List PV) (σ:List MO):Option (PV × List MO) :=
 match S.prim with
 | some F=>F as σ
 | none =>
 match S.rg with
 | some G=>c4p Φ S G as σ
 | none =>
 (a0E S.ps as).bind fun r=>(S.start.ev Φ { i:=r.1,b:=r.2.1,v:=r.2.2,m:=σ,k:=σ.length }).bind fun
  | .ret r σ=>some (r,σ)
  | .jump q ρ=>S.loop Φ n q ρ
def a0B (Tab:Nat->Option Sys):Nat->Fns
 | 0,_,_,_=>none
 | n+1,f,as,σ=>(Tab f).bind fun S=>S.run (a0B Tab n) n as σ
end Go.Sx
