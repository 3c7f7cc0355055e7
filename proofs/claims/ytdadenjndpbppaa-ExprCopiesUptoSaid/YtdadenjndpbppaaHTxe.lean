/- TX: a range over a function: from frame to frame, in the machine. -/
import Derived.Test.YtdadenjndpbppaaHTxc
import Derived.RangeFuncRecord
import Derived.RangeFuncIn
import Derived.RangeFuncLeaves
import Derived.Test.YtdadenjndpbppaaHTxd
import Derived.Below
set_option linter.unusedSimpArgs false
set_option linter.unusedVariables false
open Option.some renaming injEq → Q0
open List renaming mem_map → Q1, map_cons → Q2, replicate → Q4, eq_nil_of_length_eq_zero → Q5, take_append_drop → Q6, length_append → Q9, append_assoc → Qa, mem_append → Qb, mem_iff_getElem? → Qe, all_eq_true → Qf
open Option renaming bind_eq_some_iff → Q3, map_eq_some_iff → Qd
open Bool renaming and_eq_true → Q7
open Nat renaming le_trans → Q8, add_right_cancel_iff → Qg
namespace Go.Sx
variable {P:Program}
end Go.Sx
namespace Go.Sx
open Go.RowKit
variable {P:Program}
theorem Grows.put {E:Nat->Prop} {w:World} {L:Nat} {o:Obj} (hL:E L):Grows E w (w.putObj L o) :=
 ⟨rfl,rfl,rfl,by simp,fun k _ hE=>World.putObj_heap_other (by rintro rfl; exact hE hL)⟩
theorem a8Z {w:World} {i:Nat} {o:Obj} (h:w.heap[i]?=some o):i < w.heap.size:=(Array.getElem?_eq_some_iff.1 h).1
theorem Rel.grows {w0:World} {s0:Hp} {X:Fx} {ρ:Env} {s:Hp} {β:Nat->Nat} {g:Cfg} {a:Act} {w w':World} {E:Nat->Prop} (h:Rel w0 s0 X ρ s β g a w) (hg:Grows E w w')
  (hE:∀ i,E i->w0.heap.size<=i/\(∀ (k:Nat) (b:Blk),g.H[k]?=some b->act ρ b->β k≠i)/\(∀ o,s i o=none)/\(∀ o,¬ X.K (i,o))/\i ∉ a0J ρ.m):Rel w0 s0 X ρ s β g a w':=by
 have hcell:∀ i o,w.heap[i]?=some o->¬ E i->w'.heap[i]?=some o:=fun i o hi ho=>by
  rw [hg.block i (a8Z hi) ho]; exact hi
 refine ⟨h.tm,h.df,Q8 h.sz hg.size,fun x hx=>⟨?_,(h.kp x hx).own,(h.kp x hx).un⟩,h.ms,h.fs,h.ci,h.cb,h.cv,h.cj,h.ok,⟨hg.os.trans h.bel.os,hg.tape.trans h.bel.tape,hg.output.trans h.bel.output,Q8 h.bel.size hg.size,fun k hk hn=>?_⟩,?_,h.nw,h.le,?_,h.sp⟩
 ·refine hcell _ _ (h.kp x hx).is (fun he=>?_)
  rcases hx with hx | hx
  ·exact (hE _ he).2.2.2.1 x.2 hx
  ·exact (hE _ he).2.2.2.2 (Q1.2 ⟨x,hx,rfl⟩)
 ·rw [hg.block k (Nat.lt_of_lt_of_le hk h.bel.size) (fun he=>by have:=(hE k he).1; omega)]; exact h.bel.block k hk hn
 ·intro b off u hb
  have hc:=h.sb b off u hb
  have hnE:¬ E b:=fun he=>by have:=(hE b he).2.2.1 off; rw [hb] at this; simp at this
  rw [<- hc]
  exact World.cell?_of_block (hg.block b (h.sb.lt hb) hnE)
 ·intro k b hk
  have hb:=h.bl k b hk
  cases b with
  | cells cs T sh =>
   simp only [BOk] at hb ⊢
   exact ⟨hb.1,hcell _ _ hb.2.1 (fun he=>(hE _ he).2.1 k _ hk trivial rfl),hb.2.2⟩
  | row n T size =>
   simp only [BOk] at hb ⊢
   refine ⟨hb.1,hb.2.imp (fun x=>x) ?_⟩
   rintro ⟨m,cap,cur,c1,c2,c3,c4⟩
   exact ⟨m,cap,cur,c1,c2,hcell _ _ c3 (fun he=>(hE _ he).2.1 k _ hk (by show ρ.v.getD n vd≠_; rw [c1]; simp) rfl),c4⟩
theorem Rel.keptNC {w0:World} {s0:Hp} {X:Fx} {ρ:Env} {s:Hp} {β:Nat->Nat} {g:Cfg} {a:Act} {w:World} (h:Rel w0 s0 X ρ s β g a w) {i:Nat} {o:Obj} (hi:w.heap[i]?=some o) (ho:a5N o=true) :
  Kept s ρ β g.H w (i,o):=by
 refine ⟨hi,fun k b hk hb he=>?_,fun off=>?_⟩
 ·have hbl:=h.bl k b hk
  simp only at he
  cases b with
  | cells cs T sh =>
   simp only [BOk] at hbl
   rw [he,hi] at hbl
   have:=hbl.2.1
   simp only [Q0] at this
   subst this; simp [a5N] at ho
  | row n T size =>
   simp only [BOk] at hbl
   rcases hbl.2 with c | ⟨m,cap,cur,c1,c2,c3,c4⟩
   ·exact hb c
   ·rw [he,hi] at c3
    simp only [Q0] at c3
    subst c3; simp [a5N] at ho
 ·cases hs:s i off with
  | none=>rfl
  | some u =>
   have:=h.sb i off u hs
   simp only [World.cell?,hi] at this
   cases o<;>simp_all [a5N]
theorem Rel.kept {w0:World} {s0:Hp} {X X':Fx} {ρ:Env} {s:Hp} {β:Nat->Nat} {g:Cfg} {a:Act} {w:World} (h:Rel w0 s0 X ρ s β g a w) (hE:X'.E=X.E) (hd:X'.ds=X.ds) (hz:X'.zs=X.zs) (hs:X'.sz<=w.heap.size)
  (hk:∀ x,X'.K x->X.K x\/(Kept s ρ β g.H w x/\x.1 ∉ a0J ρ.m)):Rel w0 s0 X' ρ s β g a w :=
 ⟨h.tm,h.df.trans hd.symm,hs,fun x hx=>hx.elim (fun hx=>(hk x hx).elim (fun h1=>h.kp x (.inl h1)) (fun h1=>h1.1)) (fun hx=>h.kp x (.inr hx)),h.ms.to rfl rfl hE (fun x hx=>(hk x hx).imp id (·.2)),hz.trans h.fs,h.ci,h.cb,h.cv,h.cj,h.ok,hE▸h.bel,h.sb,h.nw,h.le,h.bl,h.sp⟩
theorem Rel.turned {w0:World} {s0:Hp} {X X':Fx} {ρ:Env} {s:Hp} {β:Nat->Nat} {g:Cfg} {a:Act} {w:World} {L:Nat} {o o':Obj} (h:Rel w0 s0 X ρ s β g a w) (hE:X'.E=X.E) (hd:X'.ds=X.ds) (hz:X'.zs=X.zs) (hsz:X'.sz<=w.heap.size)
  (hL:w0.heap.size<=L) (hLm:L ∉ a0J ρ.m) (ho:w.heap[L]?=some o) (hn:a5N o=true) (hk:∀ x,X'.K x->(x.1≠L/\X.K x)\/x=(L,o')):Rel w0 s0 X' ρ s β g a (w.putObj L o'):=by
 have h1:Rel w0 s0 { X with K:=fun x=>x.1≠L/\X.K x } ρ s β g a w:=h.kept rfl rfl rfl h.sz (fun x hx=>.inl hx.2)
 have h0:=h.keptNC ho hn
 have h2:=h1.grows (Grows.put (E:=fun i=>i=L) (o:=o') rfl) (fun i hi=>by
  subst hi
  exact ⟨hL,h0.own,h0.un,fun o1 h1=>h1.1 rfl,hLm⟩)
 refine h2.kept hE hd hz (by simpa using hsz) (fun x hx=>?_)
 rcases hk x hx with h3 | rfl
 ·exact .inl h3
 ·exact .inr ⟨⟨World.putObj_heap_same (a8Z ho),h0.own,h0.un⟩,hLm⟩
def b7f (E E':Nat->Prop) (w w':World):Prop:=∀ i,E' i->(E i\/w.heap.size<=i)/\∃ o,w'.heap[i]?=some o
def b6y (E:Nat->Prop) (w w':World):Prop:=w.heap.size<=w'.heap.size/\∀ i,E i->w'.heap[i]?=w.heap[i]?
structure Yielder (P:Program) (L:Nat) (ys:List (List Value)) (s:Hp) (J:Nat->(Nat->Prop)->World->Prop):Prop where
 sub:∀ k E w,J k E w->Sub s w
 stab:∀ k E E' w w',J k E w->Grows E w w'->b7f E E' w w'->J k E' w'
 call:∀ k E w args,ys[k]?=some args->J k E w->∃ r:Loop,w.heap[L]?=some (.loop r)/\args.length=r.params.size /\
  a1C P (r.fn,some L) (fun e w'=>b6y E w w'/\e=.returned (.bool true)/\J (k+1) E w')
   [.code r.assign,.beginRound,.code r.body] { tmps:=(r.params.zip args.toArray).foldl (fun tmps (t,a)=>tmps.setIfInBounds t a) r.tmps,defers:=[] } w
def yv (L:Nat):Value:=.func (.yield L) #[] #[]
def noE:Nat->Prop:=fun _=>False
def b2k (P:Program) (F:Nat) (caps:List Value) (s:Hp) (ys:List (List Value)):Prop :=
 ∀ L J w,Yielder P L ys s J->J 0 noE w->Calls P F (#[yv L]++caps.toArray) w (fun e w'=>∃ v,e=.returned v/\∃ E,J ys.length E w')
theorem b2k.mono {F:Nat} {caps:List Value} {s t:Hp} {ys:List (List Value)} (h:b2k P F caps s ys) (hst:s.le t):b2k P F caps t ys:=fun L J w hy hj =>
 h L J w ⟨fun k E w hk b o u hb=>hy.sub k E w hk b o u (hst b o u hb),hy.stab,hy.call⟩ hj
def b5G (g:Cfg) (tsl:List SV) (todo:List PI):Cfg:={ g with todo,sl:=tsl,fs:=[] }
abbrev Inv:=List Int->List Bool->List Value->MS->Hp->Prop
section
variable (P) (f:FuncId) (Q:Value->Hp->MS->Prop) (body:Code) (w0:World) (s0:Hp) (m0:MS) (Ds:List Nat)
abbrev b7j (g:Cfg) (ρ:Env) (s:Hp):Prop:=a6i P (f,none) (Ret Q s0 m0 w0) body w0 s0 (Xm (a0J m0) Ds) g ρ s
end
def XL (E:List Nat) (Ds:List Nat) (D:Nat) (T0:Array Value) (o:Obj):Fx :=
 { K:=fun x=>(x.1∈Ds/\x.2=.deferred (some []))\/x=(D,.deferred (some []))\/x=(D+1,o),E,zs:=[T0],ds:=[] }
theorem Rel.back {w0:World} {s0:Hp} {Em:List Nat} {Ds:List Nat} {D:Nat} {T0:Array Value} {r r':Loop} {ρ:Env} {s:Hp} {β:Nat->Nat} {g:Cfg} {w:World} {tsl:List SV} (hlt:∀ D'∈Ds,D' < D) (hD0:w0.heap.size<=D)
  (h:Rel w0 s0 (XL Em Ds D T0 (.loop r)) ρ s β { g with sl:=[] } { tmps:=#[],defers:=[] } w) (hfs:g.fs=[tsl]) (todo:List PI) :
  Rel w0 s0 (Xm Em (D::Ds)) ρ s β (b5G g tsl todo) { tmps:=T0,defers:=(D::Ds).map a4l } (w.putObj (D+1) (.loop r')):=by
 have hL:=h.kp (D+1,.loop r) (.inl (.inr (.inr rfl)))
 have hLm:=h.ms.dk (D+1,.loop r) (.inr (.inr rfl))
 have h1:=h.turned (X':={ (Xm Em (D::Ds)) with zs:=[T0],ds:=[] }) (L:=D+1) (o':=.loop r') rfl rfl rfl (Nat.zero_le _) (by omega) hLm hL.is rfl (fun x hx=>by
  obtain ⟨h2,h3⟩:=hx
  obtain ⟨i,o⟩:=x
  simp only at h2 h3
  subst h3
  left
  rcases List.mem_cons.1 h2 with h2 | h2
  ·subst h2; exact ⟨by simp,.inr (.inl rfl)⟩
  ·have:=hlt _ h2
   exact ⟨by simp only [ne_eq]; omega,.inl ⟨h2,rfl⟩⟩)
 have hz:[T0]=g.fs.map fun l=>(SV.dens ρ β l).toArray:=h1.fs
 rw [hfs] at hz
 simp only [Q2,List.map_nil,List.cons.injEq,and_true] at hz
 exact ⟨hz,rfl,h1.sz,h1.kp,h1.ms.to rfl rfl rfl (fun _=>.inl),rfl,h1.ci,h1.cb,h1.cv,h1.cj,h1.ok,h1.bel,h1.sb,h1.nw,h1.le,h1.bl,h1.sp⟩
section
variable {c:Ctx} {f:FuncId} {fn:FnC} {Q:Value->Hp->MS->Prop} {w0:World} {s0:Hp} {m0:MS} {Ds:List Nat}
theorem Rel.around {X:Fx} {ρ:Env} {s:Hp} {β:Nat->Nat} {g:Cfg} {a:Act} {w:World} (h:Rel w0 s0 X ρ s β g a w) (todo:List PI):Rel w0 s0 X ρ s β { g with todo,sl:=[] } { tmps:=#[],defers:=a.defers } w :=
 ⟨by simp [SV.dens],h.df,h.sz,h.kp,h.ms,h.fs,h.ci,h.cb,h.cv,h.cj,h.ok,h.bel,h.sb,h.nw,h.le,h.bl,h.sp⟩
end
end Go.Sx
namespace Go.Sx
open Go.RowKit
variable {P:Program}
def b6A (w:World) (B:Nat):World:={ w with heap:=w.heap.extract 0 B }
def b6L (ρ:Env) (β:Nat->Nat) (H:List Blk):Nat->Prop:=fun i=>∃ k b,H[k]?=some b/\act ρ b/\β k=i
def XB (w:World) (B:Nat) (E:Nat->Prop):Fx:={ K:=fun x=>B<=x.1/\¬ E x.1/\w.heap[x.1]?=some x.2,sz:=w.heap.size }
theorem MRel.none {w0:World} {X:Fx} {ρ:Env} (hE:X.E=[]) (hm:ρ.m=[]) (hk:ρ.k=0):MRel w0 X ρ :=
 ⟨by rw [hE,hk]; rfl,fun i x hi=>by omega,by omega,by rw [hm]; simp [a0J],fun x _=>by rw [hm]; simp [a0J],fun i x _ hx=>by rw [hm] at hx; simp at hx⟩
structure RelI (s:Hp) (B:Nat) (ρ:Env) (β:Nat->Nat) (g:Cfg) (a:Act) (w:World):Prop where
 sz:B<=w.heap.size
 lo:∀ b o u,s b o=some u->b < B
 m:ρ.m=[]
 k:ρ.k=0
 rel:Rel (b6A w B) s (XB w B (b6L ρ β g.H)) ρ s β g a w
section
variable (P:Program) (F:FuncId) (body:Code) (s:Hp) (B:Nat) (R:Ending->World->Prop)
end
section
variable {c:Ctx} {F:FuncId} {fn:FnC} {s:Hp} {B:Nat} {R:Ending->World->Prop} {J:(Nat->Prop)->World->Prop} {Q:Value->Hp->MS->Prop}
theorem a1C.mono {f:Fr} {R R':Ending->World->Prop} {todo:List Item} {a:Act} {w:World} (h:a1C P f R todo a w) (hr:∀ e w',R e w'->R' e w'):a1C P f R' todo a w:=fun cs hcs=>by
 obtain ⟨e,w',m,r,x⟩:=h cs hcs
 exact ⟨e,w',m,hr _ _ r,x⟩
end
section
variable {P:Program} {F:FuncId} {fn:FnC} {s:Hp} {B:Nat} {R:Ending->World->Prop}
end
end Go.Sx
namespace Go.Sx
open Go.RowKit
variable {P:Program}
def Out.andThen (kk:Cfg->Out):Out->Out
 | .ret gen v H=>.ret gen v H
 | .ite c x y=>.ite c (x.andThen kk) (y.andThen kk)
 | .need c k=>.need c (k.andThen kk)
 | .load fl a cs di db dv k=>.load fl a cs di db dv (k.andThen kk)
 | .app dst src size bytes k=>.app dst src size bytes (k.andThen kk)
 | .cut n lo hi size k=>.cut n lo hi size (k.andThen kk)
 | .chk n size k=>.chk n size (k.andThen kk)
 | .scut n lo hi k=>.scut n lo hi (k.andThen kk)
 | .appF n src size bytes k=>.appF n src size bytes (k.andThen kk)
 | .hole dst size bytes k=>.hole dst size bytes (k.andThen kk)
 | .fill n i es size k=>.fill n i es size (k.andThen kk)
 | .call f args H res di db dv k=>.call f args H res di db dv (k.andThen kk)
 | .callv n args res di db dv k=>.callv n args res di db dv (k.andThen kk)
 | .newM cs T k=>.newM cs T (k.andThen kk)
 | .mkM n zero T size bytes k=>.mkM n zero T size bytes (k.andThen kk)
 | .storeM a cs k=>.storeM a cs (k.andThen kk)
 | .appM d src size bytes T k=>.appM d src size bytes T (k.andThen kk)
 | .mkMap K k=>.mkMap K (k.andThen kk)
 | .mapGet n K key dflt ok res di db dv k=>.mapGet n K key dflt ok res di db dv (k.andThen kk)
 | .mapSet n K key val k=>.mapSet n K key val (k.andThen kk)
 | .mapClr n k=>.mapClr n (k.andThen kk)
 | .mkQ k=>.mkQ (k.andThen kk)
 | .qGet n key ok k=>.qGet n key ok (k.andThen kk)
 | .qSet n key v k=>.qSet n key v (k.andThen kk)
 | .qDel n key k=>.qDel n key (k.andThen kk)
 | .qLen n k=>.qLen n (k.andThen kk)
 | .rng n k=>.rng n (k.andThen kk)
 | .next n w x y=>.next n w (x.andThen kk) (y.andThen kk)
 | .entry n w k=>.entry n w (k.andThen kk)
 | .copyM d x size k=>.copyM d x size (k.andThen kk)
 | .both x y=>.both (x.andThen kk) (y.andThen kk)
 | .stop c=>kk c
 | .fail why=>.fail why
theorem VC.andThen {P:Program} {Q:Value->Hp->MS->Prop} {T:Cfg->Env->Hp->Prop} {kk:Cfg->Out}:∀ (o:Out) (ρ:Env) (s:Hp),VC P Q T (o.andThen kk) ρ s->VC P Q (fun g ρ s=>VC P Q T (kk g) ρ s) o ρ s
 | .ret ..,ρ,s,h=>h
 | .ite c x y,ρ,s,h=>⟨fun hc=>VC.andThen x ρ s (h.1 hc),fun hc=>VC.andThen y ρ s (h.2 hc)⟩
 | .need c k,ρ,s,h=>⟨h.1,fun hc=>VC.andThen k ρ s (h.2 hc)⟩
 | .load _ _ _ _ _ _ k,ρ,s,h=>by
  obtain ⟨is,bs,vs,h1,h2,h3,h4,h5,h6⟩:=h
  exact ⟨is,bs,vs,h1,h2,h3,h4,h5,VC.andThen k _ s h6⟩
 | .app _ _ _ _ k,ρ,s,h=>by
  obtain ⟨xs,es,h1,h2,h3,h4,h5⟩:=h
  exact ⟨xs,es,h1,h2,h3,h4,fun v s' a b=>VC.andThen k _ _ (h5 v s' a b)⟩
 | .cut _ _ _ _ k,ρ,s,h=>by
  obtain ⟨xs,h1,h2,h3,h4,h5⟩:=h
  exact ⟨xs,h1,h2,h3,h4,fun v a=>VC.andThen k _ _ (h5 v a)⟩
 | .scut _ _ _ k,ρ,s,h=>by
  obtain ⟨l,h1,h2,h3,h4,h5⟩:=h
  exact ⟨l,h1,h2,h3,h4,VC.andThen k _ _ h5⟩
 | .chk _ _ k,ρ,s,h=>⟨h.1,VC.andThen k _ s h.2⟩
 | .appF _ _ _ _ k,ρ,s,h=>by
  obtain ⟨xs,es,h1,h2,h3,h4,h5,h6⟩:=h
  exact ⟨xs,es,h1,h2,h3,h4,h5,fun v s' a b=>VC.andThen k _ _ (h6 v s' a b)⟩
 | .hole _ _ _ k,ρ,s,h=>by
  obtain ⟨xs,h1,h2,h3,h5⟩:=h
  exact ⟨xs,h1,h2,h3,fun v v' s' a b c=>VC.andThen k _ _ (h5 v v' s' a b c)⟩
 | .fill _ _ _ _ k,ρ,s,h=>by
  obtain ⟨xs,h1,h2,h3,h5⟩:=h
  exact ⟨xs,h1,h2,h3,fun s' a b=>VC.andThen k _ _ (h5 s' a b)⟩
 | .call _ _ _ _ _ _ _ k,ρ,s,h=>fun β s1 a b=>by
  obtain ⟨Qc,h1,h2⟩:=h β s1 a b
  refine ⟨Qc,h1,fun v s' m' a c=>?_⟩
  obtain ⟨is,bs,vs,e1,e2,e3,e4,e5,e6⟩:=h2 v s' m' a c
  exact ⟨is,bs,vs,e1,e2,e3,e4,e5,VC.andThen k _ _ e6⟩
 | .callv _ _ _ _ _ _ k,ρ,s,h=>by
  obtain ⟨F,caps,Qc,h0,h1,h2,h3⟩:=h
  refine ⟨F,caps,Qc,h0,h1,h2,fun v s' m' a c=>?_⟩
  obtain ⟨is,bs,vs,e1,e2,e3,e4,e5,e6⟩:=h3 v s' m' a c
  exact ⟨is,bs,vs,e1,e2,e3,e4,e5,VC.andThen k _ _ e6⟩
 | .newM _ _ k,ρ,s,h=>fun b hb=>VC.andThen k _ _ (h b hb)
 | .mkM _ _ _ _ _ k,ρ,s,h=>by
  obtain ⟨h1,h2,h3,h4⟩:=h
  exact ⟨h1,h2,h3,fun b hb=>VC.andThen k _ _ (h4 b hb)⟩
 | .appM _ _ _ _ _ k,ρ,s,h=>by
  obtain ⟨i,xs,es,h1,h2,h3,h4,h5,h6,h7⟩:=h
  exact ⟨i,xs,es,h1,h2,h3,h4,h5,fun he=>VC.andThen k _ _ (h6 he),fun he b' cap' cur' e1 e2 e3 e4 e5=>VC.andThen k _ _ (h7 he b' cap' cur' e1 e2 e3 e4 e5)⟩
 | .storeM _ _ k,ρ,s,h=>by
  obtain ⟨i,b,o,cur,T,h1,h2,h3,h4⟩:=h
  exact ⟨i,b,o,cur,T,h1,h2,h3,VC.andThen k _ _ h4⟩
 | .mkMap _ k,ρ,s,h=>fun b hb=>VC.andThen k _ _ (h b hb)
 | .mapGet _ _ _ _ _ _ _ _ _ k,ρ,s,h=>by
  obtain ⟨i,b,es,clock,ks,l,h1,h2,h3,is,bs,vs,e1,e2,e3,e4,e5,e6⟩:=h
  exact ⟨i,b,es,clock,ks,l,h1,h2,h3,is,bs,vs,e1,e2,e3,e4,e5,VC.andThen k _ _ e6⟩
 | .mapSet _ _ _ _ k,ρ,s,h=>by
  obtain ⟨i,b,es,clock,ks,l,h1,h2,h3,h4⟩:=h
  exact ⟨i,b,es,clock,ks,l,h1,h2,h3,fun es' clock' hm=>VC.andThen k _ _ (h4 es' clock' hm)⟩
 | .mapClr _ k,ρ,s,h=>by
  obtain ⟨i,b,es,clock,h1,h2,h3⟩:=h
  exact ⟨i,b,es,clock,h1,h2,VC.andThen k _ _ h3⟩
 | .mkQ k,ρ,s,h=>fun b hb=>VC.andThen k _ _ (h b hb)
 | .qGet _ _ _ k,ρ,s,h=>by
  obtain ⟨i,b,es,clock,kv,h1,h2,h3,h4,h5⟩:=h
  exact ⟨i,b,es,clock,kv,h1,h2,h3,h4,VC.andThen k _ _ h5⟩
 | .qSet _ _ _ k,ρ,s,h=>by
  obtain ⟨i,b,es,clock,kv,h1,h2,h3,h4,h5,h6⟩:=h
  exact ⟨i,b,es,clock,kv,h1,h2,h3,h4,h5,fun es' c' a b=>VC.andThen k _ _ (h6 es' c' a b)⟩
 | .qDel _ _ k,ρ,s,h=>by
  obtain ⟨i,b,es,clock,kv,h1,h2,h3,h4,h5,h6⟩:=h
  exact ⟨i,b,es,clock,kv,h1,h2,h3,h4,h5,fun es' c' a b=>VC.andThen k _ _ (h6 es' c' a b)⟩
 | .qLen _ k,ρ,s,h=>by
  obtain ⟨i,b,es,clock,h1,h2,h3⟩:=h
  exact ⟨i,b,es,clock,h1,h2,VC.andThen k _ _ h3⟩
 | .rng _ k,ρ,s,h=>by
  obtain ⟨i,b,es,clock,h1,h2,h3⟩:=h
  exact ⟨i,b,es,clock,h1,h2,fun b' hb'=>VC.andThen k _ _ (h3 b' hb')⟩
 | .next _ _ x y,ρ,s,h=>by
  obtain ⟨i,b',j,b,since,c0,clock,seen,es,kv,h1,h2,h3,h4,h5,h6,h7,h8,h9⟩:=h
  exact ⟨i,b',j,b,since,c0,clock,seen,es,kv,h1,h2,h3,h4,h5,h6,h7,fun h0=>VC.andThen x _ _ (h8 h0),fun e he key v a b c=>VC.andThen y _ _ (h9 e he key v a b c)⟩
 | .entry _ _ k,ρ,s,h=>by
  obtain ⟨i,b',j,b,since,clock,seen,es,e,key,v,h1,h2,h3,h4,h5,h6,h7,h8,h9⟩:=h
  exact ⟨i,b',j,b,since,clock,seen,es,e,key,v,h1,h2,h3,h4,h5,h6,h7,h8,VC.andThen k _ _ h9⟩
 | .copyM _ _ _ k,ρ,s,h=>by
  obtain ⟨i,b,o,dl,dcap,sl,cap,a,cur,T,vals,h1,h2,h3,h4,h5,h6,h7,h8⟩:=h
  exact ⟨i,b,o,dl,dcap,sl,cap,a,cur,T,vals,h1,h2,h3,h4,h5,h6,h7,VC.andThen k _ _ h8⟩
 | .both x y,ρ,s,h=>⟨VC.andThen x ρ s h.1,VC.andThen y ρ s h.2⟩
 | .stop c,ρ,s,h=>h
 | .fail _,ρ,s,h=>h.elim
theorem EnvRep.js {s:Hp} {ρp:PEnv} {is:List Int} {bs:List Bool} {vs:List Value} {js js':List Value} {mm:MS} {K:Nat} (h:EnvRep s ρp { i:=is,b:=bs,v:=vs,j:=js,m:=mm,k:=K }):EnvRep s ρp { i:=is,b:=bs,v:=vs,j:=js',m:=mm,k:=K } :=
 ⟨h.i,h.b,h.v,h.m,h.k,h.one,h.coh⟩
def b6l (Φ:Fns) (G:Rg) (ρ:PEnv):Option (PV × List MO):=match ρ.v[G.n]? with
 | some (.fn f caps)=>(G.it f caps).bind fun ys=>(a5p Φ G ys ρ).bind fun ρ'=>(G.after.ev Φ ρ').bind fun
  | .ret r σ=>some (r,σ)
  | .jump _ _=>none
 | _=>none
def RgR (Φ:Fns) (G:Rg) (r:PV) (σ':List MO):Res->Prop
 | .ret r1 σ1=>r1=r/\σ1=σ'
 | .jump _ ρ=>b6l Φ G ρ=some (r,σ')
structure RgIs (P:Program) (f:FuncId) (S:Sys) (G:Rg):Prop where
 dm:∀ Φ:Fns,(∀ f,CtP P f (Φ f))->∀ as σ r σ',(∃ x,a0Q S.ps as=some x/\S.start.wp Φ { i:=x.1,b:=x.2.1,v:=x.2.2,m:=σ,k:=σ.length } (RgR Φ G r σ')) ->
  (∀ args w,(callFunc f args).run P w=.ok (.enter f args) w)/\∀ s m vs,a0G s (inf σ m) σ m->Coh σ m->Reps s (inf σ m) as vs->Ct P f vs s m (QF σ m r σ')
section
variable {c:Ctx} {fnc:Func} {f:FuncId}
theorem RgIs.ok {S:Sys} {G:Rg} (h:RgIs P f S G) (hp:S.prim=none) (hr:S.rg=some G):SysOk P f S where
 ct Φ hΦ n as σ r σ' hrun:=by
  refine h.dm Φ hΦ as σ r σ' ?_
  unfold Sys.run at hrun
  simp only [hp,hr] at hrun
  unfold b4H at hrun
  simp only [Q3] at hrun
  obtain ⟨x,hx,res,hres,hfin⟩:=hrun
  refine ⟨x,hx,PT.ev_wp hres ?_⟩
  cases res with
  | ret r1 σ1=>simp only [Q0,Prod.mk.injEq] at hfin; exact hfin
  | jump q ρ =>
   simp only at hfin
   unfold RgR b6l
   split at hfin
   ·rename_i h1
    simp only [h1]
    exact hfin
   ·cases hfin
end
end Go.Sx
namespace Go.Sx
theorem a1G {x:PV} {rows:List (List PV)} {n:Nat} (h:x.rowsOf n=some rows):x.len=rows.length/\x.isKind 0=true/\x.one=true:=by
 cases x<;>simp only [PV.rowsOf,reduceCtorEq,Q0] at h
 ·subst h; exact ⟨rfl,rfl,rfl⟩
 ·split at h
  ·simp only [Q0] at h; subst h; exact ⟨rfl,rfl,rfl⟩
  ·cases h
theorem a6J {x:PV} {rows:List (List PV)} {n off:Nat} (h:x.rowsOf n=some rows) {i:Nat} {r:List PV} (hr:rows[i]?=some r):a4c (i:Int) n off x=some (.row r off):=by
 cases x<;>simp only [PV.rowsOf,reduceCtorEq,Q0] at h
 ·subst h; simp at hr
 ·split at h
  ·rename_i hn
   simp only [Q0] at h; subst h
   simp [a4c,hn,hr]
  ·cases h
theorem a3t (a b:Nat):ltB (a:Int) (b:Int)=decide (a < b):=by simp [ltB]
theorem a4F {α:Type} {l:List α} {i:Nat} {x:α} (h:l[i]?=some x):l.drop i=x::l.drop (i+1):=by
 rw [List.drop_eq_getElem?_toList_append (i:=i),h]; rfl
end Go.Sx
namespace Go.Sx
open Go.RowKit Go.ChangeShapes Go.WideShapes
def a3L (sh:TypeId->List PV->Prop):List TypeId->List PV->Prop
 | [],ps=>ps=[]
 | t::ts,ps=>∃ a b,ps=a++b/\sh t a/\a3L sh ts b
def a1d (P:Program):Nat->TypeId->List PV->Prop
 | 0,_,_=>False
 | n+1,t,ps=>match P.underlying t with
  | some .bool=>∃ b,ps=[.bool b]
  | some (.int k)=>∃ z,ps=[.int k z]/\loI k<=z/\z<=hiI k
  | some .string=>∃ s,ps=[.str s]
  | some (.struct fs)=>a3L (a1d P n) (fs.toList.map (·.type)) ps
  | some (.array m e)=>a3L (a1d P n) (Q4 m e) ps
  | some (.slice e)=>∃ rows,ps=[.sl (P.cellsOf e) rows]/\(∀ r∈rows,a1d P n e r)/\rows.length<=9223372036854775807
  | _=>False
mutual
def PV.wt:PV->Nat
 | .sl _ rows=>PV.wtss rows+1
 | .str s=>s.length+1
 | _=>1
def PV.wts:List PV->Nat
 | []=>0
 | p::l=>p.wt+PV.wts l
def PV.wtss:List (List PV)->Nat
 | []=>0
 | l::ls=>PV.wts l+PV.wtss ls
end
theorem PV.wts_append:∀ (l m:List PV),PV.wts (l++m)=PV.wts l+PV.wts m
 | [],m=>by simp [PV.wts]
 | p::l,m=>by simp only [List.cons_append,PV.wts,PV.wts_append l m]; omega
mutual
def bulk {H:Type}:DataW H->Nat
 | .lit (.string bytes)=>bytes.length+1
 | .lit _=>1
 | .nil=>1
 | .ptr d=>bulk d+1
 | .slice elems spare=>bulks elems+bulks spare+1
 | .agg parts=>bulks parts+1
 | .iface _ d=>bulk d+1
 | .map entries=>bulkEs entries+1
 | .held _=>1
def bulks {H:Type}:List (DataW H)->Nat
 | []=>0
 | d::r=>bulk d+bulks r
def bulkEs {H:Type}:List (Lit × DataW H)->Nat
 | []=>0
 | x::r=>bulkE x+bulkEs r
def bulkE {H:Type}:Lit × DataW H->Nat
 | (.string bytes,d)=>bytes.length+bulk d+1
 | (_,d)=>bulk d+1
end
def a3J (P:Program):Nat->List Field->Option Nat
 | o,[]=>some o
 | o,f::fs=>if f.offset=o then a3J P (o+P.cellsOf f.type) fs else none
def b2T (P:Program) (S:List TypeId) (t:TypeId):Bool:=match P.underlying t with
 | some .bool | some (.int _) | some .string=>true
 | some (.struct fs)=>fs.toList.all (fun f=>S.contains f.type)&&a3J P 0 fs.toList == some (P.cellsOf t)
 | some (.array m e)=>S.contains e&&P.cellsOf t == m*P.cellsOf e
 | some (.slice e)=>S.contains e&&decide (0 < P.cellsOf e)
 | _=>false
def closed (P:Program) (S:List TypeId):Bool:=S.all (b2T P S)
theorem a8m {P:Program}:∀ (fs:List Field) (o:Nat) {tot},a3J P o fs=some tot->o<=tot
 | [],o,tot,h=>by simp only [a3J,Q0] at h; omega
 | f::fs,o,tot,h=>by
  simp only [a3J] at h
  split at h
  ·have:=a8m fs _ h; omega
  ·cases h
section
variable {H:Type} {enc:TypeId × Value->H} {P:Program} {w:World} {spare:Nat->Bool} {held:Bool}
def a5k (P:Program) (w:World) (m:Nat) (t:TypeId) (cs:List Value) (d:DataW H) (ps:List PV):Prop :=
 Reps (hpOf w) [] ps cs/\a1d P m t ps/\(∀ p∈ps,p.one=true)/\PV.wts ps<=bulk d
theorem a8o {S:List TypeId} {m:Nat} (ih:∀ t cs (x:DataW H × List MemPlace),t∈S->DataW.trod enc P w 0 spare held m t cs=some x->∃ ps,a5k P w m t cs x.1 ps) :
  ∀ (fs:List Field) (o:Nat) (A cs:List Value) (xs:List (DataW H × List MemPlace)) (tot:Nat),(∀ f∈fs,f.type∈S)->a3J P o fs=some tot->A.length=o->(A++cs).length=tot->xs.length=fs.length ->
   (∀ (j:Nat) f,fs[j]?=some f->DataW.trod enc P w 0 spare held m f.type (((A++cs).drop f.offset).take (P.cellsOf f.type))=xs[j]?) ->
   ∃ ps,Reps (hpOf w) [] ps cs/\a3L (a1d P m) (fs.map (·.type)) ps/\(∀ p∈ps,p.one=true)/\PV.wts ps<=bulks (xs.map (·.1))
 | [],o,A,cs,xs,tot,_,ht,hA,hl,hx,_=>by
  simp only [a3J,Q0] at ht
  rw [Q9] at hl
  have:cs=[]:=Q5 (by omega)
  subst this
  have:xs=[]:=Q5 (by simpa using hx)
  subst this
  exact ⟨[],rfl,rfl,by simp,by simp [PV.wts]⟩
 | f::fs,o,A,cs,xs,tot,hS,ht,hA,hl,hx,hi=>by
  simp only [a3J] at ht
  split at ht
  case isFalse=>cases ht
  rename_i ho
  have hle:=a8m _ _ ht
  have hl':=hl
  rw [Q9] at hl'
  match xs,hx with
  | y::xs,hx =>
  have h0:=hi 0 f rfl
  rw [ho,<- hA,List.drop_left] at h0
  obtain ⟨ps0,a1,a2,a3,a4⟩:=ih _ _ _ (hS f (by simp)) h0
  have hcl:(cs.take (P.cellsOf f.type)).length=P.cellsOf f.type:=by rw [List.length_take]; omega
  obtain ⟨ps,b1,b2,b3,b4⟩:=a8o ih fs (o+P.cellsOf f.type) (A++cs.take (P.cellsOf f.type)) (cs.drop (P.cellsOf f.type)) xs tot (fun g hg=>hS g (by simp [hg])) ht
   (by rw [Q9,hcl,hA]) (by rw [Qa,Q6]; exact hl) (by simpa using hx) (fun j g hg=>by
    rw [Qa,Q6]
    have:=hi (j+1) g (by simpa using hg)
    simpa using this)
  refine ⟨ps0++ps,?_,⟨ps0,ps,rfl,a2,b2⟩,?_,?_⟩
  ·have:=Reps.append a1 b1
   rwa [Q6] at this
  ·intro p hp
   rcases Qb.1 hp with hp | hp
   ·exact a3 p hp
   ·exact b3 p hp
  ·rw [PV.wts_append]; simp only [Q2,bulks]; omega
theorem a9m {S:List TypeId} {m:Nat} {e:TypeId} (he:e∈S) (ih:∀ t cs (x:DataW H × List MemPlace),t∈S->DataW.trod enc P w 0 spare held m t cs=some x->∃ ps,a5k P w m t cs x.1 ps) :
  ∀ (n:Nat) (cs:List Value) (xs:List (DataW H × List MemPlace)),cs.length=n*P.cellsOf e->xs.length=n ->
   (∀ i,i < n->DataW.trod enc P w 0 spare held m e ((cs.drop (i*P.cellsOf e)).take (P.cellsOf e))=xs[i]?) ->
   ∃ ps,Reps (hpOf w) [] ps cs/\a3L (a1d P m) (Q4 n e) ps/\(∀ p∈ps,p.one=true)/\PV.wts ps<=bulks (xs.map (·.1))
 | 0,cs,xs,hl,hx,_=>by
  have:cs=[]:=Q5 (by omega)
  subst this
  have:xs=[]:=Q5 hx
  subst this
  exact ⟨[],rfl,rfl,by simp,by simp [PV.wts]⟩
 | n+1,cs,xs,hl,hx,hi=>by
  rw [Nat.add_mul,Nat.one_mul] at hl
  match xs,hx with
  | y::xs,hx =>
  have h0:=hi 0 (by omega)
  rw [Nat.zero_mul,List.drop_zero] at h0
  obtain ⟨ps0,a1,a2,a3,a4⟩:=ih _ _ _ he h0
  obtain ⟨ps,b1,b2,b3,b4⟩:=a9m he ih n (cs.drop (P.cellsOf e)) xs (by rw [List.length_drop]; omega) (by simpa using hx) (fun i hi'=>by
    have:=hi (i+1) (by omega)
    rw [Nat.add_mul,Nat.one_mul,Nat.add_comm] at this
    rw [List.drop_drop]
    simpa using this)
  refine ⟨ps0++ps,?_,⟨ps0,ps,rfl,a2,b2⟩,?_,?_⟩
  ·have:=Reps.append a1 b1
   rwa [Q6] at this
  ·intro p hp
   rcases Qb.1 hp with hp | hp
   ·exact a3 p hp
   ·exact b3 p hp
  ·rw [PV.wts_append]; simp only [Q2,bulks]; omega
theorem b2c {s:Hp} {B:Inf}:∀ (zs:List (List Value × List PV)),(∀ z∈zs,Reps s B z.2 z.1)->a0F s B (zs.map (·.2)) (zs.map (·.1))
 | [],_=>rfl
 | z::zs,h=>⟨z.1,zs.map (·.1),rfl,h z (by simp),b2c zs (fun y hy=>h y (by simp [hy]))⟩
theorem b2V:∀ (zs:List (List Value × List PV)) (ys:List (DataW H × List MemPlace)),zs.length=ys.length->(∀ (i:Nat) z y,zs[i]?=some z->ys[i]?=some y->PV.wts z.2<=bulk y.1)->PV.wtss (zs.map (·.2))<=bulks (ys.map (·.1))
 | [],_,_,_=>by simp [PV.wtss]
 | z::zs,[],h,_=>by simp at h
 | z::zs,y::ys,h,hi=>by
  have h0:=hi 0 z y rfl rfl
  have:=b2V zs ys (by simpa using h) (fun i z y hz hy=>hi (i+1) z y (by simpa using hz) (by simpa using hy))
  simp only [Q2,PV.wtss,bulks]; omega
theorem b4C {S:List TypeId} {m:Nat} {t e:TypeId} (hu:P.underlying t=some (.slice e)) (he:e∈S) (hpos:0 < P.cellsOf e) (ih:∀ t cs (x:DataW H × List MemPlace),t∈S->DataW.trod enc P w 0 spare held m t cs=some x->∃ ps,a5k P w m t cs x.1 ps)
  {cs:List Value} {x:DataW H × List MemPlace} (h:DataW.trod enc P w 0 spare held (m+1) t cs=some x):∃ ps,a5k P w (m+1) t cs x.1 ps:=by
 unfold DataW.trod at h
 rw [hu] at h
 cases cs with
 | nil=>simp at h
 | cons v cs =>
 cases cs with
 | cons _ _=>cases v<;>simp at h
 | nil =>
 cases v<;>try (simp at h; done)
 rename_i a len cap
 cases a with
 | none =>
  cases len<;>cases cap<;>simp at h
  subst h
  refine ⟨[.sl (P.cellsOf e) []],⟨_,[],rfl,⟨[],⟨by simp,none,0,rfl,by simp,by simp⟩,rfl,by simp⟩,rfl⟩,?_,by simp [PV.one],by simp [PV.wts,PV.wt,PV.wtss,bulk]⟩
  simp only [a1d,hu]
  exact ⟨[],rfl,by simp,by simp⟩
 | some a =>
  simp only at h
  split at h
  case isFalse=>simp at h
  rename_i hcond
  simp only [Q3,Qd] at h
  obtain ⟨elems,hel,rest,_,rfl⟩:=h
  obtain ⟨h1,h2⟩:=a6M hel
  have key:∀ i,i < len->∃ z:List Value × List PV,z.1.length=P.cellsOf e/\(∀ j u,z.1[j]?=some u->w.cell? ((a.add (i*P.cellsOf e)).add j)=some u)/\∃ y,elems[i]?=some y/\a5k P w m e z.1 y.1 z.2:=by
   intro i hi
   obtain ⟨y,hy1,hy2⟩:=h2 i i (by simp [hi])
   simp only [Q3] at hy2
   obtain ⟨cs,hcs,htr⟩:=hy2
   obtain ⟨ps,hps⟩:=ih _ _ _ he htr
   unfold World.cells? at hcs
   split at hcs
   case isFalse=>simp at hcs
   obtain ⟨c1,c2⟩:=a6M hcs
   refine ⟨(cs,ps),by simp only; rw [c1]; simp,fun j u hj=>?_,y,hy1,hps⟩
   have hjl:j < P.cellsOf e:=by
    have:=(List.getElem?_eq_some_iff.1 hj).1
    simp only at this
    rw [c1] at this; simpa using this
   obtain ⟨y',hy',hc'⟩:=c2 j j (by simp [hjl])
   simp only at hj
   rw [hj] at hy'
   simp only [Q0] at hy'; subst hy'
   exact hc'
  obtain ⟨zs,e1,e2⟩:=b2Z len key
  have hmem:∀ z∈zs,∃ y:DataW H × List MemPlace,a5k P w m e z.1 y.1 z.2:=fun z hz=>by
   obtain ⟨i,hi⟩:=Qe.1 hz
   obtain ⟨_,_,y,_,hy⟩:=e2 i z hi
   exact ⟨y,hy⟩
  refine ⟨[.sl (P.cellsOf e) (zs.map (·.2))],⟨_,[],rfl,⟨zs.map (·.1),⟨?_,some a,cap,by simp [e1],by simp [e1,hcond.2.1],fun hne=>?_⟩,b2c zs (fun z hz=>?_),?_⟩,rfl⟩,?_,by simp [PV.one],?_⟩
  ·intro x hx
   obtain ⟨z,hz,rfl⟩:=Q1.1 hx
   obtain ⟨i,hi⟩:=Qe.1 hz
   exact (e2 i z hi).1
  ·have hsp:a.spot=none:=by
    cases zs with
    | nil=>simp at hne
    | cons z zs =>
     obtain ⟨hl,hcell,_⟩:=e2 0 z rfl
     have:=hcell 0 (z.1[0]'(by omega)) (List.getElem?_eq_getElem (by omega))
     have h3:(a.add (0*P.cellsOf e)).add 0=a:=by simp [Addr.add]
     rw [h3] at this
     exact World.cell?_spot this
   obtain ⟨b,o,sp⟩:=a
   simp only at hsp; subst hsp
   refine ⟨b,o,rfl,fun i y hy j u hj=>?_⟩
   rw [List.getElem?_map,Qd] at hy
   obtain ⟨z,hz,rfl⟩:=hy
   exact b4Z (a:=⟨b,o,none⟩) rfl ((e2 i z hz).2.1 j u hj)
  ·obtain ⟨y,hy⟩:=hmem z hz
   exact hy.1
  ·intro r hr
   obtain ⟨z,hz,rfl⟩:=Q1.1 hr
   obtain ⟨y,hy⟩:=hmem z hz
   exact hy.2.2.1
  ·simp only [a1d,hu]
   refine ⟨_,rfl,fun r hr=>?_,?_⟩
   ·obtain ⟨z,hz,rfl⟩:=Q1.1 hr
    obtain ⟨y,hy⟩:=hmem z hz
    exact hy.2.1
   ·rw [List.length_map,e1]
    exact Q8 hcond.2.1 hcond.2.2
  ·have:=b2V zs elems (by rw [e1,h1]; simp) (fun i z y hz hy=>by
    obtain ⟨_,_,y',hy',ho⟩:=e2 i z hz
    rw [hy] at hy'
    simp only [Q0] at hy'; subst hy'
    exact ho.2.2.2)
   simp only [PV.wts,PV.wt,bulk]; omega
theorem b3a {S:List TypeId} (hS:closed P S=true):∀ (m:Nat) (t:TypeId) (cs:List Value) (x:DataW H × List MemPlace),t∈S->DataW.trod enc P w 0 spare held m t cs=some x->∃ ps,a5k P w m t cs x.1 ps
 | 0,t,cs,x,_,h=>by simp [DataW.trod] at h
 | m+1,t,cs,x,ht,h=>by
  have ih:=fun t cs x=>b3a hS m t cs x
  have hc:=Qf.1 hS t ht
  unfold b2T at hc
  split at hc
  ·rename_i hu
   unfold DataW.trod at h
   rw [hu] at h
   cases cs with
   | nil=>simp at h
   | cons v cs =>
   cases cs with
   | cons _ _=>cases v<;>simp at h
   | nil =>
   cases v<;>try (simp at h; done)
   simp only [Q0] at h; subst h
   exact ⟨[.bool _],⟨_,[],rfl,rfl,rfl⟩,by simp only [a1d,hu]; exact ⟨_,rfl⟩,by simp [PV.one],by simp [PV.wts,PV.wt,bulk]⟩
  ·rename_i k hu
   obtain ⟨n,rfl,rfl,hw⟩:=DataW.trod_int hu h
   exact ⟨[.int k n],⟨_,[],rfl,rfl,rfl⟩,by simp only [a1d,hu]; exact ⟨_,rfl,b1N hw⟩,by simp [PV.one],by simp [PV.wts,PV.wt,bulk]⟩
  ·rename_i hu
   unfold DataW.trod at h
   rw [hu] at h
   cases cs with
   | nil=>simp at h
   | cons v cs =>
   cases cs with
   | cons _ _=>cases v<;>simp at h
   | nil =>
   cases v<;>try (simp at h; done)
   rename_i s
   simp only at h
   split at h
   case isFalse=>cases h
   simp only [Q0] at h; subst h
   refine ⟨[.str s.data.toList],⟨_,[],rfl,?_,rfl⟩,by simp only [a1d,hu]; exact ⟨_,rfl⟩,by simp [PV.one],by simp [PV.wts,PV.wt,bulk]⟩
   simp [Rep]
  ·rename_i fs hu
   simp only [Q7,Qf,beq_iff_eq] at hc
   obtain ⟨xs,n,hn,rfl,hl,hx,hi⟩:=DataW.trod_struct hu h
   simp only [Qg] at hn; subst hn
   obtain ⟨ps,a1,a2,a3,a4⟩:=a8o ih fs.toList 0 [] cs xs _ (fun f hf=>by simpa using hc.1 f hf) hc.2 rfl hl (by simpa using hx) (fun j f hj=>by simpa using hi j f (by simpa using hj))
   exact ⟨ps,a1,by simp only [a1d,hu]; exact a2,a3,by simp only [bulk]; omega⟩
  ·rename_i n e hu
   simp only [Q7,beq_iff_eq] at hc
   obtain ⟨xs,n',hn,rfl,hl,hx,hi⟩:=DataW.trod_array hu h
   simp only [Qg] at hn; subst hn
   obtain ⟨ps,a1,a2,a3,a4⟩:=a9m (by simpa using hc.1) ih n cs xs (by rw [hl,hc.2]) hx hi
   exact ⟨ps,a1,by simp only [a1d,hu]; exact a2,a3,by simp only [bulk]; omega⟩
  ·rename_i e hu
   simp only [Q7,decide_eq_true_eq] at hc
   exact b4C hu (by simpa using hc.1) hc.2 ih h
  ·cases hc
variable {r:Go.Reach} {b0:Nat}
theorem b5E {S:List TypeId} (hS:closed P S=true) {t:TypeId} (ht:t∈S) {v:Value} {d:DataW H} {pl:List MemPlace} (hv:∃ cs:Array Value,v=.agg cs) (h:DataW.Trod enc P w 0 spare held t v d pl) :
  ∃ n ps,Rep (hpOf w) [] (.agg ps) v/\a1d P n t ps/\PV.wts ps<=bulk d:=by
 obtain ⟨cs,rfl⟩:=hv
 obtain ⟨fuel,h⟩:=h
 obtain ⟨ps,h1,h2,_,h4⟩:=b3a hS fuel t _ _ ht h
 refine ⟨fuel,ps,⟨cs.toList,by simp,?_⟩,h2,h4⟩
 exact h1
theorem b3z {S:List TypeId} (hS:closed P S=true) {t:TypeId} (ht:t∈S) {fs:Array Field} (hu:P.underlying t=some (.struct fs)) {v:Value} {d:DataW H} {pl:List MemPlace} (hval:Value.okWide P w r b0 t v) (h:DataW.Trod enc P w 0 spare held t v d pl) :
  ∃ n ps,Rep (hpOf w) [] (.agg ps) v/\a1d P n t ps/\PV.wts ps<=bulk d:=b5E hS ht (by obtain ⟨cs,h,_⟩:=okWide_struct hu hval; exact ⟨cs,h⟩) h
end
mutual
theorem PV.frz_low {k:Nat} {look:Nat->Option MO}:∀ p:PV,p.low k=true->p.frz k look=some p
 | .int ..,_=>rfl
 | .bool _,_=>rfl
 | .str _,_=>rfl
 | .undef,_=>rfl
 | .nilS,_=>rfl
 | .nilF,_=>rfl
 | .nilP,_=>rfl
 | .nilI,_=>rfl
 | .nilM,_=>rfl
 | .sl n rows,h=>by simp only [PV.low] at h; simp [PV.frz,h]
 | .cell l o,h=>by simp only [PV.low] at h; simp [PV.frz,h]
 | .ref h' o,h=>by simp only [PV.low,decide_eq_true_eq] at h; simp [PV.frz,h]
 | .mp h',h=>by simp only [PV.low,decide_eq_true_eq] at h; simp [PV.frz,h]
 | .msl h' ..,h=>by simp only [PV.low,decide_eq_true_eq] at h; simp [PV.frz,h]
 | .rsl h' ..,h=>by simp only [PV.low,decide_eq_true_eq] at h; simp [PV.frz,h]
 | .rpl h' ..,h=>by simp only [PV.low,decide_eq_true_eq] at h; simp [PV.frz,h]
 | .eref h' ..,h=>by simp only [PV.low,decide_eq_true_eq] at h; simp [PV.frz,h]
 | .fn f l,h=>by simp only [PV.low] at h; simp [PV.frz,PV.frzs_low l h]
 | .agg l,h=>by simp only [PV.low] at h; simp [PV.frz,PV.frzs_low l h]
 | .tup l,h=>by simp only [PV.low] at h; simp [PV.frz,PV.frzs_low l h]
theorem PV.frzs_low {k:Nat} {look:Nat->Option MO}:∀ l:List PV,PV.lows k l=true->PV.frzs k look l=some l
 | [],_=>rfl
 | p::l,h=>by
  simp only [PV.lows,Q7] at h
  simp [PV.frzs,PV.frz_low p h.1,PV.frzs_low l h.2]
end
theorem b2W {Φ:Fns} {x y:PT} {ρ:PEnv} {r:Res} (hx:x.ev Φ ρ=some r) (hy:y.ev Φ ρ=some r):(PT.both x y).ev Φ ρ=some r:=by simp [PT.ev,hx,hy,Res.beq_self]
section
variable (Φ:Fns) (ρ:PEnv) (k x y:PT)
theorem a0v (gen:Bool) (v:SV) (H:List Blk):(PT.ret gen v H).ev Φ ρ=((v.pv ρ (a4p ρ H 3)).bind fun p=>(a0D ρ gen p).map fun r=>.ret r.1 r.2):=rfl
theorem a0w (c:BE):(PT.ite c x y).ev Φ ρ=(if c.safe ρ then (if c.pe ρ then x.ev Φ ρ else y.ev Φ ρ) else none):=rfl
theorem a0n (c:BE):(PT.need c k).ev Φ ρ=(if c.safe ρ then (if c.pe ρ then k.ev Φ ρ else none) else none):=rfl
theorem a0o (fl:Bool) (a:SV) (ks:List Kd):(PT.load fl a ks k).ev Φ ρ=((a0A ρ a).bind fun l=>(a0i ρ fl ks.length l).bind fun x=>(a0s ks x).bind fun r=>k.ev Φ (ρ.push r)):=rfl
theorem a0u (d:Option Nat) (src:Src) (size:Nat):(PT.app d src size k).ev Φ ρ=((match d with | none=>some [] | some n=>(ρ.v[n]?).bind (PV.rowsOf size)).bind fun xs=>(a0r ρ size src).bind fun es =>
   if xs.length+es.length<=1000000 then k.ev Φ { ρ with v:=ρ.v++[PV.sl size (xs++es)] } else none):=rfl
theorem a0t (n:Nat) (lo hi:Option IE) (size:Nat):(PT.cut n lo hi size k).ev Φ ρ=(((ρ.v[n]?).bind (PV.rowsOf size)).bind fun xs =>
   if 0<=a2L ρ lo/\a2L ρ lo<=a2M ρ hi xs.length/\a2M ρ hi xs.length<=xs.length then k.ev Φ { ρ with v:=ρ.v++[.sl size ((xs.take (a2M ρ hi xs.length).toNat).drop (a2L ρ lo).toNat)] } else none):=rfl
theorem a0p (n:Nat) (lo hi:Option IE):(PT.scut n lo hi k).ev Φ ρ=(match ρ.v[n]? with
  | some (.str l)=>if 0<=a2L ρ lo/\a2L ρ lo<=a2M ρ hi l.length/\a2M ρ hi l.length<=l.length then k.ev Φ { ρ with v:=ρ.v++[.str ((l.take (a2M ρ hi l.length).toNat).drop (a2L ρ lo).toNat)] } else none
  | _=>none):=rfl
theorem a0y (n size:Nat):(PT.chk n size k).ev Φ ρ=(((ρ.v[n]?).bind (PV.rowsOf size)).bind fun _=>k.ev Φ ρ):=rfl
theorem a0m (n:Nat) (src:Src) (size:Nat):(PT.appF n src size k).ev Φ ρ=(((ρ.v[n]?).bind (PV.rowsOf size)).bind fun xs=>(a0r ρ size src).bind fun es =>
   if es.length≠0/\xs.length+es.length<=1000000 then k.ev Φ { ρ with v:=ρ.v++[PV.sl size (xs++es)] } else none):=rfl
theorem a0q (f:Nat) (args:List SV) (H:List Blk) (shs:List Sh):(PT.call f args H shs k).ev Φ ρ=((SV.pvs ρ (a4p ρ H 3) args).bind fun as=>(Φ f as ρ.m).bind fun r=>(a0e shs r.1).bind fun x=>k.ev Φ { ρ.push x with m:=r.2 }):=rfl
theorem a0g (n:Nat) (args:List SV) (shs:List Sh):(PT.callv n args shs k).ev Φ ρ=(match ρ.v[n]? with
  | some (.fn f cap)=>(SV.pvs ρ noOwn args).bind fun as=>(Φ f (as++cap) ρ.m).bind fun r=>(a0e shs r.1).bind fun x=>k.ev Φ { ρ.push x with m:=r.2 }
  | _=>none):=rfl
theorem a0k (cs:List SV) (T:Nat):(PT.newM cs T k).ev Φ ρ=((SV.pvs ρ noOwn cs).bind fun l=>k.ev Φ { ρ with v:=ρ.v++[.ref ρ.m.length 0],m:=ρ.m++[.cells l T] }):=rfl
theorem a0x (n:IE) (zero:List SV) (T size bytes:Nat):(PT.mkM n zero T size bytes k).ev Φ ρ=((SV.pvs ρ noOwn zero).bind fun z =>
   if 0<=n.pe ρ/\n.pe ρ<=1000000/\bytes<=100000000 then k.ev Φ { ρ with v:=ρ.v++[.msl ρ.m.length 0 (n.pe ρ).toNat (n.pe ρ).toNat size],m:=ρ.m++[.cells (Q4 (n.pe ρ).toNat z).flatten T] } else none):=rfl
theorem a0b (a:SV) (cs:List SV):(PT.storeM a cs k).ev Φ ρ=(match a0A ρ a with
  | some (.obj h off)=>match ρ.m[h]? with
   | some (.cells l T)=>(SV.pvs ρ noOwn cs).bind fun new=>if off+new.length<=l.length then k.ev Φ { ρ with m:=ρ.m.set h (.cells (a3m l off new) T) } else none
   | _=>none
  | some (.elt h len i sz off)=>match ρ.m[h]? with
   | some (.row rows sz' T)=>if rows.length=len/\sz'=sz then (rows[i]?).bind fun r=>(SV.pvs ρ noOwn cs).bind fun new=>if off+new.length<=r.length/\new.all PV.one=true then k.ev Φ { ρ with m:=ρ.m.set h (.row (rows.set i (a3m r off new)) sz' T) } else none else none
   | _=>none
  | _=>none):=rfl
theorem a0l (d:SV) (src:Src) (size T:Nat):(PT.appM d src size T k).ev Φ ρ=((d.pv ρ noOwn).bind fun p=>(a0r ρ size src).bind fun es=>match p with
  | .nilS=>if es.length<=1000000 then (if es.length=0 then k.ev Φ { ρ with v:=ρ.v++[.nilS] } else k.ev Φ { ρ with v:=ρ.v++[.rsl ρ.m.length es.length size],m:=ρ.m++[.row es size T] }) else none
  | .rsl h len sz=>match ρ.m[h]? with
   | some (.row rows sz' T')=>if rows.length=len/\sz=size/\sz'=size/\T'=T/\len+es.length<=1000000 then
     (if es.length=0 then k.ev Φ { ρ with v:=ρ.v++[.rsl h len sz] } else k.ev Φ { ρ with v:=ρ.v++[.rsl h (len+es.length) size],m:=ρ.m.set h (.row (rows++es) size T) }) else none
   | _=>none
  | _=>none):=rfl
theorem a0f (K:IntKind):(PT.mkMap K k).ev Φ ρ=(k.ev Φ { ρ with v:=ρ.v++[.mp ρ.m.length],m:=ρ.m++[.mp [] [] K] }):=rfl
theorem a0a (n:Nat) (K:IntKind) (key:IE) (dflt:SV) (ok:Bool) (shs:List Sh):(PT.mapGet n K key dflt ok shs k).ev Φ ρ=(match ρ.v[n]? with
  | some (.mp h)=>match ρ.m[h]? with
   | some (.mp ks vs K')=>if K'=K then (dflt.pv ρ noOwn).bind fun d =>
     (a0e shs (if ok then .tup [(a1r ks vs (key.pe ρ)).getD d,.bool (a1r ks vs (key.pe ρ)).isSome] else (a1r ks vs (key.pe ρ)).getD d)).bind fun x=>k.ev Φ (ρ.push x) else none
   | _=>none
  | _=>none):=rfl
theorem a0c (n:Nat) (K:IntKind) (key:IE) (v:SV):(PT.mapSet n K key v k).ev Φ ρ=(match ρ.v[n]? with
  | some (.mp h)=>match ρ.m[h]? with
   | some (.mp ks vs K')=>if K'=K then (v.pv ρ noOwn).bind fun x=>k.ev Φ { ρ with m:=ρ.m.set h (.mp (a1Z ks vs (key.pe ρ) x).1 (a1Z ks vs (key.pe ρ) x).2 K) } else none
   | _=>none
  | _=>none):=rfl
theorem a0d (n:Nat):(PT.mapClr n k).ev Φ ρ=(match ρ.v[n]? with
  | some (.mp h)=>match ρ.m[h]? with
   | some (.mp _ _ K')=>k.ev Φ { ρ with m:=ρ.m.set h (.mp [] [] K') }
   | _=>none
  | _=>none):=rfl
theorem a0j (q:Nat) (is:List IE) (bs:List BE) (vs:List SV):(PT.jump q is bs vs).ev Φ ρ=((BE.all ρ bs).bind fun b=>(SV.pvs ρ noOwn vs).map fun v=>.jump q { i:=is.map (IE.pe ρ),b,v,m:=ρ.m,k:=ρ.k }):=rfl
end
theorem a7K {α:Type} {l r:List α} {i:Nat} {x:α} (h:l.drop i=x::r):l[i]?=some x:=by
 have:=congrArg (fun l=>l[0]?) h
 simpa using this
theorem b4K (x:Int):eqB x x=true:=by simp [eqB]
theorem a2U {P:Program} {n:Nat} {t:TypeId} {k:IntKind} {ps:List PV} (hu:P.underlying t=some (.int k)) (h:a1d P n t ps):∃ z,ps=[.int k z]/\loI k<=z/\z<=hiI k:=by
 cases n with
 | zero=>exact h.elim
 | succ n=>simpa only [a1d,hu] using h
theorem b1j {P:Program} {n:Nat} {t:TypeId} {fs:Array Field} {ps:List PV} (hu:P.underlying t=some (.struct fs)) (h:a1d P n t ps):∃ m,m < n/\a3L (a1d P m) (fs.toList.map (·.type)) ps:=by
 cases n with
 | zero=>exact h.elim
 | succ n=>exact ⟨n,by omega,by simpa only [a1d,hu] using h⟩
theorem b1t {P:Program} {n:Nat} {t:TypeId} {k:Nat} {e:TypeId} {ps:List PV} (hu:P.underlying t=some (.array k e)) (h:a1d P n t ps):∃ m,m < n/\a3L (a1d P m) (Q4 k e) ps:=by
 cases n with
 | zero=>exact h.elim
 | succ n=>exact ⟨n,by omega,by simpa only [a1d,hu] using h⟩
theorem b1F {P:Program} {n:Nat} {t:TypeId} {e:TypeId} {ps:List PV} (hu:P.underlying t=some (.slice e)) (h:a1d P n t ps):∃ m rows,m < n/\ps=[.sl (P.cellsOf e) rows]/\∀ r∈rows,a1d P m e r:=by
 cases n with
 | zero=>exact h.elim
 | succ n =>
  simp only [a1d,hu] at h
  obtain ⟨rows,h1,h2,_⟩:=h
  exact ⟨n,rows,by omega,h1,h2⟩
theorem lift_true {P:Program} {F:List PV->List MO->Option (PV × List MO)} {f:Nat} (hF:CtP P f F) {as:List PV} (hev:F as []=some (.bool true,[])) {W:World} {args:List Value} (hr:Reps (hpOf W) [] as args) :
  Calls P f args.toArray W fun e W'=>e=.returned (.bool true)/\Below W.heap.size W W':=by
 refine ((hF as [] _ _ hev).2 (hpOf W) [] args rfl (Coh.of_none (by simp)) hr W (b1E W) ⟨List.nodup_nil,by simp,by simp⟩).mono fun e W' hh=>?_
 obtain ⟨v,s',m',rfl,hg,_,_,_,_,_,_,hrep,_,_⟩:=hh
 simp only [Rep] at hrep
 subst hrep
 exact ⟨rfl,hg.os,hg.tape,hg.output,hg.size,fun k hk=>hg.block k hk (by simp [a0J])⟩
end Go.Sx
namespace Go.Sx
def OLe {α:Type} (x y:Option α):Prop:=∀ r,x=some r->y=some r
theorem OLe.refl {α:Type} (x:Option α):OLe x x:=fun _ h=>h
theorem OLe.none {α:Type} (y:Option α):OLe none y:=fun _ h=>by cases h
theorem OLe.bind {α β:Type} {x y:Option α} {f g:α->Option β} (h:OLe x y) (hf:∀ a,OLe (f a) (g a)):OLe (x.bind f) (y.bind g):=fun r hr=>by
 rw [Q3] at *
 obtain ⟨a,h1,h2⟩:=hr
 exact ⟨a,h a h1,hf a r h2⟩
theorem OLe.ite {α:Type} {c:Prop} [Decidable c] {x y x' y':Option α} (h:OLe x x') (k:OLe y y'):OLe (if c then x else y) (if c then x' else y'):=by
 split
 ·exact h
 ·exact k
def FLe (Φ Ψ:Fns):Prop:=∀ f a m,OLe (Φ f a m) (Ψ f a m)
theorem a6h {Φ Ψ:Fns} (hF:FLe Φ Ψ):∀ (t:PT) (ρ:PEnv),OLe (t.ev Φ ρ) (t.ev Ψ ρ):=by
 intro t
 induction t with
 | call f args H shs k ih=>intro ρ; simp only [PT.ev]; exact .bind (.refl _) fun _=>.bind (hF _ _ _) fun _=>.bind (.refl _) fun _=>ih _
 | callv n args shs k ih =>
  intro ρ
  simp only [PT.ev]
  split
  ·exact .bind (.refl _) fun _=>.bind (hF _ _ _) fun _=>.bind (.refl _) fun _=>ih _
  ·exact .none _
 | both x y ihx ihy=>intro ρ; simp only [PT.ev]; exact .bind (ihx _) fun _=>.bind (ihy _) fun _=>.refl _
 | ite c x y ihx ihy=>intro ρ; simp only [PT.ev]; exact .ite (.ite (ihx _) (ihy _)) (.refl _)
 | stuck=>intro ρ; exact .refl _
 | _ =>
  rename_i ih
  intro ρ
  simp only [PT.ev]
  repeat' first
   | exact OLe.refl _
   | exact OLe.none _
   | exact ih _
   | refine OLe.bind (OLe.refl _) fun _=>?_
   | refine OLe.ite ?_ ?_
   | split
theorem b0v {Φ Ψ:Fns} (hF:FLe Φ Ψ) (S:Sys):∀ (n q:Nat) (ρ:PEnv),OLe (S.loop Φ n q ρ) (S.loop Ψ n q ρ)
 | 0,q,ρ=>by simp only [Sys.loop]; exact .refl _
 | n+1,q,ρ=>by
  simp only [Sys.loop]
  refine .bind (.refl _) fun t=>.bind (a6h hF t ρ) fun r=>?_
  cases r with
  | ret r σ=>exact .refl _
  | jump q' ρ'=>exact b0v hF S n q' ρ'
theorem a8n {Φ Ψ:Fns} (hF:FLe Φ Ψ) (G:Rg):∀ (ys:List (List PV)) (ρ:PEnv),OLe (a5p Φ G ys ρ) (a5p Ψ G ys ρ)
 | [],ρ=>by simp only [a5p]; exact .refl _
 | y::ys,ρ=>by
  simp only [a5p]
  refine .bind (.refl _) fun r=>.bind (a6h hF _ _) fun r=>?_
  split
  ·exact a8n hF G ys _
  ·exact .none _
theorem b4O {Φ Ψ:Fns} (hF:FLe Φ Ψ) (S:Sys) (n:Nat) (a:List PV) (m:List MO):OLe (S.run Φ n a m) (S.run Ψ n a m):=by
 unfold Sys.run
 split
 ·exact .refl _
 split
 ·unfold b4H
  refine .bind (.refl _) fun r=>.bind (a6h hF _ _) fun r=>?_
  split
  ·exact .refl _
  ·split
   ·refine .bind (.refl _) fun ys=>.bind (a8n hF _ _ _) fun ρ'=>.bind (a6h hF _ _) fun r=>.refl _
   ·exact .none _
 ·refine .bind (.refl _) fun r=>.bind (a6h hF _ _) fun r=>?_
  split
  ·exact .refl _
  ·exact b0v hF S n _ _
theorem a9A {T T':Nat->Option Sys} (h:∀ f S,T f=some S->T' f=some S):∀ n,FLe (a0P T n) (a0P T' n)
 | 0=>fun f a m=>by simp only [a0P]; exact .refl _
 | n+1=>fun f a m=>by
  simp only [a0P]
  exact .bind (fun S hS=>h f S hS) fun S=>b4O (a9A h n) S n a m
end Go.Sx
