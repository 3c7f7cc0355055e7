/- Trees whose lists of arguments are frozen or objects; what stays when values are changed in place. -/
import Derived.Test.YtdadenjndpbppaaHEx
import Derived.Test.YtdadenjndpbppaaHTxe
import Derived.Test.YtdadenjndpbppaaHTy
set_option linter.unusedSimpArgs false
set_option linter.unusedVariables false
open Go.Sx.PT renaming ev → Z1
open Go.Sx.BE renaming safe → Z2, pe → Z3, all → Zz
open Go.Sx.IE renaming pe → Z4
open Go.Sx renaming PEnv.at → Z5
open Go.Sx.PEnv renaming push → Zt
open List renaming getD_cons_zero → Z6, getD_cons_succ → Z7, getElem?_cons_zero → Z8, getElem?_cons_succ → Z9, drop_zero → Zf, length_cons → Zg, length_nil → Zh, take_succ_cons → Zm, take_zero → Zn, cons_append → Zu, nil_append → Zv, append_nil → Zw, map_cons → ZD, map_nil → ZE
open Go.Sx renaming a0A → Za, a0C → Zb, a0i → Zc, a0B → Zd, a0s → Zo, a0e → Zp, a0z → Zq, a0v → ZF, a0w → ZG, a0n → ZH, a0o → ZI, a0u → ZJ, a0t → ZK, a0p → ZL, a0y → ZM, a0m → ZN, a0q → ZO, a0g → ZP, a0k → ZQ, a0x → ZR, a0b → ZS, a0l → ZT, a0f → ZU, a0a → ZV, a0c → ZW, a0d → ZX, a0j → ZY
open Nat renaming add_zero → Ze, le_refl → Zi
open Bool renaming false_eq_true → Zl, and_self → ZA, not_true → ZB, not_false → ZC
open Option renaming map_some → Zr, bind_some → Zs
open Go.Sx.SV renaming pvs → Zx, pv → Zy
open Nat renaming zero_add → Q0, one_ne_zero → Q5, le_refl → Qn, add_zero → QB, zero_le → QH, sub_self → QN, lt_succ_of_le → QP
open List renaming mapM_cons → Q1, mapM_nil → Q2, all_nil → Q6, set_cons_zero → Q7, reverse_cons → Q8, reverse_nil → Q9, nil_append → Qb, cons_append → Qe, append_nil → Qf, getElem?_set_ne → Qg, getD_cons_zero → Qh, getElem?_eq_some_iff → Qj, getD_cons_succ → Qk, getElem?_cons_zero → Qm, getElem?_cons_succ → Qp, length_cons → Qr, take_zero → Qt, map_cons → Qv, map_nil → Qw, drop_zero → Qy, length_nil → Qz, take_succ_cons → QA, getElem?_set_self → QD, getElem?_eq_getElem → QE, getElem?_append_left → QJ, mem_of_getElem? → QK, length_set → QM, set_append_right → QQ, length_append → QS, drop_succ_cons → QU, eq_nil_of_length_eq_zero → QW, length_singleton → QY, IsPrefix → QZ, mem_append → X0, getElem?_append_right → X1
open Option renaming bind_eq_bind → Q3, pure_def → Q4, bind_some → Qa, map_some → Qd, bind_eq_some_iff → X2
open Bool renaming and_self → Qq, false_eq_true → Qs, not_true → Qu, not_false → QC, false_and → QL, and_false → QX
open Int renaming toNat_natCast → QV
set_option maxRecDepth 100000
namespace Go.Proofs.Ytdadenjndpbppaa
open Go.Sx
def IsV (σ:List MO) (x:PV) (rows:List (List PV)):Prop:=x.rowsOf 9=some rows\/∃ h T,x=.rsl h rows.length 9/\σ[h]?=some (.row rows 9 T)
theorem IsV.len {σ:List MO} {x:PV} {rows:List (List PV)} (h:IsV σ x rows):x.len=rows.length/\x.isKind 0=true/\x.one=true:=by
 rcases h with h | ⟨h,T,rfl,_⟩
 ·exact a1G h
 ·exact ⟨rfl,rfl,rfl⟩
theorem IsV.get {σ:List MO} {x:PV} {rows:List (List PV)} (h:IsV σ x rows) {i:Nat} {r:List PV} (hr:rows[i]?=some r) :
  ∃ loc,a4c (i:Int) 9 0 x=some loc/\∀ is bs vs k,a0i { i:=is,b:=bs,v:=vs,m:=σ,k:=k } false 9 loc=a0B 9 r:=by
 have hi:=(Qj.1 hr).1
 rcases h with h | ⟨h,T,rfl,h1⟩
 ·refine ⟨_,a6J (off:=0) h hr,fun is bs vs k=>?_⟩
  simp [a0i]
 ·refine ⟨.elt h rows.length i 9 0,?_,fun is bs vs k=>?_⟩
  ·simp only [a4c]
   rw [if_pos ⟨by omega,by omega,trivial⟩,QV]
  ·simp [a0i,h1,MO.elts,hr]
mutual
def IsG (σ:List MO):Ex->List PV->Prop
 | .node op a b c d e f v l,row=>∃ x rows,row=[.int .i64 op,.int .i64 a,.int .i64 b,.int .i64 c,.int .i64 d,.int .i64 e,.int .i64 f,.int .i64 v,x]/\IsV σ x rows/\a3j σ l rows
def a3j (σ:List MO):List Ex->List (List PV)->Prop
 | [],rows=>rows=[]
 | e::l,rows=>∃ r rs,rows=r::rs/\IsG σ e r/\a3j σ l rs
end
theorem a3j.length {σ:List MO}:∀ {l:List Ex} {rows:List (List PV)},a3j σ l rows->rows.length=l.length
 | [],rows,h=>by simp only [a3j] at h; subst h; rfl
 | e::l,rows,h=>by
  simp only [a3j] at h
  obtain ⟨r,rs,rfl,_,h⟩:=h
  simp [a3j.length h]
theorem a3j.split {σ:List MO}:∀ {l:List Ex} {rows:List (List PV)},a3j σ l rows->∀ i:Nat,a3j σ (l.drop i) (rows.drop i)
 | l,rows,h,0=>by simpa using h
 | [],rows,h,i+1=>by simp only [a3j] at h; subst h; simp [a3j]
 | e::l,rows,h,i+1=>by
  simp only [a3j] at h
  obtain ⟨r,rs,rfl,_,h⟩:=h
  simpa using a3j.split h i
mutual
theorem IsE.toG (σ:List MO):∀ {e:Ex} {row:List PV},IsE e row->IsG σ e row
 | .node _ _ _ _ _ _ _ _ l,row,h=>by
  simp only [IsE] at h
  obtain ⟨x,rows,rfl,h1,h2⟩:=h
  simp only [IsG]
  exact ⟨x,rows,rfl,.inl h1,a1a.toG σ h2⟩
theorem a1a.toG (σ:List MO):∀ {l:List Ex} {rows:List (List PV)},a1a l rows->a3j σ l rows
 | [],rows,h=>by simpa [a3j,a1a] using h
 | e::l,rows,h=>by
  simp only [a1a] at h
  obtain ⟨r,rs,rfl,h1,h2⟩:=h
  exact ⟨r,rs,rfl,IsE.toG σ h1,a1a.toG σ h2⟩
end
mutual
def IsO (P:Nat->Prop) (σ:List MO):Ex->List PV->Prop
 | .node op a b c d e f v l,row=>∃ x,row=[.int .i64 op,.int .i64 a,.int .i64 b,.int .i64 c,.int .i64 d,.int .i64 e,.int .i64 f,.int .i64 v,x] /\
   ((l=[]/\x=.nilS)\/∃ h rows T,P h/\x=.rsl h rows.length 9/\σ[h]?=some (.row rows 9 T)/\a1l P σ l rows)
def a1l (P:Nat->Prop) (σ:List MO):List Ex->List (List PV)->Prop
 | [],rows=>rows=[]
 | e::l,rows=>∃ r rs,rows=r::rs/\IsO P σ e r/\a1l P σ l rs
end
theorem a1l.length {P:Nat->Prop} {σ:List MO}:∀ {l:List Ex} {rows:List (List PV)},a1l P σ l rows->rows.length=l.length
 | [],rows,h=>by simp only [a1l] at h; subst h; rfl
 | e::l,rows,h=>by
  simp only [a1l] at h
  obtain ⟨r,rs,rfl,_,h⟩:=h
  simp [a1l.length h]
theorem a1l.append {P:Nat->Prop} {σ:List MO}:∀ {l m:List Ex} {rows rows':List (List PV)},a1l P σ l rows->a1l P σ m rows'->a1l P σ (l++m) (rows++rows')
 | [],m,rows,rows',h,h'=>by simp only [a1l] at h; subst h; exact h'
 | e::l,m,rows,rows',h,h'=>by
  simp only [a1l] at h
  obtain ⟨r,rs,rfl,h1,h2⟩:=h
  exact ⟨r,_,rfl,h1,a1l.append h2 h'⟩
mutual
theorem IsO.toG {P:Nat->Prop} {σ:List MO}:∀ {e:Ex} {row:List PV},IsO P σ e row->IsG σ e row
 | .node _ _ _ _ _ _ _ _ l,row,h=>by
  simp only [IsO] at h
  obtain ⟨x,rfl,h⟩:=h
  simp only [IsG]
  rcases h with ⟨rfl,rfl⟩ | ⟨hh,rows,T,_,rfl,h1,h2⟩
  ·exact ⟨.nilS,[],rfl,.inl rfl,rfl⟩
  ·exact ⟨_,rows,rfl,.inr ⟨hh,T,rfl,h1⟩,a1l.toG h2⟩
theorem a1l.toG {P:Nat->Prop} {σ:List MO}:∀ {l:List Ex} {rows:List (List PV)},a1l P σ l rows->a3j σ l rows
 | [],rows,h=>by simpa [a3j,a1l] using h
 | e::l,rows,h=>by
  simp only [a1l] at h
  obtain ⟨r,rs,rfl,h1,h2⟩:=h
  exact ⟨r,rs,rfl,IsO.toG h1,a1l.toG h2⟩
end
mutual
theorem IsO.mono {P P':Nat->Prop} {σ σ':List MO} (hm:∀ (h:Nat) (o:MO),P h->σ[h]?=some o->P' h/\σ'[h]?=some o):∀ {e:Ex} {row:List PV},IsO P σ e row->IsO P' σ' e row
 | .node _ _ _ _ _ _ _ _ l,row,h=>by
  simp only [IsO] at h ⊢
  obtain ⟨x,rfl,h⟩:=h
  refine ⟨x,rfl,?_⟩
  rcases h with h | ⟨hh,rows,T,h0,rfl,h1,h2⟩
  ·exact .inl h
  ·exact .inr ⟨hh,rows,T,(hm _ _ h0 h1).1,rfl,(hm _ _ h0 h1).2,a1l.mono hm h2⟩
theorem a1l.mono {P P':Nat->Prop} {σ σ':List MO} (hm:∀ (h:Nat) (o:MO),P h->σ[h]?=some o->P' h/\σ'[h]?=some o):∀ {l:List Ex} {rows:List (List PV)},a1l P σ l rows->a1l P' σ' l rows
 | [],rows,h=>by simpa [a1l] using h
 | e::l,rows,h=>by
  simp only [a1l] at h
  obtain ⟨r,rs,rfl,h1,h2⟩:=h
  exact ⟨r,rs,rfl,IsO.mono hm h1,a1l.mono hm h2⟩
end
def R9 (row:List PV) (x:PV):Prop:=∃ op a b c d e f v,row=[.int .i64 op,.int .i64 a,.int .i64 b,.int .i64 c,.int .i64 d,.int .i64 e,.int .i64 f,.int .i64 v,x]
mutual
def Shp (lo:Nat) (σ:List MO):Ex->List PV->Prop
 | .node _ _ _ _ _ _ _ _ l,row=>∃ x,R9 row x/\((l=[]/\x=.nilS)\/∃ h rows T,lo<=h/\x=.rsl h rows.length 9/\σ[h]?=some (.row rows 9 T)/\a1b lo σ l rows)
def a1b (lo:Nat) (σ:List MO):List Ex->List (List PV)->Prop
 | [],rows=>rows=[]
 | e::l,rows=>∃ r rs,rows=r::rs/\Shp lo σ e r/\a1b lo σ l rs
end
theorem a1b.length {lo:Nat} {σ:List MO}:∀ {l:List Ex} {rows:List (List PV)},a1b lo σ l rows->rows.length=l.length
 | [],rows,h=>by simp only [a1b] at h; subst h; rfl
 | e::l,rows,h=>by
  simp only [a1b] at h
  obtain ⟨r,rs,rfl,_,h⟩:=h
  simp [a1b.length h]
theorem a1b.get {lo:Nat} {σ:List MO}:∀ {l:List Ex} {rows:List (List PV)},a1b lo σ l rows->∀ {i:Nat} {e:Ex},l[i]?=some e->∃ r,rows[i]?=some r/\Shp lo σ e r
 | [],rows,h,i,e,he=>by simp at he
 | x::l,rows,h,i,e,he=>by
  simp only [a1b] at h
  obtain ⟨r,rs,rfl,h1,h2⟩:=h
  cases i with
  | zero=>simp only [Qm,Option.some.injEq] at he; subst he; exact ⟨r,rfl,h1⟩
  | succ i=>exact a1b.get h2 (by simpa using he)
theorem a1b.append {lo:Nat} {σ:List MO}:∀ {l m:List Ex} {rows rows':List (List PV)},a1b lo σ l rows->a1b lo σ m rows'->a1b lo σ (l++m) (rows++rows')
 | [],m,rows,rows',h,h'=>by simp only [a1b] at h; subst h; exact h'
 | e::l,m,rows,rows',h,h'=>by
  simp only [a1b] at h
  obtain ⟨r,rs,rfl,h1,h2⟩:=h
  exact ⟨r,_,rfl,h1,a1b.append h2 h'⟩
mutual
theorem IsO.shp {P:Nat->Prop} {lo:Nat} (hP:∀ h,P h->lo<=h) {σ:List MO}:∀ {e:Ex} {row:List PV},IsO P σ e row->Shp lo σ e row
 | .node _ _ _ _ _ _ _ _ l,row,h=>by
  simp only [IsO] at h
  obtain ⟨x,rfl,h⟩:=h
  simp only [Shp]
  refine ⟨x,⟨_,_,_,_,_,_,_,_,rfl⟩,?_⟩
  rcases h with h | ⟨hh,rows,T,h0,rfl,h1,h2⟩
  ·exact .inl h
  ·exact .inr ⟨hh,rows,T,hP _ h0,rfl,h1,a1l.shp hP h2⟩
theorem a1l.shp {P:Nat->Prop} {lo:Nat} (hP:∀ h,P h->lo<=h) {σ:List MO}:∀ {l:List Ex} {rows:List (List PV)},a1l P σ l rows->a1b lo σ l rows
 | [],rows,h=>by simpa [a1b,a1l] using h
 | e::l,rows,h=>by
  simp only [a1l] at h
  obtain ⟨r,rs,rfl,h1,h2⟩:=h
  exact ⟨r,rs,rfl,IsO.shp hP h1,a1l.shp hP h2⟩
end
def a3G (r r':List PV):Prop:=∀ x,R9 r x->R9 r' x
theorem a3G.refl (r:List PV):a3G r r:=fun _ h=>h
structure Chg (lo:Nat) (σ σ':List MO):Prop where
 len:σ'.length=σ.length
 low:∀ h:Nat,h < lo->σ'[h]?=σ[h]?
 row:∀ (h:Nat) (rows:List (List PV)) (T:Nat),σ[h]?=some (.row rows 9 T)->∃ rows',σ'[h]?=some (.row rows' 9 T)/\rows'.length=rows.length/\∀ (i:Nat) r r',rows[i]?=some r->rows'[i]?=some r'->a3G r r'
 cells:∀ (h:Nat) (l:List PV) (T:Nat),σ[h]?=some (.cells l T)->∃ l',σ'[h]?=some (.cells l' T)/\a3G l l'
theorem Chg.refl (lo:Nat) (σ:List MO):Chg lo σ σ :=
 ⟨rfl,fun _ _=>rfl,fun h rows T hh=>⟨rows,hh,rfl,fun i r r' h1 h2=>by rw [h1] at h2; cases h2; exact a3G.refl r⟩,fun h l T hh=>⟨l,hh,a3G.refl l⟩⟩
theorem Chg.trans {lo:Nat} {σ σ' σ'':List MO} (h:Chg lo σ σ') (k:Chg lo σ' σ''):Chg lo σ σ'':=by
 refine ⟨k.len.trans h.len,fun i hi=>(k.low i hi).trans (h.low i hi),fun i rows T hi=>?_,fun i l T hi=>?_⟩
 ·obtain ⟨rows',h1,h2,h3⟩:=h.row i rows T hi
  obtain ⟨rows'',k1,k2,k3⟩:=k.row i rows' T h1
  refine ⟨rows'',k1,k2.trans h2,fun j r r' hr hr' x hx=>?_⟩
  have hj:=(Qj.1 hr).1
  obtain ⟨r1,hr1⟩:∃ r1,rows'[j]?=some r1:=⟨_,QE (by omega)⟩
  exact k3 j r1 r' hr1 hr' x (h3 j r r1 hr hr1 x hx)
 ·obtain ⟨l',h1,h2⟩:=h.cells i l T hi
  obtain ⟨l'',k1,k2⟩:=k.cells i l' T h1
  exact ⟨l'',k1,fun x hx=>k2 x (h2 x hx)⟩
mutual
theorem Shp.chg {lo:Nat} {σ σ':List MO} (hc:Chg lo σ σ'):∀ {e:Ex} {row row':List PV},Shp lo σ e row->a3G row row'->Shp lo σ' e row'
 | .node _ _ _ _ _ _ _ _ l,row,row',h,h9=>by
  simp only [Shp] at h ⊢
  obtain ⟨x,hx,h⟩:=h
  refine ⟨x,h9 x hx,?_⟩
  rcases h with h | ⟨hh,rows,T,h0,rfl,h1,h2⟩
  ·exact .inl h
  ·obtain ⟨rows',k1,k2,k3⟩:=hc.row _ _ _ h1
   exact .inr ⟨hh,rows',T,h0,by rw [k2],k1,a1b.chg hc h2 k2 k3⟩
theorem a1b.chg {lo:Nat} {σ σ':List MO} (hc:Chg lo σ σ'):∀ {l:List Ex} {rows rows':List (List PV)},a1b lo σ l rows->rows'.length=rows.length->(∀ (i:Nat) r r',rows[i]?=some r->rows'[i]?=some r'->a3G r r')->a1b lo σ' l rows'
 | [],rows,rows',h,k2,_=>by
  simp only [a1b] at h ⊢
  subst h
  exact QW k2
 | e::l,rows,rows',h,k2,k3=>by
  simp only [a1b] at h
  obtain ⟨r,rs,rfl,h1,h2⟩:=h
  cases rows' with
  | nil=>simp at k2
  | cons r' rs'=>exact ⟨r',rs',rfl,Shp.chg hc h1 (k3 0 r r' rfl rfl),a1b.chg hc h2 (by simpa using k2) (fun i r r' hr hr'=>k3 (i+1) r r' (by simpa using hr) (by simpa using hr'))⟩
end
mutual
theorem Shp.mono {lo:Nat} {σ σ':List MO} (hm:∀ (h:Nat) (o:MO),lo<=h->σ[h]?=some o->σ'[h]?=some o):∀ {e:Ex} {row:List PV},Shp lo σ e row->Shp lo σ' e row
 | .node _ _ _ _ _ _ _ _ l,row,h=>by
  simp only [Shp] at h ⊢
  obtain ⟨x,hx,h⟩:=h
  refine ⟨x,hx,?_⟩
  rcases h with h | ⟨hh,rows,T,h0,rfl,h1,h2⟩
  ·exact .inl h
  ·exact .inr ⟨hh,rows,T,h0,rfl,hm _ _ h0 h1,a1b.mono hm h2⟩
theorem a1b.mono {lo:Nat} {σ σ':List MO} (hm:∀ (h:Nat) (o:MO),lo<=h->σ[h]?=some o->σ'[h]?=some o):∀ {l:List Ex} {rows:List (List PV)},a1b lo σ l rows->a1b lo σ' l rows
 | [],rows,h=>by simpa [a1b] using h
 | e::l,rows,h=>by
  simp only [a1b] at h
  obtain ⟨r,rs,rfl,h1,h2⟩:=h
  exact ⟨r,rs,rfl,Shp.mono hm h1,a1b.mono hm h2⟩
end
end Go.Proofs.Ytdadenjndpbppaa
set_option maxRecDepth 100000
namespace Go.Proofs.Ytdadenjndpbppaa
open Go.Sx
mutual
def Ex.beq:Ex->Ex->Bool
 | .node op a b c d e f v l,.node op' a' b' c' d' e' f' v' l'=>eqB op op'&&(eqB a a'&&(eqB b b'&&(eqB c c'&&(eqB d d'&&(eqB e e'&&eqB f f')))))&&eqB v v'&&decide (l.length=l'.length)&&beqs l l'
def beqs:List Ex->List Ex->Bool
 | [],_=>true
 | _::_,[]=>true
 | x::l,y::m=>x.beq y&&beqs l m
end
theorem a3A (x y:Int):eqB x y=eqB y x:=by unfold eqB; congr 1; rw [eq_iff_iff]; exact ⟨Eq.symm,Eq.symm⟩
mutual
theorem Ex.beq_refl:∀ e:Ex,e.beq e=true
 | .node _ _ _ _ _ _ _ _ l=>by simp [Ex.beq,b4K,b0w l]
theorem b0w:∀ l:List Ex,beqs l l=true
 | []=>rfl
 | e::l=>by simp [beqs,e.beq_refl,b0w l]
end
mutual
theorem Ex.beq_comm:∀ e e':Ex,e.beq e'=e'.beq e
 | .node op a b c d e f v l,.node op' a' b' c' d' e' f' v' l'=>by
  simp only [Ex.beq,a3A op,a3A a,a3A b,a3A c,a3A d,a3A e,a3A f,a3A v,b0K l l']
  rw [show decide (l.length=l'.length)=decide (l'.length=l.length) from by congr 1; rw [eq_iff_iff]; exact ⟨Eq.symm,Eq.symm⟩]
theorem b0K:∀ l l':List Ex,beqs l l'=beqs l' l
 | [],[]=>rfl
 | [],_::_=>rfl
 | _::_,[]=>rfl
 | e::l,e'::l'=>by simp only [beqs,e.beq_comm e',b0K l l']
end
theorem a8U (σ:List MO):∀ (e:Ex) (row:List PV),IsG σ e row->∀ (e2:Ex) (row2:List PV),IsG σ e2 row2->∀ n,e.size+2<=n->e.size<=1000000->a0P Tab n a2A [.agg row,.agg row2] σ=some (.bool (e.beq e2),σ):=by
 intro e
 induction hN:e.size using Nat.strongRecOn generalizing e with
 | _ N ih =>
  subst hN
  intro row hrow e2 row2 hrow2 n hn hbig
  obtain ⟨op,a,b,c,d,e',f,v,l⟩:=e
  obtain ⟨op2,a2,b2,c2,d2,e2',f2,v2,l2⟩:=e2
  simp only [IsG] at hrow hrow2
  obtain ⟨x,rows,rfl,hx,hl⟩:=hrow
  obtain ⟨x1,x2,x3⟩:=hx.len
  obtain ⟨y,rows2,rfl,hy,hl2⟩:=hrow2
  obtain ⟨y1,y2,y3⟩:=hy.len
  simp only [Ex.size] at ih hn hbig
  obtain ⟨n,rfl⟩:∃ k,n=k+1:=⟨n-1,by omega⟩
  have hlen:=hl.length
  have hlen2:=hl2.length
  have hsl:=a3I l
  have loop:l.length=l2.length->∀ (fuel:Nat) (i:Nat) (is:List Int),l.length-i < fuel->i<=l.length->is.length=16 ->
    saleroomref11_Equal_S.loop (a0P Tab n) fuel 0 { i:=[(i:Int)]++is,b:=[],v:=[x,y],m:=σ,k:=σ.length }=some (.bool (beqs (l.drop i) (l2.drop i)),σ):=by
   intro hll fuel
   induction fuel with
   | zero=>intro i is h; omega
   | succ fuel ihf =>
    intro i is h1 h2 h3
    match is,h3 with
    | [j0,j1,j2,j3,j4,j5,j6,j7,j8,j9,j10,j11,j12,j13,j14,j15],_ =>
    rw [Sys.loop,show saleroomref11_Equal_S.loops[0]?=some a2Y from rfl]
    simp -implicitDefEqProofs only [Qa,a2Y,↓reduceIte,eq_self,PT.ev,BE.safe,BE.pe,IE.pe,PEnv.at,Qh,Qk,Qm,Qp,a0A,a0C,a0B,QB,Qy,Qr,Qz,Nat.reduceAdd,Qn,if_true,if_false,Qs,QA,Qt,a0s,a0e,a0z,Qd,Qa,PEnv.push,Qe,Qb,Qf,SV.pvs,SV.pv,BE.all,Qq,Qu,QC,Qv,Qw,x1,x2,a3t,decide_eq_true_eq]
    by_cases hlt:i < rows.length
    ·obtain ⟨e1,he1⟩:∃ e1,l[i]?=some e1:=⟨_,QE (by omega)⟩
     obtain ⟨e3,he3⟩:∃ e1,l2[i]?=some e1:=⟨_,QE (by omega)⟩
     have hd:=hl.split i
     have hd':=hl2.split i
     rw [a4F he1] at hd ⊢
     rw [a4F he3] at hd' ⊢
     simp only [a3j] at hd hd'
     obtain ⟨r1,rs,hd1,hd2,hd3⟩:=hd
     obtain ⟨r3,rs3,hd4,hd5,hd6⟩:=hd'
     have hr:rows[i]?=some r1:=a7K hd1
     have hr3:rows2[i]?=some r3:=a7K hd4
     obtain ⟨loc,hloc,hrd⟩:=hx.get hr
     obtain ⟨loc3,hloc3,hrd3⟩:=hy.get hr3
     rw [if_pos hlt]
     have hsz:=a3D (QK he1)
     have hcall:=ih _ (QP hsz) _ rfl _ hd2 e3 r3 hd5 n (by omega) (by omega)
     simp only [beqs]
     generalize e1.beq e3=bq at *
     obtain ⟨op1,a1,b1,c1,d1,e1',f1,v1,l1⟩:=e1
     obtain ⟨op3,a3,b3,c3,d3,e3',f3,v3,l3⟩:=e3
     simp only [IsG] at hd2 hd5
     obtain ⟨z,rows1,rfl,hz,hl1⟩:=hd2
     obtain ⟨z1,z2,z3⟩:=hz.len
     obtain ⟨u,rows3,rfl,hu,hl3⟩:=hd5
     obtain ⟨u1,u2,u3⟩:=hu.len
     have q1:(leB 0 (i:Int)&&decide (i < rows.length))=true:=by simp [leB,hlt]
     have q3:(leB 0 (i:Int)&&decide (i < rows2.length))=true:=by simp [leB]; omega
     have q2:(leB (-9223372036854775808) ((i:Int)+1)&&leB ((i:Int)+1) 9223372036854775807)=true:=by simp [leB]; omega
     simp only [a2A] at hcall
     simp -implicitDefEqProofs only [x1,x2,y1,y2,a3t,↓reduceIte,eq_self,PT.ev,BE.safe,BE.pe,IE.pe,PEnv.at,Qh,Qk,Qm,Qp,a0A,a0C,a0B,QB,Qy,Qr,Qz,Nat.reduceAdd,Qn,if_true,if_false,Qs,QA,Qt,a0s,a0e,a0z,Qd,Qa,PEnv.push,Qe,Qb,Qf,SV.pvs,SV.pv,BE.all,Qq,Qu,QC,Qv,Qw,if_pos q1,if_pos q3,hloc,hloc3,hrd,hrd3,z3,u3,hcall]
     cases bq with
     | false=>simp -implicitDefEqProofs only [↓reduceIte,eq_self,PT.ev,BE.safe,BE.pe,IE.pe,PEnv.at,Qh,Qk,Qm,Qp,a0A,a0C,a0B,QB,Qy,Qr,Qz,Nat.reduceAdd,Qn,if_true,if_false,Qs,QA,Qt,a0s,a0e,a0z,Qd,Qa,PEnv.push,Qe,Qb,Qf,SV.pvs,SV.pv,BE.all,Qq,Qu,QC,Qv,Qw,a0D,or_true,QL]
     | true =>
      simp -implicitDefEqProofs only [↓reduceIte,eq_self,PT.ev,BE.safe,BE.pe,IE.pe,PEnv.at,Qh,Qk,Qm,Qp,a0A,a0C,a0B,QB,Qy,Qr,Qz,Nat.reduceAdd,Qn,if_true,if_false,Qs,QA,Qt,a0s,a0e,a0z,Qd,Qa,PEnv.push,Qe,Qb,Qf,SV.pvs,SV.pv,BE.all,Qq,Qu,QC,Qv,Qw,if_pos q2,Bool.true_and]
      have:=ihf (i+1) [j0,j1,j2,j3,j4,j5,j6,j7,j8,j9,j10,j11,j12,j13,j14,j15] (by omega) (by omega) rfl
      rw [show ((i+1:Nat):Int)=(i:Int)+1 from by omega] at this
      exact this
    ·have hil:i=l.length:=by omega
     rw [if_neg hlt]
     subst hil
     simp -implicitDefEqProofs only [↓reduceIte,eq_self,PT.ev,BE.safe,BE.pe,IE.pe,PEnv.at,Qh,Qk,Qm,Qp,a0A,a0C,a0B,QB,Qy,Qr,Qz,Nat.reduceAdd,Qn,if_true,if_false,Qs,QA,Qt,a0s,a0e,a0z,Qd,Qa,PEnv.push,Qe,Qb,Qf,SV.pvs,SV.pv,BE.all,Qq,Qu,QC,Qv,Qw,a0D,or_true,List.drop_length,beqs]
  simp only [a0P,a5C,Qa,Sys.run]
  show ((a0Q [.sh (.agg [_,_,_,_,_,_,_,_,_]),.sh (.agg [_,_,_,_,_,_,_,_,_])] _).bind _)=_
  simp only [a0Q,a0z,a0s,Qd,Qa,Qf,Qb,Qe,if_true,x3,y3]
  show (PT.ev _ a3e _).bind _=_
  simp only [Ex.beq]
  generalize hw:(eqB a a2&&(eqB b b2&&(eqB c c2&&(eqB d d2&&(eqB e' e2'&&eqB f f2)))))=w
  simp -implicitDefEqProofs only [a3e,↓reduceIte,eq_self,PT.ev,BE.safe,BE.pe,IE.pe,PEnv.at,Qh,Qk,Qm,Qp,a0A,a0C,a0B,QB,Qy,Qr,Qz,Nat.reduceAdd,Qn,if_true,if_false,Qs,QA,Qt,a0s,a0e,a0z,Qd,Qa,PEnv.push,Qe,Qb,Qf,SV.pvs,SV.pv,BE.all,Qq,Qu,QC,Qv,Qw,hw]
  cases h1:eqB op op2 with
  | false=>simp -implicitDefEqProofs only [↓reduceIte,eq_self,PT.ev,BE.safe,BE.pe,IE.pe,PEnv.at,Qh,Qk,Qm,Qp,a0A,a0C,a0B,QB,Qy,Qr,Qz,Nat.reduceAdd,Qn,if_true,if_false,Qs,QA,Qt,a0s,a0e,a0z,Qd,Qa,PEnv.push,Qe,Qb,Qf,SV.pvs,SV.pv,BE.all,Qq,Qu,QC,Qv,Qw,a0D,or_true,QL]
  | true =>
  cases w with
  | false=>simp -implicitDefEqProofs only [↓reduceIte,eq_self,PT.ev,BE.safe,BE.pe,IE.pe,PEnv.at,Qh,Qk,Qm,Qp,a0A,a0C,a0B,QB,Qy,Qr,Qz,Nat.reduceAdd,Qn,if_true,if_false,Qs,QA,Qt,a0s,a0e,a0z,Qd,Qa,PEnv.push,Qe,Qb,Qf,SV.pvs,SV.pv,BE.all,Qq,Qu,QC,Qv,Qw,a0D,or_true,QL,QX]
  | true =>
  cases h3:eqB v v2 with
  | false=>simp -implicitDefEqProofs only [↓reduceIte,eq_self,PT.ev,BE.safe,BE.pe,IE.pe,PEnv.at,Qh,Qk,Qm,Qp,a0A,a0C,a0B,QB,Qy,Qr,Qz,Nat.reduceAdd,Qn,if_true,if_false,Qs,QA,Qt,a0s,a0e,a0z,Qd,Qa,PEnv.push,Qe,Qb,Qf,SV.pvs,SV.pv,BE.all,Qq,Qu,QC,Qv,Qw,a0D,or_true,QL,QX]
  | true =>
  have hee:eqB (rows.length:Int) (rows2.length:Int)=decide (l.length=l2.length):=by unfold eqB; rw [hlen,hlen2]; congr 1; rw [eq_iff_iff]; omega
  by_cases hll:l.length=l2.length
  ·have h0:=loop hll n 0 [op,a,b,c,d,e',f,v,op2,a2,b2,c2,d2,e2',f2,v2] (by omega) (QH _) rfl
   simp -implicitDefEqProofs only [↓reduceIte,eq_self,PT.ev,BE.safe,BE.pe,IE.pe,PEnv.at,Qh,Qk,Qm,Qp,a0A,a0C,a0B,QB,Qy,Qr,Qz,Nat.reduceAdd,Qn,if_true,if_false,Qs,QA,Qt,a0s,a0e,a0z,Qd,Qa,PEnv.push,Qe,Qb,Qf,SV.pvs,SV.pv,BE.all,Qq,Qu,QC,Qv,Qw,x1,x2,y1,y2,hee,hll,decide_true,Bool.true_and]
   simpa using h0
  ·simp -implicitDefEqProofs only [↓reduceIte,eq_self,PT.ev,BE.safe,BE.pe,IE.pe,PEnv.at,Qh,Qk,Qm,Qp,a0A,a0C,a0B,QB,Qy,Qr,Qz,Nat.reduceAdd,Qn,if_true,if_false,Qs,QA,Qt,a0s,a0e,a0z,Qd,Qa,PEnv.push,Qe,Qb,Qf,SV.pvs,SV.pv,BE.all,Qq,Qu,QC,Qv,Qw,x1,x2,y1,y2,hee,hll,decide_false,a0D,or_true,QL,QX]
end Go.Proofs.Ytdadenjndpbppaa
set_option maxRecDepth 100000
namespace Go.Proofs.Ytdadenjndpbppaa
open Go.Sx
theorem a1y {α:Type} {a b:List α} (h:a <+: b) {i:Nat} {x:α} (hx:a[i]?=some x):b[i]?=some x:=by
 obtain ⟨t,rfl⟩:=h
 rw [QJ (Qj.1 hx).1]; exact hx
theorem a7T {α:Type} {a b:List α} (h:a <+: b) {i:Nat} (hi:a.length<=i) (x:α):a <+: b.set i x:=by
 obtain ⟨t,rfl⟩:=h
 rw [QQ _ _ hi]
 exact ⟨_,rfl⟩
def Acc (lo:Nat) (σ:List MO) (l:List Ex) (i:Nat) (acc:PV):Prop :=
 (i=0/\acc=.nilS)\/∃ h rows,acc=.rsl h rows.length 9/\rows.length=i/\lo<=h/\σ[h]?=some (.row rows 9 26)/\a1l (fun k=>lo<=k/\k < σ.length/\k≠h) σ (l.take i) rows
theorem b4V {lo:Nat} {σ τ:List MO} {l:List Ex} {i:Nat} {acc:PV} {e1:Ex} {r1:List PV} (h:Acc lo σ l i acc) (hp:σ <+: τ) (hlo:lo<=σ.length) (h1:IsO (fun k=>σ.length<=k/\k < τ.length) τ e1 r1) (he:l[i]?=some e1) :
  (acc=.nilS/\Acc lo (τ++[.row [r1] 9 26]) l (i+1) (.rsl τ.length 1 9)) \/
   ∃ h rows,acc=.rsl h rows.length 9/\rows.length=i/\lo<=h/\τ[h]?=some (.row rows 9 26)/\Acc lo (τ.set h (.row (rows++[r1]) 9 26)) l (i+1) (.rsl h (rows.length+1) 9):=by
 have hle:=hp.length_le
 have ht:l.take (i+1)=l.take i++[e1]:=by rw [List.take_add_one,he]; rfl
 rcases h with ⟨rfl,rfl⟩ | ⟨h,rows,rfl,hl,hh,hr,hs⟩
 ·refine .inl ⟨rfl,.inr ⟨τ.length,[r1],rfl,rfl,by omega,by simp,?_⟩⟩
  rw [ht,Qt,Qb]
  refine ⟨r1,[],rfl,h1.mono (fun k o hk ho=>⟨⟨by omega,by simp; omega,by omega⟩,?_⟩),rfl⟩
  rw [QJ hk.2]; exact ho
 ·have hhl:=(Qj.1 hr).1
  refine .inr ⟨h,rows,rfl,hl,hh,a1y hp hr,.inr ⟨h,rows++[r1],by simp,by simp [hl],hh,?_,?_⟩⟩
  ·rw [QD (by omega)]
  ·rw [ht]
   refine a1l.append (hs.mono (fun k o hk ho=>⟨⟨hk.1,by rw [QM]; omega,hk.2.2⟩,?_⟩)) ⟨r1,[],rfl,h1.mono (fun k o hk ho=>⟨⟨by omega,by rw [QM]; omega,by omega⟩,?_⟩),rfl⟩
   ·rw [Qg (Ne.symm hk.2.2)]; exact a1y hp ho
   ·rw [Qg (by omega)]; exact ho
theorem b6g (σ:List MO) (op a b c d e' f v:Int) (w:PV) (hw:w.one=true) (n:Nat) (hn:1<=n):a0P Tab n a1A [.agg [.int .i64 op,.int .i64 a,.int .i64 b,.int .i64 c,.int .i64 d,.int .i64 e',.int .i64 f,.int .i64 v,w]] σ=some (.agg [.int .i64 op,.int .i64 a,.int .i64 b,.int .i64 c,.int .i64 d,.int .i64 e',.int .i64 f,.int .i64 v,w],σ):=by
 obtain ⟨n,rfl⟩:∃ k,n=k+1:=⟨n-1,by omega⟩
 simp only [a0P,a9t,Qa,Sys.run]
 show ((a0Q [.sh (.agg [_,_,_,_,_,_,_,_,_])] _).bind _)=_
 simp only [a0Q,a0z,a0s,Qd,Qa,Qf,Qb,Qe,if_true,hw]
 show (PT.ev _ a4O _).bind _=_
 simp -implicitDefEqProofs only [a4O,↓reduceIte,eq_self,Z1,Z2,Z3,Z4,Z5,Z6,Z7,Z8,Z9,Za,Zb,Zc,Zd,Ze,Zf,Zg,Zh,Nat.reduceAdd,Zi,if_true,if_false,Zl,Zm,Zn,Zo,Zp,Zq,Zr,Zs,Zt,Zu,Zv,Zw,Zx,Zy,Zz,ZA,ZB,ZC,ZD,ZE,a0D,or_true]
theorem b5n:∀ (e:Ex) (row:List PV),IsE e row->∀ (σ:List MO) n,e.size+3<=n->e.size<=1000000->∃ row' σ',a0P Tab n a6B [.agg row,.fn a1A []] σ=some (.agg row',σ')/\σ <+: σ'/\IsO (fun k=>σ.length<=k/\k < σ'.length) σ' e row':=by
 intro e
 induction hM:e.size using Nat.strongRecOn generalizing e with
 | _ M ih =>
  subst hM
  intro row hrow σ n hn hbig
  obtain ⟨op,a,b,c,d,e',f,v,l⟩:=e
  simp only [IsE] at hrow
  obtain ⟨x,rows,rfl,hx,hl⟩:=hrow
  obtain ⟨x1,x2,x3⟩:=a1G hx
  simp only [Ex.size] at ih hn hbig
  obtain ⟨n,rfl⟩:∃ k,n=k+1:=⟨n-1,by omega⟩
  have hlen:=hl.length
  have hsl:=a3I l
  have loop:∀ (fuel:Nat) (i:Nat) (acc:PV) (τ:List MO) (k0:Nat),l.length-i < fuel->i<=l.length->σ <+: τ->Acc σ.length τ l i acc ->
    ∃ row' σ',expr_Map_S.loop (a0P Tab n) fuel 0 { i:=[(rows.length:Int),(i:Int),op,a,b,c,d,e',f,v],b:=[],v:=[.fn a1A [],acc,x],m:=τ,k:=k0 }=some (.agg row',σ')/\σ <+: σ'/\IsO (fun k=>σ.length<=k/\k < σ'.length) σ' (.node op a b c d e' f v l) row':=by
   intro fuel
   induction fuel with
   | zero=>intro i acc τ k0 h; omega
   | succ fuel ihf =>
    intro i acc τ k0 h1 h2 h3 h4
    rw [Sys.loop,show expr_Map_S.loops[0]?=some a5Z from rfl]
    simp -implicitDefEqProofs only [Qa,a5Z,↓reduceIte,eq_self,Z1,Z2,Z3,Z4,Z5,Z6,Z7,Z8,Z9,Za,Zb,Zc,Zd,Ze,Zf,Zg,Zh,Nat.reduceAdd,Zi,if_true,if_false,Zl,Zm,Zn,Zo,Zp,Zq,Zr,Zs,Zt,Zu,Zv,Zw,Zx,Zy,Zz,ZA,ZB,ZC,ZD,ZE,a3t,decide_eq_true_eq]
    by_cases hlt:i < rows.length
    ·obtain ⟨e1,he1⟩:∃ e1,l[i]?=some e1:=⟨_,QE (by omega)⟩
     have hd:=hl.split i
     rw [a4F he1] at hd
     simp only [a1a] at hd
     obtain ⟨r1,rs,hd1,hd2,hd3⟩:=hd
     have hr:rows[i]?=some r1:=a7K hd1
     have hloc:=a6J (off:=0) hx hr
     rw [if_pos hlt]
     have hsz:=a3D (QK he1)
     obtain ⟨row1,σ1,hcall,hp1,ho1⟩:=ih _ (QP hsz) _ rfl _ hd2 τ n (by omega) (by omega)
     have hstep:=b4V h4 hp1 h3.length_le ho1 he1
     have hne:h3.length_le=h3.length_le:=rfl
     obtain ⟨op1,a1,b1,c1,d1,e1',f1,v1,l1⟩:=e1
     simp only [IsE] at hd2
     obtain ⟨y,rows1,rfl,hy,hl1⟩:=hd2
     obtain ⟨y1,y2,y3⟩:=a1G hy
     have ho1':=ho1
     simp only [IsO] at ho1'
     obtain ⟨w,rfl,hw⟩:=ho1'
     have w3:w.one=true:=by rcases hw with ⟨_,rfl⟩ | ⟨_,_,_,_,rfl,_⟩<;>rfl
     have q1:(leB 0 (i:Int)&&decide (i < rows.length))=true:=by simp [leB,hlt]
     have q2:(leB (-9223372036854775808) ((i:Int)+1)&&leB ((i:Int)+1) 9223372036854775807)=true:=by simp [leB]; omega
     have q5:(1:Nat)<=1000000:=by omega
     simp only [a6B] at hcall
     have hcast:((i+1:Nat):Int)=(i:Int)+1:=by omega
     have hsl1:∀ r,(PV.sl 9 r).one=true:=fun _=>rfl
     have hro:∀ r,(PV.sl 9 r).rowsOf 9=some r:=fun _=>rfl
     rcases hstep with ⟨rfl,ha⟩ | ⟨h,rws,rfl,hi,hh,hrow,ha⟩
     ·have:=ihf (i+1) _ _ k0 (by omega) (by omega) (h3.trans (hp1.trans ⟨_,rfl⟩)) ha
      rw [hcast] at this
      simp -implicitDefEqProofs only [x1,x2,a3t,↓reduceIte,eq_self,Z1,Z2,Z3,Z4,Z5,Z6,Z7,Z8,Z9,Za,Zb,Zc,Zd,Ze,Zf,Zg,Zh,Nat.reduceAdd,Zi,if_true,if_false,Zl,Zm,Zn,Zo,Zp,Zq,Zr,Zs,Zt,Zu,Zv,Zw,Zx,Zy,Zz,ZA,ZB,ZC,ZD,ZE,if_pos q1,hloc,y3,hcall,w3,hsl1,hro,a0r,Q1,Q2,Q3,Q4,if_pos q5,if_pos q2,Q5,if_false]
      exact this
     ·have:=ihf (i+1) _ _ k0 (by omega) (by omega) (a7T (h3.trans hp1) hh _) ha
      rw [hcast] at this
      have q6:rws.length+1<=1000000:=by omega
      simp -implicitDefEqProofs only [x1,x2,a3t,↓reduceIte,eq_self,Z1,Z2,Z3,Z4,Z5,Z6,Z7,Z8,Z9,Za,Zb,Zc,Zd,Ze,Zf,Zg,Zh,Nat.reduceAdd,Zi,if_true,if_false,Zl,Zm,Zn,Zo,Zp,Zq,Zr,Zs,Zt,Zu,Zv,Zw,Zx,Zy,Zz,ZA,ZB,ZC,ZD,ZE,if_pos q1,hloc,y3,hcall,w3,hsl1,hro,a0r,Q1,Q2,Q3,Q4,if_pos q5,if_pos q2,hrow,q6,and_self]
      exact this
    ·have hil:i=l.length:=by omega
     rw [if_neg hlt]
     subst hil
     have hacc:acc.one=true:=by rcases h4 with ⟨_,rfl⟩ | ⟨_,_,rfl,_⟩<;>rfl
     have hcl:=b6g τ op a b c d e' f v acc hacc n (by omega)
     refine ⟨[.int .i64 op,.int .i64 a,.int .i64 b,.int .i64 c,.int .i64 d,.int .i64 e',.int .i64 f,.int .i64 v,acc],τ,?_,h3,?_⟩
     ·simp -implicitDefEqProofs only [↓reduceIte,eq_self,Z1,Z2,Z3,Z4,Z5,Z6,Z7,Z8,Z9,Za,Zb,Zc,Zd,Ze,Zf,Zg,Zh,Nat.reduceAdd,Zi,if_true,if_false,Zl,Zm,Zn,Zo,Zp,Zq,Zr,Zs,Zt,Zu,Zv,Zw,Zx,Zy,Zz,ZA,ZB,ZC,ZD,ZE,hcl,hacc,a0D,true_or]
     ·simp only [IsO]
      refine ⟨acc,rfl,?_⟩
      rcases h4 with ⟨h0,rfl⟩ | ⟨h,rws,rfl,hi,hh,hrow,hs⟩
      ·exact .inl ⟨QW h0,rfl⟩
      ·refine .inr ⟨h,rws,_,⟨hh,(Qj.1 hrow).1⟩,rfl,hrow,?_⟩
       rw [List.take_length] at hs
       exact hs.mono (fun k o hk ho=>⟨⟨hk.1,hk.2.1⟩,ho⟩)
  obtain ⟨row',σ',h0,hp,ho⟩:=loop n 0 .nilS σ σ.length (by omega) (QH _) (List.prefix_refl _) (.inl ⟨rfl,rfl⟩)
  refine ⟨row',σ',?_,hp,ho⟩
  rw [<- h0]
  simp only [a0P,b2n,Qa,Sys.run]
  show ((a0Q [.sh (.agg [_,_,_,_,_,_,_,_,_]),.sh (.one _)] _).bind _)=_
  have hf1:(PV.fn a1A []).one=true:=rfl
  have hf2:(PV.fn a1A []).isKind 2=true:=rfl
  have hf3:(PV.fn a1A []).isNil=false:=rfl
  have hf4:(PV.fn a1A []).nilOk=true:=rfl
  simp only [a0Q,a0z,a0s,Qd,Qa,Qf,Qb,Qe,if_true,x3,hf1]
  show (PT.ev _ a6N _).bind _=_
  simp -implicitDefEqProofs only [a6N,↓reduceIte,eq_self,Z1,Z2,Z3,Z4,Z5,Z6,Z7,Z8,Z9,Za,Zb,Zc,Zd,Ze,Zf,Zg,Zh,Nat.reduceAdd,Zi,if_true,if_false,Zl,Zm,Zn,Zo,Zp,Zq,Zr,Zs,Zt,Zu,Zv,Zw,Zx,Zy,Zz,ZA,ZB,ZC,ZD,ZE,hf2,hf3,hf4,x1,x2]
  rfl
theorem a5G (e:Ex) (row:List PV) (hrow:IsE e row) (σ:List MO) (n:Nat) (hn:e.size+4<=n) (hbig:e.size<=1000000):∃ row' σ',a0P Tab n a3Y [.agg row] σ=some (.agg row',σ')/\σ <+: σ'/\IsO (fun k=>σ.length<=k/\k < σ'.length) σ' e row':=by
 obtain ⟨n,rfl⟩:∃ k,n=k+1:=⟨n-1,by omega⟩
 obtain ⟨row',σ',hm,hp,ho⟩:=b5n e row hrow σ n (by omega) hbig
 refine ⟨row',σ',?_,hp,ho⟩
 obtain ⟨op,a,b,c,d,e',f,v,l⟩:=e
 simp only [IsE] at hrow
 obtain ⟨x,rows,rfl,hx,hl⟩:=hrow
 obtain ⟨x1,x2,x3⟩:=a1G hx
 simp only [IsO] at ho
 obtain ⟨w,rfl,hw⟩:=ho
 have w3:w.one=true:=by rcases hw with ⟨_,rfl⟩ | ⟨_,_,_,_,rfl,_⟩<;>rfl
 simp only [a6B,a1A] at hm
 simp only [a0P,b0Z,Qa,Sys.run]
 show ((a0Q [.sh (.agg [_,_,_,_,_,_,_,_,_])] _).bind _)=_
 simp only [a0Q,a0z,a0s,Qd,Qa,Qf,Qb,Qe,if_true,x3]
 show (PT.ev _ a5Q _).bind _=_
 simp -implicitDefEqProofs only [a5Q,↓reduceIte,eq_self,Z1,Z2,Z3,Z4,Z5,Z6,Z7,Z8,Z9,Za,Zb,Zc,Zd,Ze,Zf,Zg,Zh,Nat.reduceAdd,Zi,if_true,if_false,Zl,Zm,Zn,Zo,Zp,Zq,Zr,Zs,Zt,Zu,Zv,Zw,Zx,Zy,Zz,ZA,ZB,ZC,ZD,ZE,hm,w3,a0D,true_or]
end Go.Proofs.Ytdadenjndpbppaa
set_option maxRecDepth 100000
namespace Go.Proofs.Ytdadenjndpbppaa
open Go.Sx
def b6n (C:Nat) (caps:List PV) (n0:Nat) (all:List Ex) (J:List Ex->List MO->Prop):Prop :=
 ∀ p x r row σ,all=p++x::r->IsE x row->J p σ->∀ n,n0<=n->∃ σ',a0P Tab n C (.agg row::caps) σ=some (.bool true,σ')/\J (p++[x]) σ'
theorem b4b {C:Nat} {caps:List PV} {n0:Nat} {all:List Ex} {J:List Ex->List MO->Prop} (hV:b6n C caps n0 all J) :
  ∀ (e:Ex) (row:List PV) (p r:List Ex),all=p++e.pre++r->IsE e row->∀ σ,J p σ->∀ n,e.size+n0+2<=n->e.size<=1000000 ->
   ∃ σ',a0P Tab n a4J [.agg [.fn C caps],.agg row] σ=some (.bool true,σ')/\J (p++e.pre) σ':=by
 intro e
 induction hN:e.size using Nat.strongRecOn generalizing e with
 | _ N ih =>
  subst hN
  intro row p0 r0 hall hrow σ0 hJ0 n hn hbig
  obtain ⟨op,a,b,c,d,e',f,v,l⟩:=e
  have hrow0:=hrow
  simp only [IsE] at hrow
  obtain ⟨x,rows,rfl,hx,hl⟩:=hrow
  obtain ⟨x1,x2,x3⟩:=a1G hx
  simp only [Ex.size] at ih hn hbig
  obtain ⟨n,rfl⟩:∃ k,n=k+1:=⟨n-1,by omega⟩
  have hlen:=hl.length
  have hsl:=a3I l
  simp only [Ex.pre] at hall ⊢
  generalize hx0:Ex.node op a b c d e' f v l=x0 at *
  have loop:∀ (fuel i:Nat) (k:Nat) (p r:List Ex) (σ:List MO),l.length-i < fuel->i<=l.length->all=p++a3U (l.drop i)++r->J p σ ->
    ∃ σ',expr_walker_walk_S.loop (a0P Tab n) fuel 0 { i:=[(rows.length:Int),(i:Int)],b:=[],v:=[x,.fn C caps],m:=σ,k:=k }=some (.bool true,σ')/\J (p++a3U (l.drop i)) σ':=by
   intro fuel
   induction fuel with
   | zero=>intro i k p r σ h; omega
   | succ fuel ihf =>
    intro i k p r σ h1 h2 h3 h4
    rw [Sys.loop,show expr_walker_walk_S.loops[0]?=some a3v from rfl]
    simp -implicitDefEqProofs only [Qa,a3v]
    simp -implicitDefEqProofs only [PT.ev,BE.safe,BE.pe,IE.pe,PEnv.at,Qh,Qk,if_true,a3t,decide_eq_true_eq]
    by_cases hlt:i < rows.length
    ·obtain ⟨e1,he1⟩:∃ e1,l[i]?=some e1:=⟨_,QE (by omega)⟩
     have hdc:=a4F he1
     have hd:=hl.split i
     rw [hdc] at hd h3 ⊢
     simp only [a1a] at hd
     obtain ⟨r1,rs,hd1,hd2,hd3⟩:=hd
     have hr:rows[i]?=some r1:=by
      have:=congrArg (fun l=>l[0]?) hd1
      simpa using this
     have hloc:=a6J (off:=0) hx hr
     rw [if_pos hlt]
     simp -implicitDefEqProofs only [x1,Qq,if_true]
     have hsz:=a3D (QK he1)
     simp only [a3U] at h3 ⊢
     obtain ⟨σ1,hcall,hJ1⟩:=ih _ (QP hsz) _ rfl _ p (a3U (l.drop (i+1))++r) (by rw [h3]; simp) hd2 σ h4 n (by omega) (by omega)
     obtain ⟨op1,a1,b1,c1,d1,e1',f1,v1,l1⟩:=e1
     have hd2':=hd2
     simp only [IsE] at hd2'
     obtain ⟨y,rows1,rfl,hy,hl1⟩:=hd2'
     obtain ⟨y1,y2,y3⟩:=a1G hy
     generalize hy0:Ex.node op1 a1 b1 c1 d1 e1' f1 v1 l1=y0 at *
     have q1:(leB 0 (i:Int)&&ltB (i:Int) (rows.length:Int))=true:=by simp [leB,ltB]; omega
     have q2:(leB (-9223372036854775808) ((i:Int)+1)&&leB ((i:Int)+1) 9223372036854775807)=true:=by simp [leB]; omega
     rw [if_pos q1]
     obtain ⟨σ2,h5,h6⟩:=ihf (i+1) k (p++y0.pre) r σ1 (by omega) (by omega) (by rw [h3]; simp) hJ1
     refine ⟨σ2,?_,by rw [<- List.append_assoc]; exact h6⟩
     rw [show ((i+1:Nat):Int)=(i:Int)+1 from by omega] at h5
     simp -implicitDefEqProofs only [a0A,Qm,Qa,IE.pe,Qh,Qk,hloc,a0i,Qy,a0B,Qr,Qz,Nat.reduceAdd,Qn,if_true,QA,Qt,
      a0s,Qd,y3,PEnv.push,Qe,Qb,SV.pvs,SV.pv,Qp,hcall]
     simp -implicitDefEqProofs only [Qa,a0e,a0z,a0s,Qd,Qe,Qb,Qf,BE.safe,BE.pe,Qh,Qu,Qs,if_false,if_true,Qq,Qk,IE.pe,q2,BE.all,SV.pvs,SV.pv,Qm,Qp,
      Qv,Qw]
     exact h5
    ·have hil:i=l.length:=by omega
     rw [if_neg hlt]
     subst hil
     refine ⟨σ,?_,by simpa [a3U] using h4⟩
     simp -implicitDefEqProofs only [↓reduceIte,eq_self,Z1,Z2,Z3,Z4,Z5,Z6,Z7,Z8,Z9,Za,Zb,Zc,Zd,Ze,Zf,Zg,Zh,Nat.reduceAdd,Zi,if_true,if_false,Zl,Zm,Zn,Zo,Zp,Zq,Zr,Zs,Zt,Zu,Zv,Zw,Zx,Zy,Zz,ZA,ZB,ZC,ZD,ZE,a0D,true_or]
  obtain ⟨σ1,hcall,hJ1⟩:=hV p0 x0 (a3U l++r0) _ σ0 (by rw [hall]; simp) hrow0 hJ0 n (by omega)
  obtain ⟨σ2,h5,h6⟩:=loop n 0 σ0.length (p0++[x0]) r0 σ1 (by omega) (QH _) (by rw [hall]; simp) hJ1
  refine ⟨σ2,?_,by simpa using h6⟩
  simp -implicitDefEqProofs only [a0P,a7d,Qa,Sys.run]
  show ((a0Q [.sh (.agg [_]),.sh (.agg [_,_,_,_,_,_,_,_,_])] _).bind _)=_
  simp only [a0Q,a0z,a0s,x3,show (PV.fn C caps).one=true from rfl,if_true,Qd,Qa,Qf,Qb,Qe]
  show (PT.ev _ a3C _).bind _=_
  simp -implicitDefEqProofs only [a3C,PT.ev,Qm,Qp,SV.pvs,SV.pv,Qa,Qd,IE.pe,Qh,Qk,Qe,Qb,hcall]
  simp -implicitDefEqProofs only [a0e,a0z,a0s,Qd,Qa,PEnv.push,Qb,Qf,BE.safe,BE.pe,Qh,if_true]
  simp -implicitDefEqProofs only [Qu,Qs,if_false,PEnv.at,Qk,Qh,x2,if_true,BE.all,Qa,Qd,Qv,Qw,IE.pe,x1]
  exact h5
mutual
theorem a8K:∀ (e x:Ex),x∈e.pre->x.size<=e.size
 | .node op a b c d e f v l,x,h=>by
  simp only [Ex.pre,List.mem_cons] at h
  rcases h with rfl | h
  ·exact Qn _
  ·have:=b0m l x h; simp only [Ex.size]; omega
theorem b0m:∀ (l:List Ex) (x:Ex),x∈a3U l->x.size<=a2O l
 | [],x,h=>by simp [a3U] at h
 | e::l,x,h=>by
  simp only [a3U,X0] at h
  rcases h with h | h
  ·have:=a8K e x h; simp only [a2O]; omega
  ·have:=b0m l x h; simp only [a2O]; omega
end
def Ex.op:Ex->Int | .node op _ _ _ _ _ _ _ _=>op
def AtI (σ0:List MO) (B:Nat) (p:List Ex) (σ:List MO):Prop :=
 σ0 <+: σ/\∃ v,σ[σ0.length]?=some (.cells [v] 24)/\(v=.nilS\/∃ h rows aa,v=.rsl h rows.length 9/\σ0.length < h/\σ[h]?=some (.row rows 9 26)/\rows.length<=p.length/\(∀ a∈aa,Ex.size a<=B)/\a1l (fun k=>σ0.length < k/\k < σ.length/\k≠h) σ aa rows)
def b5u:List PV:=[.int .i64 0,.int .i64 0,.int .i64 0,.int .i64 0,.int .i64 0,.int .i64 0,.int .i64 0,.int .i64 0,.nilS]
theorem b4p {σ0 σ σ1:List MO} {B:Nat} {p:List Ex} {x:Ex} {row:List PV} (hx:x.size<=B) (h0:σ0 <+: σ) (hv:σ[σ0.length]?=some (.cells [.nilS] 24)) (hp:σ <+: σ1) (ho:IsO (fun k=>σ.length<=k/\k < σ1.length) σ1 x row) :
  AtI σ0 B (p++[x]) (σ1.set σ0.length (.cells [.rsl σ1.length 1 9] 24)++[.row [row] 9 26]):=by
 have hl:=(Qj.1 hv).1
 have hle:=hp.length_le
 refine ⟨(a7T (h0.trans hp) (Qn _) _).trans ⟨_,rfl⟩,.rsl σ1.length 1 9,?_,.inr ⟨σ1.length,[row],[x],rfl,by omega,?_,by simp,by simpa using hx,row,[],rfl,ho.mono (fun k o hk hko=>⟨⟨by omega,by simp; omega,by omega⟩,?_⟩),rfl⟩⟩
 ·rw [QJ (by simp; omega),QD (by omega)]
 ·rw [X1 (by simp),QM,QN]; rfl
 ·rw [QJ (by simp; omega),Qg (by omega)]; exact hko
theorem b4j {σ0 σ σ1:List MO} {B:Nat} {p:List Ex} {x:Ex} {row:List PV} {h:Nat} {rows:List (List PV)} {aa:List Ex} (hx:x.size<=B) (h0:σ0 <+: σ) (hv:σ[σ0.length]?=some (.cells [.rsl h rows.length 9] 24)) (hp:σ <+: σ1) (ho:IsO (fun k=>σ.length<=k/\k < σ1.length) σ1 x row)
  (hh:σ0.length < h) (hr:σ[h]?=some (.row rows 9 26)) (hl2:rows.length<=p.length) (hB:∀ a∈aa,Ex.size a<=B) (hs:a1l (fun k=>σ0.length < k/\k < σ.length/\k≠h) σ aa rows) :
  AtI σ0 B (p++[x]) ((σ1.set h (.row (rows++[row]) 9 26)).set σ0.length (.cells [.rsl h (rows.length+1) 9] 24)):=by
 have hl:=(Qj.1 hv).1
 have hhl:=(Qj.1 hr).1
 have hle:=hp.length_le
 refine ⟨a7T (a7T (h0.trans hp) (by omega) _) (Qn _) _,.rsl h (rows.length+1) 9,?_,.inr ⟨h,rows++[row],aa++[x],by simp,hh,?_,by simpa using hl2,?_,?_⟩⟩
 ·rw [QD (by simp; omega)]
 ·rw [Qg (by omega),QD (by omega)]
 ·intro a ha
  rcases X0.1 ha with ha | ha
  ·exact hB a ha
  ·rw [List.mem_singleton.1 ha]; exact hx
 ·refine a1l.append (hs.mono (fun k o hk hko=>⟨⟨hk.1,by simp; omega,hk.2.2⟩,?_⟩)) ⟨row,[],rfl,ho.mono (fun k o hk hko=>⟨⟨by omega,by simp; omega,by omega⟩,?_⟩),rfl⟩
  ·rw [Qg (by omega),Qg (by omega)]; exact a1y hp hko
  ·rw [Qg (by omega),Qg (by omega)]; exact hko
theorem b4M {σ0 σ:List MO} {B:Nat} {p:List Ex} {x:Ex} (h:AtI σ0 B p σ):AtI σ0 B (p++[x]) σ:=by
 obtain ⟨h0,v,h1,h2⟩:=h
 refine ⟨h0,v,h1,?_⟩
 rcases h2 with h2 | ⟨h,rows,aa,a1,a2,a3,a4,a5⟩
 ·exact .inl h2
 ·exact .inr ⟨h,rows,aa,a1,a2,a3,by simp; omega,a5⟩
set_option maxHeartbeats 4000000 in
theorem b3I (σ0:List MO) (all:List Ex) (hall:all.length<=999999) (B N:Nat) (hB:B<=1000000) (hsz:∀ x∈all,x.size<=B) (hN:∀ x∈all,x.size+5<=N) :
  b6n a6m [.ref σ0.length 0] N all (AtI σ0 B):=by
 intro p x r row σ hal hrow hJ n hn
 have hx:=hN x (by rw [hal]; simp)
 have hx2:=hsz x (by rw [hal]; simp)
 have hpl:p.length+1<=999999:=by
  have:=congrArg List.length hal
  simp only [QS,Qr] at this
  omega
 obtain ⟨n,rfl⟩:∃ k,n=k+1:=⟨n-1,by omega⟩
 obtain ⟨row1,σ1,hcall,hp,ho⟩:=a5G x row hrow σ n (by omega) (by omega)
 have hkeep:=b4M (x:=x) hJ
 obtain ⟨h0,v,hv,hvv⟩:=hJ
 have hl:=(Qj.1 hv).1
 have hle:=hp.length_le
 have hv1:=a1y hp hv
 have st1:=fun hv=>b4p (p:=p) hx2 h0 hv hp ho
 have st2:=fun h rows aa hv=>b4j (p:=p) (h:=h) (rows:=rows) (aa:=aa) hx2 h0 hv hp ho
 have hop:∃ o,x.op=o:=⟨_,rfl⟩
 obtain ⟨o,hop⟩:=hop
 obtain ⟨op,a,b,c,d,e',f,v0,l⟩:=x
 simp only [Ex.op] at hop
 subst hop
 simp only [IsE] at hrow
 obtain ⟨y,rows0,rfl,hy,hl0⟩:=hrow
 obtain ⟨y1,y2,y3⟩:=a1G hy
 simp only [IsO] at ho
 obtain ⟨w,rfl,hw⟩:=ho
 have w3:w.one=true:=by rcases hw with ⟨_,rfl⟩ | ⟨_,_,_,_,rfl,_⟩<;>rfl
 simp only [a3Y] at hcall
 have hptr:(PV.ref σ0.length 0).isPtr=true:=rfl
 have hone:∀ h off,(PV.ref h off).one=true:=fun _ _=>rfl
 cases hoo:eqB op 1 with
 | false =>
  refine ⟨σ,?_,hkeep⟩
  simp only [a0P,a4e,Qa,Sys.run]
  show ((a0Q [.sh (.agg [_,_,_,_,_,_,_,_,_]),.ptr] _).bind _)=_
  simp only [a0Q,a0z,a0s,Qd,Qa,Qf,Qb,Qe,if_true,y3,hptr]
  show (PT.ev _ a1F _).bind _=_
  simp -implicitDefEqProofs only [a1F,↓reduceIte,eq_self,Z1,Z2,Z3,Z4,Z5,Z6,Z7,Z8,Z9,Za,Zb,Zc,Zd,Ze,Zf,Zg,Zh,Nat.reduceAdd,Zi,if_true,if_false,Zl,Zm,Zn,Zo,Zp,Zq,Zr,Zs,Zt,Zu,Zv,Zw,Zx,Zy,Zz,ZA,ZB,ZC,ZD,ZE,hoo,a0D,true_or]
 | true =>
 have f3:List.all [PV.int .i64 op,PV.int .i64 a,PV.int .i64 b,PV.int .i64 c,PV.int .i64 d,PV.int .i64 e',PV.int .i64 f,PV.int .i64 v0,w] PV.one=true:=by simp only [List.all_cons,Q6,show ∀ k z,(PV.int k z).one=true from fun _ _=>rfl,w3,Qq]
 have f1:a3m b5u 0 [.int .i64 op,.int .i64 a,.int .i64 b,.int .i64 c,.int .i64 d,.int .i64 e',.int .i64 f,.int .i64 v0,w]=[.int .i64 op,.int .i64 a,.int .i64 b,.int .i64 c,.int .i64 d,.int .i64 e',.int .i64 f,.int .i64 v0,w]:=rfl
 have f2':∀ x y:PV,a3m [x] 0 [y]=[y]:=fun _ _=>rfl
 simp only [b5u] at f1
 have hi:∀ k z,(PV.int k z).one=true:=fun _ _=>rfl
 have hnl:PV.nilS.one=true:=rfl
 have l1:(1:Nat)<=1000000:=by omega
 have hrs:∀ h l s,(PV.rsl h l s).one=true:=fun _ _ _=>rfl
 rcases hvv with rfl | ⟨h,R,aa,rfl,hh,hr,hlR,hBa,hs⟩
 ·have hst:=st1 hv
  clear st1 st2
  have hloc:a4c 0 9 0 (PV.rsl σ1.length 1 9)=some (.elt σ1.length 1 0 9 0):=rfl
  have hg:leB 0 0=true:=rfl
  have hg2:ltB 0 1=true:=rfl
  have e1:∀ Z C,(σ1++[Z]).set σ0.length C=σ1.set σ0.length C++[Z]:=fun Z C=>by rw [List.set_append_left _ _ (by omega)]
  have e2:∀ Z W,(σ1++[Z]).set σ1.length W=σ1++[W]:=fun Z W=>by rw [QQ _ _ (by omega),QN]; rfl
  have e3:∀ C Z W,(σ1.set σ0.length C++[Z]).set σ1.length W=σ1.set σ0.length C++[W]:=fun C Z W=>by rw [QQ _ _ (by simp),QM,QN]; rfl
  have e4:∀ Z,(σ1++[Z])[σ1.length]?=some Z:=fun Z=>by simp
  have e5:∀ C Z,(σ1.set σ0.length C++[Z])[σ1.length]?=some Z:=fun C Z=>by rw [X1 (by simp),QM,QN]; rfl
  have e6:∀ Z,(σ1++[Z])[σ0.length]?=some (.cells [.nilS] 24):=fun Z=>by rw [QJ (by omega)]; exact hv1
  refine ⟨_,?_,hst⟩
  clear hst hkeep
  simp only [a0P,a4e,Qa,Sys.run]
  show ((a0Q [.sh (.agg [_,_,_,_,_,_,_,_,_]),.ptr] _).bind _)=_
  simp only [a0Q,a0z,a0s,Qd,Qa,Qf,Qb,Qe,if_true,y3,hptr]
  show (PT.ev _ a1F _).bind _=_
  refine X2.2 ⟨Res.ret (.bool true) (σ1.set σ0.length (.cells [.rsl σ1.length 1 9] 24)++[.row [[.int .i64 op,.int .i64 a,.int .i64 b,.int .i64 c,.int .i64 d,.int .i64 e',.int .i64 f,.int .i64 v0,w]] 9 26]),?_,rfl⟩
  unfold a1F
  simp -implicitDefEqProofs only [↓reduceIte,eq_self,ZF,ZG,ZH,ZI,ZJ,ZK,ZL,ZM,ZN,ZO,ZP,ZQ,ZR,ZS,ZT,ZU,ZV,ZW,ZX,ZY,Z2,Z3,Z4,Z5,Z6,Z7,Z8,Z9,Za,Zb,Zc,Zd,Ze,Zf,Zg,Zh,Nat.reduceAdd,Zi,if_true,if_false,Zl,Zm,Zn,Zo,Zp,Zq,Zr,Zs,Zt,Zu,Zv,Zw,Zx,Zy,Zz,ZA,ZB,ZC,ZD,ZE,hoo]
  repeat' (first
   | with_reducible rfl
   | apply b2W
   | (unfold a2F; simp -implicitDefEqProofs only [↓reduceIte,eq_self,ZF,ZG,ZH,ZI,ZJ,ZK,ZL,ZM,ZN,ZO,ZP,ZQ,ZR,ZS,ZT,ZU,ZV,ZW,ZX,ZY,Z2,Z3,Z4,Z5,Z6,Z7,Z8,Z9,Za,Zb,Zc,Zd,Ze,Zf,Zg,Zh,Nat.reduceAdd,Zi,if_true,if_false,Zl,Zm,Zn,Zo,Zp,Zq,Zr,Zs,Zt,Zu,Zv,Zw,Zx,Zy,Zz,ZA,ZB,ZC,ZD,ZE,hv,hv1,e1,e2,e3,e4,e5,e6,MO.list,PV.isKind,a0r,Q1,Q2,Q3,Q4,l1,hcall,w3,a0h,hi,hnl,f1,f2',f3,PV.len,PV.rowsOf,hloc,hg,hg2,and_self,Q0,Q7,Q6,a0D,true_or,Q8,Q9,Q5,if_false,MO.elts,hrs]; done)
   | (unfold a2F; simp -implicitDefEqProofs only [↓reduceIte,eq_self,ZF,ZG,ZH,ZI,ZJ,ZK,ZL,ZM,ZN,ZO,ZP,ZQ,ZR,ZS,ZT,ZU,ZV,ZW,ZX,ZY,Z2,Z3,Z4,Z5,Z6,Z7,Z8,Z9,Za,Zb,Zc,Zd,Ze,Zf,Zg,Zh,Nat.reduceAdd,Zi,if_true,if_false,Zl,Zm,Zn,Zo,Zp,Zq,Zr,Zs,Zt,Zu,Zv,Zw,Zx,Zy,Zz,ZA,ZB,ZC,ZD,ZE,hv,hv1,e1,e2,e3,e4,e5,e6,MO.list,PV.isKind,a0r,Q1,Q2,Q3,Q4,l1,hcall,w3,a0h,hi,hnl,f1,f2',f3,PV.len,PV.rowsOf,hloc,hg,hg2,and_self,Q0,Q7,Q6,a0D,true_or,Q8,Q9,Q5,if_false,MO.elts,hrs])
   | (unfold a2I; simp -implicitDefEqProofs only [↓reduceIte,eq_self,ZF,ZG,ZH,ZI,ZJ,ZK,ZL,ZM,ZN,ZO,ZP,ZQ,ZR,ZS,ZT,ZU,ZV,ZW,ZX,ZY,Z2,Z3,Z4,Z5,Z6,Z7,Z8,Z9,Za,Zb,Zc,Zd,Ze,Zf,Zg,Zh,Nat.reduceAdd,Zi,if_true,if_false,Zl,Zm,Zn,Zo,Zp,Zq,Zr,Zs,Zt,Zu,Zv,Zw,Zx,Zy,Zz,ZA,ZB,ZC,ZD,ZE,hv,hv1,e1,e2,e3,e4,e5,e6,MO.list,PV.isKind,a0r,Q1,Q2,Q3,Q4,l1,hcall,w3,a0h,hi,hnl,f1,f2',f3,PV.len,PV.rowsOf,hloc,hg,hg2,and_self,Q0,Q7,Q6,a0D,true_or,Q8,Q9,Q5,if_false,MO.elts,hrs]; done)
   | (unfold a2I; simp -implicitDefEqProofs only [↓reduceIte,eq_self,ZF,ZG,ZH,ZI,ZJ,ZK,ZL,ZM,ZN,ZO,ZP,ZQ,ZR,ZS,ZT,ZU,ZV,ZW,ZX,ZY,Z2,Z3,Z4,Z5,Z6,Z7,Z8,Z9,Za,Zb,Zc,Zd,Ze,Zf,Zg,Zh,Nat.reduceAdd,Zi,if_true,if_false,Zl,Zm,Zn,Zo,Zp,Zq,Zr,Zs,Zt,Zu,Zv,Zw,Zx,Zy,Zz,ZA,ZB,ZC,ZD,ZE,hv,hv1,e1,e2,e3,e4,e5,e6,MO.list,PV.isKind,a0r,Q1,Q2,Q3,Q4,l1,hcall,w3,a0h,hi,hnl,f1,f2',f3,PV.len,PV.rowsOf,hloc,hg,hg2,and_self,Q0,Q7,Q6,a0D,true_or,Q8,Q9,Q5,if_false,MO.elts,hrs])
   | (unfold a2C; simp -implicitDefEqProofs only [↓reduceIte,eq_self,ZF,ZG,ZH,ZI,ZJ,ZK,ZL,ZM,ZN,ZO,ZP,ZQ,ZR,ZS,ZT,ZU,ZV,ZW,ZX,ZY,Z2,Z3,Z4,Z5,Z6,Z7,Z8,Z9,Za,Zb,Zc,Zd,Ze,Zf,Zg,Zh,Nat.reduceAdd,Zi,if_true,if_false,Zl,Zm,Zn,Zo,Zp,Zq,Zr,Zs,Zt,Zu,Zv,Zw,Zx,Zy,Zz,ZA,ZB,ZC,ZD,ZE,hv,hv1,e1,e2,e3,e4,e5,e6,MO.list,PV.isKind,a0r,Q1,Q2,Q3,Q4,l1,hcall,w3,a0h,hi,hnl,f1,f2',f3,PV.len,PV.rowsOf,hloc,hg,hg2,and_self,Q0,Q7,Q6,a0D,true_or,Q8,Q9,Q5,if_false,MO.elts,hrs]; done)
   | (unfold a2C; simp -implicitDefEqProofs only [↓reduceIte,eq_self,ZF,ZG,ZH,ZI,ZJ,ZK,ZL,ZM,ZN,ZO,ZP,ZQ,ZR,ZS,ZT,ZU,ZV,ZW,ZX,ZY,Z2,Z3,Z4,Z5,Z6,Z7,Z8,Z9,Za,Zb,Zc,Zd,Ze,Zf,Zg,Zh,Nat.reduceAdd,Zi,if_true,if_false,Zl,Zm,Zn,Zo,Zp,Zq,Zr,Zs,Zt,Zu,Zv,Zw,Zx,Zy,Zz,ZA,ZB,ZC,ZD,ZE,hv,hv1,e1,e2,e3,e4,e5,e6,MO.list,PV.isKind,a0r,Q1,Q2,Q3,Q4,l1,hcall,w3,a0h,hi,hnl,f1,f2',f3,PV.len,PV.rowsOf,hloc,hg,hg2,and_self,Q0,Q7,Q6,a0D,true_or,Q8,Q9,Q5,if_false,MO.elts,hrs])
   | (unfold a2E; simp -implicitDefEqProofs only [↓reduceIte,eq_self,ZF,ZG,ZH,ZI,ZJ,ZK,ZL,ZM,ZN,ZO,ZP,ZQ,ZR,ZS,ZT,ZU,ZV,ZW,ZX,ZY,Z2,Z3,Z4,Z5,Z6,Z7,Z8,Z9,Za,Zb,Zc,Zd,Ze,Zf,Zg,Zh,Nat.reduceAdd,Zi,if_true,if_false,Zl,Zm,Zn,Zo,Zp,Zq,Zr,Zs,Zt,Zu,Zv,Zw,Zx,Zy,Zz,ZA,ZB,ZC,ZD,ZE,hv,hv1,e1,e2,e3,e4,e5,e6,MO.list,PV.isKind,a0r,Q1,Q2,Q3,Q4,l1,hcall,w3,a0h,hi,hnl,f1,f2',f3,PV.len,PV.rowsOf,hloc,hg,hg2,and_self,Q0,Q7,Q6,a0D,true_or,Q8,Q9,Q5,if_false,MO.elts,hrs]; done)
   | (unfold a2E; simp -implicitDefEqProofs only [↓reduceIte,eq_self,ZF,ZG,ZH,ZI,ZJ,ZK,ZL,ZM,ZN,ZO,ZP,ZQ,ZR,ZS,ZT,ZU,ZV,ZW,ZX,ZY,Z2,Z3,Z4,Z5,Z6,Z7,Z8,Z9,Za,Zb,Zc,Zd,Ze,Zf,Zg,Zh,Nat.reduceAdd,Zi,if_true,if_false,Zl,Zm,Zn,Zo,Zp,Zq,Zr,Zs,Zt,Zu,Zv,Zw,Zx,Zy,Zz,ZA,ZB,ZC,ZD,ZE,hv,hv1,e1,e2,e3,e4,e5,e6,MO.list,PV.isKind,a0r,Q1,Q2,Q3,Q4,l1,hcall,w3,a0h,hi,hnl,f1,f2',f3,PV.len,PV.rowsOf,hloc,hg,hg2,and_self,Q0,Q7,Q6,a0D,true_or,Q8,Q9,Q5,if_false,MO.elts,hrs])
   | (unfold a2K; simp -implicitDefEqProofs only [↓reduceIte,eq_self,ZF,ZG,ZH,ZI,ZJ,ZK,ZL,ZM,ZN,ZO,ZP,ZQ,ZR,ZS,ZT,ZU,ZV,ZW,ZX,ZY,Z2,Z3,Z4,Z5,Z6,Z7,Z8,Z9,Za,Zb,Zc,Zd,Ze,Zf,Zg,Zh,Nat.reduceAdd,Zi,if_true,if_false,Zl,Zm,Zn,Zo,Zp,Zq,Zr,Zs,Zt,Zu,Zv,Zw,Zx,Zy,Zz,ZA,ZB,ZC,ZD,ZE,hv,hv1,e1,e2,e3,e4,e5,e6,MO.list,PV.isKind,a0r,Q1,Q2,Q3,Q4,l1,hcall,w3,a0h,hi,hnl,f1,f2',f3,PV.len,PV.rowsOf,hloc,hg,hg2,and_self,Q0,Q7,Q6,a0D,true_or,Q8,Q9,Q5,if_false,MO.elts,hrs]; done)
   | (unfold a2K; simp -implicitDefEqProofs only [↓reduceIte,eq_self,ZF,ZG,ZH,ZI,ZJ,ZK,ZL,ZM,ZN,ZO,ZP,ZQ,ZR,ZS,ZT,ZU,ZV,ZW,ZX,ZY,Z2,Z3,Z4,Z5,Z6,Z7,Z8,Z9,Za,Zb,Zc,Zd,Ze,Zf,Zg,Zh,Nat.reduceAdd,Zi,if_true,if_false,Zl,Zm,Zn,Zo,Zp,Zq,Zr,Zs,Zt,Zu,Zv,Zw,Zx,Zy,Zz,ZA,ZB,ZC,ZD,ZE,hv,hv1,e1,e2,e3,e4,e5,e6,MO.list,PV.isKind,a0r,Q1,Q2,Q3,Q4,l1,hcall,w3,a0h,hi,hnl,f1,f2',f3,PV.len,PV.rowsOf,hloc,hg,hg2,and_self,Q0,Q7,Q6,a0D,true_or,Q8,Q9,Q5,if_false,MO.elts,hrs])
   | (unfold a2D; simp -implicitDefEqProofs only [↓reduceIte,eq_self,ZF,ZG,ZH,ZI,ZJ,ZK,ZL,ZM,ZN,ZO,ZP,ZQ,ZR,ZS,ZT,ZU,ZV,ZW,ZX,ZY,Z2,Z3,Z4,Z5,Z6,Z7,Z8,Z9,Za,Zb,Zc,Zd,Ze,Zf,Zg,Zh,Nat.reduceAdd,Zi,if_true,if_false,Zl,Zm,Zn,Zo,Zp,Zq,Zr,Zs,Zt,Zu,Zv,Zw,Zx,Zy,Zz,ZA,ZB,ZC,ZD,ZE,hv,hv1,e1,e2,e3,e4,e5,e6,MO.list,PV.isKind,a0r,Q1,Q2,Q3,Q4,l1,hcall,w3,a0h,hi,hnl,f1,f2',f3,PV.len,PV.rowsOf,hloc,hg,hg2,and_self,Q0,Q7,Q6,a0D,true_or,Q8,Q9,Q5,if_false,MO.elts,hrs]; done)
   | (unfold a2D; simp -implicitDefEqProofs only [↓reduceIte,eq_self,ZF,ZG,ZH,ZI,ZJ,ZK,ZL,ZM,ZN,ZO,ZP,ZQ,ZR,ZS,ZT,ZU,ZV,ZW,ZX,ZY,Z2,Z3,Z4,Z5,Z6,Z7,Z8,Z9,Za,Zb,Zc,Zd,Ze,Zf,Zg,Zh,Nat.reduceAdd,Zi,if_true,if_false,Zl,Zm,Zn,Zo,Zp,Zq,Zr,Zs,Zt,Zu,Zv,Zw,Zx,Zy,Zz,ZA,ZB,ZC,ZD,ZE,hv,hv1,e1,e2,e3,e4,e5,e6,MO.list,PV.isKind,a0r,Q1,Q2,Q3,Q4,l1,hcall,w3,a0h,hi,hnl,f1,f2',f3,PV.len,PV.rowsOf,hloc,hg,hg2,and_self,Q0,Q7,Q6,a0D,true_or,Q8,Q9,Q5,if_false,MO.elts,hrs])
   | (unfold a2J; simp -implicitDefEqProofs only [↓reduceIte,eq_self,ZF,ZG,ZH,ZI,ZJ,ZK,ZL,ZM,ZN,ZO,ZP,ZQ,ZR,ZS,ZT,ZU,ZV,ZW,ZX,ZY,Z2,Z3,Z4,Z5,Z6,Z7,Z8,Z9,Za,Zb,Zc,Zd,Ze,Zf,Zg,Zh,Nat.reduceAdd,Zi,if_true,if_false,Zl,Zm,Zn,Zo,Zp,Zq,Zr,Zs,Zt,Zu,Zv,Zw,Zx,Zy,Zz,ZA,ZB,ZC,ZD,ZE,hv,hv1,e1,e2,e3,e4,e5,e6,MO.list,PV.isKind,a0r,Q1,Q2,Q3,Q4,l1,hcall,w3,a0h,hi,hnl,f1,f2',f3,PV.len,PV.rowsOf,hloc,hg,hg2,and_self,Q0,Q7,Q6,a0D,true_or,Q8,Q9,Q5,if_false,MO.elts,hrs]; done)
   | (unfold a2J; simp -implicitDefEqProofs only [↓reduceIte,eq_self,ZF,ZG,ZH,ZI,ZJ,ZK,ZL,ZM,ZN,ZO,ZP,ZQ,ZR,ZS,ZT,ZU,ZV,ZW,ZX,ZY,Z2,Z3,Z4,Z5,Z6,Z7,Z8,Z9,Za,Zb,Zc,Zd,Ze,Zf,Zg,Zh,Nat.reduceAdd,Zi,if_true,if_false,Zl,Zm,Zn,Zo,Zp,Zq,Zr,Zs,Zt,Zu,Zv,Zw,Zx,Zy,Zz,ZA,ZB,ZC,ZD,ZE,hv,hv1,e1,e2,e3,e4,e5,e6,MO.list,PV.isKind,a0r,Q1,Q2,Q3,Q4,l1,hcall,w3,a0h,hi,hnl,f1,f2',f3,PV.len,PV.rowsOf,hloc,hg,hg2,and_self,Q0,Q7,Q6,a0D,true_or,Q8,Q9,Q5,if_false,MO.elts,hrs])
   | (unfold a2H; simp -implicitDefEqProofs only [↓reduceIte,eq_self,ZF,ZG,ZH,ZI,ZJ,ZK,ZL,ZM,ZN,ZO,ZP,ZQ,ZR,ZS,ZT,ZU,ZV,ZW,ZX,ZY,Z2,Z3,Z4,Z5,Z6,Z7,Z8,Z9,Za,Zb,Zc,Zd,Ze,Zf,Zg,Zh,Nat.reduceAdd,Zi,if_true,if_false,Zl,Zm,Zn,Zo,Zp,Zq,Zr,Zs,Zt,Zu,Zv,Zw,Zx,Zy,Zz,ZA,ZB,ZC,ZD,ZE,hv,hv1,e1,e2,e3,e4,e5,e6,MO.list,PV.isKind,a0r,Q1,Q2,Q3,Q4,l1,hcall,w3,a0h,hi,hnl,f1,f2',f3,PV.len,PV.rowsOf,hloc,hg,hg2,and_self,Q0,Q7,Q6,a0D,true_or,Q8,Q9,Q5,if_false,MO.elts,hrs]; done)
   | (unfold a2H; simp -implicitDefEqProofs only [↓reduceIte,eq_self,ZF,ZG,ZH,ZI,ZJ,ZK,ZL,ZM,ZN,ZO,ZP,ZQ,ZR,ZS,ZT,ZU,ZV,ZW,ZX,ZY,Z2,Z3,Z4,Z5,Z6,Z7,Z8,Z9,Za,Zb,Zc,Zd,Ze,Zf,Zg,Zh,Nat.reduceAdd,Zi,if_true,if_false,Zl,Zm,Zn,Zo,Zp,Zq,Zr,Zs,Zt,Zu,Zv,Zw,Zx,Zy,Zz,ZA,ZB,ZC,ZD,ZE,hv,hv1,e1,e2,e3,e4,e5,e6,MO.list,PV.isKind,a0r,Q1,Q2,Q3,Q4,l1,hcall,w3,a0h,hi,hnl,f1,f2',f3,PV.len,PV.rowsOf,hloc,hg,hg2,and_self,Q0,Q7,Q6,a0D,true_or,Q8,Q9,Q5,if_false,MO.elts,hrs])
   | (unfold a2G; simp -implicitDefEqProofs only [↓reduceIte,eq_self,ZF,ZG,ZH,ZI,ZJ,ZK,ZL,ZM,ZN,ZO,ZP,ZQ,ZR,ZS,ZT,ZU,ZV,ZW,ZX,ZY,Z2,Z3,Z4,Z5,Z6,Z7,Z8,Z9,Za,Zb,Zc,Zd,Ze,Zf,Zg,Zh,Nat.reduceAdd,Zi,if_true,if_false,Zl,Zm,Zn,Zo,Zp,Zq,Zr,Zs,Zt,Zu,Zv,Zw,Zx,Zy,Zz,ZA,ZB,ZC,ZD,ZE,hv,hv1,e1,e2,e3,e4,e5,e6,MO.list,PV.isKind,a0r,Q1,Q2,Q3,Q4,l1,hcall,w3,a0h,hi,hnl,f1,f2',f3,PV.len,PV.rowsOf,hloc,hg,hg2,and_self,Q0,Q7,Q6,a0D,true_or,Q8,Q9,Q5,if_false,MO.elts,hrs]; done)
   | (unfold a2G; simp -implicitDefEqProofs only [↓reduceIte,eq_self,ZF,ZG,ZH,ZI,ZJ,ZK,ZL,ZM,ZN,ZO,ZP,ZQ,ZR,ZS,ZT,ZU,ZV,ZW,ZX,ZY,Z2,Z3,Z4,Z5,Z6,Z7,Z8,Z9,Za,Zb,Zc,Zd,Ze,Zf,Zg,Zh,Nat.reduceAdd,Zi,if_true,if_false,Zl,Zm,Zn,Zo,Zp,Zq,Zr,Zs,Zt,Zu,Zv,Zw,Zx,Zy,Zz,ZA,ZB,ZC,ZD,ZE,hv,hv1,e1,e2,e3,e4,e5,e6,MO.list,PV.isKind,a0r,Q1,Q2,Q3,Q4,l1,hcall,w3,a0h,hi,hnl,f1,f2',f3,PV.len,PV.rowsOf,hloc,hg,hg2,and_self,Q0,Q7,Q6,a0D,true_or,Q8,Q9,Q5,if_false,MO.elts,hrs])
   | (unfold a2a; simp -implicitDefEqProofs only [↓reduceIte,eq_self,ZF,ZG,ZH,ZI,ZJ,ZK,ZL,ZM,ZN,ZO,ZP,ZQ,ZR,ZS,ZT,ZU,ZV,ZW,ZX,ZY,Z2,Z3,Z4,Z5,Z6,Z7,Z8,Z9,Za,Zb,Zc,Zd,Ze,Zf,Zg,Zh,Nat.reduceAdd,Zi,if_true,if_false,Zl,Zm,Zn,Zo,Zp,Zq,Zr,Zs,Zt,Zu,Zv,Zw,Zx,Zy,Zz,ZA,ZB,ZC,ZD,ZE,hv,hv1,e1,e2,e3,e4,e5,e6,MO.list,PV.isKind,a0r,Q1,Q2,Q3,Q4,l1,hcall,w3,a0h,hi,hnl,f1,f2',f3,PV.len,PV.rowsOf,hloc,hg,hg2,and_self,Q0,Q7,Q6,a0D,true_or,Q8,Q9,Q5,if_false,MO.elts,hrs]; done)
   | (unfold a2a; simp -implicitDefEqProofs only [↓reduceIte,eq_self,ZF,ZG,ZH,ZI,ZJ,ZK,ZL,ZM,ZN,ZO,ZP,ZQ,ZR,ZS,ZT,ZU,ZV,ZW,ZX,ZY,Z2,Z3,Z4,Z5,Z6,Z7,Z8,Z9,Za,Zb,Zc,Zd,Ze,Zf,Zg,Zh,Nat.reduceAdd,Zi,if_true,if_false,Zl,Zm,Zn,Zo,Zp,Zq,Zr,Zs,Zt,Zu,Zv,Zw,Zx,Zy,Zz,ZA,ZB,ZC,ZD,ZE,hv,hv1,e1,e2,e3,e4,e5,e6,MO.list,PV.isKind,a0r,Q1,Q2,Q3,Q4,l1,hcall,w3,a0h,hi,hnl,f1,f2',f3,PV.len,PV.rowsOf,hloc,hg,hg2,and_self,Q0,Q7,Q6,a0D,true_or,Q8,Q9,Q5,if_false,MO.elts,hrs])
   | (unfold a1L; simp -implicitDefEqProofs only [↓reduceIte,eq_self,ZF,ZG,ZH,ZI,ZJ,ZK,ZL,ZM,ZN,ZO,ZP,ZQ,ZR,ZS,ZT,ZU,ZV,ZW,ZX,ZY,Z2,Z3,Z4,Z5,Z6,Z7,Z8,Z9,Za,Zb,Zc,Zd,Ze,Zf,Zg,Zh,Nat.reduceAdd,Zi,if_true,if_false,Zl,Zm,Zn,Zo,Zp,Zq,Zr,Zs,Zt,Zu,Zv,Zw,Zx,Zy,Zz,ZA,ZB,ZC,ZD,ZE,hv,hv1,e1,e2,e3,e4,e5,e6,MO.list,PV.isKind,a0r,Q1,Q2,Q3,Q4,l1,hcall,w3,a0h,hi,hnl,f1,f2',f3,PV.len,PV.rowsOf,hloc,hg,hg2,and_self,Q0,Q7,Q6,a0D,true_or,Q8,Q9,Q5,if_false,MO.elts,hrs]; done)
   | (unfold a1L; simp -implicitDefEqProofs only [↓reduceIte,eq_self,ZF,ZG,ZH,ZI,ZJ,ZK,ZL,ZM,ZN,ZO,ZP,ZQ,ZR,ZS,ZT,ZU,ZV,ZW,ZX,ZY,Z2,Z3,Z4,Z5,Z6,Z7,Z8,Z9,Za,Zb,Zc,Zd,Ze,Zf,Zg,Zh,Nat.reduceAdd,Zi,if_true,if_false,Zl,Zm,Zn,Zo,Zp,Zq,Zr,Zs,Zt,Zu,Zv,Zw,Zx,Zy,Zz,ZA,ZB,ZC,ZD,ZE,hv,hv1,e1,e2,e3,e4,e5,e6,MO.list,PV.isKind,a0r,Q1,Q2,Q3,Q4,l1,hcall,w3,a0h,hi,hnl,f1,f2',f3,PV.len,PV.rowsOf,hloc,hg,hg2,and_self,Q0,Q7,Q6,a0D,true_or,Q8,Q9,Q5,if_false,MO.elts,hrs])
   | (unfold a2o; simp -implicitDefEqProofs only [↓reduceIte,eq_self,ZF,ZG,ZH,ZI,ZJ,ZK,ZL,ZM,ZN,ZO,ZP,ZQ,ZR,ZS,ZT,ZU,ZV,ZW,ZX,ZY,Z2,Z3,Z4,Z5,Z6,Z7,Z8,Z9,Za,Zb,Zc,Zd,Ze,Zf,Zg,Zh,Nat.reduceAdd,Zi,if_true,if_false,Zl,Zm,Zn,Zo,Zp,Zq,Zr,Zs,Zt,Zu,Zv,Zw,Zx,Zy,Zz,ZA,ZB,ZC,ZD,ZE,hv,hv1,e1,e2,e3,e4,e5,e6,MO.list,PV.isKind,a0r,Q1,Q2,Q3,Q4,l1,hcall,w3,a0h,hi,hnl,f1,f2',f3,PV.len,PV.rowsOf,hloc,hg,hg2,and_self,Q0,Q7,Q6,a0D,true_or,Q8,Q9,Q5,if_false,MO.elts,hrs]; done)
   | (unfold a2o; simp -implicitDefEqProofs only [↓reduceIte,eq_self,ZF,ZG,ZH,ZI,ZJ,ZK,ZL,ZM,ZN,ZO,ZP,ZQ,ZR,ZS,ZT,ZU,ZV,ZW,ZX,ZY,Z2,Z3,Z4,Z5,Z6,Z7,Z8,Z9,Za,Zb,Zc,Zd,Ze,Zf,Zg,Zh,Nat.reduceAdd,Zi,if_true,if_false,Zl,Zm,Zn,Zo,Zp,Zq,Zr,Zs,Zt,Zu,Zv,Zw,Zx,Zy,Zz,ZA,ZB,ZC,ZD,ZE,hv,hv1,e1,e2,e3,e4,e5,e6,MO.list,PV.isKind,a0r,Q1,Q2,Q3,Q4,l1,hcall,w3,a0h,hi,hnl,f1,f2',f3,PV.len,PV.rowsOf,hloc,hg,hg2,and_self,Q0,Q7,Q6,a0D,true_or,Q8,Q9,Q5,if_false,MO.elts,hrs])
   | (unfold a2d; simp -implicitDefEqProofs only [↓reduceIte,eq_self,ZF,ZG,ZH,ZI,ZJ,ZK,ZL,ZM,ZN,ZO,ZP,ZQ,ZR,ZS,ZT,ZU,ZV,ZW,ZX,ZY,Z2,Z3,Z4,Z5,Z6,Z7,Z8,Z9,Za,Zb,Zc,Zd,Ze,Zf,Zg,Zh,Nat.reduceAdd,Zi,if_true,if_false,Zl,Zm,Zn,Zo,Zp,Zq,Zr,Zs,Zt,Zu,Zv,Zw,Zx,Zy,Zz,ZA,ZB,ZC,ZD,ZE,hv,hv1,e1,e2,e3,e4,e5,e6,MO.list,PV.isKind,a0r,Q1,Q2,Q3,Q4,l1,hcall,w3,a0h,hi,hnl,f1,f2',f3,PV.len,PV.rowsOf,hloc,hg,hg2,and_self,Q0,Q7,Q6,a0D,true_or,Q8,Q9,Q5,if_false,MO.elts,hrs]; done)
   | (unfold a2d; simp -implicitDefEqProofs only [↓reduceIte,eq_self,ZF,ZG,ZH,ZI,ZJ,ZK,ZL,ZM,ZN,ZO,ZP,ZQ,ZR,ZS,ZT,ZU,ZV,ZW,ZX,ZY,Z2,Z3,Z4,Z5,Z6,Z7,Z8,Z9,Za,Zb,Zc,Zd,Ze,Zf,Zg,Zh,Nat.reduceAdd,Zi,if_true,if_false,Zl,Zm,Zn,Zo,Zp,Zq,Zr,Zs,Zt,Zu,Zv,Zw,Zx,Zy,Zz,ZA,ZB,ZC,ZD,ZE,hv,hv1,e1,e2,e3,e4,e5,e6,MO.list,PV.isKind,a0r,Q1,Q2,Q3,Q4,l1,hcall,w3,a0h,hi,hnl,f1,f2',f3,PV.len,PV.rowsOf,hloc,hg,hg2,and_self,Q0,Q7,Q6,a0D,true_or,Q8,Q9,Q5,if_false,MO.elts,hrs])
   | (unfold a2w; simp -implicitDefEqProofs only [↓reduceIte,eq_self,ZF,ZG,ZH,ZI,ZJ,ZK,ZL,ZM,ZN,ZO,ZP,ZQ,ZR,ZS,ZT,ZU,ZV,ZW,ZX,ZY,Z2,Z3,Z4,Z5,Z6,Z7,Z8,Z9,Za,Zb,Zc,Zd,Ze,Zf,Zg,Zh,Nat.reduceAdd,Zi,if_true,if_false,Zl,Zm,Zn,Zo,Zp,Zq,Zr,Zs,Zt,Zu,Zv,Zw,Zx,Zy,Zz,ZA,ZB,ZC,ZD,ZE,hv,hv1,e1,e2,e3,e4,e5,e6,MO.list,PV.isKind,a0r,Q1,Q2,Q3,Q4,l1,hcall,w3,a0h,hi,hnl,f1,f2',f3,PV.len,PV.rowsOf,hloc,hg,hg2,and_self,Q0,Q7,Q6,a0D,true_or,Q8,Q9,Q5,if_false,MO.elts,hrs]; done)
   | (unfold a2w; simp -implicitDefEqProofs only [↓reduceIte,eq_self,ZF,ZG,ZH,ZI,ZJ,ZK,ZL,ZM,ZN,ZO,ZP,ZQ,ZR,ZS,ZT,ZU,ZV,ZW,ZX,ZY,Z2,Z3,Z4,Z5,Z6,Z7,Z8,Z9,Za,Zb,Zc,Zd,Ze,Zf,Zg,Zh,Nat.reduceAdd,Zi,if_true,if_false,Zl,Zm,Zn,Zo,Zp,Zq,Zr,Zs,Zt,Zu,Zv,Zw,Zx,Zy,Zz,ZA,ZB,ZC,ZD,ZE,hv,hv1,e1,e2,e3,e4,e5,e6,MO.list,PV.isKind,a0r,Q1,Q2,Q3,Q4,l1,hcall,w3,a0h,hi,hnl,f1,f2',f3,PV.len,PV.rowsOf,hloc,hg,hg2,and_self,Q0,Q7,Q6,a0D,true_or,Q8,Q9,Q5,if_false,MO.elts,hrs])
   | (unfold a2f; simp -implicitDefEqProofs only [↓reduceIte,eq_self,ZF,ZG,ZH,ZI,ZJ,ZK,ZL,ZM,ZN,ZO,ZP,ZQ,ZR,ZS,ZT,ZU,ZV,ZW,ZX,ZY,Z2,Z3,Z4,Z5,Z6,Z7,Z8,Z9,Za,Zb,Zc,Zd,Ze,Zf,Zg,Zh,Nat.reduceAdd,Zi,if_true,if_false,Zl,Zm,Zn,Zo,Zp,Zq,Zr,Zs,Zt,Zu,Zv,Zw,Zx,Zy,Zz,ZA,ZB,ZC,ZD,ZE,hv,hv1,e1,e2,e3,e4,e5,e6,MO.list,PV.isKind,a0r,Q1,Q2,Q3,Q4,l1,hcall,w3,a0h,hi,hnl,f1,f2',f3,PV.len,PV.rowsOf,hloc,hg,hg2,and_self,Q0,Q7,Q6,a0D,true_or,Q8,Q9,Q5,if_false,MO.elts,hrs]; done)
   | (unfold a2f; simp -implicitDefEqProofs only [↓reduceIte,eq_self,ZF,ZG,ZH,ZI,ZJ,ZK,ZL,ZM,ZN,ZO,ZP,ZQ,ZR,ZS,ZT,ZU,ZV,ZW,ZX,ZY,Z2,Z3,Z4,Z5,Z6,Z7,Z8,Z9,Za,Zb,Zc,Zd,Ze,Zf,Zg,Zh,Nat.reduceAdd,Zi,if_true,if_false,Zl,Zm,Zn,Zo,Zp,Zq,Zr,Zs,Zt,Zu,Zv,Zw,Zx,Zy,Zz,ZA,ZB,ZC,ZD,ZE,hv,hv1,e1,e2,e3,e4,e5,e6,MO.list,PV.isKind,a0r,Q1,Q2,Q3,Q4,l1,hcall,w3,a0h,hi,hnl,f1,f2',f3,PV.len,PV.rowsOf,hloc,hg,hg2,and_self,Q0,Q7,Q6,a0D,true_or,Q8,Q9,Q5,if_false,MO.elts,hrs])
   | (unfold a2t; simp -implicitDefEqProofs only [↓reduceIte,eq_self,ZF,ZG,ZH,ZI,ZJ,ZK,ZL,ZM,ZN,ZO,ZP,ZQ,ZR,ZS,ZT,ZU,ZV,ZW,ZX,ZY,Z2,Z3,Z4,Z5,Z6,Z7,Z8,Z9,Za,Zb,Zc,Zd,Ze,Zf,Zg,Zh,Nat.reduceAdd,Zi,if_true,if_false,Zl,Zm,Zn,Zo,Zp,Zq,Zr,Zs,Zt,Zu,Zv,Zw,Zx,Zy,Zz,ZA,ZB,ZC,ZD,ZE,hv,hv1,e1,e2,e3,e4,e5,e6,MO.list,PV.isKind,a0r,Q1,Q2,Q3,Q4,l1,hcall,w3,a0h,hi,hnl,f1,f2',f3,PV.len,PV.rowsOf,hloc,hg,hg2,and_self,Q0,Q7,Q6,a0D,true_or,Q8,Q9,Q5,if_false,MO.elts,hrs]; done)
   | (unfold a2t; simp -implicitDefEqProofs only [↓reduceIte,eq_self,ZF,ZG,ZH,ZI,ZJ,ZK,ZL,ZM,ZN,ZO,ZP,ZQ,ZR,ZS,ZT,ZU,ZV,ZW,ZX,ZY,Z2,Z3,Z4,Z5,Z6,Z7,Z8,Z9,Za,Zb,Zc,Zd,Ze,Zf,Zg,Zh,Nat.reduceAdd,Zi,if_true,if_false,Zl,Zm,Zn,Zo,Zp,Zq,Zr,Zs,Zt,Zu,Zv,Zw,Zx,Zy,Zz,ZA,ZB,ZC,ZD,ZE,hv,hv1,e1,e2,e3,e4,e5,e6,MO.list,PV.isKind,a0r,Q1,Q2,Q3,Q4,l1,hcall,w3,a0h,hi,hnl,f1,f2',f3,PV.len,PV.rowsOf,hloc,hg,hg2,and_self,Q0,Q7,Q6,a0D,true_or,Q8,Q9,Q5,if_false,MO.elts,hrs])
   | (unfold a1S; simp -implicitDefEqProofs only [↓reduceIte,eq_self,ZF,ZG,ZH,ZI,ZJ,ZK,ZL,ZM,ZN,ZO,ZP,ZQ,ZR,ZS,ZT,ZU,ZV,ZW,ZX,ZY,Z2,Z3,Z4,Z5,Z6,Z7,Z8,Z9,Za,Zb,Zc,Zd,Ze,Zf,Zg,Zh,Nat.reduceAdd,Zi,if_true,if_false,Zl,Zm,Zn,Zo,Zp,Zq,Zr,Zs,Zt,Zu,Zv,Zw,Zx,Zy,Zz,ZA,ZB,ZC,ZD,ZE,hv,hv1,e1,e2,e3,e4,e5,e6,MO.list,PV.isKind,a0r,Q1,Q2,Q3,Q4,l1,hcall,w3,a0h,hi,hnl,f1,f2',f3,PV.len,PV.rowsOf,hloc,hg,hg2,and_self,Q0,Q7,Q6,a0D,true_or,Q8,Q9,Q5,if_false,MO.elts,hrs]; done)
   | (unfold a1S; simp -implicitDefEqProofs only [↓reduceIte,eq_self,ZF,ZG,ZH,ZI,ZJ,ZK,ZL,ZM,ZN,ZO,ZP,ZQ,ZR,ZS,ZT,ZU,ZV,ZW,ZX,ZY,Z2,Z3,Z4,Z5,Z6,Z7,Z8,Z9,Za,Zb,Zc,Zd,Ze,Zf,Zg,Zh,Nat.reduceAdd,Zi,if_true,if_false,Zl,Zm,Zn,Zo,Zp,Zq,Zr,Zs,Zt,Zu,Zv,Zw,Zx,Zy,Zz,ZA,ZB,ZC,ZD,ZE,hv,hv1,e1,e2,e3,e4,e5,e6,MO.list,PV.isKind,a0r,Q1,Q2,Q3,Q4,l1,hcall,w3,a0h,hi,hnl,f1,f2',f3,PV.len,PV.rowsOf,hloc,hg,hg2,and_self,Q0,Q7,Q6,a0D,true_or,Q8,Q9,Q5,if_false,MO.elts,hrs])
   | (unfold a2h; simp -implicitDefEqProofs only [↓reduceIte,eq_self,ZF,ZG,ZH,ZI,ZJ,ZK,ZL,ZM,ZN,ZO,ZP,ZQ,ZR,ZS,ZT,ZU,ZV,ZW,ZX,ZY,Z2,Z3,Z4,Z5,Z6,Z7,Z8,Z9,Za,Zb,Zc,Zd,Ze,Zf,Zg,Zh,Nat.reduceAdd,Zi,if_true,if_false,Zl,Zm,Zn,Zo,Zp,Zq,Zr,Zs,Zt,Zu,Zv,Zw,Zx,Zy,Zz,ZA,ZB,ZC,ZD,ZE,hv,hv1,e1,e2,e3,e4,e5,e6,MO.list,PV.isKind,a0r,Q1,Q2,Q3,Q4,l1,hcall,w3,a0h,hi,hnl,f1,f2',f3,PV.len,PV.rowsOf,hloc,hg,hg2,and_self,Q0,Q7,Q6,a0D,true_or,Q8,Q9,Q5,if_false,MO.elts,hrs]; done)
   | (unfold a2h; simp -implicitDefEqProofs only [↓reduceIte,eq_self,ZF,ZG,ZH,ZI,ZJ,ZK,ZL,ZM,ZN,ZO,ZP,ZQ,ZR,ZS,ZT,ZU,ZV,ZW,ZX,ZY,Z2,Z3,Z4,Z5,Z6,Z7,Z8,Z9,Za,Zb,Zc,Zd,Ze,Zf,Zg,Zh,Nat.reduceAdd,Zi,if_true,if_false,Zl,Zm,Zn,Zo,Zp,Zq,Zr,Zs,Zt,Zu,Zv,Zw,Zx,Zy,Zz,ZA,ZB,ZC,ZD,ZE,hv,hv1,e1,e2,e3,e4,e5,e6,MO.list,PV.isKind,a0r,Q1,Q2,Q3,Q4,l1,hcall,w3,a0h,hi,hnl,f1,f2',f3,PV.len,PV.rowsOf,hloc,hg,hg2,and_self,Q0,Q7,Q6,a0D,true_or,Q8,Q9,Q5,if_false,MO.elts,hrs])
   | (unfold a1R; simp -implicitDefEqProofs only [↓reduceIte,eq_self,ZF,ZG,ZH,ZI,ZJ,ZK,ZL,ZM,ZN,ZO,ZP,ZQ,ZR,ZS,ZT,ZU,ZV,ZW,ZX,ZY,Z2,Z3,Z4,Z5,Z6,Z7,Z8,Z9,Za,Zb,Zc,Zd,Ze,Zf,Zg,Zh,Nat.reduceAdd,Zi,if_true,if_false,Zl,Zm,Zn,Zo,Zp,Zq,Zr,Zs,Zt,Zu,Zv,Zw,Zx,Zy,Zz,ZA,ZB,ZC,ZD,ZE,hv,hv1,e1,e2,e3,e4,e5,e6,MO.list,PV.isKind,a0r,Q1,Q2,Q3,Q4,l1,hcall,w3,a0h,hi,hnl,f1,f2',f3,PV.len,PV.rowsOf,hloc,hg,hg2,and_self,Q0,Q7,Q6,a0D,true_or,Q8,Q9,Q5,if_false,MO.elts,hrs]; done)
   | (unfold a1R; simp -implicitDefEqProofs only [↓reduceIte,eq_self,ZF,ZG,ZH,ZI,ZJ,ZK,ZL,ZM,ZN,ZO,ZP,ZQ,ZR,ZS,ZT,ZU,ZV,ZW,ZX,ZY,Z2,Z3,Z4,Z5,Z6,Z7,Z8,Z9,Za,Zb,Zc,Zd,Ze,Zf,Zg,Zh,Nat.reduceAdd,Zi,if_true,if_false,Zl,Zm,Zn,Zo,Zp,Zq,Zr,Zs,Zt,Zu,Zv,Zw,Zx,Zy,Zz,ZA,ZB,ZC,ZD,ZE,hv,hv1,e1,e2,e3,e4,e5,e6,MO.list,PV.isKind,a0r,Q1,Q2,Q3,Q4,l1,hcall,w3,a0h,hi,hnl,f1,f2',f3,PV.len,PV.rowsOf,hloc,hg,hg2,and_self,Q0,Q7,Q6,a0D,true_or,Q8,Q9,Q5,if_false,MO.elts,hrs])
   | (unfold a2n; simp -implicitDefEqProofs only [↓reduceIte,eq_self,ZF,ZG,ZH,ZI,ZJ,ZK,ZL,ZM,ZN,ZO,ZP,ZQ,ZR,ZS,ZT,ZU,ZV,ZW,ZX,ZY,Z2,Z3,Z4,Z5,Z6,Z7,Z8,Z9,Za,Zb,Zc,Zd,Ze,Zf,Zg,Zh,Nat.reduceAdd,Zi,if_true,if_false,Zl,Zm,Zn,Zo,Zp,Zq,Zr,Zs,Zt,Zu,Zv,Zw,Zx,Zy,Zz,ZA,ZB,ZC,ZD,ZE,hv,hv1,e1,e2,e3,e4,e5,e6,MO.list,PV.isKind,a0r,Q1,Q2,Q3,Q4,l1,hcall,w3,a0h,hi,hnl,f1,f2',f3,PV.len,PV.rowsOf,hloc,hg,hg2,and_self,Q0,Q7,Q6,a0D,true_or,Q8,Q9,Q5,if_false,MO.elts,hrs]; done)
   | (unfold a2n; simp -implicitDefEqProofs only [↓reduceIte,eq_self,ZF,ZG,ZH,ZI,ZJ,ZK,ZL,ZM,ZN,ZO,ZP,ZQ,ZR,ZS,ZT,ZU,ZV,ZW,ZX,ZY,Z2,Z3,Z4,Z5,Z6,Z7,Z8,Z9,Za,Zb,Zc,Zd,Ze,Zf,Zg,Zh,Nat.reduceAdd,Zi,if_true,if_false,Zl,Zm,Zn,Zo,Zp,Zq,Zr,Zs,Zt,Zu,Zv,Zw,Zx,Zy,Zz,ZA,ZB,ZC,ZD,ZE,hv,hv1,e1,e2,e3,e4,e5,e6,MO.list,PV.isKind,a0r,Q1,Q2,Q3,Q4,l1,hcall,w3,a0h,hi,hnl,f1,f2',f3,PV.len,PV.rowsOf,hloc,hg,hg2,and_self,Q0,Q7,Q6,a0D,true_or,Q8,Q9,Q5,if_false,MO.elts,hrs])
   | (unfold a1N; simp -implicitDefEqProofs only [↓reduceIte,eq_self,ZF,ZG,ZH,ZI,ZJ,ZK,ZL,ZM,ZN,ZO,ZP,ZQ,ZR,ZS,ZT,ZU,ZV,ZW,ZX,ZY,Z2,Z3,Z4,Z5,Z6,Z7,Z8,Z9,Za,Zb,Zc,Zd,Ze,Zf,Zg,Zh,Nat.reduceAdd,Zi,if_true,if_false,Zl,Zm,Zn,Zo,Zp,Zq,Zr,Zs,Zt,Zu,Zv,Zw,Zx,Zy,Zz,ZA,ZB,ZC,ZD,ZE,hv,hv1,e1,e2,e3,e4,e5,e6,MO.list,PV.isKind,a0r,Q1,Q2,Q3,Q4,l1,hcall,w3,a0h,hi,hnl,f1,f2',f3,PV.len,PV.rowsOf,hloc,hg,hg2,and_self,Q0,Q7,Q6,a0D,true_or,Q8,Q9,Q5,if_false,MO.elts,hrs]; done)
   | (unfold a1N; simp -implicitDefEqProofs only [↓reduceIte,eq_self,ZF,ZG,ZH,ZI,ZJ,ZK,ZL,ZM,ZN,ZO,ZP,ZQ,ZR,ZS,ZT,ZU,ZV,ZW,ZX,ZY,Z2,Z3,Z4,Z5,Z6,Z7,Z8,Z9,Za,Zb,Zc,Zd,Ze,Zf,Zg,Zh,Nat.reduceAdd,Zi,if_true,if_false,Zl,Zm,Zn,Zo,Zp,Zq,Zr,Zs,Zt,Zu,Zv,Zw,Zx,Zy,Zz,ZA,ZB,ZC,ZD,ZE,hv,hv1,e1,e2,e3,e4,e5,e6,MO.list,PV.isKind,a0r,Q1,Q2,Q3,Q4,l1,hcall,w3,a0h,hi,hnl,f1,f2',f3,PV.len,PV.rowsOf,hloc,hg,hg2,and_self,Q0,Q7,Q6,a0D,true_or,Q8,Q9,Q5,if_false,MO.elts,hrs])
   | (unfold a2r; simp -implicitDefEqProofs only [↓reduceIte,eq_self,ZF,ZG,ZH,ZI,ZJ,ZK,ZL,ZM,ZN,ZO,ZP,ZQ,ZR,ZS,ZT,ZU,ZV,ZW,ZX,ZY,Z2,Z3,Z4,Z5,Z6,Z7,Z8,Z9,Za,Zb,Zc,Zd,Ze,Zf,Zg,Zh,Nat.reduceAdd,Zi,if_true,if_false,Zl,Zm,Zn,Zo,Zp,Zq,Zr,Zs,Zt,Zu,Zv,Zw,Zx,Zy,Zz,ZA,ZB,ZC,ZD,ZE,hv,hv1,e1,e2,e3,e4,e5,e6,MO.list,PV.isKind,a0r,Q1,Q2,Q3,Q4,l1,hcall,w3,a0h,hi,hnl,f1,f2',f3,PV.len,PV.rowsOf,hloc,hg,hg2,and_self,Q0,Q7,Q6,a0D,true_or,Q8,Q9,Q5,if_false,MO.elts,hrs]; done)
   | (unfold a2r; simp -implicitDefEqProofs only [↓reduceIte,eq_self,ZF,ZG,ZH,ZI,ZJ,ZK,ZL,ZM,ZN,ZO,ZP,ZQ,ZR,ZS,ZT,ZU,ZV,ZW,ZX,ZY,Z2,Z3,Z4,Z5,Z6,Z7,Z8,Z9,Za,Zb,Zc,Zd,Ze,Zf,Zg,Zh,Nat.reduceAdd,Zi,if_true,if_false,Zl,Zm,Zn,Zo,Zp,Zq,Zr,Zs,Zt,Zu,Zv,Zw,Zx,Zy,Zz,ZA,ZB,ZC,ZD,ZE,hv,hv1,e1,e2,e3,e4,e5,e6,MO.list,PV.isKind,a0r,Q1,Q2,Q3,Q4,l1,hcall,w3,a0h,hi,hnl,f1,f2',f3,PV.len,PV.rowsOf,hloc,hg,hg2,and_self,Q0,Q7,Q6,a0D,true_or,Q8,Q9,Q5,if_false,MO.elts,hrs])
   | (unfold a1P; simp -implicitDefEqProofs only [↓reduceIte,eq_self,ZF,ZG,ZH,ZI,ZJ,ZK,ZL,ZM,ZN,ZO,ZP,ZQ,ZR,ZS,ZT,ZU,ZV,ZW,ZX,ZY,Z2,Z3,Z4,Z5,Z6,Z7,Z8,Z9,Za,Zb,Zc,Zd,Ze,Zf,Zg,Zh,Nat.reduceAdd,Zi,if_true,if_false,Zl,Zm,Zn,Zo,Zp,Zq,Zr,Zs,Zt,Zu,Zv,Zw,Zx,Zy,Zz,ZA,ZB,ZC,ZD,ZE,hv,hv1,e1,e2,e3,e4,e5,e6,MO.list,PV.isKind,a0r,Q1,Q2,Q3,Q4,l1,hcall,w3,a0h,hi,hnl,f1,f2',f3,PV.len,PV.rowsOf,hloc,hg,hg2,and_self,Q0,Q7,Q6,a0D,true_or,Q8,Q9,Q5,if_false,MO.elts,hrs]; done)
   | (unfold a1P; simp -implicitDefEqProofs only [↓reduceIte,eq_self,ZF,ZG,ZH,ZI,ZJ,ZK,ZL,ZM,ZN,ZO,ZP,ZQ,ZR,ZS,ZT,ZU,ZV,ZW,ZX,ZY,Z2,Z3,Z4,Z5,Z6,Z7,Z8,Z9,Za,Zb,Zc,Zd,Ze,Zf,Zg,Zh,Nat.reduceAdd,Zi,if_true,if_false,Zl,Zm,Zn,Zo,Zp,Zq,Zr,Zs,Zt,Zu,Zv,Zw,Zx,Zy,Zz,ZA,ZB,ZC,ZD,ZE,hv,hv1,e1,e2,e3,e4,e5,e6,MO.list,PV.isKind,a0r,Q1,Q2,Q3,Q4,l1,hcall,w3,a0h,hi,hnl,f1,f2',f3,PV.len,PV.rowsOf,hloc,hg,hg2,and_self,Q0,Q7,Q6,a0D,true_or,Q8,Q9,Q5,if_false,MO.elts,hrs])
   | (unfold a2k; simp -implicitDefEqProofs only [↓reduceIte,eq_self,ZF,ZG,ZH,ZI,ZJ,ZK,ZL,ZM,ZN,ZO,ZP,ZQ,ZR,ZS,ZT,ZU,ZV,ZW,ZX,ZY,Z2,Z3,Z4,Z5,Z6,Z7,Z8,Z9,Za,Zb,Zc,Zd,Ze,Zf,Zg,Zh,Nat.reduceAdd,Zi,if_true,if_false,Zl,Zm,Zn,Zo,Zp,Zq,Zr,Zs,Zt,Zu,Zv,Zw,Zx,Zy,Zz,ZA,ZB,ZC,ZD,ZE,hv,hv1,e1,e2,e3,e4,e5,e6,MO.list,PV.isKind,a0r,Q1,Q2,Q3,Q4,l1,hcall,w3,a0h,hi,hnl,f1,f2',f3,PV.len,PV.rowsOf,hloc,hg,hg2,and_self,Q0,Q7,Q6,a0D,true_or,Q8,Q9,Q5,if_false,MO.elts,hrs]; done)
   | (unfold a2k; simp -implicitDefEqProofs only [↓reduceIte,eq_self,ZF,ZG,ZH,ZI,ZJ,ZK,ZL,ZM,ZN,ZO,ZP,ZQ,ZR,ZS,ZT,ZU,ZV,ZW,ZX,ZY,Z2,Z3,Z4,Z5,Z6,Z7,Z8,Z9,Za,Zb,Zc,Zd,Ze,Zf,Zg,Zh,Nat.reduceAdd,Zi,if_true,if_false,Zl,Zm,Zn,Zo,Zp,Zq,Zr,Zs,Zt,Zu,Zv,Zw,Zx,Zy,Zz,ZA,ZB,ZC,ZD,ZE,hv,hv1,e1,e2,e3,e4,e5,e6,MO.list,PV.isKind,a0r,Q1,Q2,Q3,Q4,l1,hcall,w3,a0h,hi,hnl,f1,f2',f3,PV.len,PV.rowsOf,hloc,hg,hg2,and_self,Q0,Q7,Q6,a0D,true_or,Q8,Q9,Q5,if_false,MO.elts,hrs])
   | (unfold a2v; simp -implicitDefEqProofs only [↓reduceIte,eq_self,ZF,ZG,ZH,ZI,ZJ,ZK,ZL,ZM,ZN,ZO,ZP,ZQ,ZR,ZS,ZT,ZU,ZV,ZW,ZX,ZY,Z2,Z3,Z4,Z5,Z6,Z7,Z8,Z9,Za,Zb,Zc,Zd,Ze,Zf,Zg,Zh,Nat.reduceAdd,Zi,if_true,if_false,Zl,Zm,Zn,Zo,Zp,Zq,Zr,Zs,Zt,Zu,Zv,Zw,Zx,Zy,Zz,ZA,ZB,ZC,ZD,ZE,hv,hv1,e1,e2,e3,e4,e5,e6,MO.list,PV.isKind,a0r,Q1,Q2,Q3,Q4,l1,hcall,w3,a0h,hi,hnl,f1,f2',f3,PV.len,PV.rowsOf,hloc,hg,hg2,and_self,Q0,Q7,Q6,a0D,true_or,Q8,Q9,Q5,if_false,MO.elts,hrs]; done)
   | (unfold a2v; simp -implicitDefEqProofs only [↓reduceIte,eq_self,ZF,ZG,ZH,ZI,ZJ,ZK,ZL,ZM,ZN,ZO,ZP,ZQ,ZR,ZS,ZT,ZU,ZV,ZW,ZX,ZY,Z2,Z3,Z4,Z5,Z6,Z7,Z8,Z9,Za,Zb,Zc,Zd,Ze,Zf,Zg,Zh,Nat.reduceAdd,Zi,if_true,if_false,Zl,Zm,Zn,Zo,Zp,Zq,Zr,Zs,Zt,Zu,Zv,Zw,Zx,Zy,Zz,ZA,ZB,ZC,ZD,ZE,hv,hv1,e1,e2,e3,e4,e5,e6,MO.list,PV.isKind,a0r,Q1,Q2,Q3,Q4,l1,hcall,w3,a0h,hi,hnl,f1,f2',f3,PV.len,PV.rowsOf,hloc,hg,hg2,and_self,Q0,Q7,Q6,a0D,true_or,Q8,Q9,Q5,if_false,MO.elts,hrs])
   | (unfold a2b; simp -implicitDefEqProofs only [↓reduceIte,eq_self,ZF,ZG,ZH,ZI,ZJ,ZK,ZL,ZM,ZN,ZO,ZP,ZQ,ZR,ZS,ZT,ZU,ZV,ZW,ZX,ZY,Z2,Z3,Z4,Z5,Z6,Z7,Z8,Z9,Za,Zb,Zc,Zd,Ze,Zf,Zg,Zh,Nat.reduceAdd,Zi,if_true,if_false,Zl,Zm,Zn,Zo,Zp,Zq,Zr,Zs,Zt,Zu,Zv,Zw,Zx,Zy,Zz,ZA,ZB,ZC,ZD,ZE,hv,hv1,e1,e2,e3,e4,e5,e6,MO.list,PV.isKind,a0r,Q1,Q2,Q3,Q4,l1,hcall,w3,a0h,hi,hnl,f1,f2',f3,PV.len,PV.rowsOf,hloc,hg,hg2,and_self,Q0,Q7,Q6,a0D,true_or,Q8,Q9,Q5,if_false,MO.elts,hrs]; done)
   | (unfold a2b; simp -implicitDefEqProofs only [↓reduceIte,eq_self,ZF,ZG,ZH,ZI,ZJ,ZK,ZL,ZM,ZN,ZO,ZP,ZQ,ZR,ZS,ZT,ZU,ZV,ZW,ZX,ZY,Z2,Z3,Z4,Z5,Z6,Z7,Z8,Z9,Za,Zb,Zc,Zd,Ze,Zf,Zg,Zh,Nat.reduceAdd,Zi,if_true,if_false,Zl,Zm,Zn,Zo,Zp,Zq,Zr,Zs,Zt,Zu,Zv,Zw,Zx,Zy,Zz,ZA,ZB,ZC,ZD,ZE,hv,hv1,e1,e2,e3,e4,e5,e6,MO.list,PV.isKind,a0r,Q1,Q2,Q3,Q4,l1,hcall,w3,a0h,hi,hnl,f1,f2',f3,PV.len,PV.rowsOf,hloc,hg,hg2,and_self,Q0,Q7,Q6,a0D,true_or,Q8,Q9,Q5,if_false,MO.elts,hrs])
   | (unfold a2m; simp -implicitDefEqProofs only [↓reduceIte,eq_self,ZF,ZG,ZH,ZI,ZJ,ZK,ZL,ZM,ZN,ZO,ZP,ZQ,ZR,ZS,ZT,ZU,ZV,ZW,ZX,ZY,Z2,Z3,Z4,Z5,Z6,Z7,Z8,Z9,Za,Zb,Zc,Zd,Ze,Zf,Zg,Zh,Nat.reduceAdd,Zi,if_true,if_false,Zl,Zm,Zn,Zo,Zp,Zq,Zr,Zs,Zt,Zu,Zv,Zw,Zx,Zy,Zz,ZA,ZB,ZC,ZD,ZE,hv,hv1,e1,e2,e3,e4,e5,e6,MO.list,PV.isKind,a0r,Q1,Q2,Q3,Q4,l1,hcall,w3,a0h,hi,hnl,f1,f2',f3,PV.len,PV.rowsOf,hloc,hg,hg2,and_self,Q0,Q7,Q6,a0D,true_or,Q8,Q9,Q5,if_false,MO.elts,hrs]; done)
   | (unfold a2m; simp -implicitDefEqProofs only [↓reduceIte,eq_self,ZF,ZG,ZH,ZI,ZJ,ZK,ZL,ZM,ZN,ZO,ZP,ZQ,ZR,ZS,ZT,ZU,ZV,ZW,ZX,ZY,Z2,Z3,Z4,Z5,Z6,Z7,Z8,Z9,Za,Zb,Zc,Zd,Ze,Zf,Zg,Zh,Nat.reduceAdd,Zi,if_true,if_false,Zl,Zm,Zn,Zo,Zp,Zq,Zr,Zs,Zt,Zu,Zv,Zw,Zx,Zy,Zz,ZA,ZB,ZC,ZD,ZE,hv,hv1,e1,e2,e3,e4,e5,e6,MO.list,PV.isKind,a0r,Q1,Q2,Q3,Q4,l1,hcall,w3,a0h,hi,hnl,f1,f2',f3,PV.len,PV.rowsOf,hloc,hg,hg2,and_self,Q0,Q7,Q6,a0D,true_or,Q8,Q9,Q5,if_false,MO.elts,hrs])
   | (unfold a1W; simp -implicitDefEqProofs only [↓reduceIte,eq_self,ZF,ZG,ZH,ZI,ZJ,ZK,ZL,ZM,ZN,ZO,ZP,ZQ,ZR,ZS,ZT,ZU,ZV,ZW,ZX,ZY,Z2,Z3,Z4,Z5,Z6,Z7,Z8,Z9,Za,Zb,Zc,Zd,Ze,Zf,Zg,Zh,Nat.reduceAdd,Zi,if_true,if_false,Zl,Zm,Zn,Zo,Zp,Zq,Zr,Zs,Zt,Zu,Zv,Zw,Zx,Zy,Zz,ZA,ZB,ZC,ZD,ZE,hv,hv1,e1,e2,e3,e4,e5,e6,MO.list,PV.isKind,a0r,Q1,Q2,Q3,Q4,l1,hcall,w3,a0h,hi,hnl,f1,f2',f3,PV.len,PV.rowsOf,hloc,hg,hg2,and_self,Q0,Q7,Q6,a0D,true_or,Q8,Q9,Q5,if_false,MO.elts,hrs]; done)
   | (unfold a1W; simp -implicitDefEqProofs only [↓reduceIte,eq_self,ZF,ZG,ZH,ZI,ZJ,ZK,ZL,ZM,ZN,ZO,ZP,ZQ,ZR,ZS,ZT,ZU,ZV,ZW,ZX,ZY,Z2,Z3,Z4,Z5,Z6,Z7,Z8,Z9,Za,Zb,Zc,Zd,Ze,Zf,Zg,Zh,Nat.reduceAdd,Zi,if_true,if_false,Zl,Zm,Zn,Zo,Zp,Zq,Zr,Zs,Zt,Zu,Zv,Zw,Zx,Zy,Zz,ZA,ZB,ZC,ZD,ZE,hv,hv1,e1,e2,e3,e4,e5,e6,MO.list,PV.isKind,a0r,Q1,Q2,Q3,Q4,l1,hcall,w3,a0h,hi,hnl,f1,f2',f3,PV.len,PV.rowsOf,hloc,hg,hg2,and_self,Q0,Q7,Q6,a0D,true_or,Q8,Q9,Q5,if_false,MO.elts,hrs])
   | (unfold a2s; simp -implicitDefEqProofs only [↓reduceIte,eq_self,ZF,ZG,ZH,ZI,ZJ,ZK,ZL,ZM,ZN,ZO,ZP,ZQ,ZR,ZS,ZT,ZU,ZV,ZW,ZX,ZY,Z2,Z3,Z4,Z5,Z6,Z7,Z8,Z9,Za,Zb,Zc,Zd,Ze,Zf,Zg,Zh,Nat.reduceAdd,Zi,if_true,if_false,Zl,Zm,Zn,Zo,Zp,Zq,Zr,Zs,Zt,Zu,Zv,Zw,Zx,Zy,Zz,ZA,ZB,ZC,ZD,ZE,hv,hv1,e1,e2,e3,e4,e5,e6,MO.list,PV.isKind,a0r,Q1,Q2,Q3,Q4,l1,hcall,w3,a0h,hi,hnl,f1,f2',f3,PV.len,PV.rowsOf,hloc,hg,hg2,and_self,Q0,Q7,Q6,a0D,true_or,Q8,Q9,Q5,if_false,MO.elts,hrs]; done)
   | (unfold a2s; simp -implicitDefEqProofs only [↓reduceIte,eq_self,ZF,ZG,ZH,ZI,ZJ,ZK,ZL,ZM,ZN,ZO,ZP,ZQ,ZR,ZS,ZT,ZU,ZV,ZW,ZX,ZY,Z2,Z3,Z4,Z5,Z6,Z7,Z8,Z9,Za,Zb,Zc,Zd,Ze,Zf,Zg,Zh,Nat.reduceAdd,Zi,if_true,if_false,Zl,Zm,Zn,Zo,Zp,Zq,Zr,Zs,Zt,Zu,Zv,Zw,Zx,Zy,Zz,ZA,ZB,ZC,ZD,ZE,hv,hv1,e1,e2,e3,e4,e5,e6,MO.list,PV.isKind,a0r,Q1,Q2,Q3,Q4,l1,hcall,w3,a0h,hi,hnl,f1,f2',f3,PV.len,PV.rowsOf,hloc,hg,hg2,and_self,Q0,Q7,Q6,a0D,true_or,Q8,Q9,Q5,if_false,MO.elts,hrs])
   | (unfold a2l; simp -implicitDefEqProofs only [↓reduceIte,eq_self,ZF,ZG,ZH,ZI,ZJ,ZK,ZL,ZM,ZN,ZO,ZP,ZQ,ZR,ZS,ZT,ZU,ZV,ZW,ZX,ZY,Z2,Z3,Z4,Z5,Z6,Z7,Z8,Z9,Za,Zb,Zc,Zd,Ze,Zf,Zg,Zh,Nat.reduceAdd,Zi,if_true,if_false,Zl,Zm,Zn,Zo,Zp,Zq,Zr,Zs,Zt,Zu,Zv,Zw,Zx,Zy,Zz,ZA,ZB,ZC,ZD,ZE,hv,hv1,e1,e2,e3,e4,e5,e6,MO.list,PV.isKind,a0r,Q1,Q2,Q3,Q4,l1,hcall,w3,a0h,hi,hnl,f1,f2',f3,PV.len,PV.rowsOf,hloc,hg,hg2,and_self,Q0,Q7,Q6,a0D,true_or,Q8,Q9,Q5,if_false,MO.elts,hrs]; done)
   | (unfold a2l; simp -implicitDefEqProofs only [↓reduceIte,eq_self,ZF,ZG,ZH,ZI,ZJ,ZK,ZL,ZM,ZN,ZO,ZP,ZQ,ZR,ZS,ZT,ZU,ZV,ZW,ZX,ZY,Z2,Z3,Z4,Z5,Z6,Z7,Z8,Z9,Za,Zb,Zc,Zd,Ze,Zf,Zg,Zh,Nat.reduceAdd,Zi,if_true,if_false,Zl,Zm,Zn,Zo,Zp,Zq,Zr,Zs,Zt,Zu,Zv,Zw,Zx,Zy,Zz,ZA,ZB,ZC,ZD,ZE,hv,hv1,e1,e2,e3,e4,e5,e6,MO.list,PV.isKind,a0r,Q1,Q2,Q3,Q4,l1,hcall,w3,a0h,hi,hnl,f1,f2',f3,PV.len,PV.rowsOf,hloc,hg,hg2,and_self,Q0,Q7,Q6,a0D,true_or,Q8,Q9,Q5,if_false,MO.elts,hrs])
   | (unfold a2j; simp -implicitDefEqProofs only [↓reduceIte,eq_self,ZF,ZG,ZH,ZI,ZJ,ZK,ZL,ZM,ZN,ZO,ZP,ZQ,ZR,ZS,ZT,ZU,ZV,ZW,ZX,ZY,Z2,Z3,Z4,Z5,Z6,Z7,Z8,Z9,Za,Zb,Zc,Zd,Ze,Zf,Zg,Zh,Nat.reduceAdd,Zi,if_true,if_false,Zl,Zm,Zn,Zo,Zp,Zq,Zr,Zs,Zt,Zu,Zv,Zw,Zx,Zy,Zz,ZA,ZB,ZC,ZD,ZE,hv,hv1,e1,e2,e3,e4,e5,e6,MO.list,PV.isKind,a0r,Q1,Q2,Q3,Q4,l1,hcall,w3,a0h,hi,hnl,f1,f2',f3,PV.len,PV.rowsOf,hloc,hg,hg2,and_self,Q0,Q7,Q6,a0D,true_or,Q8,Q9,Q5,if_false,MO.elts,hrs]; done)
   | (unfold a2j; simp -implicitDefEqProofs only [↓reduceIte,eq_self,ZF,ZG,ZH,ZI,ZJ,ZK,ZL,ZM,ZN,ZO,ZP,ZQ,ZR,ZS,ZT,ZU,ZV,ZW,ZX,ZY,Z2,Z3,Z4,Z5,Z6,Z7,Z8,Z9,Za,Zb,Zc,Zd,Ze,Zf,Zg,Zh,Nat.reduceAdd,Zi,if_true,if_false,Zl,Zm,Zn,Zo,Zp,Zq,Zr,Zs,Zt,Zu,Zv,Zw,Zx,Zy,Zz,ZA,ZB,ZC,ZD,ZE,hv,hv1,e1,e2,e3,e4,e5,e6,MO.list,PV.isKind,a0r,Q1,Q2,Q3,Q4,l1,hcall,w3,a0h,hi,hnl,f1,f2',f3,PV.len,PV.rowsOf,hloc,hg,hg2,and_self,Q0,Q7,Q6,a0D,true_or,Q8,Q9,Q5,if_false,MO.elts,hrs])
   | (unfold a1T; simp -implicitDefEqProofs only [↓reduceIte,eq_self,ZF,ZG,ZH,ZI,ZJ,ZK,ZL,ZM,ZN,ZO,ZP,ZQ,ZR,ZS,ZT,ZU,ZV,ZW,ZX,ZY,Z2,Z3,Z4,Z5,Z6,Z7,Z8,Z9,Za,Zb,Zc,Zd,Ze,Zf,Zg,Zh,Nat.reduceAdd,Zi,if_true,if_false,Zl,Zm,Zn,Zo,Zp,Zq,Zr,Zs,Zt,Zu,Zv,Zw,Zx,Zy,Zz,ZA,ZB,ZC,ZD,ZE,hv,hv1,e1,e2,e3,e4,e5,e6,MO.list,PV.isKind,a0r,Q1,Q2,Q3,Q4,l1,hcall,w3,a0h,hi,hnl,f1,f2',f3,PV.len,PV.rowsOf,hloc,hg,hg2,and_self,Q0,Q7,Q6,a0D,true_or,Q8,Q9,Q5,if_false,MO.elts,hrs]; done)
   | (unfold a1T; simp -implicitDefEqProofs only [↓reduceIte,eq_self,ZF,ZG,ZH,ZI,ZJ,ZK,ZL,ZM,ZN,ZO,ZP,ZQ,ZR,ZS,ZT,ZU,ZV,ZW,ZX,ZY,Z2,Z3,Z4,Z5,Z6,Z7,Z8,Z9,Za,Zb,Zc,Zd,Ze,Zf,Zg,Zh,Nat.reduceAdd,Zi,if_true,if_false,Zl,Zm,Zn,Zo,Zp,Zq,Zr,Zs,Zt,Zu,Zv,Zw,Zx,Zy,Zz,ZA,ZB,ZC,ZD,ZE,hv,hv1,e1,e2,e3,e4,e5,e6,MO.list,PV.isKind,a0r,Q1,Q2,Q3,Q4,l1,hcall,w3,a0h,hi,hnl,f1,f2',f3,PV.len,PV.rowsOf,hloc,hg,hg2,and_self,Q0,Q7,Q6,a0D,true_or,Q8,Q9,Q5,if_false,MO.elts,hrs])
   | (unfold a1K; simp -implicitDefEqProofs only [↓reduceIte,eq_self,ZF,ZG,ZH,ZI,ZJ,ZK,ZL,ZM,ZN,ZO,ZP,ZQ,ZR,ZS,ZT,ZU,ZV,ZW,ZX,ZY,Z2,Z3,Z4,Z5,Z6,Z7,Z8,Z9,Za,Zb,Zc,Zd,Ze,Zf,Zg,Zh,Nat.reduceAdd,Zi,if_true,if_false,Zl,Zm,Zn,Zo,Zp,Zq,Zr,Zs,Zt,Zu,Zv,Zw,Zx,Zy,Zz,ZA,ZB,ZC,ZD,ZE,hv,hv1,e1,e2,e3,e4,e5,e6,MO.list,PV.isKind,a0r,Q1,Q2,Q3,Q4,l1,hcall,w3,a0h,hi,hnl,f1,f2',f3,PV.len,PV.rowsOf,hloc,hg,hg2,and_self,Q0,Q7,Q6,a0D,true_or,Q8,Q9,Q5,if_false,MO.elts,hrs]; done)
   | (unfold a1K; simp -implicitDefEqProofs only [↓reduceIte,eq_self,ZF,ZG,ZH,ZI,ZJ,ZK,ZL,ZM,ZN,ZO,ZP,ZQ,ZR,ZS,ZT,ZU,ZV,ZW,ZX,ZY,Z2,Z3,Z4,Z5,Z6,Z7,Z8,Z9,Za,Zb,Zc,Zd,Ze,Zf,Zg,Zh,Nat.reduceAdd,Zi,if_true,if_false,Zl,Zm,Zn,Zo,Zp,Zq,Zr,Zs,Zt,Zu,Zv,Zw,Zx,Zy,Zz,ZA,ZB,ZC,ZD,ZE,hv,hv1,e1,e2,e3,e4,e5,e6,MO.list,PV.isKind,a0r,Q1,Q2,Q3,Q4,l1,hcall,w3,a0h,hi,hnl,f1,f2',f3,PV.len,PV.rowsOf,hloc,hg,hg2,and_self,Q0,Q7,Q6,a0D,true_or,Q8,Q9,Q5,if_false,MO.elts,hrs])
   | (unfold a1Q; simp -implicitDefEqProofs only [↓reduceIte,eq_self,ZF,ZG,ZH,ZI,ZJ,ZK,ZL,ZM,ZN,ZO,ZP,ZQ,ZR,ZS,ZT,ZU,ZV,ZW,ZX,ZY,Z2,Z3,Z4,Z5,Z6,Z7,Z8,Z9,Za,Zb,Zc,Zd,Ze,Zf,Zg,Zh,Nat.reduceAdd,Zi,if_true,if_false,Zl,Zm,Zn,Zo,Zp,Zq,Zr,Zs,Zt,Zu,Zv,Zw,Zx,Zy,Zz,ZA,ZB,ZC,ZD,ZE,hv,hv1,e1,e2,e3,e4,e5,e6,MO.list,PV.isKind,a0r,Q1,Q2,Q3,Q4,l1,hcall,w3,a0h,hi,hnl,f1,f2',f3,PV.len,PV.rowsOf,hloc,hg,hg2,and_self,Q0,Q7,Q6,a0D,true_or,Q8,Q9,Q5,if_false,MO.elts,hrs]; done)
   | (unfold a1Q; simp -implicitDefEqProofs only [↓reduceIte,eq_self,ZF,ZG,ZH,ZI,ZJ,ZK,ZL,ZM,ZN,ZO,ZP,ZQ,ZR,ZS,ZT,ZU,ZV,ZW,ZX,ZY,Z2,Z3,Z4,Z5,Z6,Z7,Z8,Z9,Za,Zb,Zc,Zd,Ze,Zf,Zg,Zh,Nat.reduceAdd,Zi,if_true,if_false,Zl,Zm,Zn,Zo,Zp,Zq,Zr,Zs,Zt,Zu,Zv,Zw,Zx,Zy,Zz,ZA,ZB,ZC,ZD,ZE,hv,hv1,e1,e2,e3,e4,e5,e6,MO.list,PV.isKind,a0r,Q1,Q2,Q3,Q4,l1,hcall,w3,a0h,hi,hnl,f1,f2',f3,PV.len,PV.rowsOf,hloc,hg,hg2,and_self,Q0,Q7,Q6,a0D,true_or,Q8,Q9,Q5,if_false,MO.elts,hrs])
   | (unfold a2p; simp -implicitDefEqProofs only [↓reduceIte,eq_self,ZF,ZG,ZH,ZI,ZJ,ZK,ZL,ZM,ZN,ZO,ZP,ZQ,ZR,ZS,ZT,ZU,ZV,ZW,ZX,ZY,Z2,Z3,Z4,Z5,Z6,Z7,Z8,Z9,Za,Zb,Zc,Zd,Ze,Zf,Zg,Zh,Nat.reduceAdd,Zi,if_true,if_false,Zl,Zm,Zn,Zo,Zp,Zq,Zr,Zs,Zt,Zu,Zv,Zw,Zx,Zy,Zz,ZA,ZB,ZC,ZD,ZE,hv,hv1,e1,e2,e3,e4,e5,e6,MO.list,PV.isKind,a0r,Q1,Q2,Q3,Q4,l1,hcall,w3,a0h,hi,hnl,f1,f2',f3,PV.len,PV.rowsOf,hloc,hg,hg2,and_self,Q0,Q7,Q6,a0D,true_or,Q8,Q9,Q5,if_false,MO.elts,hrs]; done)
   | (unfold a2p; simp -implicitDefEqProofs only [↓reduceIte,eq_self,ZF,ZG,ZH,ZI,ZJ,ZK,ZL,ZM,ZN,ZO,ZP,ZQ,ZR,ZS,ZT,ZU,ZV,ZW,ZX,ZY,Z2,Z3,Z4,Z5,Z6,Z7,Z8,Z9,Za,Zb,Zc,Zd,Ze,Zf,Zg,Zh,Nat.reduceAdd,Zi,if_true,if_false,Zl,Zm,Zn,Zo,Zp,Zq,Zr,Zs,Zt,Zu,Zv,Zw,Zx,Zy,Zz,ZA,ZB,ZC,ZD,ZE,hv,hv1,e1,e2,e3,e4,e5,e6,MO.list,PV.isKind,a0r,Q1,Q2,Q3,Q4,l1,hcall,w3,a0h,hi,hnl,f1,f2',f3,PV.len,PV.rowsOf,hloc,hg,hg2,and_self,Q0,Q7,Q6,a0D,true_or,Q8,Q9,Q5,if_false,MO.elts,hrs])
   | (unfold a2q; simp -implicitDefEqProofs only [↓reduceIte,eq_self,ZF,ZG,ZH,ZI,ZJ,ZK,ZL,ZM,ZN,ZO,ZP,ZQ,ZR,ZS,ZT,ZU,ZV,ZW,ZX,ZY,Z2,Z3,Z4,Z5,Z6,Z7,Z8,Z9,Za,Zb,Zc,Zd,Ze,Zf,Zg,Zh,Nat.reduceAdd,Zi,if_true,if_false,Zl,Zm,Zn,Zo,Zp,Zq,Zr,Zs,Zt,Zu,Zv,Zw,Zx,Zy,Zz,ZA,ZB,ZC,ZD,ZE,hv,hv1,e1,e2,e3,e4,e5,e6,MO.list,PV.isKind,a0r,Q1,Q2,Q3,Q4,l1,hcall,w3,a0h,hi,hnl,f1,f2',f3,PV.len,PV.rowsOf,hloc,hg,hg2,and_self,Q0,Q7,Q6,a0D,true_or,Q8,Q9,Q5,if_false,MO.elts,hrs]; done)
   | (unfold a2q; simp -implicitDefEqProofs only [↓reduceIte,eq_self,ZF,ZG,ZH,ZI,ZJ,ZK,ZL,ZM,ZN,ZO,ZP,ZQ,ZR,ZS,ZT,ZU,ZV,ZW,ZX,ZY,Z2,Z3,Z4,Z5,Z6,Z7,Z8,Z9,Za,Zb,Zc,Zd,Ze,Zf,Zg,Zh,Nat.reduceAdd,Zi,if_true,if_false,Zl,Zm,Zn,Zo,Zp,Zq,Zr,Zs,Zt,Zu,Zv,Zw,Zx,Zy,Zz,ZA,ZB,ZC,ZD,ZE,hv,hv1,e1,e2,e3,e4,e5,e6,MO.list,PV.isKind,a0r,Q1,Q2,Q3,Q4,l1,hcall,w3,a0h,hi,hnl,f1,f2',f3,PV.len,PV.rowsOf,hloc,hg,hg2,and_self,Q0,Q7,Q6,a0D,true_or,Q8,Q9,Q5,if_false,MO.elts,hrs])
   | (unfold a2u; simp -implicitDefEqProofs only [↓reduceIte,eq_self,ZF,ZG,ZH,ZI,ZJ,ZK,ZL,ZM,ZN,ZO,ZP,ZQ,ZR,ZS,ZT,ZU,ZV,ZW,ZX,ZY,Z2,Z3,Z4,Z5,Z6,Z7,Z8,Z9,Za,Zb,Zc,Zd,Ze,Zf,Zg,Zh,Nat.reduceAdd,Zi,if_true,if_false,Zl,Zm,Zn,Zo,Zp,Zq,Zr,Zs,Zt,Zu,Zv,Zw,Zx,Zy,Zz,ZA,ZB,ZC,ZD,ZE,hv,hv1,e1,e2,e3,e4,e5,e6,MO.list,PV.isKind,a0r,Q1,Q2,Q3,Q4,l1,hcall,w3,a0h,hi,hnl,f1,f2',f3,PV.len,PV.rowsOf,hloc,hg,hg2,and_self,Q0,Q7,Q6,a0D,true_or,Q8,Q9,Q5,if_false,MO.elts,hrs]; done)
   | (unfold a2u; simp -implicitDefEqProofs only [↓reduceIte,eq_self,ZF,ZG,ZH,ZI,ZJ,ZK,ZL,ZM,ZN,ZO,ZP,ZQ,ZR,ZS,ZT,ZU,ZV,ZW,ZX,ZY,Z2,Z3,Z4,Z5,Z6,Z7,Z8,Z9,Za,Zb,Zc,Zd,Ze,Zf,Zg,Zh,Nat.reduceAdd,Zi,if_true,if_false,Zl,Zm,Zn,Zo,Zp,Zq,Zr,Zs,Zt,Zu,Zv,Zw,Zx,Zy,Zz,ZA,ZB,ZC,ZD,ZE,hv,hv1,e1,e2,e3,e4,e5,e6,MO.list,PV.isKind,a0r,Q1,Q2,Q3,Q4,l1,hcall,w3,a0h,hi,hnl,f1,f2',f3,PV.len,PV.rowsOf,hloc,hg,hg2,and_self,Q0,Q7,Q6,a0D,true_or,Q8,Q9,Q5,if_false,MO.elts,hrs])
   | (unfold a1J; simp -implicitDefEqProofs only [↓reduceIte,eq_self,ZF,ZG,ZH,ZI,ZJ,ZK,ZL,ZM,ZN,ZO,ZP,ZQ,ZR,ZS,ZT,ZU,ZV,ZW,ZX,ZY,Z2,Z3,Z4,Z5,Z6,Z7,Z8,Z9,Za,Zb,Zc,Zd,Ze,Zf,Zg,Zh,Nat.reduceAdd,Zi,if_true,if_false,Zl,Zm,Zn,Zo,Zp,Zq,Zr,Zs,Zt,Zu,Zv,Zw,Zx,Zy,Zz,ZA,ZB,ZC,ZD,ZE,hv,hv1,e1,e2,e3,e4,e5,e6,MO.list,PV.isKind,a0r,Q1,Q2,Q3,Q4,l1,hcall,w3,a0h,hi,hnl,f1,f2',f3,PV.len,PV.rowsOf,hloc,hg,hg2,and_self,Q0,Q7,Q6,a0D,true_or,Q8,Q9,Q5,if_false,MO.elts,hrs]; done)
   | (unfold a1J; simp -implicitDefEqProofs only [↓reduceIte,eq_self,ZF,ZG,ZH,ZI,ZJ,ZK,ZL,ZM,ZN,ZO,ZP,ZQ,ZR,ZS,ZT,ZU,ZV,ZW,ZX,ZY,Z2,Z3,Z4,Z5,Z6,Z7,Z8,Z9,Za,Zb,Zc,Zd,Ze,Zf,Zg,Zh,Nat.reduceAdd,Zi,if_true,if_false,Zl,Zm,Zn,Zo,Zp,Zq,Zr,Zs,Zt,Zu,Zv,Zw,Zx,Zy,Zz,ZA,ZB,ZC,ZD,ZE,hv,hv1,e1,e2,e3,e4,e5,e6,MO.list,PV.isKind,a0r,Q1,Q2,Q3,Q4,l1,hcall,w3,a0h,hi,hnl,f1,f2',f3,PV.len,PV.rowsOf,hloc,hg,hg2,and_self,Q0,Q7,Q6,a0D,true_or,Q8,Q9,Q5,if_false,MO.elts,hrs])
   | (unfold a2c; simp -implicitDefEqProofs only [↓reduceIte,eq_self,ZF,ZG,ZH,ZI,ZJ,ZK,ZL,ZM,ZN,ZO,ZP,ZQ,ZR,ZS,ZT,ZU,ZV,ZW,ZX,ZY,Z2,Z3,Z4,Z5,Z6,Z7,Z8,Z9,Za,Zb,Zc,Zd,Ze,Zf,Zg,Zh,Nat.reduceAdd,Zi,if_true,if_false,Zl,Zm,Zn,Zo,Zp,Zq,Zr,Zs,Zt,Zu,Zv,Zw,Zx,Zy,Zz,ZA,ZB,ZC,ZD,ZE,hv,hv1,e1,e2,e3,e4,e5,e6,MO.list,PV.isKind,a0r,Q1,Q2,Q3,Q4,l1,hcall,w3,a0h,hi,hnl,f1,f2',f3,PV.len,PV.rowsOf,hloc,hg,hg2,and_self,Q0,Q7,Q6,a0D,true_or,Q8,Q9,Q5,if_false,MO.elts,hrs]; done)
   | (unfold a2c; simp -implicitDefEqProofs only [↓reduceIte,eq_self,ZF,ZG,ZH,ZI,ZJ,ZK,ZL,ZM,ZN,ZO,ZP,ZQ,ZR,ZS,ZT,ZU,ZV,ZW,ZX,ZY,Z2,Z3,Z4,Z5,Z6,Z7,Z8,Z9,Za,Zb,Zc,Zd,Ze,Zf,Zg,Zh,Nat.reduceAdd,Zi,if_true,if_false,Zl,Zm,Zn,Zo,Zp,Zq,Zr,Zs,Zt,Zu,Zv,Zw,Zx,Zy,Zz,ZA,ZB,ZC,ZD,ZE,hv,hv1,e1,e2,e3,e4,e5,e6,MO.list,PV.isKind,a0r,Q1,Q2,Q3,Q4,l1,hcall,w3,a0h,hi,hnl,f1,f2',f3,PV.len,PV.rowsOf,hloc,hg,hg2,and_self,Q0,Q7,Q6,a0D,true_or,Q8,Q9,Q5,if_false,MO.elts,hrs])
   | (unfold a1O; simp -implicitDefEqProofs only [↓reduceIte,eq_self,ZF,ZG,ZH,ZI,ZJ,ZK,ZL,ZM,ZN,ZO,ZP,ZQ,ZR,ZS,ZT,ZU,ZV,ZW,ZX,ZY,Z2,Z3,Z4,Z5,Z6,Z7,Z8,Z9,Za,Zb,Zc,Zd,Ze,Zf,Zg,Zh,Nat.reduceAdd,Zi,if_true,if_false,Zl,Zm,Zn,Zo,Zp,Zq,Zr,Zs,Zt,Zu,Zv,Zw,Zx,Zy,Zz,ZA,ZB,ZC,ZD,ZE,hv,hv1,e1,e2,e3,e4,e5,e6,MO.list,PV.isKind,a0r,Q1,Q2,Q3,Q4,l1,hcall,w3,a0h,hi,hnl,f1,f2',f3,PV.len,PV.rowsOf,hloc,hg,hg2,and_self,Q0,Q7,Q6,a0D,true_or,Q8,Q9,Q5,if_false,MO.elts,hrs]; done)
   | (unfold a1O; simp -implicitDefEqProofs only [↓reduceIte,eq_self,ZF,ZG,ZH,ZI,ZJ,ZK,ZL,ZM,ZN,ZO,ZP,ZQ,ZR,ZS,ZT,ZU,ZV,ZW,ZX,ZY,Z2,Z3,Z4,Z5,Z6,Z7,Z8,Z9,Za,Zb,Zc,Zd,Ze,Zf,Zg,Zh,Nat.reduceAdd,Zi,if_true,if_false,Zl,Zm,Zn,Zo,Zp,Zq,Zr,Zs,Zt,Zu,Zv,Zw,Zx,Zy,Zz,ZA,ZB,ZC,ZD,ZE,hv,hv1,e1,e2,e3,e4,e5,e6,MO.list,PV.isKind,a0r,Q1,Q2,Q3,Q4,l1,hcall,w3,a0h,hi,hnl,f1,f2',f3,PV.len,PV.rowsOf,hloc,hg,hg2,and_self,Q0,Q7,Q6,a0D,true_or,Q8,Q9,Q5,if_false,MO.elts,hrs])
   | (unfold a1U; simp -implicitDefEqProofs only [↓reduceIte,eq_self,ZF,ZG,ZH,ZI,ZJ,ZK,ZL,ZM,ZN,ZO,ZP,ZQ,ZR,ZS,ZT,ZU,ZV,ZW,ZX,ZY,Z2,Z3,Z4,Z5,Z6,Z7,Z8,Z9,Za,Zb,Zc,Zd,Ze,Zf,Zg,Zh,Nat.reduceAdd,Zi,if_true,if_false,Zl,Zm,Zn,Zo,Zp,Zq,Zr,Zs,Zt,Zu,Zv,Zw,Zx,Zy,Zz,ZA,ZB,ZC,ZD,ZE,hv,hv1,e1,e2,e3,e4,e5,e6,MO.list,PV.isKind,a0r,Q1,Q2,Q3,Q4,l1,hcall,w3,a0h,hi,hnl,f1,f2',f3,PV.len,PV.rowsOf,hloc,hg,hg2,and_self,Q0,Q7,Q6,a0D,true_or,Q8,Q9,Q5,if_false,MO.elts,hrs]; done)
   | (unfold a1U; simp -implicitDefEqProofs only [↓reduceIte,eq_self,ZF,ZG,ZH,ZI,ZJ,ZK,ZL,ZM,ZN,ZO,ZP,ZQ,ZR,ZS,ZT,ZU,ZV,ZW,ZX,ZY,Z2,Z3,Z4,Z5,Z6,Z7,Z8,Z9,Za,Zb,Zc,Zd,Ze,Zf,Zg,Zh,Nat.reduceAdd,Zi,if_true,if_false,Zl,Zm,Zn,Zo,Zp,Zq,Zr,Zs,Zt,Zu,Zv,Zw,Zx,Zy,Zz,ZA,ZB,ZC,ZD,ZE,hv,hv1,e1,e2,e3,e4,e5,e6,MO.list,PV.isKind,a0r,Q1,Q2,Q3,Q4,l1,hcall,w3,a0h,hi,hnl,f1,f2',f3,PV.len,PV.rowsOf,hloc,hg,hg2,and_self,Q0,Q7,Q6,a0D,true_or,Q8,Q9,Q5,if_false,MO.elts,hrs])
   | (unfold a2g; simp -implicitDefEqProofs only [↓reduceIte,eq_self,ZF,ZG,ZH,ZI,ZJ,ZK,ZL,ZM,ZN,ZO,ZP,ZQ,ZR,ZS,ZT,ZU,ZV,ZW,ZX,ZY,Z2,Z3,Z4,Z5,Z6,Z7,Z8,Z9,Za,Zb,Zc,Zd,Ze,Zf,Zg,Zh,Nat.reduceAdd,Zi,if_true,if_false,Zl,Zm,Zn,Zo,Zp,Zq,Zr,Zs,Zt,Zu,Zv,Zw,Zx,Zy,Zz,ZA,ZB,ZC,ZD,ZE,hv,hv1,e1,e2,e3,e4,e5,e6,MO.list,PV.isKind,a0r,Q1,Q2,Q3,Q4,l1,hcall,w3,a0h,hi,hnl,f1,f2',f3,PV.len,PV.rowsOf,hloc,hg,hg2,and_self,Q0,Q7,Q6,a0D,true_or,Q8,Q9,Q5,if_false,MO.elts,hrs]; done)
   | (unfold a2g; simp -implicitDefEqProofs only [↓reduceIte,eq_self,ZF,ZG,ZH,ZI,ZJ,ZK,ZL,ZM,ZN,ZO,ZP,ZQ,ZR,ZS,ZT,ZU,ZV,ZW,ZX,ZY,Z2,Z3,Z4,Z5,Z6,Z7,Z8,Z9,Za,Zb,Zc,Zd,Ze,Zf,Zg,Zh,Nat.reduceAdd,Zi,if_true,if_false,Zl,Zm,Zn,Zo,Zp,Zq,Zr,Zs,Zt,Zu,Zv,Zw,Zx,Zy,Zz,ZA,ZB,ZC,ZD,ZE,hv,hv1,e1,e2,e3,e4,e5,e6,MO.list,PV.isKind,a0r,Q1,Q2,Q3,Q4,l1,hcall,w3,a0h,hi,hnl,f1,f2',f3,PV.len,PV.rowsOf,hloc,hg,hg2,and_self,Q0,Q7,Q6,a0D,true_or,Q8,Q9,Q5,if_false,MO.elts,hrs])
   | (unfold a1V; simp -implicitDefEqProofs only [↓reduceIte,eq_self,ZF,ZG,ZH,ZI,ZJ,ZK,ZL,ZM,ZN,ZO,ZP,ZQ,ZR,ZS,ZT,ZU,ZV,ZW,ZX,ZY,Z2,Z3,Z4,Z5,Z6,Z7,Z8,Z9,Za,Zb,Zc,Zd,Ze,Zf,Zg,Zh,Nat.reduceAdd,Zi,if_true,if_false,Zl,Zm,Zn,Zo,Zp,Zq,Zr,Zs,Zt,Zu,Zv,Zw,Zx,Zy,Zz,ZA,ZB,ZC,ZD,ZE,hv,hv1,e1,e2,e3,e4,e5,e6,MO.list,PV.isKind,a0r,Q1,Q2,Q3,Q4,l1,hcall,w3,a0h,hi,hnl,f1,f2',f3,PV.len,PV.rowsOf,hloc,hg,hg2,and_self,Q0,Q7,Q6,a0D,true_or,Q8,Q9,Q5,if_false,MO.elts,hrs]; done)
   | (unfold a1V; simp -implicitDefEqProofs only [↓reduceIte,eq_self,ZF,ZG,ZH,ZI,ZJ,ZK,ZL,ZM,ZN,ZO,ZP,ZQ,ZR,ZS,ZT,ZU,ZV,ZW,ZX,ZY,Z2,Z3,Z4,Z5,Z6,Z7,Z8,Z9,Za,Zb,Zc,Zd,Ze,Zf,Zg,Zh,Nat.reduceAdd,Zi,if_true,if_false,Zl,Zm,Zn,Zo,Zp,Zq,Zr,Zs,Zt,Zu,Zv,Zw,Zx,Zy,Zz,ZA,ZB,ZC,ZD,ZE,hv,hv1,e1,e2,e3,e4,e5,e6,MO.list,PV.isKind,a0r,Q1,Q2,Q3,Q4,l1,hcall,w3,a0h,hi,hnl,f1,f2',f3,PV.len,PV.rowsOf,hloc,hg,hg2,and_self,Q0,Q7,Q6,a0D,true_or,Q8,Q9,Q5,if_false,MO.elts,hrs])
   | (unfold a2i; simp -implicitDefEqProofs only [↓reduceIte,eq_self,ZF,ZG,ZH,ZI,ZJ,ZK,ZL,ZM,ZN,ZO,ZP,ZQ,ZR,ZS,ZT,ZU,ZV,ZW,ZX,ZY,Z2,Z3,Z4,Z5,Z6,Z7,Z8,Z9,Za,Zb,Zc,Zd,Ze,Zf,Zg,Zh,Nat.reduceAdd,Zi,if_true,if_false,Zl,Zm,Zn,Zo,Zp,Zq,Zr,Zs,Zt,Zu,Zv,Zw,Zx,Zy,Zz,ZA,ZB,ZC,ZD,ZE,hv,hv1,e1,e2,e3,e4,e5,e6,MO.list,PV.isKind,a0r,Q1,Q2,Q3,Q4,l1,hcall,w3,a0h,hi,hnl,f1,f2',f3,PV.len,PV.rowsOf,hloc,hg,hg2,and_self,Q0,Q7,Q6,a0D,true_or,Q8,Q9,Q5,if_false,MO.elts,hrs]; done)
   | (unfold a2i; simp -implicitDefEqProofs only [↓reduceIte,eq_self,ZF,ZG,ZH,ZI,ZJ,ZK,ZL,ZM,ZN,ZO,ZP,ZQ,ZR,ZS,ZT,ZU,ZV,ZW,ZX,ZY,Z2,Z3,Z4,Z5,Z6,Z7,Z8,Z9,Za,Zb,Zc,Zd,Ze,Zf,Zg,Zh,Nat.reduceAdd,Zi,if_true,if_false,Zl,Zm,Zn,Zo,Zp,Zq,Zr,Zs,Zt,Zu,Zv,Zw,Zx,Zy,Zz,ZA,ZB,ZC,ZD,ZE,hv,hv1,e1,e2,e3,e4,e5,e6,MO.list,PV.isKind,a0r,Q1,Q2,Q3,Q4,l1,hcall,w3,a0h,hi,hnl,f1,f2',f3,PV.len,PV.rowsOf,hloc,hg,hg2,and_self,Q0,Q7,Q6,a0D,true_or,Q8,Q9,Q5,if_false,MO.elts,hrs])
   | (unfold a1X; simp -implicitDefEqProofs only [↓reduceIte,eq_self,ZF,ZG,ZH,ZI,ZJ,ZK,ZL,ZM,ZN,ZO,ZP,ZQ,ZR,ZS,ZT,ZU,ZV,ZW,ZX,ZY,Z2,Z3,Z4,Z5,Z6,Z7,Z8,Z9,Za,Zb,Zc,Zd,Ze,Zf,Zg,Zh,Nat.reduceAdd,Zi,if_true,if_false,Zl,Zm,Zn,Zo,Zp,Zq,Zr,Zs,Zt,Zu,Zv,Zw,Zx,Zy,Zz,ZA,ZB,ZC,ZD,ZE,hv,hv1,e1,e2,e3,e4,e5,e6,MO.list,PV.isKind,a0r,Q1,Q2,Q3,Q4,l1,hcall,w3,a0h,hi,hnl,f1,f2',f3,PV.len,PV.rowsOf,hloc,hg,hg2,and_self,Q0,Q7,Q6,a0D,true_or,Q8,Q9,Q5,if_false,MO.elts,hrs]; done)
   | (unfold a1X; simp -implicitDefEqProofs only [↓reduceIte,eq_self,ZF,ZG,ZH,ZI,ZJ,ZK,ZL,ZM,ZN,ZO,ZP,ZQ,ZR,ZS,ZT,ZU,ZV,ZW,ZX,ZY,Z2,Z3,Z4,Z5,Z6,Z7,Z8,Z9,Za,Zb,Zc,Zd,Ze,Zf,Zg,Zh,Nat.reduceAdd,Zi,if_true,if_false,Zl,Zm,Zn,Zo,Zp,Zq,Zr,Zs,Zt,Zu,Zv,Zw,Zx,Zy,Zz,ZA,ZB,ZC,ZD,ZE,hv,hv1,e1,e2,e3,e4,e5,e6,MO.list,PV.isKind,a0r,Q1,Q2,Q3,Q4,l1,hcall,w3,a0h,hi,hnl,f1,f2',f3,PV.len,PV.rowsOf,hloc,hg,hg2,and_self,Q0,Q7,Q6,a0D,true_or,Q8,Q9,Q5,if_false,MO.elts,hrs])
   | (unfold a1Y; simp -implicitDefEqProofs only [↓reduceIte,eq_self,ZF,ZG,ZH,ZI,ZJ,ZK,ZL,ZM,ZN,ZO,ZP,ZQ,ZR,ZS,ZT,ZU,ZV,ZW,ZX,ZY,Z2,Z3,Z4,Z5,Z6,Z7,Z8,Z9,Za,Zb,Zc,Zd,Ze,Zf,Zg,Zh,Nat.reduceAdd,Zi,if_true,if_false,Zl,Zm,Zn,Zo,Zp,Zq,Zr,Zs,Zt,Zu,Zv,Zw,Zx,Zy,Zz,ZA,ZB,ZC,ZD,ZE,hv,hv1,e1,e2,e3,e4,e5,e6,MO.list,PV.isKind,a0r,Q1,Q2,Q3,Q4,l1,hcall,w3,a0h,hi,hnl,f1,f2',f3,PV.len,PV.rowsOf,hloc,hg,hg2,and_self,Q0,Q7,Q6,a0D,true_or,Q8,Q9,Q5,if_false,MO.elts,hrs]; done)
   | (unfold a1Y; simp -implicitDefEqProofs only [↓reduceIte,eq_self,ZF,ZG,ZH,ZI,ZJ,ZK,ZL,ZM,ZN,ZO,ZP,ZQ,ZR,ZS,ZT,ZU,ZV,ZW,ZX,ZY,Z2,Z3,Z4,Z5,Z6,Z7,Z8,Z9,Za,Zb,Zc,Zd,Ze,Zf,Zg,Zh,Nat.reduceAdd,Zi,if_true,if_false,Zl,Zm,Zn,Zo,Zp,Zq,Zr,Zs,Zt,Zu,Zv,Zw,Zx,Zy,Zz,ZA,ZB,ZC,ZD,ZE,hv,hv1,e1,e2,e3,e4,e5,e6,MO.list,PV.isKind,a0r,Q1,Q2,Q3,Q4,l1,hcall,w3,a0h,hi,hnl,f1,f2',f3,PV.len,PV.rowsOf,hloc,hg,hg2,and_self,Q0,Q7,Q6,a0D,true_or,Q8,Q9,Q5,if_false,MO.elts,hrs]))
 ·have hst:=st2 h R aa hv hh hr hlR hBa hs
  clear st1 st2
  have hr1:=a1y hp hr
  have hhl:=(Qj.1 hr1).1
  have hg:leB 0 (R.length:Int)=true:=by simp [leB]
  have hg2:ltB (R.length:Int) ((R.length+1:Nat):Int)=true:=by simp [ltB]; omega
  have hloc:a4c (R.length:Int) 9 0 (PV.rsl h (R.length+1) 9)=some (.elt h (R.length+1) R.length 9 0):=by simp [a4c]; omega
  have hrl:∀ z:List PV,(R++[z]).length=R.length+1:=fun z=>by simp
  have hrg:∀ z:List PV,(R++[z])[R.length]?=some z:=fun z=>by simp
  have hpl2:R.length+1<=1000000:=by omega
  have e1:∀ X,(σ1.set h X)[h]?=some X:=fun X=>by rw [QD (by omega)]
  have e2:∀ X,(σ1.set h X)[σ0.length]?=some (.cells [.rsl h R.length 9] 24):=fun X=>by rw [Qg (by omega)]; exact hv1
  have e3:∀ X Y,(σ1.set h X).set h Y=σ1.set h Y:=fun X Y=>by rw [List.set_set]
  have e4:∀ X C Y,((σ1.set h X).set σ0.length C).set h Y=(σ1.set h Y).set σ0.length C:=fun X C Y=>by rw [List.set_comm _ _ (by omega),List.set_set]
  have e5:∀ X C,((σ1.set h X).set σ0.length C)[h]?=some X:=fun X C=>by rw [Qg (by omega),QD (by omega)]
  refine ⟨_,?_,hst⟩
  clear hst hkeep
  simp only [a0P,a4e,Qa,Sys.run]
  show ((a0Q [.sh (.agg [_,_,_,_,_,_,_,_,_]),.ptr] _).bind _)=_
  simp only [a0Q,a0z,a0s,Qd,Qa,Qf,Qb,Qe,if_true,y3,hptr]
  show (PT.ev _ a1F _).bind _=_
  refine X2.2 ⟨Res.ret (.bool true) ((σ1.set h (.row (R++[[.int .i64 op,.int .i64 a,.int .i64 b,.int .i64 c,.int .i64 d,.int .i64 e',.int .i64 f,.int .i64 v0,w]]) 9 26)).set σ0.length (.cells [.rsl h (R.length+1) 9] 24)),?_,rfl⟩
  unfold a1F
  simp -implicitDefEqProofs only [↓reduceIte,eq_self,ZF,ZG,ZH,ZI,ZJ,ZK,ZL,ZM,ZN,ZO,ZP,ZQ,ZR,ZS,ZT,ZU,ZV,ZW,ZX,ZY,Z2,Z3,Z4,Z5,Z6,Z7,Z8,Z9,Za,Zb,Zc,Zd,Ze,Zf,Zg,Zh,Nat.reduceAdd,Zi,if_true,if_false,Zl,Zm,Zn,Zo,Zp,Zq,Zr,Zs,Zt,Zu,Zv,Zw,Zx,Zy,Zz,ZA,ZB,ZC,ZD,ZE,hoo]
  repeat' (first
   | with_reducible rfl
   | apply b2W
   | (unfold a2F; simp -implicitDefEqProofs only [↓reduceIte,eq_self,ZF,ZG,ZH,ZI,ZJ,ZK,ZL,ZM,ZN,ZO,ZP,ZQ,ZR,ZS,ZT,ZU,ZV,ZW,ZX,ZY,Z2,Z3,Z4,Z5,Z6,Z7,Z8,Z9,Za,Zb,Zc,Zd,Ze,Zf,Zg,Zh,Nat.reduceAdd,Zi,if_true,if_false,Zl,Zm,Zn,Zo,Zp,Zq,Zr,Zs,Zt,Zu,Zv,Zw,Zx,Zy,Zz,ZA,ZB,ZC,ZD,ZE,hv,hv1,hr1,e1,e2,e3,e4,e5,MO.list,PV.isKind,a0r,Q1,Q2,Q3,Q4,l1,hcall,w3,a0h,hi,hnl,f1,f2',f3,PV.len,PV.rowsOf,hloc,hg,hg2,and_self,Q0,Q7,Q6,a0D,true_or,Q8,Q9,Q5,if_false,MO.elts,hpl2,hrl,hrg,a0E,hrs]; done)
   | (unfold a2F; simp -implicitDefEqProofs only [↓reduceIte,eq_self,ZF,ZG,ZH,ZI,ZJ,ZK,ZL,ZM,ZN,ZO,ZP,ZQ,ZR,ZS,ZT,ZU,ZV,ZW,ZX,ZY,Z2,Z3,Z4,Z5,Z6,Z7,Z8,Z9,Za,Zb,Zc,Zd,Ze,Zf,Zg,Zh,Nat.reduceAdd,Zi,if_true,if_false,Zl,Zm,Zn,Zo,Zp,Zq,Zr,Zs,Zt,Zu,Zv,Zw,Zx,Zy,Zz,ZA,ZB,ZC,ZD,ZE,hv,hv1,hr1,e1,e2,e3,e4,e5,MO.list,PV.isKind,a0r,Q1,Q2,Q3,Q4,l1,hcall,w3,a0h,hi,hnl,f1,f2',f3,PV.len,PV.rowsOf,hloc,hg,hg2,and_self,Q0,Q7,Q6,a0D,true_or,Q8,Q9,Q5,if_false,MO.elts,hpl2,hrl,hrg,a0E,hrs])
   | (unfold a2I; simp -implicitDefEqProofs only [↓reduceIte,eq_self,ZF,ZG,ZH,ZI,ZJ,ZK,ZL,ZM,ZN,ZO,ZP,ZQ,ZR,ZS,ZT,ZU,ZV,ZW,ZX,ZY,Z2,Z3,Z4,Z5,Z6,Z7,Z8,Z9,Za,Zb,Zc,Zd,Ze,Zf,Zg,Zh,Nat.reduceAdd,Zi,if_true,if_false,Zl,Zm,Zn,Zo,Zp,Zq,Zr,Zs,Zt,Zu,Zv,Zw,Zx,Zy,Zz,ZA,ZB,ZC,ZD,ZE,hv,hv1,hr1,e1,e2,e3,e4,e5,MO.list,PV.isKind,a0r,Q1,Q2,Q3,Q4,l1,hcall,w3,a0h,hi,hnl,f1,f2',f3,PV.len,PV.rowsOf,hloc,hg,hg2,and_self,Q0,Q7,Q6,a0D,true_or,Q8,Q9,Q5,if_false,MO.elts,hpl2,hrl,hrg,a0E,hrs]; done)
   | (unfold a2I; simp -implicitDefEqProofs only [↓reduceIte,eq_self,ZF,ZG,ZH,ZI,ZJ,ZK,ZL,ZM,ZN,ZO,ZP,ZQ,ZR,ZS,ZT,ZU,ZV,ZW,ZX,ZY,Z2,Z3,Z4,Z5,Z6,Z7,Z8,Z9,Za,Zb,Zc,Zd,Ze,Zf,Zg,Zh,Nat.reduceAdd,Zi,if_true,if_false,Zl,Zm,Zn,Zo,Zp,Zq,Zr,Zs,Zt,Zu,Zv,Zw,Zx,Zy,Zz,ZA,ZB,ZC,ZD,ZE,hv,hv1,hr1,e1,e2,e3,e4,e5,MO.list,PV.isKind,a0r,Q1,Q2,Q3,Q4,l1,hcall,w3,a0h,hi,hnl,f1,f2',f3,PV.len,PV.rowsOf,hloc,hg,hg2,and_self,Q0,Q7,Q6,a0D,true_or,Q8,Q9,Q5,if_false,MO.elts,hpl2,hrl,hrg,a0E,hrs])
   | (unfold a2C; simp -implicitDefEqProofs only [↓reduceIte,eq_self,ZF,ZG,ZH,ZI,ZJ,ZK,ZL,ZM,ZN,ZO,ZP,ZQ,ZR,ZS,ZT,ZU,ZV,ZW,ZX,ZY,Z2,Z3,Z4,Z5,Z6,Z7,Z8,Z9,Za,Zb,Zc,Zd,Ze,Zf,Zg,Zh,Nat.reduceAdd,Zi,if_true,if_false,Zl,Zm,Zn,Zo,Zp,Zq,Zr,Zs,Zt,Zu,Zv,Zw,Zx,Zy,Zz,ZA,ZB,ZC,ZD,ZE,hv,hv1,hr1,e1,e2,e3,e4,e5,MO.list,PV.isKind,a0r,Q1,Q2,Q3,Q4,l1,hcall,w3,a0h,hi,hnl,f1,f2',f3,PV.len,PV.rowsOf,hloc,hg,hg2,and_self,Q0,Q7,Q6,a0D,true_or,Q8,Q9,Q5,if_false,MO.elts,hpl2,hrl,hrg,a0E,hrs]; done)
   | (unfold a2C; simp -implicitDefEqProofs only [↓reduceIte,eq_self,ZF,ZG,ZH,ZI,ZJ,ZK,ZL,ZM,ZN,ZO,ZP,ZQ,ZR,ZS,ZT,ZU,ZV,ZW,ZX,ZY,Z2,Z3,Z4,Z5,Z6,Z7,Z8,Z9,Za,Zb,Zc,Zd,Ze,Zf,Zg,Zh,Nat.reduceAdd,Zi,if_true,if_false,Zl,Zm,Zn,Zo,Zp,Zq,Zr,Zs,Zt,Zu,Zv,Zw,Zx,Zy,Zz,ZA,ZB,ZC,ZD,ZE,hv,hv1,hr1,e1,e2,e3,e4,e5,MO.list,PV.isKind,a0r,Q1,Q2,Q3,Q4,l1,hcall,w3,a0h,hi,hnl,f1,f2',f3,PV.len,PV.rowsOf,hloc,hg,hg2,and_self,Q0,Q7,Q6,a0D,true_or,Q8,Q9,Q5,if_false,MO.elts,hpl2,hrl,hrg,a0E,hrs])
   | (unfold a2E; simp -implicitDefEqProofs only [↓reduceIte,eq_self,ZF,ZG,ZH,ZI,ZJ,ZK,ZL,ZM,ZN,ZO,ZP,ZQ,ZR,ZS,ZT,ZU,ZV,ZW,ZX,ZY,Z2,Z3,Z4,Z5,Z6,Z7,Z8,Z9,Za,Zb,Zc,Zd,Ze,Zf,Zg,Zh,Nat.reduceAdd,Zi,if_true,if_false,Zl,Zm,Zn,Zo,Zp,Zq,Zr,Zs,Zt,Zu,Zv,Zw,Zx,Zy,Zz,ZA,ZB,ZC,ZD,ZE,hv,hv1,hr1,e1,e2,e3,e4,e5,MO.list,PV.isKind,a0r,Q1,Q2,Q3,Q4,l1,hcall,w3,a0h,hi,hnl,f1,f2',f3,PV.len,PV.rowsOf,hloc,hg,hg2,and_self,Q0,Q7,Q6,a0D,true_or,Q8,Q9,Q5,if_false,MO.elts,hpl2,hrl,hrg,a0E,hrs]; done)
   | (unfold a2E; simp -implicitDefEqProofs only [↓reduceIte,eq_self,ZF,ZG,ZH,ZI,ZJ,ZK,ZL,ZM,ZN,ZO,ZP,ZQ,ZR,ZS,ZT,ZU,ZV,ZW,ZX,ZY,Z2,Z3,Z4,Z5,Z6,Z7,Z8,Z9,Za,Zb,Zc,Zd,Ze,Zf,Zg,Zh,Nat.reduceAdd,Zi,if_true,if_false,Zl,Zm,Zn,Zo,Zp,Zq,Zr,Zs,Zt,Zu,Zv,Zw,Zx,Zy,Zz,ZA,ZB,ZC,ZD,ZE,hv,hv1,hr1,e1,e2,e3,e4,e5,MO.list,PV.isKind,a0r,Q1,Q2,Q3,Q4,l1,hcall,w3,a0h,hi,hnl,f1,f2',f3,PV.len,PV.rowsOf,hloc,hg,hg2,and_self,Q0,Q7,Q6,a0D,true_or,Q8,Q9,Q5,if_false,MO.elts,hpl2,hrl,hrg,a0E,hrs])
   | (unfold a2K; simp -implicitDefEqProofs only [↓reduceIte,eq_self,ZF,ZG,ZH,ZI,ZJ,ZK,ZL,ZM,ZN,ZO,ZP,ZQ,ZR,ZS,ZT,ZU,ZV,ZW,ZX,ZY,Z2,Z3,Z4,Z5,Z6,Z7,Z8,Z9,Za,Zb,Zc,Zd,Ze,Zf,Zg,Zh,Nat.reduceAdd,Zi,if_true,if_false,Zl,Zm,Zn,Zo,Zp,Zq,Zr,Zs,Zt,Zu,Zv,Zw,Zx,Zy,Zz,ZA,ZB,ZC,ZD,ZE,hv,hv1,hr1,e1,e2,e3,e4,e5,MO.list,PV.isKind,a0r,Q1,Q2,Q3,Q4,l1,hcall,w3,a0h,hi,hnl,f1,f2',f3,PV.len,PV.rowsOf,hloc,hg,hg2,and_self,Q0,Q7,Q6,a0D,true_or,Q8,Q9,Q5,if_false,MO.elts,hpl2,hrl,hrg,a0E,hrs]; done)
   | (unfold a2K; simp -implicitDefEqProofs only [↓reduceIte,eq_self,ZF,ZG,ZH,ZI,ZJ,ZK,ZL,ZM,ZN,ZO,ZP,ZQ,ZR,ZS,ZT,ZU,ZV,ZW,ZX,ZY,Z2,Z3,Z4,Z5,Z6,Z7,Z8,Z9,Za,Zb,Zc,Zd,Ze,Zf,Zg,Zh,Nat.reduceAdd,Zi,if_true,if_false,Zl,Zm,Zn,Zo,Zp,Zq,Zr,Zs,Zt,Zu,Zv,Zw,Zx,Zy,Zz,ZA,ZB,ZC,ZD,ZE,hv,hv1,hr1,e1,e2,e3,e4,e5,MO.list,PV.isKind,a0r,Q1,Q2,Q3,Q4,l1,hcall,w3,a0h,hi,hnl,f1,f2',f3,PV.len,PV.rowsOf,hloc,hg,hg2,and_self,Q0,Q7,Q6,a0D,true_or,Q8,Q9,Q5,if_false,MO.elts,hpl2,hrl,hrg,a0E,hrs])
   | (unfold a2D; simp -implicitDefEqProofs only [↓reduceIte,eq_self,ZF,ZG,ZH,ZI,ZJ,ZK,ZL,ZM,ZN,ZO,ZP,ZQ,ZR,ZS,ZT,ZU,ZV,ZW,ZX,ZY,Z2,Z3,Z4,Z5,Z6,Z7,Z8,Z9,Za,Zb,Zc,Zd,Ze,Zf,Zg,Zh,Nat.reduceAdd,Zi,if_true,if_false,Zl,Zm,Zn,Zo,Zp,Zq,Zr,Zs,Zt,Zu,Zv,Zw,Zx,Zy,Zz,ZA,ZB,ZC,ZD,ZE,hv,hv1,hr1,e1,e2,e3,e4,e5,MO.list,PV.isKind,a0r,Q1,Q2,Q3,Q4,l1,hcall,w3,a0h,hi,hnl,f1,f2',f3,PV.len,PV.rowsOf,hloc,hg,hg2,and_self,Q0,Q7,Q6,a0D,true_or,Q8,Q9,Q5,if_false,MO.elts,hpl2,hrl,hrg,a0E,hrs]; done)
   | (unfold a2D; simp -implicitDefEqProofs only [↓reduceIte,eq_self,ZF,ZG,ZH,ZI,ZJ,ZK,ZL,ZM,ZN,ZO,ZP,ZQ,ZR,ZS,ZT,ZU,ZV,ZW,ZX,ZY,Z2,Z3,Z4,Z5,Z6,Z7,Z8,Z9,Za,Zb,Zc,Zd,Ze,Zf,Zg,Zh,Nat.reduceAdd,Zi,if_true,if_false,Zl,Zm,Zn,Zo,Zp,Zq,Zr,Zs,Zt,Zu,Zv,Zw,Zx,Zy,Zz,ZA,ZB,ZC,ZD,ZE,hv,hv1,hr1,e1,e2,e3,e4,e5,MO.list,PV.isKind,a0r,Q1,Q2,Q3,Q4,l1,hcall,w3,a0h,hi,hnl,f1,f2',f3,PV.len,PV.rowsOf,hloc,hg,hg2,and_self,Q0,Q7,Q6,a0D,true_or,Q8,Q9,Q5,if_false,MO.elts,hpl2,hrl,hrg,a0E,hrs])
   | (unfold a2J; simp -implicitDefEqProofs only [↓reduceIte,eq_self,ZF,ZG,ZH,ZI,ZJ,ZK,ZL,ZM,ZN,ZO,ZP,ZQ,ZR,ZS,ZT,ZU,ZV,ZW,ZX,ZY,Z2,Z3,Z4,Z5,Z6,Z7,Z8,Z9,Za,Zb,Zc,Zd,Ze,Zf,Zg,Zh,Nat.reduceAdd,Zi,if_true,if_false,Zl,Zm,Zn,Zo,Zp,Zq,Zr,Zs,Zt,Zu,Zv,Zw,Zx,Zy,Zz,ZA,ZB,ZC,ZD,ZE,hv,hv1,hr1,e1,e2,e3,e4,e5,MO.list,PV.isKind,a0r,Q1,Q2,Q3,Q4,l1,hcall,w3,a0h,hi,hnl,f1,f2',f3,PV.len,PV.rowsOf,hloc,hg,hg2,and_self,Q0,Q7,Q6,a0D,true_or,Q8,Q9,Q5,if_false,MO.elts,hpl2,hrl,hrg,a0E,hrs]; done)
   | (unfold a2J; simp -implicitDefEqProofs only [↓reduceIte,eq_self,ZF,ZG,ZH,ZI,ZJ,ZK,ZL,ZM,ZN,ZO,ZP,ZQ,ZR,ZS,ZT,ZU,ZV,ZW,ZX,ZY,Z2,Z3,Z4,Z5,Z6,Z7,Z8,Z9,Za,Zb,Zc,Zd,Ze,Zf,Zg,Zh,Nat.reduceAdd,Zi,if_true,if_false,Zl,Zm,Zn,Zo,Zp,Zq,Zr,Zs,Zt,Zu,Zv,Zw,Zx,Zy,Zz,ZA,ZB,ZC,ZD,ZE,hv,hv1,hr1,e1,e2,e3,e4,e5,MO.list,PV.isKind,a0r,Q1,Q2,Q3,Q4,l1,hcall,w3,a0h,hi,hnl,f1,f2',f3,PV.len,PV.rowsOf,hloc,hg,hg2,and_self,Q0,Q7,Q6,a0D,true_or,Q8,Q9,Q5,if_false,MO.elts,hpl2,hrl,hrg,a0E,hrs])
   | (unfold a2H; simp -implicitDefEqProofs only [↓reduceIte,eq_self,ZF,ZG,ZH,ZI,ZJ,ZK,ZL,ZM,ZN,ZO,ZP,ZQ,ZR,ZS,ZT,ZU,ZV,ZW,ZX,ZY,Z2,Z3,Z4,Z5,Z6,Z7,Z8,Z9,Za,Zb,Zc,Zd,Ze,Zf,Zg,Zh,Nat.reduceAdd,Zi,if_true,if_false,Zl,Zm,Zn,Zo,Zp,Zq,Zr,Zs,Zt,Zu,Zv,Zw,Zx,Zy,Zz,ZA,ZB,ZC,ZD,ZE,hv,hv1,hr1,e1,e2,e3,e4,e5,MO.list,PV.isKind,a0r,Q1,Q2,Q3,Q4,l1,hcall,w3,a0h,hi,hnl,f1,f2',f3,PV.len,PV.rowsOf,hloc,hg,hg2,and_self,Q0,Q7,Q6,a0D,true_or,Q8,Q9,Q5,if_false,MO.elts,hpl2,hrl,hrg,a0E,hrs]; done)
   | (unfold a2H; simp -implicitDefEqProofs only [↓reduceIte,eq_self,ZF,ZG,ZH,ZI,ZJ,ZK,ZL,ZM,ZN,ZO,ZP,ZQ,ZR,ZS,ZT,ZU,ZV,ZW,ZX,ZY,Z2,Z3,Z4,Z5,Z6,Z7,Z8,Z9,Za,Zb,Zc,Zd,Ze,Zf,Zg,Zh,Nat.reduceAdd,Zi,if_true,if_false,Zl,Zm,Zn,Zo,Zp,Zq,Zr,Zs,Zt,Zu,Zv,Zw,Zx,Zy,Zz,ZA,ZB,ZC,ZD,ZE,hv,hv1,hr1,e1,e2,e3,e4,e5,MO.list,PV.isKind,a0r,Q1,Q2,Q3,Q4,l1,hcall,w3,a0h,hi,hnl,f1,f2',f3,PV.len,PV.rowsOf,hloc,hg,hg2,and_self,Q0,Q7,Q6,a0D,true_or,Q8,Q9,Q5,if_false,MO.elts,hpl2,hrl,hrg,a0E,hrs])
   | (unfold a2G; simp -implicitDefEqProofs only [↓reduceIte,eq_self,ZF,ZG,ZH,ZI,ZJ,ZK,ZL,ZM,ZN,ZO,ZP,ZQ,ZR,ZS,ZT,ZU,ZV,ZW,ZX,ZY,Z2,Z3,Z4,Z5,Z6,Z7,Z8,Z9,Za,Zb,Zc,Zd,Ze,Zf,Zg,Zh,Nat.reduceAdd,Zi,if_true,if_false,Zl,Zm,Zn,Zo,Zp,Zq,Zr,Zs,Zt,Zu,Zv,Zw,Zx,Zy,Zz,ZA,ZB,ZC,ZD,ZE,hv,hv1,hr1,e1,e2,e3,e4,e5,MO.list,PV.isKind,a0r,Q1,Q2,Q3,Q4,l1,hcall,w3,a0h,hi,hnl,f1,f2',f3,PV.len,PV.rowsOf,hloc,hg,hg2,and_self,Q0,Q7,Q6,a0D,true_or,Q8,Q9,Q5,if_false,MO.elts,hpl2,hrl,hrg,a0E,hrs]; done)
   | (unfold a2G; simp -implicitDefEqProofs only [↓reduceIte,eq_self,ZF,ZG,ZH,ZI,ZJ,ZK,ZL,ZM,ZN,ZO,ZP,ZQ,ZR,ZS,ZT,ZU,ZV,ZW,ZX,ZY,Z2,Z3,Z4,Z5,Z6,Z7,Z8,Z9,Za,Zb,Zc,Zd,Ze,Zf,Zg,Zh,Nat.reduceAdd,Zi,if_true,if_false,Zl,Zm,Zn,Zo,Zp,Zq,Zr,Zs,Zt,Zu,Zv,Zw,Zx,Zy,Zz,ZA,ZB,ZC,ZD,ZE,hv,hv1,hr1,e1,e2,e3,e4,e5,MO.list,PV.isKind,a0r,Q1,Q2,Q3,Q4,l1,hcall,w3,a0h,hi,hnl,f1,f2',f3,PV.len,PV.rowsOf,hloc,hg,hg2,and_self,Q0,Q7,Q6,a0D,true_or,Q8,Q9,Q5,if_false,MO.elts,hpl2,hrl,hrg,a0E,hrs])
   | (unfold a2a; simp -implicitDefEqProofs only [↓reduceIte,eq_self,ZF,ZG,ZH,ZI,ZJ,ZK,ZL,ZM,ZN,ZO,ZP,ZQ,ZR,ZS,ZT,ZU,ZV,ZW,ZX,ZY,Z2,Z3,Z4,Z5,Z6,Z7,Z8,Z9,Za,Zb,Zc,Zd,Ze,Zf,Zg,Zh,Nat.reduceAdd,Zi,if_true,if_false,Zl,Zm,Zn,Zo,Zp,Zq,Zr,Zs,Zt,Zu,Zv,Zw,Zx,Zy,Zz,ZA,ZB,ZC,ZD,ZE,hv,hv1,hr1,e1,e2,e3,e4,e5,MO.list,PV.isKind,a0r,Q1,Q2,Q3,Q4,l1,hcall,w3,a0h,hi,hnl,f1,f2',f3,PV.len,PV.rowsOf,hloc,hg,hg2,and_self,Q0,Q7,Q6,a0D,true_or,Q8,Q9,Q5,if_false,MO.elts,hpl2,hrl,hrg,a0E,hrs]; done)
   | (unfold a2a; simp -implicitDefEqProofs only [↓reduceIte,eq_self,ZF,ZG,ZH,ZI,ZJ,ZK,ZL,ZM,ZN,ZO,ZP,ZQ,ZR,ZS,ZT,ZU,ZV,ZW,ZX,ZY,Z2,Z3,Z4,Z5,Z6,Z7,Z8,Z9,Za,Zb,Zc,Zd,Ze,Zf,Zg,Zh,Nat.reduceAdd,Zi,if_true,if_false,Zl,Zm,Zn,Zo,Zp,Zq,Zr,Zs,Zt,Zu,Zv,Zw,Zx,Zy,Zz,ZA,ZB,ZC,ZD,ZE,hv,hv1,hr1,e1,e2,e3,e4,e5,MO.list,PV.isKind,a0r,Q1,Q2,Q3,Q4,l1,hcall,w3,a0h,hi,hnl,f1,f2',f3,PV.len,PV.rowsOf,hloc,hg,hg2,and_self,Q0,Q7,Q6,a0D,true_or,Q8,Q9,Q5,if_false,MO.elts,hpl2,hrl,hrg,a0E,hrs])
   | (unfold a1L; simp -implicitDefEqProofs only [↓reduceIte,eq_self,ZF,ZG,ZH,ZI,ZJ,ZK,ZL,ZM,ZN,ZO,ZP,ZQ,ZR,ZS,ZT,ZU,ZV,ZW,ZX,ZY,Z2,Z3,Z4,Z5,Z6,Z7,Z8,Z9,Za,Zb,Zc,Zd,Ze,Zf,Zg,Zh,Nat.reduceAdd,Zi,if_true,if_false,Zl,Zm,Zn,Zo,Zp,Zq,Zr,Zs,Zt,Zu,Zv,Zw,Zx,Zy,Zz,ZA,ZB,ZC,ZD,ZE,hv,hv1,hr1,e1,e2,e3,e4,e5,MO.list,PV.isKind,a0r,Q1,Q2,Q3,Q4,l1,hcall,w3,a0h,hi,hnl,f1,f2',f3,PV.len,PV.rowsOf,hloc,hg,hg2,and_self,Q0,Q7,Q6,a0D,true_or,Q8,Q9,Q5,if_false,MO.elts,hpl2,hrl,hrg,a0E,hrs]; done)
   | (unfold a1L; simp -implicitDefEqProofs only [↓reduceIte,eq_self,ZF,ZG,ZH,ZI,ZJ,ZK,ZL,ZM,ZN,ZO,ZP,ZQ,ZR,ZS,ZT,ZU,ZV,ZW,ZX,ZY,Z2,Z3,Z4,Z5,Z6,Z7,Z8,Z9,Za,Zb,Zc,Zd,Ze,Zf,Zg,Zh,Nat.reduceAdd,Zi,if_true,if_false,Zl,Zm,Zn,Zo,Zp,Zq,Zr,Zs,Zt,Zu,Zv,Zw,Zx,Zy,Zz,ZA,ZB,ZC,ZD,ZE,hv,hv1,hr1,e1,e2,e3,e4,e5,MO.list,PV.isKind,a0r,Q1,Q2,Q3,Q4,l1,hcall,w3,a0h,hi,hnl,f1,f2',f3,PV.len,PV.rowsOf,hloc,hg,hg2,and_self,Q0,Q7,Q6,a0D,true_or,Q8,Q9,Q5,if_false,MO.elts,hpl2,hrl,hrg,a0E,hrs])
   | (unfold a2o; simp -implicitDefEqProofs only [↓reduceIte,eq_self,ZF,ZG,ZH,ZI,ZJ,ZK,ZL,ZM,ZN,ZO,ZP,ZQ,ZR,ZS,ZT,ZU,ZV,ZW,ZX,ZY,Z2,Z3,Z4,Z5,Z6,Z7,Z8,Z9,Za,Zb,Zc,Zd,Ze,Zf,Zg,Zh,Nat.reduceAdd,Zi,if_true,if_false,Zl,Zm,Zn,Zo,Zp,Zq,Zr,Zs,Zt,Zu,Zv,Zw,Zx,Zy,Zz,ZA,ZB,ZC,ZD,ZE,hv,hv1,hr1,e1,e2,e3,e4,e5,MO.list,PV.isKind,a0r,Q1,Q2,Q3,Q4,l1,hcall,w3,a0h,hi,hnl,f1,f2',f3,PV.len,PV.rowsOf,hloc,hg,hg2,and_self,Q0,Q7,Q6,a0D,true_or,Q8,Q9,Q5,if_false,MO.elts,hpl2,hrl,hrg,a0E,hrs]; done)
   | (unfold a2o; simp -implicitDefEqProofs only [↓reduceIte,eq_self,ZF,ZG,ZH,ZI,ZJ,ZK,ZL,ZM,ZN,ZO,ZP,ZQ,ZR,ZS,ZT,ZU,ZV,ZW,ZX,ZY,Z2,Z3,Z4,Z5,Z6,Z7,Z8,Z9,Za,Zb,Zc,Zd,Ze,Zf,Zg,Zh,Nat.reduceAdd,Zi,if_true,if_false,Zl,Zm,Zn,Zo,Zp,Zq,Zr,Zs,Zt,Zu,Zv,Zw,Zx,Zy,Zz,ZA,ZB,ZC,ZD,ZE,hv,hv1,hr1,e1,e2,e3,e4,e5,MO.list,PV.isKind,a0r,Q1,Q2,Q3,Q4,l1,hcall,w3,a0h,hi,hnl,f1,f2',f3,PV.len,PV.rowsOf,hloc,hg,hg2,and_self,Q0,Q7,Q6,a0D,true_or,Q8,Q9,Q5,if_false,MO.elts,hpl2,hrl,hrg,a0E,hrs])
   | (unfold a2d; simp -implicitDefEqProofs only [↓reduceIte,eq_self,ZF,ZG,ZH,ZI,ZJ,ZK,ZL,ZM,ZN,ZO,ZP,ZQ,ZR,ZS,ZT,ZU,ZV,ZW,ZX,ZY,Z2,Z3,Z4,Z5,Z6,Z7,Z8,Z9,Za,Zb,Zc,Zd,Ze,Zf,Zg,Zh,Nat.reduceAdd,Zi,if_true,if_false,Zl,Zm,Zn,Zo,Zp,Zq,Zr,Zs,Zt,Zu,Zv,Zw,Zx,Zy,Zz,ZA,ZB,ZC,ZD,ZE,hv,hv1,hr1,e1,e2,e3,e4,e5,MO.list,PV.isKind,a0r,Q1,Q2,Q3,Q4,l1,hcall,w3,a0h,hi,hnl,f1,f2',f3,PV.len,PV.rowsOf,hloc,hg,hg2,and_self,Q0,Q7,Q6,a0D,true_or,Q8,Q9,Q5,if_false,MO.elts,hpl2,hrl,hrg,a0E,hrs]; done)
   | (unfold a2d; simp -implicitDefEqProofs only [↓reduceIte,eq_self,ZF,ZG,ZH,ZI,ZJ,ZK,ZL,ZM,ZN,ZO,ZP,ZQ,ZR,ZS,ZT,ZU,ZV,ZW,ZX,ZY,Z2,Z3,Z4,Z5,Z6,Z7,Z8,Z9,Za,Zb,Zc,Zd,Ze,Zf,Zg,Zh,Nat.reduceAdd,Zi,if_true,if_false,Zl,Zm,Zn,Zo,Zp,Zq,Zr,Zs,Zt,Zu,Zv,Zw,Zx,Zy,Zz,ZA,ZB,ZC,ZD,ZE,hv,hv1,hr1,e1,e2,e3,e4,e5,MO.list,PV.isKind,a0r,Q1,Q2,Q3,Q4,l1,hcall,w3,a0h,hi,hnl,f1,f2',f3,PV.len,PV.rowsOf,hloc,hg,hg2,and_self,Q0,Q7,Q6,a0D,true_or,Q8,Q9,Q5,if_false,MO.elts,hpl2,hrl,hrg,a0E,hrs])
   | (unfold a2w; simp -implicitDefEqProofs only [↓reduceIte,eq_self,ZF,ZG,ZH,ZI,ZJ,ZK,ZL,ZM,ZN,ZO,ZP,ZQ,ZR,ZS,ZT,ZU,ZV,ZW,ZX,ZY,Z2,Z3,Z4,Z5,Z6,Z7,Z8,Z9,Za,Zb,Zc,Zd,Ze,Zf,Zg,Zh,Nat.reduceAdd,Zi,if_true,if_false,Zl,Zm,Zn,Zo,Zp,Zq,Zr,Zs,Zt,Zu,Zv,Zw,Zx,Zy,Zz,ZA,ZB,ZC,ZD,ZE,hv,hv1,hr1,e1,e2,e3,e4,e5,MO.list,PV.isKind,a0r,Q1,Q2,Q3,Q4,l1,hcall,w3,a0h,hi,hnl,f1,f2',f3,PV.len,PV.rowsOf,hloc,hg,hg2,and_self,Q0,Q7,Q6,a0D,true_or,Q8,Q9,Q5,if_false,MO.elts,hpl2,hrl,hrg,a0E,hrs]; done)
   | (unfold a2w; simp -implicitDefEqProofs only [↓reduceIte,eq_self,ZF,ZG,ZH,ZI,ZJ,ZK,ZL,ZM,ZN,ZO,ZP,ZQ,ZR,ZS,ZT,ZU,ZV,ZW,ZX,ZY,Z2,Z3,Z4,Z5,Z6,Z7,Z8,Z9,Za,Zb,Zc,Zd,Ze,Zf,Zg,Zh,Nat.reduceAdd,Zi,if_true,if_false,Zl,Zm,Zn,Zo,Zp,Zq,Zr,Zs,Zt,Zu,Zv,Zw,Zx,Zy,Zz,ZA,ZB,ZC,ZD,ZE,hv,hv1,hr1,e1,e2,e3,e4,e5,MO.list,PV.isKind,a0r,Q1,Q2,Q3,Q4,l1,hcall,w3,a0h,hi,hnl,f1,f2',f3,PV.len,PV.rowsOf,hloc,hg,hg2,and_self,Q0,Q7,Q6,a0D,true_or,Q8,Q9,Q5,if_false,MO.elts,hpl2,hrl,hrg,a0E,hrs])
   | (unfold a2f; simp -implicitDefEqProofs only [↓reduceIte,eq_self,ZF,ZG,ZH,ZI,ZJ,ZK,ZL,ZM,ZN,ZO,ZP,ZQ,ZR,ZS,ZT,ZU,ZV,ZW,ZX,ZY,Z2,Z3,Z4,Z5,Z6,Z7,Z8,Z9,Za,Zb,Zc,Zd,Ze,Zf,Zg,Zh,Nat.reduceAdd,Zi,if_true,if_false,Zl,Zm,Zn,Zo,Zp,Zq,Zr,Zs,Zt,Zu,Zv,Zw,Zx,Zy,Zz,ZA,ZB,ZC,ZD,ZE,hv,hv1,hr1,e1,e2,e3,e4,e5,MO.list,PV.isKind,a0r,Q1,Q2,Q3,Q4,l1,hcall,w3,a0h,hi,hnl,f1,f2',f3,PV.len,PV.rowsOf,hloc,hg,hg2,and_self,Q0,Q7,Q6,a0D,true_or,Q8,Q9,Q5,if_false,MO.elts,hpl2,hrl,hrg,a0E,hrs]; done)
   | (unfold a2f; simp -implicitDefEqProofs only [↓reduceIte,eq_self,ZF,ZG,ZH,ZI,ZJ,ZK,ZL,ZM,ZN,ZO,ZP,ZQ,ZR,ZS,ZT,ZU,ZV,ZW,ZX,ZY,Z2,Z3,Z4,Z5,Z6,Z7,Z8,Z9,Za,Zb,Zc,Zd,Ze,Zf,Zg,Zh,Nat.reduceAdd,Zi,if_true,if_false,Zl,Zm,Zn,Zo,Zp,Zq,Zr,Zs,Zt,Zu,Zv,Zw,Zx,Zy,Zz,ZA,ZB,ZC,ZD,ZE,hv,hv1,hr1,e1,e2,e3,e4,e5,MO.list,PV.isKind,a0r,Q1,Q2,Q3,Q4,l1,hcall,w3,a0h,hi,hnl,f1,f2',f3,PV.len,PV.rowsOf,hloc,hg,hg2,and_self,Q0,Q7,Q6,a0D,true_or,Q8,Q9,Q5,if_false,MO.elts,hpl2,hrl,hrg,a0E,hrs])
   | (unfold a2t; simp -implicitDefEqProofs only [↓reduceIte,eq_self,ZF,ZG,ZH,ZI,ZJ,ZK,ZL,ZM,ZN,ZO,ZP,ZQ,ZR,ZS,ZT,ZU,ZV,ZW,ZX,ZY,Z2,Z3,Z4,Z5,Z6,Z7,Z8,Z9,Za,Zb,Zc,Zd,Ze,Zf,Zg,Zh,Nat.reduceAdd,Zi,if_true,if_false,Zl,Zm,Zn,Zo,Zp,Zq,Zr,Zs,Zt,Zu,Zv,Zw,Zx,Zy,Zz,ZA,ZB,ZC,ZD,ZE,hv,hv1,hr1,e1,e2,e3,e4,e5,MO.list,PV.isKind,a0r,Q1,Q2,Q3,Q4,l1,hcall,w3,a0h,hi,hnl,f1,f2',f3,PV.len,PV.rowsOf,hloc,hg,hg2,and_self,Q0,Q7,Q6,a0D,true_or,Q8,Q9,Q5,if_false,MO.elts,hpl2,hrl,hrg,a0E,hrs]; done)
   | (unfold a2t; simp -implicitDefEqProofs only [↓reduceIte,eq_self,ZF,ZG,ZH,ZI,ZJ,ZK,ZL,ZM,ZN,ZO,ZP,ZQ,ZR,ZS,ZT,ZU,ZV,ZW,ZX,ZY,Z2,Z3,Z4,Z5,Z6,Z7,Z8,Z9,Za,Zb,Zc,Zd,Ze,Zf,Zg,Zh,Nat.reduceAdd,Zi,if_true,if_false,Zl,Zm,Zn,Zo,Zp,Zq,Zr,Zs,Zt,Zu,Zv,Zw,Zx,Zy,Zz,ZA,ZB,ZC,ZD,ZE,hv,hv1,hr1,e1,e2,e3,e4,e5,MO.list,PV.isKind,a0r,Q1,Q2,Q3,Q4,l1,hcall,w3,a0h,hi,hnl,f1,f2',f3,PV.len,PV.rowsOf,hloc,hg,hg2,and_self,Q0,Q7,Q6,a0D,true_or,Q8,Q9,Q5,if_false,MO.elts,hpl2,hrl,hrg,a0E,hrs])
   | (unfold a1S; simp -implicitDefEqProofs only [↓reduceIte,eq_self,ZF,ZG,ZH,ZI,ZJ,ZK,ZL,ZM,ZN,ZO,ZP,ZQ,ZR,ZS,ZT,ZU,ZV,ZW,ZX,ZY,Z2,Z3,Z4,Z5,Z6,Z7,Z8,Z9,Za,Zb,Zc,Zd,Ze,Zf,Zg,Zh,Nat.reduceAdd,Zi,if_true,if_false,Zl,Zm,Zn,Zo,Zp,Zq,Zr,Zs,Zt,Zu,Zv,Zw,Zx,Zy,Zz,ZA,ZB,ZC,ZD,ZE,hv,hv1,hr1,e1,e2,e3,e4,e5,MO.list,PV.isKind,a0r,Q1,Q2,Q3,Q4,l1,hcall,w3,a0h,hi,hnl,f1,f2',f3,PV.len,PV.rowsOf,hloc,hg,hg2,and_self,Q0,Q7,Q6,a0D,true_or,Q8,Q9,Q5,if_false,MO.elts,hpl2,hrl,hrg,a0E,hrs]; done)
   | (unfold a1S; simp -implicitDefEqProofs only [↓reduceIte,eq_self,ZF,ZG,ZH,ZI,ZJ,ZK,ZL,ZM,ZN,ZO,ZP,ZQ,ZR,ZS,ZT,ZU,ZV,ZW,ZX,ZY,Z2,Z3,Z4,Z5,Z6,Z7,Z8,Z9,Za,Zb,Zc,Zd,Ze,Zf,Zg,Zh,Nat.reduceAdd,Zi,if_true,if_false,Zl,Zm,Zn,Zo,Zp,Zq,Zr,Zs,Zt,Zu,Zv,Zw,Zx,Zy,Zz,ZA,ZB,ZC,ZD,ZE,hv,hv1,hr1,e1,e2,e3,e4,e5,MO.list,PV.isKind,a0r,Q1,Q2,Q3,Q4,l1,hcall,w3,a0h,hi,hnl,f1,f2',f3,PV.len,PV.rowsOf,hloc,hg,hg2,and_self,Q0,Q7,Q6,a0D,true_or,Q8,Q9,Q5,if_false,MO.elts,hpl2,hrl,hrg,a0E,hrs])
   | (unfold a2h; simp -implicitDefEqProofs only [↓reduceIte,eq_self,ZF,ZG,ZH,ZI,ZJ,ZK,ZL,ZM,ZN,ZO,ZP,ZQ,ZR,ZS,ZT,ZU,ZV,ZW,ZX,ZY,Z2,Z3,Z4,Z5,Z6,Z7,Z8,Z9,Za,Zb,Zc,Zd,Ze,Zf,Zg,Zh,Nat.reduceAdd,Zi,if_true,if_false,Zl,Zm,Zn,Zo,Zp,Zq,Zr,Zs,Zt,Zu,Zv,Zw,Zx,Zy,Zz,ZA,ZB,ZC,ZD,ZE,hv,hv1,hr1,e1,e2,e3,e4,e5,MO.list,PV.isKind,a0r,Q1,Q2,Q3,Q4,l1,hcall,w3,a0h,hi,hnl,f1,f2',f3,PV.len,PV.rowsOf,hloc,hg,hg2,and_self,Q0,Q7,Q6,a0D,true_or,Q8,Q9,Q5,if_false,MO.elts,hpl2,hrl,hrg,a0E,hrs]; done)
   | (unfold a2h; simp -implicitDefEqProofs only [↓reduceIte,eq_self,ZF,ZG,ZH,ZI,ZJ,ZK,ZL,ZM,ZN,ZO,ZP,ZQ,ZR,ZS,ZT,ZU,ZV,ZW,ZX,ZY,Z2,Z3,Z4,Z5,Z6,Z7,Z8,Z9,Za,Zb,Zc,Zd,Ze,Zf,Zg,Zh,Nat.reduceAdd,Zi,if_true,if_false,Zl,Zm,Zn,Zo,Zp,Zq,Zr,Zs,Zt,Zu,Zv,Zw,Zx,Zy,Zz,ZA,ZB,ZC,ZD,ZE,hv,hv1,hr1,e1,e2,e3,e4,e5,MO.list,PV.isKind,a0r,Q1,Q2,Q3,Q4,l1,hcall,w3,a0h,hi,hnl,f1,f2',f3,PV.len,PV.rowsOf,hloc,hg,hg2,and_self,Q0,Q7,Q6,a0D,true_or,Q8,Q9,Q5,if_false,MO.elts,hpl2,hrl,hrg,a0E,hrs])
   | (unfold a1R; simp -implicitDefEqProofs only [↓reduceIte,eq_self,ZF,ZG,ZH,ZI,ZJ,ZK,ZL,ZM,ZN,ZO,ZP,ZQ,ZR,ZS,ZT,ZU,ZV,ZW,ZX,ZY,Z2,Z3,Z4,Z5,Z6,Z7,Z8,Z9,Za,Zb,Zc,Zd,Ze,Zf,Zg,Zh,Nat.reduceAdd,Zi,if_true,if_false,Zl,Zm,Zn,Zo,Zp,Zq,Zr,Zs,Zt,Zu,Zv,Zw,Zx,Zy,Zz,ZA,ZB,ZC,ZD,ZE,hv,hv1,hr1,e1,e2,e3,e4,e5,MO.list,PV.isKind,a0r,Q1,Q2,Q3,Q4,l1,hcall,w3,a0h,hi,hnl,f1,f2',f3,PV.len,PV.rowsOf,hloc,hg,hg2,and_self,Q0,Q7,Q6,a0D,true_or,Q8,Q9,Q5,if_false,MO.elts,hpl2,hrl,hrg,a0E,hrs]; done)
   | (unfold a1R; simp -implicitDefEqProofs only [↓reduceIte,eq_self,ZF,ZG,ZH,ZI,ZJ,ZK,ZL,ZM,ZN,ZO,ZP,ZQ,ZR,ZS,ZT,ZU,ZV,ZW,ZX,ZY,Z2,Z3,Z4,Z5,Z6,Z7,Z8,Z9,Za,Zb,Zc,Zd,Ze,Zf,Zg,Zh,Nat.reduceAdd,Zi,if_true,if_false,Zl,Zm,Zn,Zo,Zp,Zq,Zr,Zs,Zt,Zu,Zv,Zw,Zx,Zy,Zz,ZA,ZB,ZC,ZD,ZE,hv,hv1,hr1,e1,e2,e3,e4,e5,MO.list,PV.isKind,a0r,Q1,Q2,Q3,Q4,l1,hcall,w3,a0h,hi,hnl,f1,f2',f3,PV.len,PV.rowsOf,hloc,hg,hg2,and_self,Q0,Q7,Q6,a0D,true_or,Q8,Q9,Q5,if_false,MO.elts,hpl2,hrl,hrg,a0E,hrs])
   | (unfold a2n; simp -implicitDefEqProofs only [↓reduceIte,eq_self,ZF,ZG,ZH,ZI,ZJ,ZK,ZL,ZM,ZN,ZO,ZP,ZQ,ZR,ZS,ZT,ZU,ZV,ZW,ZX,ZY,Z2,Z3,Z4,Z5,Z6,Z7,Z8,Z9,Za,Zb,Zc,Zd,Ze,Zf,Zg,Zh,Nat.reduceAdd,Zi,if_true,if_false,Zl,Zm,Zn,Zo,Zp,Zq,Zr,Zs,Zt,Zu,Zv,Zw,Zx,Zy,Zz,ZA,ZB,ZC,ZD,ZE,hv,hv1,hr1,e1,e2,e3,e4,e5,MO.list,PV.isKind,a0r,Q1,Q2,Q3,Q4,l1,hcall,w3,a0h,hi,hnl,f1,f2',f3,PV.len,PV.rowsOf,hloc,hg,hg2,and_self,Q0,Q7,Q6,a0D,true_or,Q8,Q9,Q5,if_false,MO.elts,hpl2,hrl,hrg,a0E,hrs]; done)
   | (unfold a2n; simp -implicitDefEqProofs only [↓reduceIte,eq_self,ZF,ZG,ZH,ZI,ZJ,ZK,ZL,ZM,ZN,ZO,ZP,ZQ,ZR,ZS,ZT,ZU,ZV,ZW,ZX,ZY,Z2,Z3,Z4,Z5,Z6,Z7,Z8,Z9,Za,Zb,Zc,Zd,Ze,Zf,Zg,Zh,Nat.reduceAdd,Zi,if_true,if_false,Zl,Zm,Zn,Zo,Zp,Zq,Zr,Zs,Zt,Zu,Zv,Zw,Zx,Zy,Zz,ZA,ZB,ZC,ZD,ZE,hv,hv1,hr1,e1,e2,e3,e4,e5,MO.list,PV.isKind,a0r,Q1,Q2,Q3,Q4,l1,hcall,w3,a0h,hi,hnl,f1,f2',f3,PV.len,PV.rowsOf,hloc,hg,hg2,and_self,Q0,Q7,Q6,a0D,true_or,Q8,Q9,Q5,if_false,MO.elts,hpl2,hrl,hrg,a0E,hrs])
   | (unfold a1N; simp -implicitDefEqProofs only [↓reduceIte,eq_self,ZF,ZG,ZH,ZI,ZJ,ZK,ZL,ZM,ZN,ZO,ZP,ZQ,ZR,ZS,ZT,ZU,ZV,ZW,ZX,ZY,Z2,Z3,Z4,Z5,Z6,Z7,Z8,Z9,Za,Zb,Zc,Zd,Ze,Zf,Zg,Zh,Nat.reduceAdd,Zi,if_true,if_false,Zl,Zm,Zn,Zo,Zp,Zq,Zr,Zs,Zt,Zu,Zv,Zw,Zx,Zy,Zz,ZA,ZB,ZC,ZD,ZE,hv,hv1,hr1,e1,e2,e3,e4,e5,MO.list,PV.isKind,a0r,Q1,Q2,Q3,Q4,l1,hcall,w3,a0h,hi,hnl,f1,f2',f3,PV.len,PV.rowsOf,hloc,hg,hg2,and_self,Q0,Q7,Q6,a0D,true_or,Q8,Q9,Q5,if_false,MO.elts,hpl2,hrl,hrg,a0E,hrs]; done)
   | (unfold a1N; simp -implicitDefEqProofs only [↓reduceIte,eq_self,ZF,ZG,ZH,ZI,ZJ,ZK,ZL,ZM,ZN,ZO,ZP,ZQ,ZR,ZS,ZT,ZU,ZV,ZW,ZX,ZY,Z2,Z3,Z4,Z5,Z6,Z7,Z8,Z9,Za,Zb,Zc,Zd,Ze,Zf,Zg,Zh,Nat.reduceAdd,Zi,if_true,if_false,Zl,Zm,Zn,Zo,Zp,Zq,Zr,Zs,Zt,Zu,Zv,Zw,Zx,Zy,Zz,ZA,ZB,ZC,ZD,ZE,hv,hv1,hr1,e1,e2,e3,e4,e5,MO.list,PV.isKind,a0r,Q1,Q2,Q3,Q4,l1,hcall,w3,a0h,hi,hnl,f1,f2',f3,PV.len,PV.rowsOf,hloc,hg,hg2,and_self,Q0,Q7,Q6,a0D,true_or,Q8,Q9,Q5,if_false,MO.elts,hpl2,hrl,hrg,a0E,hrs])
   | (unfold a2r; simp -implicitDefEqProofs only [↓reduceIte,eq_self,ZF,ZG,ZH,ZI,ZJ,ZK,ZL,ZM,ZN,ZO,ZP,ZQ,ZR,ZS,ZT,ZU,ZV,ZW,ZX,ZY,Z2,Z3,Z4,Z5,Z6,Z7,Z8,Z9,Za,Zb,Zc,Zd,Ze,Zf,Zg,Zh,Nat.reduceAdd,Zi,if_true,if_false,Zl,Zm,Zn,Zo,Zp,Zq,Zr,Zs,Zt,Zu,Zv,Zw,Zx,Zy,Zz,ZA,ZB,ZC,ZD,ZE,hv,hv1,hr1,e1,e2,e3,e4,e5,MO.list,PV.isKind,a0r,Q1,Q2,Q3,Q4,l1,hcall,w3,a0h,hi,hnl,f1,f2',f3,PV.len,PV.rowsOf,hloc,hg,hg2,and_self,Q0,Q7,Q6,a0D,true_or,Q8,Q9,Q5,if_false,MO.elts,hpl2,hrl,hrg,a0E,hrs]; done)
   | (unfold a2r; simp -implicitDefEqProofs only [↓reduceIte,eq_self,ZF,ZG,ZH,ZI,ZJ,ZK,ZL,ZM,ZN,ZO,ZP,ZQ,ZR,ZS,ZT,ZU,ZV,ZW,ZX,ZY,Z2,Z3,Z4,Z5,Z6,Z7,Z8,Z9,Za,Zb,Zc,Zd,Ze,Zf,Zg,Zh,Nat.reduceAdd,Zi,if_true,if_false,Zl,Zm,Zn,Zo,Zp,Zq,Zr,Zs,Zt,Zu,Zv,Zw,Zx,Zy,Zz,ZA,ZB,ZC,ZD,ZE,hv,hv1,hr1,e1,e2,e3,e4,e5,MO.list,PV.isKind,a0r,Q1,Q2,Q3,Q4,l1,hcall,w3,a0h,hi,hnl,f1,f2',f3,PV.len,PV.rowsOf,hloc,hg,hg2,and_self,Q0,Q7,Q6,a0D,true_or,Q8,Q9,Q5,if_false,MO.elts,hpl2,hrl,hrg,a0E,hrs])
   | (unfold a1P; simp -implicitDefEqProofs only [↓reduceIte,eq_self,ZF,ZG,ZH,ZI,ZJ,ZK,ZL,ZM,ZN,ZO,ZP,ZQ,ZR,ZS,ZT,ZU,ZV,ZW,ZX,ZY,Z2,Z3,Z4,Z5,Z6,Z7,Z8,Z9,Za,Zb,Zc,Zd,Ze,Zf,Zg,Zh,Nat.reduceAdd,Zi,if_true,if_false,Zl,Zm,Zn,Zo,Zp,Zq,Zr,Zs,Zt,Zu,Zv,Zw,Zx,Zy,Zz,ZA,ZB,ZC,ZD,ZE,hv,hv1,hr1,e1,e2,e3,e4,e5,MO.list,PV.isKind,a0r,Q1,Q2,Q3,Q4,l1,hcall,w3,a0h,hi,hnl,f1,f2',f3,PV.len,PV.rowsOf,hloc,hg,hg2,and_self,Q0,Q7,Q6,a0D,true_or,Q8,Q9,Q5,if_false,MO.elts,hpl2,hrl,hrg,a0E,hrs]; done)
   | (unfold a1P; simp -implicitDefEqProofs only [↓reduceIte,eq_self,ZF,ZG,ZH,ZI,ZJ,ZK,ZL,ZM,ZN,ZO,ZP,ZQ,ZR,ZS,ZT,ZU,ZV,ZW,ZX,ZY,Z2,Z3,Z4,Z5,Z6,Z7,Z8,Z9,Za,Zb,Zc,Zd,Ze,Zf,Zg,Zh,Nat.reduceAdd,Zi,if_true,if_false,Zl,Zm,Zn,Zo,Zp,Zq,Zr,Zs,Zt,Zu,Zv,Zw,Zx,Zy,Zz,ZA,ZB,ZC,ZD,ZE,hv,hv1,hr1,e1,e2,e3,e4,e5,MO.list,PV.isKind,a0r,Q1,Q2,Q3,Q4,l1,hcall,w3,a0h,hi,hnl,f1,f2',f3,PV.len,PV.rowsOf,hloc,hg,hg2,and_self,Q0,Q7,Q6,a0D,true_or,Q8,Q9,Q5,if_false,MO.elts,hpl2,hrl,hrg,a0E,hrs])
   | (unfold a2k; simp -implicitDefEqProofs only [↓reduceIte,eq_self,ZF,ZG,ZH,ZI,ZJ,ZK,ZL,ZM,ZN,ZO,ZP,ZQ,ZR,ZS,ZT,ZU,ZV,ZW,ZX,ZY,Z2,Z3,Z4,Z5,Z6,Z7,Z8,Z9,Za,Zb,Zc,Zd,Ze,Zf,Zg,Zh,Nat.reduceAdd,Zi,if_true,if_false,Zl,Zm,Zn,Zo,Zp,Zq,Zr,Zs,Zt,Zu,Zv,Zw,Zx,Zy,Zz,ZA,ZB,ZC,ZD,ZE,hv,hv1,hr1,e1,e2,e3,e4,e5,MO.list,PV.isKind,a0r,Q1,Q2,Q3,Q4,l1,hcall,w3,a0h,hi,hnl,f1,f2',f3,PV.len,PV.rowsOf,hloc,hg,hg2,and_self,Q0,Q7,Q6,a0D,true_or,Q8,Q9,Q5,if_false,MO.elts,hpl2,hrl,hrg,a0E,hrs]; done)
   | (unfold a2k; simp -implicitDefEqProofs only [↓reduceIte,eq_self,ZF,ZG,ZH,ZI,ZJ,ZK,ZL,ZM,ZN,ZO,ZP,ZQ,ZR,ZS,ZT,ZU,ZV,ZW,ZX,ZY,Z2,Z3,Z4,Z5,Z6,Z7,Z8,Z9,Za,Zb,Zc,Zd,Ze,Zf,Zg,Zh,Nat.reduceAdd,Zi,if_true,if_false,Zl,Zm,Zn,Zo,Zp,Zq,Zr,Zs,Zt,Zu,Zv,Zw,Zx,Zy,Zz,ZA,ZB,ZC,ZD,ZE,hv,hv1,hr1,e1,e2,e3,e4,e5,MO.list,PV.isKind,a0r,Q1,Q2,Q3,Q4,l1,hcall,w3,a0h,hi,hnl,f1,f2',f3,PV.len,PV.rowsOf,hloc,hg,hg2,and_self,Q0,Q7,Q6,a0D,true_or,Q8,Q9,Q5,if_false,MO.elts,hpl2,hrl,hrg,a0E,hrs])
   | (unfold a2v; simp -implicitDefEqProofs only [↓reduceIte,eq_self,ZF,ZG,ZH,ZI,ZJ,ZK,ZL,ZM,ZN,ZO,ZP,ZQ,ZR,ZS,ZT,ZU,ZV,ZW,ZX,ZY,Z2,Z3,Z4,Z5,Z6,Z7,Z8,Z9,Za,Zb,Zc,Zd,Ze,Zf,Zg,Zh,Nat.reduceAdd,Zi,if_true,if_false,Zl,Zm,Zn,Zo,Zp,Zq,Zr,Zs,Zt,Zu,Zv,Zw,Zx,Zy,Zz,ZA,ZB,ZC,ZD,ZE,hv,hv1,hr1,e1,e2,e3,e4,e5,MO.list,PV.isKind,a0r,Q1,Q2,Q3,Q4,l1,hcall,w3,a0h,hi,hnl,f1,f2',f3,PV.len,PV.rowsOf,hloc,hg,hg2,and_self,Q0,Q7,Q6,a0D,true_or,Q8,Q9,Q5,if_false,MO.elts,hpl2,hrl,hrg,a0E,hrs]; done)
   | (unfold a2v; simp -implicitDefEqProofs only [↓reduceIte,eq_self,ZF,ZG,ZH,ZI,ZJ,ZK,ZL,ZM,ZN,ZO,ZP,ZQ,ZR,ZS,ZT,ZU,ZV,ZW,ZX,ZY,Z2,Z3,Z4,Z5,Z6,Z7,Z8,Z9,Za,Zb,Zc,Zd,Ze,Zf,Zg,Zh,Nat.reduceAdd,Zi,if_true,if_false,Zl,Zm,Zn,Zo,Zp,Zq,Zr,Zs,Zt,Zu,Zv,Zw,Zx,Zy,Zz,ZA,ZB,ZC,ZD,ZE,hv,hv1,hr1,e1,e2,e3,e4,e5,MO.list,PV.isKind,a0r,Q1,Q2,Q3,Q4,l1,hcall,w3,a0h,hi,hnl,f1,f2',f3,PV.len,PV.rowsOf,hloc,hg,hg2,and_self,Q0,Q7,Q6,a0D,true_or,Q8,Q9,Q5,if_false,MO.elts,hpl2,hrl,hrg,a0E,hrs])
   | (unfold a2b; simp -implicitDefEqProofs only [↓reduceIte,eq_self,ZF,ZG,ZH,ZI,ZJ,ZK,ZL,ZM,ZN,ZO,ZP,ZQ,ZR,ZS,ZT,ZU,ZV,ZW,ZX,ZY,Z2,Z3,Z4,Z5,Z6,Z7,Z8,Z9,Za,Zb,Zc,Zd,Ze,Zf,Zg,Zh,Nat.reduceAdd,Zi,if_true,if_false,Zl,Zm,Zn,Zo,Zp,Zq,Zr,Zs,Zt,Zu,Zv,Zw,Zx,Zy,Zz,ZA,ZB,ZC,ZD,ZE,hv,hv1,hr1,e1,e2,e3,e4,e5,MO.list,PV.isKind,a0r,Q1,Q2,Q3,Q4,l1,hcall,w3,a0h,hi,hnl,f1,f2',f3,PV.len,PV.rowsOf,hloc,hg,hg2,and_self,Q0,Q7,Q6,a0D,true_or,Q8,Q9,Q5,if_false,MO.elts,hpl2,hrl,hrg,a0E,hrs]; done)
   | (unfold a2b; simp -implicitDefEqProofs only [↓reduceIte,eq_self,ZF,ZG,ZH,ZI,ZJ,ZK,ZL,ZM,ZN,ZO,ZP,ZQ,ZR,ZS,ZT,ZU,ZV,ZW,ZX,ZY,Z2,Z3,Z4,Z5,Z6,Z7,Z8,Z9,Za,Zb,Zc,Zd,Ze,Zf,Zg,Zh,Nat.reduceAdd,Zi,if_true,if_false,Zl,Zm,Zn,Zo,Zp,Zq,Zr,Zs,Zt,Zu,Zv,Zw,Zx,Zy,Zz,ZA,ZB,ZC,ZD,ZE,hv,hv1,hr1,e1,e2,e3,e4,e5,MO.list,PV.isKind,a0r,Q1,Q2,Q3,Q4,l1,hcall,w3,a0h,hi,hnl,f1,f2',f3,PV.len,PV.rowsOf,hloc,hg,hg2,and_self,Q0,Q7,Q6,a0D,true_or,Q8,Q9,Q5,if_false,MO.elts,hpl2,hrl,hrg,a0E,hrs])
   | (unfold a2m; simp -implicitDefEqProofs only [↓reduceIte,eq_self,ZF,ZG,ZH,ZI,ZJ,ZK,ZL,ZM,ZN,ZO,ZP,ZQ,ZR,ZS,ZT,ZU,ZV,ZW,ZX,ZY,Z2,Z3,Z4,Z5,Z6,Z7,Z8,Z9,Za,Zb,Zc,Zd,Ze,Zf,Zg,Zh,Nat.reduceAdd,Zi,if_true,if_false,Zl,Zm,Zn,Zo,Zp,Zq,Zr,Zs,Zt,Zu,Zv,Zw,Zx,Zy,Zz,ZA,ZB,ZC,ZD,ZE,hv,hv1,hr1,e1,e2,e3,e4,e5,MO.list,PV.isKind,a0r,Q1,Q2,Q3,Q4,l1,hcall,w3,a0h,hi,hnl,f1,f2',f3,PV.len,PV.rowsOf,hloc,hg,hg2,and_self,Q0,Q7,Q6,a0D,true_or,Q8,Q9,Q5,if_false,MO.elts,hpl2,hrl,hrg,a0E,hrs]; done)
   | (unfold a2m; simp -implicitDefEqProofs only [↓reduceIte,eq_self,ZF,ZG,ZH,ZI,ZJ,ZK,ZL,ZM,ZN,ZO,ZP,ZQ,ZR,ZS,ZT,ZU,ZV,ZW,ZX,ZY,Z2,Z3,Z4,Z5,Z6,Z7,Z8,Z9,Za,Zb,Zc,Zd,Ze,Zf,Zg,Zh,Nat.reduceAdd,Zi,if_true,if_false,Zl,Zm,Zn,Zo,Zp,Zq,Zr,Zs,Zt,Zu,Zv,Zw,Zx,Zy,Zz,ZA,ZB,ZC,ZD,ZE,hv,hv1,hr1,e1,e2,e3,e4,e5,MO.list,PV.isKind,a0r,Q1,Q2,Q3,Q4,l1,hcall,w3,a0h,hi,hnl,f1,f2',f3,PV.len,PV.rowsOf,hloc,hg,hg2,and_self,Q0,Q7,Q6,a0D,true_or,Q8,Q9,Q5,if_false,MO.elts,hpl2,hrl,hrg,a0E,hrs])
   | (unfold a1W; simp -implicitDefEqProofs only [↓reduceIte,eq_self,ZF,ZG,ZH,ZI,ZJ,ZK,ZL,ZM,ZN,ZO,ZP,ZQ,ZR,ZS,ZT,ZU,ZV,ZW,ZX,ZY,Z2,Z3,Z4,Z5,Z6,Z7,Z8,Z9,Za,Zb,Zc,Zd,Ze,Zf,Zg,Zh,Nat.reduceAdd,Zi,if_true,if_false,Zl,Zm,Zn,Zo,Zp,Zq,Zr,Zs,Zt,Zu,Zv,Zw,Zx,Zy,Zz,ZA,ZB,ZC,ZD,ZE,hv,hv1,hr1,e1,e2,e3,e4,e5,MO.list,PV.isKind,a0r,Q1,Q2,Q3,Q4,l1,hcall,w3,a0h,hi,hnl,f1,f2',f3,PV.len,PV.rowsOf,hloc,hg,hg2,and_self,Q0,Q7,Q6,a0D,true_or,Q8,Q9,Q5,if_false,MO.elts,hpl2,hrl,hrg,a0E,hrs]; done)
   | (unfold a1W; simp -implicitDefEqProofs only [↓reduceIte,eq_self,ZF,ZG,ZH,ZI,ZJ,ZK,ZL,ZM,ZN,ZO,ZP,ZQ,ZR,ZS,ZT,ZU,ZV,ZW,ZX,ZY,Z2,Z3,Z4,Z5,Z6,Z7,Z8,Z9,Za,Zb,Zc,Zd,Ze,Zf,Zg,Zh,Nat.reduceAdd,Zi,if_true,if_false,Zl,Zm,Zn,Zo,Zp,Zq,Zr,Zs,Zt,Zu,Zv,Zw,Zx,Zy,Zz,ZA,ZB,ZC,ZD,ZE,hv,hv1,hr1,e1,e2,e3,e4,e5,MO.list,PV.isKind,a0r,Q1,Q2,Q3,Q4,l1,hcall,w3,a0h,hi,hnl,f1,f2',f3,PV.len,PV.rowsOf,hloc,hg,hg2,and_self,Q0,Q7,Q6,a0D,true_or,Q8,Q9,Q5,if_false,MO.elts,hpl2,hrl,hrg,a0E,hrs])
   | (unfold a2s; simp -implicitDefEqProofs only [↓reduceIte,eq_self,ZF,ZG,ZH,ZI,ZJ,ZK,ZL,ZM,ZN,ZO,ZP,ZQ,ZR,ZS,ZT,ZU,ZV,ZW,ZX,ZY,Z2,Z3,Z4,Z5,Z6,Z7,Z8,Z9,Za,Zb,Zc,Zd,Ze,Zf,Zg,Zh,Nat.reduceAdd,Zi,if_true,if_false,Zl,Zm,Zn,Zo,Zp,Zq,Zr,Zs,Zt,Zu,Zv,Zw,Zx,Zy,Zz,ZA,ZB,ZC,ZD,ZE,hv,hv1,hr1,e1,e2,e3,e4,e5,MO.list,PV.isKind,a0r,Q1,Q2,Q3,Q4,l1,hcall,w3,a0h,hi,hnl,f1,f2',f3,PV.len,PV.rowsOf,hloc,hg,hg2,and_self,Q0,Q7,Q6,a0D,true_or,Q8,Q9,Q5,if_false,MO.elts,hpl2,hrl,hrg,a0E,hrs]; done)
   | (unfold a2s; simp -implicitDefEqProofs only [↓reduceIte,eq_self,ZF,ZG,ZH,ZI,ZJ,ZK,ZL,ZM,ZN,ZO,ZP,ZQ,ZR,ZS,ZT,ZU,ZV,ZW,ZX,ZY,Z2,Z3,Z4,Z5,Z6,Z7,Z8,Z9,Za,Zb,Zc,Zd,Ze,Zf,Zg,Zh,Nat.reduceAdd,Zi,if_true,if_false,Zl,Zm,Zn,Zo,Zp,Zq,Zr,Zs,Zt,Zu,Zv,Zw,Zx,Zy,Zz,ZA,ZB,ZC,ZD,ZE,hv,hv1,hr1,e1,e2,e3,e4,e5,MO.list,PV.isKind,a0r,Q1,Q2,Q3,Q4,l1,hcall,w3,a0h,hi,hnl,f1,f2',f3,PV.len,PV.rowsOf,hloc,hg,hg2,and_self,Q0,Q7,Q6,a0D,true_or,Q8,Q9,Q5,if_false,MO.elts,hpl2,hrl,hrg,a0E,hrs])
   | (unfold a2l; simp -implicitDefEqProofs only [↓reduceIte,eq_self,ZF,ZG,ZH,ZI,ZJ,ZK,ZL,ZM,ZN,ZO,ZP,ZQ,ZR,ZS,ZT,ZU,ZV,ZW,ZX,ZY,Z2,Z3,Z4,Z5,Z6,Z7,Z8,Z9,Za,Zb,Zc,Zd,Ze,Zf,Zg,Zh,Nat.reduceAdd,Zi,if_true,if_false,Zl,Zm,Zn,Zo,Zp,Zq,Zr,Zs,Zt,Zu,Zv,Zw,Zx,Zy,Zz,ZA,ZB,ZC,ZD,ZE,hv,hv1,hr1,e1,e2,e3,e4,e5,MO.list,PV.isKind,a0r,Q1,Q2,Q3,Q4,l1,hcall,w3,a0h,hi,hnl,f1,f2',f3,PV.len,PV.rowsOf,hloc,hg,hg2,and_self,Q0,Q7,Q6,a0D,true_or,Q8,Q9,Q5,if_false,MO.elts,hpl2,hrl,hrg,a0E,hrs]; done)
   | (unfold a2l; simp -implicitDefEqProofs only [↓reduceIte,eq_self,ZF,ZG,ZH,ZI,ZJ,ZK,ZL,ZM,ZN,ZO,ZP,ZQ,ZR,ZS,ZT,ZU,ZV,ZW,ZX,ZY,Z2,Z3,Z4,Z5,Z6,Z7,Z8,Z9,Za,Zb,Zc,Zd,Ze,Zf,Zg,Zh,Nat.reduceAdd,Zi,if_true,if_false,Zl,Zm,Zn,Zo,Zp,Zq,Zr,Zs,Zt,Zu,Zv,Zw,Zx,Zy,Zz,ZA,ZB,ZC,ZD,ZE,hv,hv1,hr1,e1,e2,e3,e4,e5,MO.list,PV.isKind,a0r,Q1,Q2,Q3,Q4,l1,hcall,w3,a0h,hi,hnl,f1,f2',f3,PV.len,PV.rowsOf,hloc,hg,hg2,and_self,Q0,Q7,Q6,a0D,true_or,Q8,Q9,Q5,if_false,MO.elts,hpl2,hrl,hrg,a0E,hrs])
   | (unfold a2j; simp -implicitDefEqProofs only [↓reduceIte,eq_self,ZF,ZG,ZH,ZI,ZJ,ZK,ZL,ZM,ZN,ZO,ZP,ZQ,ZR,ZS,ZT,ZU,ZV,ZW,ZX,ZY,Z2,Z3,Z4,Z5,Z6,Z7,Z8,Z9,Za,Zb,Zc,Zd,Ze,Zf,Zg,Zh,Nat.reduceAdd,Zi,if_true,if_false,Zl,Zm,Zn,Zo,Zp,Zq,Zr,Zs,Zt,Zu,Zv,Zw,Zx,Zy,Zz,ZA,ZB,ZC,ZD,ZE,hv,hv1,hr1,e1,e2,e3,e4,e5,MO.list,PV.isKind,a0r,Q1,Q2,Q3,Q4,l1,hcall,w3,a0h,hi,hnl,f1,f2',f3,PV.len,PV.rowsOf,hloc,hg,hg2,and_self,Q0,Q7,Q6,a0D,true_or,Q8,Q9,Q5,if_false,MO.elts,hpl2,hrl,hrg,a0E,hrs]; done)
   | (unfold a2j; simp -implicitDefEqProofs only [↓reduceIte,eq_self,ZF,ZG,ZH,ZI,ZJ,ZK,ZL,ZM,ZN,ZO,ZP,ZQ,ZR,ZS,ZT,ZU,ZV,ZW,ZX,ZY,Z2,Z3,Z4,Z5,Z6,Z7,Z8,Z9,Za,Zb,Zc,Zd,Ze,Zf,Zg,Zh,Nat.reduceAdd,Zi,if_true,if_false,Zl,Zm,Zn,Zo,Zp,Zq,Zr,Zs,Zt,Zu,Zv,Zw,Zx,Zy,Zz,ZA,ZB,ZC,ZD,ZE,hv,hv1,hr1,e1,e2,e3,e4,e5,MO.list,PV.isKind,a0r,Q1,Q2,Q3,Q4,l1,hcall,w3,a0h,hi,hnl,f1,f2',f3,PV.len,PV.rowsOf,hloc,hg,hg2,and_self,Q0,Q7,Q6,a0D,true_or,Q8,Q9,Q5,if_false,MO.elts,hpl2,hrl,hrg,a0E,hrs])
   | (unfold a1T; simp -implicitDefEqProofs only [↓reduceIte,eq_self,ZF,ZG,ZH,ZI,ZJ,ZK,ZL,ZM,ZN,ZO,ZP,ZQ,ZR,ZS,ZT,ZU,ZV,ZW,ZX,ZY,Z2,Z3,Z4,Z5,Z6,Z7,Z8,Z9,Za,Zb,Zc,Zd,Ze,Zf,Zg,Zh,Nat.reduceAdd,Zi,if_true,if_false,Zl,Zm,Zn,Zo,Zp,Zq,Zr,Zs,Zt,Zu,Zv,Zw,Zx,Zy,Zz,ZA,ZB,ZC,ZD,ZE,hv,hv1,hr1,e1,e2,e3,e4,e5,MO.list,PV.isKind,a0r,Q1,Q2,Q3,Q4,l1,hcall,w3,a0h,hi,hnl,f1,f2',f3,PV.len,PV.rowsOf,hloc,hg,hg2,and_self,Q0,Q7,Q6,a0D,true_or,Q8,Q9,Q5,if_false,MO.elts,hpl2,hrl,hrg,a0E,hrs]; done)
   | (unfold a1T; simp -implicitDefEqProofs only [↓reduceIte,eq_self,ZF,ZG,ZH,ZI,ZJ,ZK,ZL,ZM,ZN,ZO,ZP,ZQ,ZR,ZS,ZT,ZU,ZV,ZW,ZX,ZY,Z2,Z3,Z4,Z5,Z6,Z7,Z8,Z9,Za,Zb,Zc,Zd,Ze,Zf,Zg,Zh,Nat.reduceAdd,Zi,if_true,if_false,Zl,Zm,Zn,Zo,Zp,Zq,Zr,Zs,Zt,Zu,Zv,Zw,Zx,Zy,Zz,ZA,ZB,ZC,ZD,ZE,hv,hv1,hr1,e1,e2,e3,e4,e5,MO.list,PV.isKind,a0r,Q1,Q2,Q3,Q4,l1,hcall,w3,a0h,hi,hnl,f1,f2',f3,PV.len,PV.rowsOf,hloc,hg,hg2,and_self,Q0,Q7,Q6,a0D,true_or,Q8,Q9,Q5,if_false,MO.elts,hpl2,hrl,hrg,a0E,hrs])
   | (unfold a1K; simp -implicitDefEqProofs only [↓reduceIte,eq_self,ZF,ZG,ZH,ZI,ZJ,ZK,ZL,ZM,ZN,ZO,ZP,ZQ,ZR,ZS,ZT,ZU,ZV,ZW,ZX,ZY,Z2,Z3,Z4,Z5,Z6,Z7,Z8,Z9,Za,Zb,Zc,Zd,Ze,Zf,Zg,Zh,Nat.reduceAdd,Zi,if_true,if_false,Zl,Zm,Zn,Zo,Zp,Zq,Zr,Zs,Zt,Zu,Zv,Zw,Zx,Zy,Zz,ZA,ZB,ZC,ZD,ZE,hv,hv1,hr1,e1,e2,e3,e4,e5,MO.list,PV.isKind,a0r,Q1,Q2,Q3,Q4,l1,hcall,w3,a0h,hi,hnl,f1,f2',f3,PV.len,PV.rowsOf,hloc,hg,hg2,and_self,Q0,Q7,Q6,a0D,true_or,Q8,Q9,Q5,if_false,MO.elts,hpl2,hrl,hrg,a0E,hrs]; done)
   | (unfold a1K; simp -implicitDefEqProofs only [↓reduceIte,eq_self,ZF,ZG,ZH,ZI,ZJ,ZK,ZL,ZM,ZN,ZO,ZP,ZQ,ZR,ZS,ZT,ZU,ZV,ZW,ZX,ZY,Z2,Z3,Z4,Z5,Z6,Z7,Z8,Z9,Za,Zb,Zc,Zd,Ze,Zf,Zg,Zh,Nat.reduceAdd,Zi,if_true,if_false,Zl,Zm,Zn,Zo,Zp,Zq,Zr,Zs,Zt,Zu,Zv,Zw,Zx,Zy,Zz,ZA,ZB,ZC,ZD,ZE,hv,hv1,hr1,e1,e2,e3,e4,e5,MO.list,PV.isKind,a0r,Q1,Q2,Q3,Q4,l1,hcall,w3,a0h,hi,hnl,f1,f2',f3,PV.len,PV.rowsOf,hloc,hg,hg2,and_self,Q0,Q7,Q6,a0D,true_or,Q8,Q9,Q5,if_false,MO.elts,hpl2,hrl,hrg,a0E,hrs])
   | (unfold a1Q; simp -implicitDefEqProofs only [↓reduceIte,eq_self,ZF,ZG,ZH,ZI,ZJ,ZK,ZL,ZM,ZN,ZO,ZP,ZQ,ZR,ZS,ZT,ZU,ZV,ZW,ZX,ZY,Z2,Z3,Z4,Z5,Z6,Z7,Z8,Z9,Za,Zb,Zc,Zd,Ze,Zf,Zg,Zh,Nat.reduceAdd,Zi,if_true,if_false,Zl,Zm,Zn,Zo,Zp,Zq,Zr,Zs,Zt,Zu,Zv,Zw,Zx,Zy,Zz,ZA,ZB,ZC,ZD,ZE,hv,hv1,hr1,e1,e2,e3,e4,e5,MO.list,PV.isKind,a0r,Q1,Q2,Q3,Q4,l1,hcall,w3,a0h,hi,hnl,f1,f2',f3,PV.len,PV.rowsOf,hloc,hg,hg2,and_self,Q0,Q7,Q6,a0D,true_or,Q8,Q9,Q5,if_false,MO.elts,hpl2,hrl,hrg,a0E,hrs]; done)
   | (unfold a1Q; simp -implicitDefEqProofs only [↓reduceIte,eq_self,ZF,ZG,ZH,ZI,ZJ,ZK,ZL,ZM,ZN,ZO,ZP,ZQ,ZR,ZS,ZT,ZU,ZV,ZW,ZX,ZY,Z2,Z3,Z4,Z5,Z6,Z7,Z8,Z9,Za,Zb,Zc,Zd,Ze,Zf,Zg,Zh,Nat.reduceAdd,Zi,if_true,if_false,Zl,Zm,Zn,Zo,Zp,Zq,Zr,Zs,Zt,Zu,Zv,Zw,Zx,Zy,Zz,ZA,ZB,ZC,ZD,ZE,hv,hv1,hr1,e1,e2,e3,e4,e5,MO.list,PV.isKind,a0r,Q1,Q2,Q3,Q4,l1,hcall,w3,a0h,hi,hnl,f1,f2',f3,PV.len,PV.rowsOf,hloc,hg,hg2,and_self,Q0,Q7,Q6,a0D,true_or,Q8,Q9,Q5,if_false,MO.elts,hpl2,hrl,hrg,a0E,hrs])
   | (unfold a2p; simp -implicitDefEqProofs only [↓reduceIte,eq_self,ZF,ZG,ZH,ZI,ZJ,ZK,ZL,ZM,ZN,ZO,ZP,ZQ,ZR,ZS,ZT,ZU,ZV,ZW,ZX,ZY,Z2,Z3,Z4,Z5,Z6,Z7,Z8,Z9,Za,Zb,Zc,Zd,Ze,Zf,Zg,Zh,Nat.reduceAdd,Zi,if_true,if_false,Zl,Zm,Zn,Zo,Zp,Zq,Zr,Zs,Zt,Zu,Zv,Zw,Zx,Zy,Zz,ZA,ZB,ZC,ZD,ZE,hv,hv1,hr1,e1,e2,e3,e4,e5,MO.list,PV.isKind,a0r,Q1,Q2,Q3,Q4,l1,hcall,w3,a0h,hi,hnl,f1,f2',f3,PV.len,PV.rowsOf,hloc,hg,hg2,and_self,Q0,Q7,Q6,a0D,true_or,Q8,Q9,Q5,if_false,MO.elts,hpl2,hrl,hrg,a0E,hrs]; done)
   | (unfold a2p; simp -implicitDefEqProofs only [↓reduceIte,eq_self,ZF,ZG,ZH,ZI,ZJ,ZK,ZL,ZM,ZN,ZO,ZP,ZQ,ZR,ZS,ZT,ZU,ZV,ZW,ZX,ZY,Z2,Z3,Z4,Z5,Z6,Z7,Z8,Z9,Za,Zb,Zc,Zd,Ze,Zf,Zg,Zh,Nat.reduceAdd,Zi,if_true,if_false,Zl,Zm,Zn,Zo,Zp,Zq,Zr,Zs,Zt,Zu,Zv,Zw,Zx,Zy,Zz,ZA,ZB,ZC,ZD,ZE,hv,hv1,hr1,e1,e2,e3,e4,e5,MO.list,PV.isKind,a0r,Q1,Q2,Q3,Q4,l1,hcall,w3,a0h,hi,hnl,f1,f2',f3,PV.len,PV.rowsOf,hloc,hg,hg2,and_self,Q0,Q7,Q6,a0D,true_or,Q8,Q9,Q5,if_false,MO.elts,hpl2,hrl,hrg,a0E,hrs])
   | (unfold a2q; simp -implicitDefEqProofs only [↓reduceIte,eq_self,ZF,ZG,ZH,ZI,ZJ,ZK,ZL,ZM,ZN,ZO,ZP,ZQ,ZR,ZS,ZT,ZU,ZV,ZW,ZX,ZY,Z2,Z3,Z4,Z5,Z6,Z7,Z8,Z9,Za,Zb,Zc,Zd,Ze,Zf,Zg,Zh,Nat.reduceAdd,Zi,if_true,if_false,Zl,Zm,Zn,Zo,Zp,Zq,Zr,Zs,Zt,Zu,Zv,Zw,Zx,Zy,Zz,ZA,ZB,ZC,ZD,ZE,hv,hv1,hr1,e1,e2,e3,e4,e5,MO.list,PV.isKind,a0r,Q1,Q2,Q3,Q4,l1,hcall,w3,a0h,hi,hnl,f1,f2',f3,PV.len,PV.rowsOf,hloc,hg,hg2,and_self,Q0,Q7,Q6,a0D,true_or,Q8,Q9,Q5,if_false,MO.elts,hpl2,hrl,hrg,a0E,hrs]; done)
   | (unfold a2q; simp -implicitDefEqProofs only [↓reduceIte,eq_self,ZF,ZG,ZH,ZI,ZJ,ZK,ZL,ZM,ZN,ZO,ZP,ZQ,ZR,ZS,ZT,ZU,ZV,ZW,ZX,ZY,Z2,Z3,Z4,Z5,Z6,Z7,Z8,Z9,Za,Zb,Zc,Zd,Ze,Zf,Zg,Zh,Nat.reduceAdd,Zi,if_true,if_false,Zl,Zm,Zn,Zo,Zp,Zq,Zr,Zs,Zt,Zu,Zv,Zw,Zx,Zy,Zz,ZA,ZB,ZC,ZD,ZE,hv,hv1,hr1,e1,e2,e3,e4,e5,MO.list,PV.isKind,a0r,Q1,Q2,Q3,Q4,l1,hcall,w3,a0h,hi,hnl,f1,f2',f3,PV.len,PV.rowsOf,hloc,hg,hg2,and_self,Q0,Q7,Q6,a0D,true_or,Q8,Q9,Q5,if_false,MO.elts,hpl2,hrl,hrg,a0E,hrs])
   | (unfold a2u; simp -implicitDefEqProofs only [↓reduceIte,eq_self,ZF,ZG,ZH,ZI,ZJ,ZK,ZL,ZM,ZN,ZO,ZP,ZQ,ZR,ZS,ZT,ZU,ZV,ZW,ZX,ZY,Z2,Z3,Z4,Z5,Z6,Z7,Z8,Z9,Za,Zb,Zc,Zd,Ze,Zf,Zg,Zh,Nat.reduceAdd,Zi,if_true,if_false,Zl,Zm,Zn,Zo,Zp,Zq,Zr,Zs,Zt,Zu,Zv,Zw,Zx,Zy,Zz,ZA,ZB,ZC,ZD,ZE,hv,hv1,hr1,e1,e2,e3,e4,e5,MO.list,PV.isKind,a0r,Q1,Q2,Q3,Q4,l1,hcall,w3,a0h,hi,hnl,f1,f2',f3,PV.len,PV.rowsOf,hloc,hg,hg2,and_self,Q0,Q7,Q6,a0D,true_or,Q8,Q9,Q5,if_false,MO.elts,hpl2,hrl,hrg,a0E,hrs]; done)
   | (unfold a2u; simp -implicitDefEqProofs only [↓reduceIte,eq_self,ZF,ZG,ZH,ZI,ZJ,ZK,ZL,ZM,ZN,ZO,ZP,ZQ,ZR,ZS,ZT,ZU,ZV,ZW,ZX,ZY,Z2,Z3,Z4,Z5,Z6,Z7,Z8,Z9,Za,Zb,Zc,Zd,Ze,Zf,Zg,Zh,Nat.reduceAdd,Zi,if_true,if_false,Zl,Zm,Zn,Zo,Zp,Zq,Zr,Zs,Zt,Zu,Zv,Zw,Zx,Zy,Zz,ZA,ZB,ZC,ZD,ZE,hv,hv1,hr1,e1,e2,e3,e4,e5,MO.list,PV.isKind,a0r,Q1,Q2,Q3,Q4,l1,hcall,w3,a0h,hi,hnl,f1,f2',f3,PV.len,PV.rowsOf,hloc,hg,hg2,and_self,Q0,Q7,Q6,a0D,true_or,Q8,Q9,Q5,if_false,MO.elts,hpl2,hrl,hrg,a0E,hrs])
   | (unfold a1J; simp -implicitDefEqProofs only [↓reduceIte,eq_self,ZF,ZG,ZH,ZI,ZJ,ZK,ZL,ZM,ZN,ZO,ZP,ZQ,ZR,ZS,ZT,ZU,ZV,ZW,ZX,ZY,Z2,Z3,Z4,Z5,Z6,Z7,Z8,Z9,Za,Zb,Zc,Zd,Ze,Zf,Zg,Zh,Nat.reduceAdd,Zi,if_true,if_false,Zl,Zm,Zn,Zo,Zp,Zq,Zr,Zs,Zt,Zu,Zv,Zw,Zx,Zy,Zz,ZA,ZB,ZC,ZD,ZE,hv,hv1,hr1,e1,e2,e3,e4,e5,MO.list,PV.isKind,a0r,Q1,Q2,Q3,Q4,l1,hcall,w3,a0h,hi,hnl,f1,f2',f3,PV.len,PV.rowsOf,hloc,hg,hg2,and_self,Q0,Q7,Q6,a0D,true_or,Q8,Q9,Q5,if_false,MO.elts,hpl2,hrl,hrg,a0E,hrs]; done)
   | (unfold a1J; simp -implicitDefEqProofs only [↓reduceIte,eq_self,ZF,ZG,ZH,ZI,ZJ,ZK,ZL,ZM,ZN,ZO,ZP,ZQ,ZR,ZS,ZT,ZU,ZV,ZW,ZX,ZY,Z2,Z3,Z4,Z5,Z6,Z7,Z8,Z9,Za,Zb,Zc,Zd,Ze,Zf,Zg,Zh,Nat.reduceAdd,Zi,if_true,if_false,Zl,Zm,Zn,Zo,Zp,Zq,Zr,Zs,Zt,Zu,Zv,Zw,Zx,Zy,Zz,ZA,ZB,ZC,ZD,ZE,hv,hv1,hr1,e1,e2,e3,e4,e5,MO.list,PV.isKind,a0r,Q1,Q2,Q3,Q4,l1,hcall,w3,a0h,hi,hnl,f1,f2',f3,PV.len,PV.rowsOf,hloc,hg,hg2,and_self,Q0,Q7,Q6,a0D,true_or,Q8,Q9,Q5,if_false,MO.elts,hpl2,hrl,hrg,a0E,hrs])
   | (unfold a2c; simp -implicitDefEqProofs only [↓reduceIte,eq_self,ZF,ZG,ZH,ZI,ZJ,ZK,ZL,ZM,ZN,ZO,ZP,ZQ,ZR,ZS,ZT,ZU,ZV,ZW,ZX,ZY,Z2,Z3,Z4,Z5,Z6,Z7,Z8,Z9,Za,Zb,Zc,Zd,Ze,Zf,Zg,Zh,Nat.reduceAdd,Zi,if_true,if_false,Zl,Zm,Zn,Zo,Zp,Zq,Zr,Zs,Zt,Zu,Zv,Zw,Zx,Zy,Zz,ZA,ZB,ZC,ZD,ZE,hv,hv1,hr1,e1,e2,e3,e4,e5,MO.list,PV.isKind,a0r,Q1,Q2,Q3,Q4,l1,hcall,w3,a0h,hi,hnl,f1,f2',f3,PV.len,PV.rowsOf,hloc,hg,hg2,and_self,Q0,Q7,Q6,a0D,true_or,Q8,Q9,Q5,if_false,MO.elts,hpl2,hrl,hrg,a0E,hrs]; done)
   | (unfold a2c; simp -implicitDefEqProofs only [↓reduceIte,eq_self,ZF,ZG,ZH,ZI,ZJ,ZK,ZL,ZM,ZN,ZO,ZP,ZQ,ZR,ZS,ZT,ZU,ZV,ZW,ZX,ZY,Z2,Z3,Z4,Z5,Z6,Z7,Z8,Z9,Za,Zb,Zc,Zd,Ze,Zf,Zg,Zh,Nat.reduceAdd,Zi,if_true,if_false,Zl,Zm,Zn,Zo,Zp,Zq,Zr,Zs,Zt,Zu,Zv,Zw,Zx,Zy,Zz,ZA,ZB,ZC,ZD,ZE,hv,hv1,hr1,e1,e2,e3,e4,e5,MO.list,PV.isKind,a0r,Q1,Q2,Q3,Q4,l1,hcall,w3,a0h,hi,hnl,f1,f2',f3,PV.len,PV.rowsOf,hloc,hg,hg2,and_self,Q0,Q7,Q6,a0D,true_or,Q8,Q9,Q5,if_false,MO.elts,hpl2,hrl,hrg,a0E,hrs])
   | (unfold a1O; simp -implicitDefEqProofs only [↓reduceIte,eq_self,ZF,ZG,ZH,ZI,ZJ,ZK,ZL,ZM,ZN,ZO,ZP,ZQ,ZR,ZS,ZT,ZU,ZV,ZW,ZX,ZY,Z2,Z3,Z4,Z5,Z6,Z7,Z8,Z9,Za,Zb,Zc,Zd,Ze,Zf,Zg,Zh,Nat.reduceAdd,Zi,if_true,if_false,Zl,Zm,Zn,Zo,Zp,Zq,Zr,Zs,Zt,Zu,Zv,Zw,Zx,Zy,Zz,ZA,ZB,ZC,ZD,ZE,hv,hv1,hr1,e1,e2,e3,e4,e5,MO.list,PV.isKind,a0r,Q1,Q2,Q3,Q4,l1,hcall,w3,a0h,hi,hnl,f1,f2',f3,PV.len,PV.rowsOf,hloc,hg,hg2,and_self,Q0,Q7,Q6,a0D,true_or,Q8,Q9,Q5,if_false,MO.elts,hpl2,hrl,hrg,a0E,hrs]; done)
   | (unfold a1O; simp -implicitDefEqProofs only [↓reduceIte,eq_self,ZF,ZG,ZH,ZI,ZJ,ZK,ZL,ZM,ZN,ZO,ZP,ZQ,ZR,ZS,ZT,ZU,ZV,ZW,ZX,ZY,Z2,Z3,Z4,Z5,Z6,Z7,Z8,Z9,Za,Zb,Zc,Zd,Ze,Zf,Zg,Zh,Nat.reduceAdd,Zi,if_true,if_false,Zl,Zm,Zn,Zo,Zp,Zq,Zr,Zs,Zt,Zu,Zv,Zw,Zx,Zy,Zz,ZA,ZB,ZC,ZD,ZE,hv,hv1,hr1,e1,e2,e3,e4,e5,MO.list,PV.isKind,a0r,Q1,Q2,Q3,Q4,l1,hcall,w3,a0h,hi,hnl,f1,f2',f3,PV.len,PV.rowsOf,hloc,hg,hg2,and_self,Q0,Q7,Q6,a0D,true_or,Q8,Q9,Q5,if_false,MO.elts,hpl2,hrl,hrg,a0E,hrs])
   | (unfold a1U; simp -implicitDefEqProofs only [↓reduceIte,eq_self,ZF,ZG,ZH,ZI,ZJ,ZK,ZL,ZM,ZN,ZO,ZP,ZQ,ZR,ZS,ZT,ZU,ZV,ZW,ZX,ZY,Z2,Z3,Z4,Z5,Z6,Z7,Z8,Z9,Za,Zb,Zc,Zd,Ze,Zf,Zg,Zh,Nat.reduceAdd,Zi,if_true,if_false,Zl,Zm,Zn,Zo,Zp,Zq,Zr,Zs,Zt,Zu,Zv,Zw,Zx,Zy,Zz,ZA,ZB,ZC,ZD,ZE,hv,hv1,hr1,e1,e2,e3,e4,e5,MO.list,PV.isKind,a0r,Q1,Q2,Q3,Q4,l1,hcall,w3,a0h,hi,hnl,f1,f2',f3,PV.len,PV.rowsOf,hloc,hg,hg2,and_self,Q0,Q7,Q6,a0D,true_or,Q8,Q9,Q5,if_false,MO.elts,hpl2,hrl,hrg,a0E,hrs]; done)
   | (unfold a1U; simp -implicitDefEqProofs only [↓reduceIte,eq_self,ZF,ZG,ZH,ZI,ZJ,ZK,ZL,ZM,ZN,ZO,ZP,ZQ,ZR,ZS,ZT,ZU,ZV,ZW,ZX,ZY,Z2,Z3,Z4,Z5,Z6,Z7,Z8,Z9,Za,Zb,Zc,Zd,Ze,Zf,Zg,Zh,Nat.reduceAdd,Zi,if_true,if_false,Zl,Zm,Zn,Zo,Zp,Zq,Zr,Zs,Zt,Zu,Zv,Zw,Zx,Zy,Zz,ZA,ZB,ZC,ZD,ZE,hv,hv1,hr1,e1,e2,e3,e4,e5,MO.list,PV.isKind,a0r,Q1,Q2,Q3,Q4,l1,hcall,w3,a0h,hi,hnl,f1,f2',f3,PV.len,PV.rowsOf,hloc,hg,hg2,and_self,Q0,Q7,Q6,a0D,true_or,Q8,Q9,Q5,if_false,MO.elts,hpl2,hrl,hrg,a0E,hrs])
   | (unfold a2g; simp -implicitDefEqProofs only [↓reduceIte,eq_self,ZF,ZG,ZH,ZI,ZJ,ZK,ZL,ZM,ZN,ZO,ZP,ZQ,ZR,ZS,ZT,ZU,ZV,ZW,ZX,ZY,Z2,Z3,Z4,Z5,Z6,Z7,Z8,Z9,Za,Zb,Zc,Zd,Ze,Zf,Zg,Zh,Nat.reduceAdd,Zi,if_true,if_false,Zl,Zm,Zn,Zo,Zp,Zq,Zr,Zs,Zt,Zu,Zv,Zw,Zx,Zy,Zz,ZA,ZB,ZC,ZD,ZE,hv,hv1,hr1,e1,e2,e3,e4,e5,MO.list,PV.isKind,a0r,Q1,Q2,Q3,Q4,l1,hcall,w3,a0h,hi,hnl,f1,f2',f3,PV.len,PV.rowsOf,hloc,hg,hg2,and_self,Q0,Q7,Q6,a0D,true_or,Q8,Q9,Q5,if_false,MO.elts,hpl2,hrl,hrg,a0E,hrs]; done)
   | (unfold a2g; simp -implicitDefEqProofs only [↓reduceIte,eq_self,ZF,ZG,ZH,ZI,ZJ,ZK,ZL,ZM,ZN,ZO,ZP,ZQ,ZR,ZS,ZT,ZU,ZV,ZW,ZX,ZY,Z2,Z3,Z4,Z5,Z6,Z7,Z8,Z9,Za,Zb,Zc,Zd,Ze,Zf,Zg,Zh,Nat.reduceAdd,Zi,if_true,if_false,Zl,Zm,Zn,Zo,Zp,Zq,Zr,Zs,Zt,Zu,Zv,Zw,Zx,Zy,Zz,ZA,ZB,ZC,ZD,ZE,hv,hv1,hr1,e1,e2,e3,e4,e5,MO.list,PV.isKind,a0r,Q1,Q2,Q3,Q4,l1,hcall,w3,a0h,hi,hnl,f1,f2',f3,PV.len,PV.rowsOf,hloc,hg,hg2,and_self,Q0,Q7,Q6,a0D,true_or,Q8,Q9,Q5,if_false,MO.elts,hpl2,hrl,hrg,a0E,hrs])
   | (unfold a1V; simp -implicitDefEqProofs only [↓reduceIte,eq_self,ZF,ZG,ZH,ZI,ZJ,ZK,ZL,ZM,ZN,ZO,ZP,ZQ,ZR,ZS,ZT,ZU,ZV,ZW,ZX,ZY,Z2,Z3,Z4,Z5,Z6,Z7,Z8,Z9,Za,Zb,Zc,Zd,Ze,Zf,Zg,Zh,Nat.reduceAdd,Zi,if_true,if_false,Zl,Zm,Zn,Zo,Zp,Zq,Zr,Zs,Zt,Zu,Zv,Zw,Zx,Zy,Zz,ZA,ZB,ZC,ZD,ZE,hv,hv1,hr1,e1,e2,e3,e4,e5,MO.list,PV.isKind,a0r,Q1,Q2,Q3,Q4,l1,hcall,w3,a0h,hi,hnl,f1,f2',f3,PV.len,PV.rowsOf,hloc,hg,hg2,and_self,Q0,Q7,Q6,a0D,true_or,Q8,Q9,Q5,if_false,MO.elts,hpl2,hrl,hrg,a0E,hrs]; done)
   | (unfold a1V; simp -implicitDefEqProofs only [↓reduceIte,eq_self,ZF,ZG,ZH,ZI,ZJ,ZK,ZL,ZM,ZN,ZO,ZP,ZQ,ZR,ZS,ZT,ZU,ZV,ZW,ZX,ZY,Z2,Z3,Z4,Z5,Z6,Z7,Z8,Z9,Za,Zb,Zc,Zd,Ze,Zf,Zg,Zh,Nat.reduceAdd,Zi,if_true,if_false,Zl,Zm,Zn,Zo,Zp,Zq,Zr,Zs,Zt,Zu,Zv,Zw,Zx,Zy,Zz,ZA,ZB,ZC,ZD,ZE,hv,hv1,hr1,e1,e2,e3,e4,e5,MO.list,PV.isKind,a0r,Q1,Q2,Q3,Q4,l1,hcall,w3,a0h,hi,hnl,f1,f2',f3,PV.len,PV.rowsOf,hloc,hg,hg2,and_self,Q0,Q7,Q6,a0D,true_or,Q8,Q9,Q5,if_false,MO.elts,hpl2,hrl,hrg,a0E,hrs])
   | (unfold a2i; simp -implicitDefEqProofs only [↓reduceIte,eq_self,ZF,ZG,ZH,ZI,ZJ,ZK,ZL,ZM,ZN,ZO,ZP,ZQ,ZR,ZS,ZT,ZU,ZV,ZW,ZX,ZY,Z2,Z3,Z4,Z5,Z6,Z7,Z8,Z9,Za,Zb,Zc,Zd,Ze,Zf,Zg,Zh,Nat.reduceAdd,Zi,if_true,if_false,Zl,Zm,Zn,Zo,Zp,Zq,Zr,Zs,Zt,Zu,Zv,Zw,Zx,Zy,Zz,ZA,ZB,ZC,ZD,ZE,hv,hv1,hr1,e1,e2,e3,e4,e5,MO.list,PV.isKind,a0r,Q1,Q2,Q3,Q4,l1,hcall,w3,a0h,hi,hnl,f1,f2',f3,PV.len,PV.rowsOf,hloc,hg,hg2,and_self,Q0,Q7,Q6,a0D,true_or,Q8,Q9,Q5,if_false,MO.elts,hpl2,hrl,hrg,a0E,hrs]; done)
   | (unfold a2i; simp -implicitDefEqProofs only [↓reduceIte,eq_self,ZF,ZG,ZH,ZI,ZJ,ZK,ZL,ZM,ZN,ZO,ZP,ZQ,ZR,ZS,ZT,ZU,ZV,ZW,ZX,ZY,Z2,Z3,Z4,Z5,Z6,Z7,Z8,Z9,Za,Zb,Zc,Zd,Ze,Zf,Zg,Zh,Nat.reduceAdd,Zi,if_true,if_false,Zl,Zm,Zn,Zo,Zp,Zq,Zr,Zs,Zt,Zu,Zv,Zw,Zx,Zy,Zz,ZA,ZB,ZC,ZD,ZE,hv,hv1,hr1,e1,e2,e3,e4,e5,MO.list,PV.isKind,a0r,Q1,Q2,Q3,Q4,l1,hcall,w3,a0h,hi,hnl,f1,f2',f3,PV.len,PV.rowsOf,hloc,hg,hg2,and_self,Q0,Q7,Q6,a0D,true_or,Q8,Q9,Q5,if_false,MO.elts,hpl2,hrl,hrg,a0E,hrs])
   | (unfold a1X; simp -implicitDefEqProofs only [↓reduceIte,eq_self,ZF,ZG,ZH,ZI,ZJ,ZK,ZL,ZM,ZN,ZO,ZP,ZQ,ZR,ZS,ZT,ZU,ZV,ZW,ZX,ZY,Z2,Z3,Z4,Z5,Z6,Z7,Z8,Z9,Za,Zb,Zc,Zd,Ze,Zf,Zg,Zh,Nat.reduceAdd,Zi,if_true,if_false,Zl,Zm,Zn,Zo,Zp,Zq,Zr,Zs,Zt,Zu,Zv,Zw,Zx,Zy,Zz,ZA,ZB,ZC,ZD,ZE,hv,hv1,hr1,e1,e2,e3,e4,e5,MO.list,PV.isKind,a0r,Q1,Q2,Q3,Q4,l1,hcall,w3,a0h,hi,hnl,f1,f2',f3,PV.len,PV.rowsOf,hloc,hg,hg2,and_self,Q0,Q7,Q6,a0D,true_or,Q8,Q9,Q5,if_false,MO.elts,hpl2,hrl,hrg,a0E,hrs]; done)
   | (unfold a1X; simp -implicitDefEqProofs only [↓reduceIte,eq_self,ZF,ZG,ZH,ZI,ZJ,ZK,ZL,ZM,ZN,ZO,ZP,ZQ,ZR,ZS,ZT,ZU,ZV,ZW,ZX,ZY,Z2,Z3,Z4,Z5,Z6,Z7,Z8,Z9,Za,Zb,Zc,Zd,Ze,Zf,Zg,Zh,Nat.reduceAdd,Zi,if_true,if_false,Zl,Zm,Zn,Zo,Zp,Zq,Zr,Zs,Zt,Zu,Zv,Zw,Zx,Zy,Zz,ZA,ZB,ZC,ZD,ZE,hv,hv1,hr1,e1,e2,e3,e4,e5,MO.list,PV.isKind,a0r,Q1,Q2,Q3,Q4,l1,hcall,w3,a0h,hi,hnl,f1,f2',f3,PV.len,PV.rowsOf,hloc,hg,hg2,and_self,Q0,Q7,Q6,a0D,true_or,Q8,Q9,Q5,if_false,MO.elts,hpl2,hrl,hrg,a0E,hrs])
   | (unfold a1Y; simp -implicitDefEqProofs only [↓reduceIte,eq_self,ZF,ZG,ZH,ZI,ZJ,ZK,ZL,ZM,ZN,ZO,ZP,ZQ,ZR,ZS,ZT,ZU,ZV,ZW,ZX,ZY,Z2,Z3,Z4,Z5,Z6,Z7,Z8,Z9,Za,Zb,Zc,Zd,Ze,Zf,Zg,Zh,Nat.reduceAdd,Zi,if_true,if_false,Zl,Zm,Zn,Zo,Zp,Zq,Zr,Zs,Zt,Zu,Zv,Zw,Zx,Zy,Zz,ZA,ZB,ZC,ZD,ZE,hv,hv1,hr1,e1,e2,e3,e4,e5,MO.list,PV.isKind,a0r,Q1,Q2,Q3,Q4,l1,hcall,w3,a0h,hi,hnl,f1,f2',f3,PV.len,PV.rowsOf,hloc,hg,hg2,and_self,Q0,Q7,Q6,a0D,true_or,Q8,Q9,Q5,if_false,MO.elts,hpl2,hrl,hrg,a0E,hrs]; done)
   | (unfold a1Y; simp -implicitDefEqProofs only [↓reduceIte,eq_self,ZF,ZG,ZH,ZI,ZJ,ZK,ZL,ZM,ZN,ZO,ZP,ZQ,ZR,ZS,ZT,ZU,ZV,ZW,ZX,ZY,Z2,Z3,Z4,Z5,Z6,Z7,Z8,Z9,Za,Zb,Zc,Zd,Ze,Zf,Zg,Zh,Nat.reduceAdd,Zi,if_true,if_false,Zl,Zm,Zn,Zo,Zp,Zq,Zr,Zs,Zt,Zu,Zv,Zw,Zx,Zy,Zz,ZA,ZB,ZC,ZD,ZE,hv,hv1,hr1,e1,e2,e3,e4,e5,MO.list,PV.isKind,a0r,Q1,Q2,Q3,Q4,l1,hcall,w3,a0h,hi,hnl,f1,f2',f3,PV.len,PV.rowsOf,hloc,hg,hg2,and_self,Q0,Q7,Q6,a0D,true_or,Q8,Q9,Q5,if_false,MO.elts,hpl2,hrl,hrg,a0E,hrs]))
end Go.Proofs.Ytdadenjndpbppaa
set_option maxRecDepth 100000
namespace Go.Proofs.Ytdadenjndpbppaa
open Go.Sx
theorem a6Y (e:Ex) (row:List PV) (hrow:IsE e row) (σ:List MO) (n:Nat) (hn:e.size+(e.size+5)+3<=n) (hbig:e.size<=999999) :
  ∃ v σ',a0P Tab n a4t [.agg row] σ=some (v,σ')/\σ <+: σ'/\(v=.nilS\/∃ h rows aa,v=.rsl h rows.length 9/\σ.length<=h/\σ'[h]?=some (.row rows 9 26)/\rows.length<=e.size/\(∀ a∈aa,Ex.size a<=e.size)/\a1b σ.length σ' aa rows):=by
 obtain ⟨n,rfl⟩:∃ k,n=k+1:=⟨n-1,by omega⟩
 have hJ0:AtI σ e.size [] (σ++[.cells [.nilS] 24]):=⟨⟨_,rfl⟩,.nilS,by simp,.inl rfl⟩
 obtain ⟨σ',hw,hp,v,hv,hvv⟩:=b4b (b3I σ e.pre (by rw [Ex.pre_len]; exact hbig) e.size (e.size+5) (by omega) (fun x hx=>a8K e x hx) (fun x hx=>by have:=a8K e x hx; omega)) e row [] [] (by simp) hrow _ hJ0 n (by omega) (by omega)
 rw [Qb,Ex.pre_len] at hvv
 have hone:v.one=true:=by rcases hvv with rfl | ⟨_,_,_,rfl,_⟩<;>rfl
 refine ⟨v,σ',?_,hp,?_⟩
 ·clear hvv hJ0
  simp only [a4J,a6m] at hw
  obtain ⟨op,a,b,c,d,e',f,v0,l⟩:=e
  simp only [IsE] at hrow
  obtain ⟨x,rows,rfl,hx,hl⟩:=hrow
  obtain ⟨x1,x2,x3⟩:=a1G hx
  simp only [a0P,a9S,Qa,Sys.run]
  show ((a0Q [.sh (.agg [_,_,_,_,_,_,_,_,_])] _).bind _)=_
  simp only [a0Q,a0z,a0s,Qd,Qa,Qf,Qb,Qe,if_true,x3]
  show (PT.ev _ a5n _).bind _=_
  simp -implicitDefEqProofs only [a5n,↓reduceIte,eq_self,Z1,Z2,Z3,Z4,Z5,Z6,Z7,Z8,Z9,Za,Zb,Zc,Zd,Ze,Zf,Zg,Zh,Nat.reduceAdd,Zi,if_true,if_false,Zl,Zm,Zn,Zo,Zp,Zq,Zr,Zs,Zt,Zu,Zv,Zw,Zx,Zy,Zz,ZA,ZB,ZC,ZD,ZE,PV.on,hw,hv,MO.list,hone,a0D,true_or]
 ·rcases hvv with h | ⟨h,rows,aa,a1,a2,a3,a4,a5,a6⟩
  ·exact .inl h
  ·exact .inr ⟨h,rows,aa,a1,by omega,a3,a4,a5,a6.shp (fun k hk=>by omega)⟩
def a6a (lo:Nat) (σ:List MO) (p:PV) (row:List PV):Prop :=
 (∃ h T,lo<=h/\p=.ref h 0/\σ[h]?=some (.cells row T))\/∃ h rows T i,lo<=h/\p=.eref h rows.length i 9 0/\σ[h]?=some (.row rows 9 T)/\rows[i]?=some row
theorem a6a.one {lo:Nat} {σ:List MO} {p:PV} {row:List PV} (h:a6a lo σ p row):p.one=true/\p.isKind 1=true:=by
 rcases h with ⟨_,_,_,rfl,_⟩ | ⟨_,_,_,_,_,rfl,_⟩<;>exact ⟨rfl,rfl⟩
theorem a6a.read {lo:Nat} {σ:List MO} {p:PV} {row:List PV} (h:a6a lo σ p row) (off:Nat) :
  ∃ loc,a0C off p=some loc/\∀ is bs vs k,a0i { i:=is,b:=bs,v:=vs,m:=σ,k:=k } false 1 loc=a0B 1 (row.drop off):=by
 rcases h with ⟨h,T,_,rfl,h1⟩ | ⟨h,rows,T,i,_,rfl,h1,h2⟩
 ·refine ⟨_,rfl,fun is bs vs k=>?_⟩
  simp [a0i,h1,MO.list]
 ·refine ⟨_,rfl,fun is bs vs k=>?_⟩
  simp [a0i,h1,MO.elts,h2]
theorem a6a.chg {lo:Nat} {σ σ':List MO} {p:PV} {row:List PV} (h:a6a lo σ p row) (hc:Chg lo σ σ'):∃ row',a6a lo σ' p row'/\a3G row row':=by
 rcases h with ⟨h,T,h0,rfl,h1⟩ | ⟨h,rows,T,i,h0,rfl,h1,h2⟩
 ·obtain ⟨l',k1,k2⟩:=hc.cells _ _ _ h1
  exact ⟨l',.inl ⟨h,T,h0,rfl,k1⟩,k2⟩
 ·obtain ⟨rows',k1,k2,k3⟩:=hc.row _ _ _ h1
  have hi:=(Qj.1 h2).1
  obtain ⟨r',hr'⟩:∃ r',rows'[i]?=some r':=⟨_,QE (by omega)⟩
  exact ⟨r',.inr ⟨h,rows',T,i,h0,by rw [k2],k1,hr'⟩,k3 i _ _ h2 hr'⟩
theorem b5g {lo h T:Nat} {σ:List MO} {l l':List PV} (h0:lo<=h) (h1:σ[h]?=some (.cells l T)) (h2:a3G l l'):Chg lo σ (σ.set h (.cells l' T)):=by
 have hl:=(Qj.1 h1).1
 refine ⟨by simp,fun i hi=>by rw [Qg (by omega)],fun i rows T' hi=>?_,fun i l2 T' hi=>?_⟩
 ·have hne:h≠i:=by rintro rfl; rw [h1] at hi; cases hi
  exact ⟨rows,by rw [Qg hne]; exact hi,rfl,fun j r r' hr hr'=>by rw [hr] at hr'; cases hr'; exact a3G.refl r⟩
 ·by_cases hne:h=i
  ·subst hne
   rw [h1] at hi; cases hi
   exact ⟨l',by rw [QD hl],h2⟩
  ·exact ⟨l2,by rw [Qg hne]; exact hi,a3G.refl _⟩
theorem b5c {lo h T i:Nat} {σ:List MO} {rows:List (List PV)} {r r':List PV} (h0:lo<=h) (h1:σ[h]?=some (.row rows 9 T)) (hr:rows[i]?=some r) (h2:a3G r r'):Chg lo σ (σ.set h (.row (rows.set i r') 9 T)):=by
 have hl:=(Qj.1 h1).1
 have hil:=(Qj.1 hr).1
 refine ⟨by simp,fun i hi=>by rw [Qg (by omega)],fun j rows2 T' hi=>?_,fun j l2 T' hi=>?_⟩
 ·by_cases hne:h=j
  ·subst hne
   rw [h1] at hi; cases hi
   refine ⟨_,by rw [QD hl],by simp,fun k x x' hx hx'=>?_⟩
   by_cases hik:i=k
   ·subst hik
    rw [hr] at hx; cases hx
    rw [QD hil] at hx'; cases hx'
    exact h2
   ·rw [Qg hik,hx] at hx'; cases hx'; exact a3G.refl _
  ·exact ⟨rows2,by rw [Qg hne]; exact hi,rfl,fun k x x' hx hx'=>by rw [hx] at hx'; cases hx'; exact a3G.refl x⟩
 ·have hne:h≠j:=by rintro rfl; rw [h1] at hi; cases hi
  exact ⟨l2,by rw [Qg hne]; exact hi,a3G.refl _⟩
theorem a8z {op a b c d e f v v':Int} {x:PV}:a3G [.int .i64 op,.int .i64 a,.int .i64 b,.int .i64 c,.int .i64 d,.int .i64 e,.int .i64 f,.int .i64 v,x] [.int .i64 op,.int .i64 a,.int .i64 b,.int .i64 c,.int .i64 d,.int .i64 e,.int .i64 f,.int .i64 v',x]:=by
 rintro y ⟨_,_,_,_,_,_,_,_,h⟩
 simp only [List.cons.injEq,PV.int.injEq,true_and,and_true] at h
 obtain ⟨_,_,_,_,_,_,_,_,rfl⟩:=h
 exact ⟨_,_,_,_,_,_,_,_,rfl⟩
theorem a5K (lo:Nat):∀ (e:Ex) (p:PV) (row:List PV) (σ:List MO),a6a lo σ p row->Shp lo σ e row->∀ n,e.size+2<=n->e.size<=1000000->∃ σ',a0P Tab n a1o [p] σ=some (.tup [],σ')/\Chg lo σ σ':=by
 intro e
 induction hM:e.size using Nat.strongRecOn generalizing e with
 | _ M ih =>
  subst hM
  intro p row σ hat hsh n hn hbig
  obtain ⟨op,a,b,c,d,e',f,v,l⟩:=e
  simp only [Ex.size] at ih hn hbig
  obtain ⟨n,rfl⟩:∃ k,n=k+1:=⟨n-1,by omega⟩
  have hsl:=a3I l
  obtain ⟨p1,p2⟩:=hat.one
  have loop:∀ (fuel:Nat) (i:Nat) (τ:List MO) (row:List PV) (k0:Nat),l.length-i < fuel->i<=l.length->a6a lo τ p row->Shp lo τ (.node op a b c d e' f v l) row ->
    ∃ σ',saleroomlaw11_spoil_S.loop (a0P Tab n) fuel 0 { i:=[(l.length:Int),(i:Int)],b:=[],v:=[p],m:=τ,k:=k0 }=some (.tup [],σ')/\Chg lo τ σ':=by
   intro fuel
   induction fuel with
   | zero=>intro i τ row k0 h; omega
   | succ fuel ihf =>
    intro i τ row k0 h1 h2 h3 h4
    rw [Sys.loop,show saleroomlaw11_spoil_S.loops[0]?=some a2V from rfl]
    simp -implicitDefEqProofs only [Qa,a2V,↓reduceIte,eq_self,PT.ev,BE.safe,BE.pe,IE.pe,PEnv.at,Qh,Qk,Qm,Qp,a0A,a0B,QB,Qy,Qr,Qz,Nat.reduceAdd,Qn,if_true,if_false,Qs,QA,Qt,a0s,a0e,a0z,Qd,Qa,PEnv.push,Qe,Qb,Qf,SV.pvs,SV.pv,BE.all,Qq,Qu,QC,Qv,Qw,a3t,decide_eq_true_eq,p2]
    by_cases hlt:i < l.length
    ·obtain ⟨e1,he1⟩:∃ e1,l[i]?=some e1:=⟨_,QE (by omega)⟩
     rw [if_pos hlt]
     have h4':=h4
     simp only [Shp] at h4'
     obtain ⟨x,hx9,hx⟩:=h4'
     rcases hx with ⟨rfl,_⟩ | ⟨h,rows,T,hh,rfl,hr,hs⟩
     ·simp at hlt
     obtain ⟨r1,hr1,hs1⟩:=hs.get he1
     have hrl:=hs.length
     have hsz:=a3D (QK he1)
     obtain ⟨τ1,hcall,hc1⟩:=ih _ (QP hsz) _ rfl (.eref h rows.length i 9 0) r1 τ (.inr ⟨h,rows,T,i,hh,rfl,hr,hr1⟩) hs1 n (by omega) (by omega)
     obtain ⟨row2,hat2,hc9⟩:=h3.chg hc1
     obtain ⟨σ2,hl2,hc2⟩:=ihf (i+1) τ1 row2 k0 (by omega) (by omega) hat2 (h4.chg hc1 hc9)
     refine ⟨σ2,?_,hc1.trans hc2⟩
     obtain ⟨loc,hloc,hrd⟩:=h3.read 8
     obtain ⟨o1,o2,o3,o4,o5,o6,o7,o8,rfl⟩:=hx9
     have hel:PV.el (i:Int) 9 0 (.rsl h rows.length 9)=some (.eref h rows.length i 9 0):=by
      simp only [PV.el]
      rw [if_pos ⟨by omega,by omega,trivial⟩,QV]
     have hone:(PV.rsl h rows.length 9).one=true:=rfl
     have hln:(PV.rsl h rows.length 9).len=rows.length:=rfl
     have q1:(leB 0 (i:Int)&&ltB (i:Int) (rows.length:Int))=true:=by simp [leB,ltB]; omega
     have q2:IntKind.i64.wrap ((i:Int)+1)=((i+1:Nat):Int):=by
      have:((i+1:Nat):Int)=(i:Int)+1:=by omega
      rw [this]
      simp only [IntKind.wrap,IntKind.signed,IntKind.bits]
      simp
      omega
     simp only [a1o] at hcall
     simp -implicitDefEqProofs only [hloc,hrd,↓reduceIte,eq_self,PT.ev,BE.safe,BE.pe,IE.pe,PEnv.at,Qh,Qk,Qm,Qp,a0A,a0B,QB,Qy,Qr,Qz,Nat.reduceAdd,Qn,if_true,if_false,Qs,QA,Qt,a0s,a0e,a0z,Qd,Qa,PEnv.push,Qe,Qb,Qf,SV.pvs,SV.pv,BE.all,Qq,Qu,QC,Qv,Qw,QU,hone,hln,q1,hel,hcall,a1z,q2]
     exact hl2
    ·have hil:i=l.length:=by omega
     rw [if_neg hlt]
     refine ⟨τ,?_,Chg.refl _ _⟩
     simp -implicitDefEqProofs only [↓reduceIte,eq_self,Z1,Z2,Z3,Z4,Z5,Z6,Z7,Z8,Z9,Za,Zb,Zc,Zd,Ze,Zf,Zg,Zh,Nat.reduceAdd,Zi,if_true,if_false,Zl,Zm,Zn,Zo,Zp,Zq,Zr,Zs,Zt,Zu,Zv,Zw,Zx,Zy,Zz,ZA,ZB,ZC,ZD,ZE,a0D,true_or]
  have hsh':=hsh
  simp only [Shp] at hsh'
  obtain ⟨x,⟨o1,o2,o3,o4,o5,o6,o7,o8,rfl⟩,hx⟩:=hsh'
  have hxl:x.len=(l.length:Int)/\x.isKind 0=true/\x.one=true:=by
   rcases hx with ⟨rfl,rfl⟩ | ⟨h,rows,T,hh,rfl,hr,hs⟩
   ·exact ⟨rfl,rfl,rfl⟩
   ·have:=hs.length
    exact ⟨by simp only [PV.len,this],rfl,rfl⟩
  obtain ⟨x1,x2,x3⟩:=hxl
  clear hx
  have key:∀ σ1,Chg lo σ σ1->a6a lo σ1 p [.int .i64 o1,.int .i64 o2,.int .i64 o3,.int .i64 o4,.int .i64 o5,.int .i64 o6,.int .i64 o7,.int .i64 (IntKind.i64.wrap (o8+1)),x] ->
    ∃ σ',(PT.ev (a0P Tab n) (.need (.is 1 0) (.load false (.pa 0 8) [.val] (.need (.is 0 1) (.jump 0 [(.slen 1),(.l 0)] [] [(.va 0)])))) { i:=[o8],b:=[],v:=[p],m:=σ1,k:=σ.length }).bind (fun x=>match x with
     | .ret r σ=>some (r,σ)
     | .jump q ρ=>saleroomlaw11_spoil_S.loop (a0P Tab n) n q ρ)=some (.tup [],σ')/\Chg lo σ σ':=by
   intro σ1 hc1 hat1
   obtain ⟨σ2,hl2,hc2⟩:=loop n 0 σ1 _ σ.length (by omega) (QH _) hat1 (hsh.chg hc1 a8z)
   refine ⟨σ2,?_,hc1.trans hc2⟩
   obtain ⟨loc,hloc,hrd⟩:=hat1.read 8
   simp -implicitDefEqProofs only [↓reduceIte,eq_self,PT.ev,BE.safe,BE.pe,IE.pe,PEnv.at,Qh,Qk,Qm,Qp,a0A,a0B,QB,Qy,Qr,Qz,Nat.reduceAdd,Qn,if_true,if_false,Qs,QA,Qt,a0s,a0e,a0z,Qd,Qa,PEnv.push,Qe,Qb,Qf,SV.pvs,SV.pv,BE.all,Qq,Qu,QC,Qv,Qw,p2,hloc,hrd,QU,x1,x2,x3]
   exact hl2
  have hs9:∀ z,a3m [PV.int .i64 o1,.int .i64 o2,.int .i64 o3,.int .i64 o4,.int .i64 o5,.int .i64 o6,.int .i64 o7,.int .i64 o8,x] 7 [z]=[.int .i64 o1,.int .i64 o2,.int .i64 o3,.int .i64 o4,.int .i64 o5,.int .i64 o6,.int .i64 o7,z,x]:=fun _=>rfl
  have hi1:∀ k z,(PV.int k z).one=true:=fun _ _=>rfl
  have hi2:∀ k z,List.all [PV.int k z] PV.one=true:=fun _ _=>rfl
  rcases hat with ⟨h,T,h0,rfl,h1⟩ | ⟨h,rows,T,i,h0,rfl,h1,h2⟩
  ·have hl:=(Qj.1 h1).1
   obtain ⟨σ',hk,hc⟩:=key _ (b5g h0 h1 (a8z (v':=IntKind.i64.wrap (o8+1)))) (.inl ⟨h,T,h0,rfl,by rw [QD hl]⟩)
   refine ⟨σ',?_,hc⟩
   simp only [a0P,a3T,Qa,Sys.run]
   show ((a0Q [.sh (.one _)] _).bind _)=_
   simp only [a0Q,a0z,a0s,Qd,Qa,Qf,Qb,Qe,if_true,p1]
   show (PT.ev _ a1w _).bind _=_
   unfold a1w
   rw [<- hk]
   congr 1
   clear hk hc loop key
   generalize (PT.need (.is 1 0) (.load false (.pa 0 8) [.val] (.need (.is 0 1) (.jump 0 [(.slen 1),(.l 0)] [] [(.va 0)]))))=K
   simp -implicitDefEqProofs only [↓reduceIte,eq_self,Z1,Z2,Z3,Z4,Z5,Z6,Z7,Z8,Z9,Za,Zb,Zc,Zd,Ze,Zf,Zg,Zh,Nat.reduceAdd,Zi,if_true,if_false,Zl,Zm,Zn,Zo,Zp,Zq,Zr,Zs,Zt,Zu,Zv,Zw,Zx,Zy,Zz,ZA,ZB,ZC,ZD,ZE,p2,QU,Q0,Nat.reduceLeDiff,hs9,hi1,hi2,and_self,h1,MO.list]
  ·have hl:=(Qj.1 h1).1
   have hil:=(Qj.1 h2).1
   obtain ⟨σ',hk,hc⟩:=key _ (b5c h0 h1 h2 (a8z (v':=IntKind.i64.wrap (o8+1)))) (.inr ⟨h,rows.set i _,T,i,h0,by simp,by rw [QD hl],by rw [QD hil]⟩)
   refine ⟨σ',?_,hc⟩
   simp only [a0P,a3T,Qa,Sys.run]
   show ((a0Q [.sh (.one _)] _).bind _)=_
   simp only [a0Q,a0z,a0s,Qd,Qa,Qf,Qb,Qe,if_true,p1]
   show (PT.ev _ a1w _).bind _=_
   unfold a1w
   rw [<- hk]
   congr 1
   clear hk hc loop key
   generalize (PT.need (.is 1 0) (.load false (.pa 0 8) [.val] (.need (.is 0 1) (.jump 0 [(.slen 1),(.l 0)] [] [(.va 0)]))))=K
   simp -implicitDefEqProofs only [↓reduceIte,eq_self,Z1,Z2,Z3,Z4,Z5,Z6,Z7,Z8,Z9,Za,Zb,Zc,Zd,Ze,Zf,Zg,Zh,Nat.reduceAdd,Zi,if_true,if_false,Zl,Zm,Zn,Zo,Zp,Zq,Zr,Zs,Zt,Zu,Zv,Zw,Zx,Zy,Zz,ZA,ZB,ZC,ZD,ZE,p2,QU,Q0,Nat.reduceLeDiff,hs9,hi1,hi2,and_self,h1,h2,MO.elts]
end Go.Proofs.Ytdadenjndpbppaa
set_option maxRecDepth 100000
namespace Go.Proofs.Ytdadenjndpbppaa
open Go.Sx
def b3S (f:Nat):Option Sx.Sys:=if f=a0R then some saleroomlaw11_awake_S else Tab f
theorem b5x:∀ f S,b3S f=some S->SysOk Try.prog f S:=by
 intro f S h
 unfold b3S at h
 split at h
 ·rename_i hf; subst hf; cases h; exact a5V
 ·exact b4D f S h
theorem b5K:a0P b3S 40000 a0R [] []=some (.bool true,[]):=by kernel_rfl
def b1D:List PV->List MO->Option (PV × List MO):=b1p (a0P b3S 40000 a0R)
theorem b4q (σ:List MO):b1D [] σ=some (.bool true,σ):=by
 unfold b1D b1p
 rw [show a6n σ []=some [] from rfl,Qa,b5K]
 rfl
def a9h:Sx.Sys:=⟨[],.stuck,[],some b1D,none⟩
theorem b4v:SysOk Try.prog a0R a9h where
 ct Φ hΦ n aa σ r σ' hh:=b5O (evalF_good b5x 40000 a0R) aa σ r σ' hh
def a5o (f:Nat):Option Sx.Sys:=if f=a0R then some a9h else Tab f
theorem b5R:∀ f S,a5o f=some S->SysOk Try.prog f S:=by
 intro f S h
 unfold a5o at h
 split at h
 ·rename_i hf; subst hf; cases h; exact b4v
 ·exact b4D f S h
theorem b5z:∀ f S,Tab f=some S->a5o f=some S:=by
 intro f S h
 unfold a5o
 rw [if_neg (by rintro rfl; exact absurd (h.symm.trans (show Tab a0R=none by kernel_rfl)) (by simp))]
 exact h
theorem evW {n:Nat} {f:Nat} {a:List PV} {m:List MO} {r:PV × List MO} (h:a0P Tab n f a m=some r):a0P a5o n f a m=some r:=a9A b5z n f a m r h
theorem b1T (F:List PV->List MO->Option (PV × List MO)) (Φ:Fns) (n:Nat) (a:List PV) (σ:List MO):Sys.run Φ (⟨[],.stuck,[],some F,none⟩:Sx.Sys) n a σ=F a σ:=rfl
theorem awW (n:Nat) (σ:List MO):a0P a5o (n+1) a0R [] σ=some (.bool true,σ):=by
 rw [a0P,show a5o a0R=some a9h from if_pos rfl,Qa,a9h,b1T]
 exact b4q σ
end Go.Proofs.Ytdadenjndpbppaa
set_option maxRecDepth 100000
namespace Go.Proofs.Ytdadenjndpbppaa
open Go.Sx
theorem a4E:SysIs Try.prog 7 saleroomlaw11_ExprCopies_S
  := b4u (c:=(cg [[false,false,true,false,true,true,true,true,true,true]] [4] [] true false false true)) (a0W _ _ _ _ _ _ _ _ _) Try.func7 Try.call7 (by kernel_rfl) a2Z saleroomlaw11_ExprCopies_S 5000 rfl (by kernel_rfl) (by kernel_rfl)
def a4m (lo B:Nat) (σ:List MO) (v:PV):Prop:=v=.nilS\/∃ h rows aa,v=.rsl h rows.length 9/\lo<=h/\σ[h]?=some (.row rows 9 26)/\rows.length<=B/\(∀ a∈aa,Ex.size a<=B)/\a1b lo σ aa rows
theorem a4m.chg {lo B:Nat} {σ σ':List MO} {v:PV} (h:a4m lo B σ v) (hc:Chg lo σ σ'):a4m lo B σ' v:=by
 rcases h with h | ⟨h,rows,aa,rfl,h0,h1,h2,h3,h4⟩
 ·exact .inl h
 ·obtain ⟨rows',k1,k2,k3⟩:=hc.row _ _ _ h1
  exact .inr ⟨h,rows',aa,by rw [k2],h0,k1,by omega,h3,a1b.chg hc h4 k2 k3⟩
theorem a4m.kind {lo B:Nat} {σ:List MO} {v:PV} (h:a4m lo B σ v):v.isKind 0=true/\v.one=true/\∃ m:Nat,v.len=m/\m<=B:=by
 rcases h with rfl | ⟨h,rows,aa,rfl,_,_,h2,_⟩
 ·exact ⟨rfl,rfl,0,rfl,QH _⟩
 ·exact ⟨rfl,rfl,_,rfl,h2⟩
theorem b2C (e:Ex) (op a b c d e' f v:Int) (x:PV) (hrow:IsE e [.int .i64 op,.int .i64 a,.int .i64 b,.int .i64 c,.int .i64 d,.int .i64 e',.int .i64 f,.int .i64 v,x]) (lo:Nat) (o1 o2 o3 o4 o5 o6 o7 o8:Int) (w:PV) (σ1:List MO)
  (hwas:IsO (fun k=>k < lo) σ1 e [.int .i64 o1,.int .i64 o2,.int .i64 o3,.int .i64 o4,.int .i64 o5,.int .i64 o6,.int .i64 o7,.int .i64 o8,w]) (lv:PV) (n:Nat) (hbig:e.size<=120000) (hn:300000<=n) (m:Nat) (hm:lv.len=m) (hmb:m<=e.size) :
  ∀ (fuel i:Nat) (τ:List MO),m-i < fuel->i<=m->a4m lo e.size τ lv->(∀ h,h < lo->τ[h]?=σ1[h]?) ->
   saleroomlaw11_ExprCopies_S.loop (a0P a5o n) fuel 0 { i:=[(m:Int),(i:Int),op,a,b,c,d,e',f,v,o1,o2,o3,o4,o5,o6,o7,o8],b:=[],v:=[lv,x,w],m:=τ,k:=0 }=some (.bool true,[]):=by
 intro fuel
 induction fuel with
 | zero=>intro i τ h; omega
 | succ fuel ihf =>
  intro i τ h1 h2 h3 h4
  rw [Sys.loop,show saleroomlaw11_ExprCopies_S.loops[0]?=some a1M from rfl]
  simp -implicitDefEqProofs only [Qa,a1M,↓reduceIte,eq_self,Z1,Z2,Z3,Z4,Z5,Z6,Z7,Z8,Z9,Za,Zb,Zc,Zd,Ze,Zf,Zg,Zh,Nat.reduceAdd,Zi,if_true,if_false,Zl,Zm,Zn,Zo,Zp,Zq,Zr,Zs,Zt,Zu,Zv,Zw,Zx,Zy,Zz,ZA,ZB,ZC,ZD,ZE,a3t,decide_eq_true_eq]
  by_cases hlt:i < m
  ·rw [if_pos hlt]
   have h3':=h3
   rcases h3' with rfl | ⟨h,rows,aa,rfl,k0,k1,k2,k3,k4⟩
   ·simp only [PV.len] at hm; omega
   have hrl:=k4.length
   obtain rfl:rows.length=m:=by simp only [PV.len] at hm; omega
   obtain ⟨a1,ha1⟩:∃ a1,aa[i]?=some a1:=⟨_,QE (by omega)⟩
   obtain ⟨r1,hr1,hs1⟩:=k4.get ha1
   have hb1:=k3 a1 (QK ha1)
   obtain ⟨τ1,hcall,hc1⟩:=a5K lo a1 (.eref h rows.length i 9 0) r1 τ (.inr ⟨h,rows,_,i,k0,rfl,k1,hr1⟩) hs1 n (by omega) (by omega)
   have hcall:=evW hcall
   have:=ihf (i+1) τ1 (by omega) (by omega) (h3.chg hc1) (fun j hj=>(hc1.low j hj).trans (h4 j hj))
   rw [show ((i+1:Nat):Int)=(i:Int)+1 from by omega] at this
   have hel:PV.el (i:Int) 9 0 (.rsl h rows.length 9)=some (.eref h rows.length i 9 0):=by
    simp only [PV.el]
    rw [if_pos ⟨by omega,by omega,trivial⟩,QV]
   have hln:(PV.rsl h rows.length 9).len=rows.length:=rfl
   have q1:(leB 0 (i:Int)&&decide (i < rows.length))=true:=by simp [leB,hlt]
   have q2:(leB (-9223372036854775808) ((i:Int)+1)&&leB ((i:Int)+1) 9223372036854775807)=true:=by simp [leB]; omega
   simp only [a1o] at hcall
   simp -implicitDefEqProofs only [↓reduceIte,eq_self,Z1,Z2,Z3,Z4,Z5,Z6,Z7,Z8,Z9,Za,Zb,Zc,Zd,Ze,Zf,Zg,Zh,Nat.reduceAdd,Zi,if_true,if_false,Zl,Zm,Zn,Zo,Zp,Zq,Zr,Zs,Zt,Zu,Zv,Zw,Zx,Zy,Zz,ZA,ZB,ZC,ZD,ZE,hln,a3t,q1,hel,hcall,a1z,q2]
   exact this
  ·rw [if_neg hlt]
   have heq:=a8U τ e _ (hrow.toG τ) e _ (hwas.mono (P':=fun k=>k < lo) (σ':=τ) (fun h o hh ho=>⟨hh,by rw [h4 h hh]; exact ho⟩)).toG n (by omega) (by omega)
   have heq:=evW heq
   rw [e.beq_refl] at heq
   obtain ⟨n,rfl⟩:∃ k,n=k+1:=⟨n-1,by omega⟩
   have haw:=awW n τ
   simp only [a2A,a0R] at heq haw
   simp -implicitDefEqProofs only [↓reduceIte,eq_self,Z1,Z2,Z3,Z4,Z5,Z6,Z7,Z8,Z9,Za,Zb,Zc,Zd,Ze,Zf,Zg,Zh,Nat.reduceAdd,Zi,if_true,if_false,Zl,Zm,Zn,Zo,Zp,Zq,Zr,Zs,Zt,Zu,Zv,Zw,Zx,Zy,Zz,ZA,ZB,ZC,ZD,ZE,heq,haw]
   simp only [a0D]
   by_cases h0:τ.length=0
   ·obtain rfl:τ=[]:=QW h0
    rfl
   ·rw [if_neg (by simp [h0])]
    rfl
end Go.Proofs.Ytdadenjndpbppaa
set_option maxRecDepth 100000
namespace Go.Proofs.Ytdadenjndpbppaa
open Go.Sx
theorem a7D {P:Nat->Prop} {σ:List MO} {e:Ex} {row:List PV} (h:IsO P σ e row):∃ o1 o2 o3 o4 o5 o6 o7 o8 w,row=[.int .i64 o1,.int .i64 o2,.int .i64 o3,.int .i64 o4,.int .i64 o5,.int .i64 o6,.int .i64 o7,.int .i64 o8,w]/\w.one=true:=by
 obtain ⟨op,a,b,c,d,e',f,v,l⟩:=e
 simp only [IsO] at h
 obtain ⟨w,rfl,hw⟩:=h
 exact ⟨_,_,_,_,_,_,_,_,w,rfl,by rcases hw with ⟨_,rfl⟩ | ⟨_,_,_,_,rfl,_⟩<;>rfl⟩
mutual
theorem Shp.mono2 {lo lo':Nat} {σ σ':List MO} (hm:∀ (h:Nat) (o:MO),lo<=h->σ[h]?=some o->lo'<=h/\σ'[h]?=some o):∀ {e:Ex} {row:List PV},Shp lo σ e row->Shp lo' σ' e row
 | .node _ _ _ _ _ _ _ _ l,row,h=>by
  simp only [Shp] at h ⊢
  obtain ⟨x,hx,h⟩:=h
  refine ⟨x,hx,?_⟩
  rcases h with h | ⟨hh,rows,T,h0,rfl,h1,h2⟩
  ·exact .inl h
  ·exact .inr ⟨hh,rows,T,(hm _ _ h0 h1).1,rfl,(hm _ _ h0 h1).2,a1b.mono2 hm h2⟩
theorem a1b.mono2 {lo lo':Nat} {σ σ':List MO} (hm:∀ (h:Nat) (o:MO),lo<=h->σ[h]?=some o->lo'<=h/\σ'[h]?=some o):∀ {l:List Ex} {rows:List (List PV)},a1b lo σ l rows->a1b lo' σ' l rows
 | [],rows,h=>by simpa [a1b] using h
 | e::l,rows,h=>by
  simp only [a1b] at h
  obtain ⟨r,rs,rfl,h1,h2⟩:=h
  exact ⟨r,rs,rfl,Shp.mono2 hm h1,a1b.mono2 hm h2⟩
end
theorem a8D {lo B:Nat} {σ σ':List MO} {v:PV} {L:Nat} (hm:∀ (h:Nat) (o:MO),L<=h->σ[h]?=some o->lo<=h/\σ'[h]?=some o) (h:v=.nilS\/∃ h rows aa,v=.rsl h rows.length 9/\L<=h/\σ[h]?=some (.row rows 9 26)/\rows.length<=B/\(∀ a∈aa,Ex.size a<=B)/\a1b L σ aa rows):a4m lo B σ' v:=by
 rcases h with h | ⟨h,rows,aa,k0,k1,k2,k3,k4,k5⟩
 ·exact .inl h
 ·exact .inr ⟨h,rows,aa,k0,(hm _ _ k1 k2).1,(hm _ _ k1 k2).2,k3,k4,k5.mono2 hm⟩
theorem b3O (e:Ex) (row:List PV) (hrow:IsE e row) (n:Nat) (hbig:e.size<=120000) (hn:300001<=n):saleroomlaw11_ExprCopies_S.runD (a0P a5o n) n [.agg row] [] (fun r σ=>r=.bool true/\σ=[]):=by
 have c1:=evW (b5W [] rfl e row hrow n (by omega) (by omega))
 obtain ⟨wrow,σ1,c2,p1,w1⟩:=a5G e row hrow [] n (by omega) (by omega)
 have c2:=evW c2
 have hw0:IsO (fun k=>k < σ1.length) σ1 e wrow:=w1.mono (fun k o hk ho=>⟨hk.2,ho⟩)
 have c3:=evW (a8U σ1 e wrow w1.toG e row (hrow.toG σ1) n (by omega) (by omega))
 rw [e.beq_refl] at c3
 obtain ⟨o1,o2,o3,o4,o5,o6,o7,o8,w,rfl,hw1⟩:=a7D w1
 have hrow0:=hrow
 obtain ⟨N,hN⟩:∃ N,e.size=N:=⟨_,rfl⟩
 obtain ⟨op,a,b,c,d,e',f,v,x,rfl,hx1⟩:∃ op a b c d e' f v x,row=[.int .i64 op,.int .i64 a,.int .i64 b,.int .i64 c,.int .i64 d,.int .i64 e',.int .i64 f,.int .i64 v,x]/\x.one=true:=by
  obtain ⟨op,a,b,c,d,e',f,v,l⟩:=e
  simp only [IsE] at hrow
  obtain ⟨x,rows,rfl,hx,hl⟩:=hrow
  exact ⟨_,_,_,_,_,_,_,_,x,rfl,(a1G hx).2.2⟩
 have haw:=awW (n-1) []
 rw [show n-1+1=n by omega] at haw
 have fin:∀ (lv:PV) (τ:List MO),a4m σ1.length e.size τ lv->(∀ h,h < σ1.length->τ[h]?=σ1[h]?)->∀ m:Nat,lv.len=m->m<=e.size ->
   saleroomlaw11_ExprCopies_S.loopD (a0P a5o n) n 0 { i:=[lv.len,0,op,a,b,c,d,e',f,v,o1,o2,o3,o4,o5,o6,o7,o8],b:=[],v:=[lv,x,w],m:=τ,k:=0 } (fun r σ=>r=.bool true/\σ=[]):=by
  intro lv τ h1 h2 m hm hmb
  have:=b2C e op a b c d e' f v x hrow0 σ1.length o1 o2 o3 o4 o5 o6 o7 o8 w σ1 hw0 lv n hbig (by omega) m hm hmb n 0 τ (by omega) (QH _) h1 h2
  rw [<- hm] at this
  exact a6C n 0 _ this ⟨rfl,rfl⟩
 refine ⟨([op,a,b,c,d,e',f,v],[],[x]),?_,?_⟩
 ·show a0Q [.sh (.agg [_,_,_,_,_,_,_,_,_])] _=_
  simp only [a0Q,a0z,a0s,Qd,Qa,Qf,Qb,Qe,if_true,hx1]
 show PT.wp _ a2B _ _
 unfold a2B
 simp only [a4w,a3Y,a2A,a0R] at c1 c2 c3 haw
 refine a6f (z:=([],[decide (e.size<=400)],[])) rfl c1 rfl ?_
 by_cases hf:¬ e.size<=400
 ·simp only [hf,decide_false]
  refine b3n rfl rfl ?_
  refine a6f (z:=([],[true],[])) rfl haw rfl ?_
  exact ⟨.bool true,rfl,(.bool true,[]),rfl,rfl,rfl⟩
 have hf:=Decidable.not_not.1 hf
 simp only [hf,decide_true]
 refine a8V rfl rfl ?_
 refine a6f (z:=([o1,o2,o3,o4,o5,o6,o7,o8],[],[w])) rfl c2 (by simp -implicitDefEqProofs only [↓reduceIte,eq_self,Z1,Z2,Z3,Z4,Z5,Z6,Z7,Z8,Z9,Za,Zb,Zc,Zd,Ze,Zf,Zg,Zh,Nat.reduceAdd,Zi,if_true,if_false,Zl,Zm,Zn,Zo,Zp,Zq,Zr,Zs,Zt,Zu,Zv,Zw,Zx,Zy,Zz,ZA,ZB,ZC,ZD,ZE,hw1]) ?_
 refine a6f (z:=([],[true],[])) rfl c3 rfl ?_
 refine a8V rfl rfl ?_
 simp only [PEnv.push,Qb,Qf,Qe]
 have hs9:∀ z1 z2 z3 z4 z5 z6 z7 z8 w y1 y2 y3 y4 y5 y6 y7 y8 u:PV,a3m [z1,z2,z3,z4,z5,z6,z7,z8,w] 0 [y1,y2,y3,y4,y5,y6,y7,y8,u]=[y1,y2,y3,y4,y5,y6,y7,y8,u]:=fun _ _ _ _ _ _ _ _ _ _ _ _ _ _ _ _ _ _=>rfl
 have hlo:∀ τ:List MO,σ1 <+: τ->∀ h,h < σ1.length->τ[h]?=σ1[h]?:=fun τ hp h hh=>by
  obtain ⟨t,rfl⟩:=hp
  rw [QJ hh]
 refine b3g ?_ ?_
 ·
  unfold a3d
  obtain ⟨crow,σ2,c4,p2,w2⟩:=a5G e _ hrow0 σ1 n (by omega) (by omega)
  have c4:=evW c4
  obtain ⟨q1,q2,q3,q4,q5,q6,q7,q8,u,rfl,hu1⟩:=a7D w2
  simp only [a3Y] at c4
  refine a6f (z:=([q1,q2,q3,q4,q5,q6,q7,q8],[],[u])) rfl c4 (by simp -implicitDefEqProofs only [↓reduceIte,eq_self,Z1,Z2,Z3,Z4,Z5,Z6,Z7,Z8,Z9,Za,Zb,Zc,Zd,Ze,Zf,Zg,Zh,Nat.reduceAdd,Zi,if_true,if_false,Zl,Zm,Zn,Zo,Zp,Zq,Zr,Zs,Zt,Zu,Zv,Zw,Zx,Zy,Zz,ZA,ZB,ZC,ZD,ZE,hu1]) ?_
  simp only [PEnv.push,Qb,Qf,Qe]
  refine b3g ?_ ?_
  ·unfold a3b
   obtain ⟨lv,σ3,c5,p3,hlv⟩:=a6Y e _ hrow0 σ2 n (by omega) (by omega)
   have c5:=evW c5
   have hl2:=p2.length_le
   have hl3:=p3.length_le
   obtain ⟨σ4,hσ4⟩:∃ σ4,σ4=σ3++[.cells [.int .i64 q1,.int .i64 q2,.int .i64 q3,.int .i64 q4,.int .i64 q5,.int .i64 q6,.int .i64 q7,.int .i64 q8,u] 26]:=⟨_,rfl⟩
   have p4:σ3 <+: σ4:=by rw [hσ4]; exact ⟨_,rfl⟩
   have hsh:Shp σ1.length σ4 e _:=(w2.mono (P':=fun k=>σ1.length<=k) (σ':=σ4) (fun k o hk ho=>⟨hk.1,a1y (p3.trans p4) ho⟩)).shp (fun _ hk=>hk)
   have g3:σ4[σ3.length]?=some (.cells [.int .i64 q1,.int .i64 q2,.int .i64 q3,.int .i64 q4,.int .i64 q5,.int .i64 q6,.int .i64 q7,.int .i64 q8,u] 26):=by rw [hσ4]; simp
   obtain ⟨σ5,c6,hc6⟩:=a5K σ1.length e (.ref σ3.length 0) _ σ4 (.inl ⟨σ3.length,_,by omega,rfl,g3⟩) hsh n (by omega) (by omega)
   have c6:=evW c6
   have hl5:a4m σ1.length e.size σ5 lv:=(a8D (fun h o hh ho=>⟨by omega,a1y p4 ho⟩) hlv).chg hc6
   obtain ⟨k1,k2,m,k3,k4⟩:=hl5.kind
   refine PT.ev_wp (r:=.jump 0 { i:=[lv.len,0,op,a,b,c,d,e',f,v,o1,o2,o3,o4,o5,o6,o7,o8],b:=[],v:=[lv,x,w],m:=σ5,k:=0 }) ?_
    (fin lv σ5 hl5 (fun h hh=>(hc6.low h hh).trans (hlo σ4 ((p2.trans p3).trans p4) h hh)) m k3 k4)
   clear fin hl5 hlv hsh k4 g3
   subst hσ4
   simp only [a4t,a1o] at c5 c6
   have g1:∀ C:MO,(σ3++[C])[σ3.length]?=some C:=fun C=>by simp
   have g2:∀ C D:MO,(σ3++[C]).set σ3.length D=σ3++[D]:=fun C D=>by rw [QQ _ _ (by omega),QN]; rfl
   simp -implicitDefEqProofs only [↓reduceIte,eq_self,Z1,Z2,Z3,Z4,Z5,Z6,Z7,Z8,Z9,Za,Zb,Zc,Zd,Ze,Zf,Zg,Zh,Nat.reduceAdd,Zi,if_true,if_false,Zl,Zm,Zn,Zo,Zp,Zq,Zr,Zs,Zt,Zu,Zv,Zw,Zx,Zy,Zz,ZA,ZB,ZC,ZD,ZE,c5,k1,k2,g1,g2,hs9,PV.on,Q0,c6,a1z]
  ·unfold a3a
   obtain ⟨lv,σ3,c5,p3,hlv⟩:=a6Y e _ hrow0 (σ2++[.cells [.int .i64 0,.int .i64 0,.int .i64 0,.int .i64 0,.int .i64 0,.int .i64 0,.int .i64 0,.int .i64 0,.nilS] 26]) n (by omega) (by omega)
   have c5:=evW c5
   have hl2:=p2.length_le
   have g0:=a1y p3 (i:=σ2.length) (x:=.cells [.int .i64 0,.int .i64 0,.int .i64 0,.int .i64 0,.int .i64 0,.int .i64 0,.int .i64 0,.int .i64 0,.nilS] 26) (by simp)
   have hl3:=(Qj.1 g0).1
   have hlv':=a8D (lo:=σ1.length) (σ':=σ3.set σ2.length (.cells [.int .i64 q1,.int .i64 q2,.int .i64 q3,.int .i64 q4,.int .i64 q5,.int .i64 q6,.int .i64 q7,.int .i64 q8,u] 26)) (fun h o hh ho=>by
    rw [QS,QY] at hh
    exact ⟨by omega,by rw [Qg (by omega)]; exact ho⟩) hlv
   have g3:(σ3.set σ2.length (.cells [.int .i64 q1,.int .i64 q2,.int .i64 q3,.int .i64 q4,.int .i64 q5,.int .i64 q6,.int .i64 q7,.int .i64 q8,u] 26))[σ2.length]?=some (.cells [.int .i64 q1,.int .i64 q2,.int .i64 q3,.int .i64 q4,.int .i64 q5,.int .i64 q6,.int .i64 q7,.int .i64 q8,u] 26):=by rw [QD hl3]
   have hsh:Shp σ1.length (σ3.set σ2.length (.cells [.int .i64 q1,.int .i64 q2,.int .i64 q3,.int .i64 q4,.int .i64 q5,.int .i64 q6,.int .i64 q7,.int .i64 q8,u] 26)) e _:=(w2.mono (P':=fun k=>σ1.length<=k) (fun k o hk ho=>⟨hk.1,by
    rw [Qg (by omega)]; exact a1y (QZ.trans ⟨_,rfl⟩ p3) ho⟩)).shp (fun _ hk=>hk)
   obtain ⟨σ5,c6,hc6⟩:=a5K σ1.length e (.ref σ2.length 0) _ _ (.inl ⟨σ2.length,_,by omega,rfl,g3⟩) hsh n (by omega) (by omega)
   have c6:=evW c6
   have hl5:a4m σ1.length e.size σ5 lv:=hlv'.chg hc6
   obtain ⟨k1,k2,m,k3,k4⟩:=hl5.kind
   refine PT.ev_wp (r:=.jump 0 { i:=[lv.len,0,op,a,b,c,d,e',f,v,o1,o2,o3,o4,o5,o6,o7,o8],b:=[],v:=[lv,x,w],m:=σ5,k:=0 }) ?_
    (fin lv σ5 hl5 (fun h hh=>(hc6.low h hh).trans (by rw [Qg (by omega)]; exact hlo σ3 (p2.trans (QZ.trans ⟨_,rfl⟩ p3)) h hh)) m k3 k4)
   clear fin hl5 hlv hlv' hsh k4 g3
   simp only [a4t,a1o] at c5 c6
   simp -implicitDefEqProofs only [↓reduceIte,eq_self,Z1,Z2,Z3,Z4,Z5,Z6,Z7,Z8,Z9,Za,Zb,Zc,Zd,Ze,Zf,Zg,Zh,Nat.reduceAdd,Zi,if_true,if_false,Zl,Zm,Zn,Zo,Zp,Zq,Zr,Zs,Zt,Zu,Zv,Zw,Zx,Zy,Zz,ZA,ZB,ZC,ZD,ZE,c5,k1,k2,g0,hs9,PV.on,Q0,c6,a1z]
 ·
  unfold a3c
  obtain ⟨crow,σ2,c4,p2,w2⟩:=a5G e _ hrow0 (σ1++[.cells [.int .i64 0,.int .i64 0,.int .i64 0,.int .i64 0,.int .i64 0,.int .i64 0,.int .i64 0,.int .i64 0,.nilS] 26]) n (by omega) (by omega)
  have c4:=evW c4
  obtain ⟨q1,q2,q3,q4,q5,q6,q7,q8,u,rfl,hu1⟩:=a7D w2
  obtain ⟨lv,σ3,c5,p3,hlv⟩:=a6Y e _ hrow0 σ2 n (by omega) (by omega)
  have c5:=evW c5
  have hl2:=p2.length_le
  rw [QS,QY] at hl2
  have g0:=a1y (p2.trans p3) (i:=σ1.length) (x:=.cells [.int .i64 0,.int .i64 0,.int .i64 0,.int .i64 0,.int .i64 0,.int .i64 0,.int .i64 0,.int .i64 0,.nilS] 26) (by simp)
  have hl3:=(Qj.1 g0).1
  have hlv':=a8D (lo:=σ1.length) (σ':=σ3.set σ1.length (.cells [.int .i64 q1,.int .i64 q2,.int .i64 q3,.int .i64 q4,.int .i64 q5,.int .i64 q6,.int .i64 q7,.int .i64 q8,u] 26)) (fun h o hh ho=>⟨by omega,by rw [Qg (by omega)]; exact ho⟩) hlv
  have g3:(σ3.set σ1.length (.cells [.int .i64 q1,.int .i64 q2,.int .i64 q3,.int .i64 q4,.int .i64 q5,.int .i64 q6,.int .i64 q7,.int .i64 q8,u] 26))[σ1.length]?=some (.cells [.int .i64 q1,.int .i64 q2,.int .i64 q3,.int .i64 q4,.int .i64 q5,.int .i64 q6,.int .i64 q7,.int .i64 q8,u] 26):=by rw [QD hl3]
  have hsh:Shp σ1.length (σ3.set σ1.length (.cells [.int .i64 q1,.int .i64 q2,.int .i64 q3,.int .i64 q4,.int .i64 q5,.int .i64 q6,.int .i64 q7,.int .i64 q8,u] 26)) e _:=(w2.mono (P':=fun k=>σ1.length<=k) (fun k o hk ho=>by
   rw [QS,QY] at hk
   exact ⟨by omega,by rw [Qg (by omega)]; exact a1y p3 ho⟩)).shp (fun _ hk=>hk)
  obtain ⟨σ5,c6,hc6⟩:=a5K σ1.length e (.ref σ1.length 0) _ _ (.inl ⟨σ1.length,_,by omega,rfl,g3⟩) hsh n (by omega) (by omega)
  have c6:=evW c6
  have hl5:a4m σ1.length e.size σ5 lv:=hlv'.chg hc6
  obtain ⟨k1,k2,m,k3,k4⟩:=hl5.kind
  refine PT.ev_wp (r:=.jump 0 { i:=[lv.len,0,op,a,b,c,d,e',f,v,o1,o2,o3,o4,o5,o6,o7,o8],b:=[],v:=[lv,x,w],m:=σ5,k:=0 }) ?_
   (fin lv σ5 hl5 (fun h hh=>(hc6.low h hh).trans (by rw [Qg (by omega)]; exact hlo σ3 (QZ.trans ⟨_,rfl⟩ (p2.trans p3)) h hh)) m k3 k4)
  clear fin hl5 hlv hlv' hsh k4 g3
  simp only [a3Y,a4t,a1o] at c4 c5 c6
  simp -implicitDefEqProofs only [↓reduceIte,eq_self,Z1,Z2,Z3,Z4,Z5,Z6,Z7,Z8,Z9,Za,Zb,Zc,Zd,Ze,Zf,Zg,Zh,Nat.reduceAdd,Zi,if_true,if_false,Zl,Zm,Zn,Zo,Zp,Zq,Zr,Zs,Zt,Zu,Zv,Zw,Zx,Zy,Zz,ZA,ZB,ZC,ZD,ZE,c4,c5,hu1,k1,k2,g0,hs9,PV.on,Q0,c6,a1z]
end Go.Proofs.Ytdadenjndpbppaa
