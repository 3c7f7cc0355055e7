/- ExprCopies: a copy is equal to the expression and shares no memory with it; nor do atoms, where what is read is of bulk at most 1048576. -/
import Derived.Test.YtdadenjndpbppaaHCp
import Derived.Test.YtdadenjndpbppaaRows
import Derived.WalkKit
import Derived.ProofKit
import Derived.OpenShut
import Derived.JoinedCond
import Derived.ShutString
set_option linter.unusedSimpArgs false
set_option linter.unusedVariables false
open Option renaming bind_some → Q0, pure_def → Q1, bind_eq_some_iff → Q3, bind_eq_bind → Q5
open Option.some renaming injEq → Q2
open List renaming mapM_cons → Q4
set_option maxRecDepth 100000
namespace Go.Proofs.Ytdadenjndpbppaa
open Go.ChangeShapes Go.WideShapes Go.ChangeAt Go.RowKit Go.Sx
def a8I:Nat->List PV->Option Ex
 | 0,_=>none
 | n+1,[.int .i64 op,.int .i64 a,.int .i64 b,.int .i64 c,.int .i64 d,.int .i64 e,.int .i64 f,.int .i64 v,x]=>(x.rowsOf 9).bind fun rows=>(rows.mapM (a8I n)).map (.node op a b c d e f v)
 | _+1,_=>none
theorem b2g {g:List PV->Option Ex} (hg:∀ r e,g r=some e->IsE e r):∀ {rows:List (List PV)} {l:List Ex},rows.mapM g=some l->a1a l rows
 | [],l,h=>by
  simp only [List.mapM_nil,Q1,Q2] at h
  subst h; rfl
 | r::rows,l,h=>by
  simp only [Q4,Q5,Q1,Q3,Q2] at h
  obtain ⟨e,he,m,hm,rfl⟩:=h
  exact ⟨r,rows,rfl,hg r e he,b2g hg hm⟩
theorem b5D:∀ (n:Nat) (row:List PV) (e:Ex),a8I n row=some e->IsE e row:=by
 intro n
 induction n with
 | zero=>intro row e h; simp [a8I] at h
 | succ n ih =>
  intro row e h
  unfold a8I at h
  split at h
  ·cases h
  ·rename_i n' op a b c d e' f v x heq
   simp only [Nat.add_eq,Nat.add_zero,Nat.succ.injEq,Nat.add_right_cancel_iff] at heq
   subst heq
   simp only [Q3,Option.map_eq_some_iff] at h
   obtain ⟨rows,hr,l,hl,rfl⟩:=h
   simp only [IsE]
   exact ⟨x,rows,rfl,hr,b2g (fun r e=>ih r e) hl⟩
  ·cases h
theorem b1Y {g:List PV->Option Ex}:∀ {rows:List (List PV)} {l:List Ex},(∀ r e,e∈l->IsE e r->g r=some e)->a1a l rows->rows.mapM g=some l
 | rows,[],hg,h=>by
  simp only [a1a] at h
  subst h; rfl
 | rows,e::l,hg,h=>by
  simp only [a1a] at h
  obtain ⟨r,rs,rfl,h1,h2⟩:=h
  simp only [Q4,hg r e (by simp) h1,b1Y (fun r e he hr=>hg r e (by simp [he]) hr) h2,Q5,Q1,Q0]
theorem b5M:∀ (n:Nat) (e:Ex) (row:List PV),IsE e row->e.size<=n->a8I n row=some e:=by
 intro n
 induction n with
 | zero=>intro e row h hn; have:=b1J e; omega
 | succ n ih =>
  intro e row h hn
  obtain ⟨op,a,b,c,d,e',f,v,l⟩:=e
  simp only [Ex.size] at hn
  simp only [IsE] at h
  obtain ⟨x,rows,rfl,hx,hl⟩:=h
  simp only [a8I,hx,Q0]
  rw [b1Y (fun r e he hr=>ih e r hr (by have:=a3D he; omega)) hl]
  rfl
def a7R (N:Nat):List PV->List MO->Option (PV × List MO)
 | [.agg ps],[]=>(a8I N ps).bind fun e=>if e.size<=120000 then some (.bool true,[]) else none
 | _,_=>none
def a7U:Sx.Sys:=⟨[],.stuck,[],some (a7R 120000),none⟩
theorem b3J:SysOk Try.prog a1u a7U where
 ct Φ hΦ n aa σ r σ' hh:=by
  change a7R 120000 aa σ=some (r,σ') at hh
  unfold a7R at hh
  split at hh
  case h_2=>cases hh
  rename_i ps
  rw [Q3] at hh
  obtain ⟨e,he,hh⟩:=hh
  split at hh
  case isFalse=>cases hh
  rename_i hb
  simp only [Q2,Prod.mk.injEq] at hh
  obtain ⟨rfl,rfl⟩:=hh
  exact (a4E.dm (a0P a5o 300001) (evalF_good b5R 300001) 300001 _ _ _ (b3O e ps (b5D _ _ _ he) 300001 hb (by omega))).one
def b3t (f:Nat):Option Sx.Sys:=if f=a1u then some a7U else none
theorem b5S:∀ f S,b3t f=some S->SysOk Try.prog f S:=by
 intro f S h
 unfold b3t at h
 split at h
 ·rename_i hf; subst hf; cases h; exact b3J
 ·cases h
theorem a9f (n0:Nat) (ps:List PV) (h:a1d Try.prog n0 26 ps) (hb:PV.wts ps<=1048576):a0P b3t 2 a1u [.agg ps] []=some (.bool true,[]):=by
 obtain ⟨e,he,hs⟩:=b4P n0 ps h
 rw [a0P,show b3t a1u=some a7U from if_pos rfl,Q0,a7U,b1T]
 simp only [a7R]
 rw [b5M 120000 e ps he (by omega),Q0,if_pos (by omega)]
mutual
theorem a3Z {H:Type}:∀ d:DataW H,Rows.uptoBulk d=Go.Sx.bulk d
 | .lit l=>by cases l<;>simp [Rows.uptoBulk,Go.Sx.bulk]
 | .nil=>by simp [Rows.uptoBulk,Go.Sx.bulk]
 | .ptr d=>by simp [Rows.uptoBulk,Go.Sx.bulk,a3Z d]
 | .slice e s=>by simp [Rows.uptoBulk,Go.Sx.bulk,a3h e,a3h s]
 | .agg e=>by simp [Rows.uptoBulk,Go.Sx.bulk,a3h e]
 | .iface _ d=>by simp [Rows.uptoBulk,Go.Sx.bulk,a3Z d]
 | .map e=>by simp [Rows.uptoBulk,Go.Sx.bulk,a6j e]
 | .held _=>by simp [Rows.uptoBulk,Go.Sx.bulk]
theorem a3h {H:Type}:∀ d:List (DataW H),Rows.uptoBulkAll d=Go.Sx.bulks d
 | []=>by simp [Rows.uptoBulkAll,Go.Sx.bulks]
 | d::r=>by simp [Rows.uptoBulkAll,Go.Sx.bulks,a3Z d,a3h r]
theorem a6j {H:Type}:∀ d:List (Lit × DataW H),Rows.uptoBulkEntries d=Go.Sx.bulkEs d
 | []=>by simp [Rows.uptoBulkEntries,Go.Sx.bulkEs]
 | d::r=>by simp [Rows.uptoBulkEntries,Go.Sx.bulkEs,a9M d,a6j r]
theorem a9M {H:Type}:∀ d:Lit × DataW H,Rows.uptoBulkEntry d=Go.Sx.bulkE d
 | (k,d)=>by cases k<;>simp [Rows.uptoBulkEntry,Go.Sx.bulkE,a3Z d]
end
theorem a9Y:ownKnob Try.prog.godebug=none:=by kernel_rfl
theorem a9z:laidOutB Try.prog=true:=by kernel_rfl
theorem a8t:Go.Sx.closed Try.prog [26,3,23,2,24]=true:=by kernel_rfl
set_option maxRecDepth 100000 in
theorem a8c (os:Os) (started:os.Started) (H:Type) (enc:TypeId × Value->H) (F:Stop.Interp) :
  ReturnsInHanded {} Try.checked os 7 .any ((Rows.OpenSpec.upto Rows.exprCopiesSpec).pre6 enc Try.prog Try.f7 Rows.exprCopiesUptoRow.domain false) (((Rows.OpenSpec.upto Rows.exprCopiesSpec).at F).post enc Try.prog Try.f7 false true false false):=by
 refine returnsInHanded_of_cond (C:=Try.checked) (s:=(Rows.OpenSpec.upto Rows.exprCopiesSpec)) (k:=Rows.uptoSmall) rfl a9Y started (by kernel_rfl) Try.func7
  (OpenSpec.witness (enc:=enc) (C:=Try.checked) (s:=(Rows.OpenSpec.upto Rows.exprCopiesSpec)) (k:=Rows.uptoSmall) rfl false ⟨#[],#[.agg #[.int .i64 0,.int .i64 0,.int .i64 0,.int .i64 0,.int .i64 0,.int .i64 0,.int .i64 0,.int .i64 0,.slice none 0 0]],[]⟩ 8 (by kernel_rfl) (by kernel_rfl) (by kernel_rfl)
   (x:=([.agg [.lit (.int .i64 0),.agg [.lit (.int .i64 0),.lit (.int .i64 0),.lit (.int .i64 0),.lit (.int .i64 0),.lit (.int .i64 0),.lit (.int .i64 0)],.lit (.int .i64 0),.nil]],[],[])) (by kernel_rfl) rfl (by kernel_rfl)) ?_
 intro W base args ds gs before hval0 hW _ hk _
 suffices hz:Calls Try.prog 7 args W fun e W'=>∃ v,e=.returned v/\Rows.exprCopiesSpec.post enc Try.prog Try.f7 false true false false W args v W' from hz
 have hval:∀ (j:Nat) t v,Try.f7.params[j]?=some t->args[j]?=some v->Value.okWide Try.prog W .any base t v:=hval0
 have hW':=hW
 obtain ⟨p,q,hA0,hV,rfl,hfz,hnd⟩:=hW
 have hA:DataW.TrodAll enc Try.prog W 0 (fun _=>true) true Try.f7.params.toList args.toList ds p:=hA0
 rw [Try.params7] at hA hval
 obtain ⟨v0,vs0,d0,ds0,p0,q0,hargs,rfl,rfl,h0,r0⟩:=trodAll_cons hA
 obtain ⟨rfl,rfl,rfl⟩:=trodAll_nil r0
 obtain rfl:args=#[v0]:=by cases args; simp_all
 obtain ⟨rfl,rfl⟩:=trodVars_none hV
 have hb0:=of_decide_eq_true hk
 simp only [a3h,Go.Sx.bulks,List.append_nil] at hb0
 have k0:=h0
 have lt0:∀ x∈p0,x.block < W.heap.size:=by obtain ⟨m,hm⟩:=k0; exact DataW.trod_lt m _ _ _ hm
 obtain ⟨n0,a0,e0,s0,w0⟩:=b3z a8t (t:=26) (by decide) Try.underlying26 (hval 0 26 v0 rfl rfl) h0
 clear hA0 hval0
 have hr:Go.Sx.Reps (Go.Sx.hpOf W) [] [.agg a0] [v0]:=⟨v0,_,rfl,e0,rfl⟩
 refine (Go.Sx.lift_true (Go.Sx.evalF_good b5S 2 7) (a9f n0 a0 s0 (by omega)) hr).mono fun e W' hh=>?_
 obtain ⟨rfl,bel⟩:=hh
 exact ⟨_,rfl,_,_,_,[],_,[],hW',trodAll_mk1 (shut_bool Try.underlying4 _),(trodAll_cons_mk (Below.trod a9z (by kernel_rfl) (of_decide_eq_true (by kernel_rfl)) k0 bel lt0) trodAll_mk0),rfl,bel.frame _,fun h=>by cases h⟩
theorem exprCopies_proved:Rows.ExprCopiesUptoSaid :=
 OpenClaim.holds_of_cond 7 Try.f7 rfl rfl rfl rfl rfl rfl rfl ⟨rfl,rfl,rfl,rfl,rfl⟩ rfl rfl rfl rfl rfl (by kernel_rfl) Try.func7 (by kernel_rfl)
  (of_decide_eq_true (by kernel_rfl)) (by unfold Func.isWrapper; first | (rw [if_pos (by decide +kernel)]; kernel_rfl) | (rw [if_neg (by decide +kernel)]; exact ⟨rfl,rfl⟩))
  (fun os started H enc _ F=>a8c os started H enc F)
end Go.Proofs.Ytdadenjndpbppaa
