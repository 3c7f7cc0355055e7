/- The examples of the chapter on clocks: tt whatever objects there are. -/
import Derived.Test.YtmekflfjaflmkaaGreatHSys
import Derived.Test.YtmekflfjaflmkaaGreatHTxd
set_option linter.unusedSimpArgs false
set_option linter.unusedVariables false
set_option linter.unusedSectionVars false
open Option renaming bind_some → Q0
open Go.Sx renaming Sys → Q1
open Go.Proofs.Tryz renaming prog → Q2
open Bool renaming true → tt
open Option renaming some → sm, none → nn
set_option maxRecDepth 100000
namespace Go.Proofs.YtmekflfjaflmkaaGreat
open Go.Sx
def e9s(f:Nat):Option Q1:=if f=8 then sm c0d else Tab f
theorem f4v:∀f S,e9s f=sm S->SysOk Q2 f S:=by
 intro f S h;unfold e9s at h;split at h
 ·rename_i hf;subst hf;cases h;exact c8U
 ·exact f0k f S h
theorem f3Y:a0a e9s 40000 8 [] []=sm (.bool tt,[]):=by kernel_rfl
def e4b:List PV->List MO->Option (PV×List MO):=e3D (a0a e9s 40000 8)
theorem f1m(σ:List MO):e4b [] σ=sm (.bool tt,σ):=by
 unfold e4b e3D;rw[show d0x σ []=sm [] from rfl,Q0,f3Y];rfl
def d9U:Q1:=⟨[],.stuck,[],sm e4b,nn⟩
theorem f0z:SysOk Q2 8 d9U where
 ct Φ hΦ n aa σ r σ' hh:=f4C (evalF_good f4v 40000 8) aa σ r σ' hh
def b3p(f:Nat):Option Q1:=if f=8 then sm d9U else Tab f
theorem f4A:∀f S,b3p f=sm S->SysOk Q2 f S:=by
 intro f S h;unfold b3p at h;split at h
 ·rename_i hf;subst hf;cases h;exact f0z
 ·exact f0k f S h
theorem e7Q:∀f S,Tab f=sm S->b3p f=sm S:=by
 intro f S h;unfold b3p;rw[if_neg (by rintro rfl;exact absurd (h.symm.trans (show Tab 8=nn by kernel_rfl)) (by simp))];exact h
theorem evW{n:Nat}{f:Nat}{a:List PV}{m:List MO}{r:PV×List MO}(h:a0a Tab n f a m=sm r):a0a b3p n f a m=sm r:=d9E e7Q n f a m r h
theorem f2T(F:List PV->List MO->Option (PV×List MO))(Φ:Fns)(n:Nat)(a:List PV)(σ:List MO):Sys.run Φ (⟨[],.stuck,[],sm F,nn⟩:Q1) n a σ=F a σ:=rfl
theorem awW(n:Nat)(σ:List MO):a0a b3p (n+1) 8 [] σ=sm (.bool tt,σ):=by
 rw[a0a,show b3p 8=sm d9U from if_pos rfl,Q0,d9U,f2T];exact f1m σ
end Go.Proofs.YtmekflfjaflmkaaGreat
