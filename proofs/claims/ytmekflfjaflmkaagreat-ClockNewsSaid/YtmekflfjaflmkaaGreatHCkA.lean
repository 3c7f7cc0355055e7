/- The examples of the chapter on clocks: true whatever objects there are. -/
import Derived.Test.YtmekflfjaflmkaaGreatHSys
import Derived.Test.YtmekflfjaflmkaaGreatHTxd
set_option linter.unusedSimpArgs false
set_option linter.unusedVariables false
set_option linter.unusedSectionVars false
open Option renaming bind_some → Q0
set_option maxRecDepth 100000
namespace Go.Proofs.YtmekflfjaflmkaaGreat
open Go.Sx
def c8C(f:Nat):Option Sx.Sys:=if f=a0T then some a4O else Tab f
theorem d1Y:∀f S,c8C f=some S->SysOk Tryz.prog f S:=by
 intro f S h;unfold c8C at h;split at h
 ·rename_i hf;subst hf;cases h;exact b5c
 ·exact c9u f S h
theorem d2j:a0a c8C 40000 a0T [] []=some (.bool true,[]):=by kernel_rfl
def c5E:List PV->List MO->Option (PV×List MO):=c5e (a0a c8C 40000 a0T)
theorem c8S(σ:List MO):c5E [] σ=some (.bool true,σ):=by
 unfold c5E c5e;rw[show b6n σ []=some [] from rfl,Q0,d2j];rfl
def c2u:Sx.Sys:=⟨[],.stuck,[],some c5E,none⟩
theorem c9k:SysOk Tryz.prog a0T c2u where
 ct Φ hΦ n aa σ r σ' hh:=d2c (evalF_good d1Y 40000 a0T) aa σ r σ' hh
def b1f(f:Nat):Option Sx.Sys:=if f=a0T then some c2u else Tab f
theorem d1H:∀f S,b1f f=some S->SysOk Tryz.prog f S:=by
 intro f S h;unfold b1f at h;split at h
 ·rename_i hf;subst hf;cases h;exact c9k
 ·exact c9u f S h
theorem c7l:∀f S,Tab f=some S->b1f f=some S:=by
 intro f S h;unfold b1f;rw[if_neg (by rintro rfl;exact absurd (h.symm.trans (show Tab a0T=none by kernel_rfl)) (by simp))];exact h
theorem evW{n:Nat}{f:Nat}{a:List PV}{m:List MO}{r:PV×List MO}(h:a0a Tab n f a m=some r):a0a b1f n f a m=some r:=c2F c7l n f a m r h
theorem d0i(F:List PV->List MO->Option (PV×List MO))(Φ:Fns)(n:Nat)(a:List PV)(σ:List MO):Sys.run Φ (⟨[],.stuck,[],some F,none⟩:Sx.Sys) n a σ=F a σ:=rfl
theorem awW(n:Nat)(σ:List MO):a0a b1f (n+1) a0T [] σ=some (.bool true,σ):=by
 rw[a0a,show b1f a0T=some c2u from if_pos rfl,Q0,c2u,d0i];exact c8S σ
end Go.Proofs.YtmekflfjaflmkaaGreat
