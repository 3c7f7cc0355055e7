/- The examples of the chapter on clocks: true whatever objects there are. -/
import Derived.Test.YtmekflfjaflmkaaHSys
import Derived.Test.YtmekflfjaflmkaaHTxd
set_option linter.unusedSimpArgs false
set_option linter.unusedVariables false
set_option linter.unusedSectionVars false
open Option renaming bind_some → Q0
set_option maxRecDepth 100000
namespace Go.Proofs.Ytmekflfjaflmkaa
open Go.Sx
def c8a(f:Nat):Option Sx.Sys:=if f=a0G then some a6M else Tab f
theorem d2U:∀f S,c8a f=some S->SysOk Try.prog f S:=by
 intro f S h;unfold c8a at h;split at h
 ·rename_i hf;subst hf;cases h;exact b5a
 ·exact c9G f S h
theorem d3p:a0b c8a 40000 a0G [] []=some (.bool true,[]):=by kernel_rfl
def c5G:List PV->List MO->Option (PV×List MO):=c5t (a0b c8a 40000 a0G)
theorem c9p(σ:List MO):c5G [] σ=some (.bool true,σ):=by
 unfold c5G c5t;rw[show b6I σ []=some [] from rfl,Q0,d3p];rfl
def c2m:Sx.Sys:=⟨[],.stuck,[],some c5G,none⟩
theorem c9H:SysOk Try.prog a0G c2m where
 ct Φ hΦ n aa σ r σ' hh:=d2A (evalF_good d2U 40000 a0G) aa σ r σ' hh
def a4i(f:Nat):Option Sx.Sys:=if f=a0G then some c2m else Tab f
theorem d2R:∀f S,a4i f=some S->SysOk Try.prog f S:=by
 intro f S h;unfold a4i at h;split at h
 ·rename_i hf;subst hf;cases h;exact c9H
 ·exact c9G f S h
theorem c7n:∀f S,Tab f=some S->a4i f=some S:=by
 intro f S h;unfold a4i;rw[if_neg (by rintro rfl;exact absurd (h.symm.trans (show Tab a0G=none by kernel_rfl)) (by simp))];exact h
theorem evW{n:Nat}{f:Nat}{a:List PV}{m:List MO}{r:PV×List MO}(h:a0b Tab n f a m=some r):a0b a4i n f a m=some r:=c2I c7n n f a m r h
theorem d0G(F:List PV->List MO->Option (PV×List MO))(Φ:Fns)(n:Nat)(a:List PV)(σ:List MO):Sys.run Φ (⟨[],.stuck,[],some F,none⟩:Sx.Sys) n a σ=F a σ:=rfl
theorem awW(n:Nat)(σ:List MO):a0b a4i (n+1) a0G [] σ=some (.bool true,σ):=by
 rw[a0b,show a4i a0G=some c2m from if_pos rfl,Q0,c2m,d0G];exact c9p σ
end Go.Proofs.Ytmekflfjaflmkaa
