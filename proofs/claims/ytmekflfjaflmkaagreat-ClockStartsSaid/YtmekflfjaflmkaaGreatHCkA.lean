/- The examples of the chapter on clocks: true whatever objects there are. -/
import Derived.Test.YtmekflfjaflmkaaGreatHSys
import Derived.Test.YtmekflfjaflmkaaGreatHTxd
set_option linter.unusedSimpArgs false
set_option linter.unusedVariables false
open Option renaming bind_some → Q0
set_option maxRecDepth 100000
namespace Go.Proofs.YtmekflfjaflmkaaGreat
open Go.Sx
def c8T(f:Nat):Option Sx.Sys:=if f=a1i then some e0k else Tab f
theorem d3v:∀f S,c8T f=some S->SysOk Tryz.prog f S:=by
 intro f S h;unfold c8T at h;split at h
 ·rename_i hf;subst hf;cases h;exact b5d
 ·exact c9y f S h
theorem d3w:a0B c8T 40000 a1i [] []=some (.bool true,[]):=by kernel_rfl
def c5R:List PV->List MO->Option (PV×List MO):=c5s (a0B c8T 40000 a1i)
theorem c9V(σ:List MO):c5R [] σ=some (.bool true,σ):=by
 unfold c5R c5s;rw[show b6H σ []=some [] from rfl,Q0,d3w];rfl
def c2X:Sx.Sys:=⟨[],.stuck,[],some c5R,none⟩
theorem d0a:SysOk Tryz.prog a1i c2X where
 ct Φ hΦ n aa σ r σ' hh:=d3N (evalF_good d3v 40000 a1i) aa σ r σ' hh
def a5a(f:Nat):Option Sx.Sys:=if f=a1i then some c2X else Tab f
theorem d3Z:∀f S,a5a f=some S->SysOk Tryz.prog f S:=by
 intro f S h;unfold a5a at h;split at h
 ·rename_i hf;subst hf;cases h;exact d0a
 ·exact c9y f S h
theorem c7S:∀f S,Tab f=some S->a5a f=some S:=by
 intro f S h;unfold a5a;rw[if_neg (by rintro rfl;exact absurd (h.symm.trans (show Tab a1i=none by kernel_rfl)) (by simp))];exact h
theorem evW{n:Nat}{f:Nat}{a:List PV}{m:List MO}{r:PV×List MO}(h:a0B Tab n f a m=some r):a0B a5a n f a m=some r:=c2t c7S n f a m r h
theorem d1i(F:List PV->List MO->Option (PV×List MO))(Φ:Fns)(n:Nat)(a:List PV)(σ:List MO):Sys.run Φ (⟨[],.stuck,[],some F,none⟩:Sx.Sys) n a σ=F a σ:=rfl
theorem awW(n:Nat)(σ:List MO):a0B a5a (n+1) a1i [] σ=some (.bool true,σ):=by
 rw[a0B,show a5a a1i=some c2X from if_pos rfl,Q0,c2X,d1i];exact c9V σ
end Go.Proofs.YtmekflfjaflmkaaGreat
