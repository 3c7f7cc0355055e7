/- The examples of the chapter on books of offers: true whatever objects there are. -/
import Derived.Test.YtflcopaopimlpaaHSys
import Derived.Test.YtflcopaopimlpaaHTy
set_option linter.unusedSimpArgs false
set_option linter.unusedVariables false
open Option renaming bind_some → Q0
set_option maxRecDepth 100000
namespace Go.Proofs.Ytflcopaopimlpaa
open Go.Sx
def c2e (f:Nat):Option Sx.Sys:=if f=a0V then some saleroomlaw16_awake_S else Tab f
theorem c5K:∀ f S,c2e f=some S->SysOk Try.prog f S:=by
 intro f S h
 unfold c2e at h
 split at h
 ·rename_i hf; subst hf; cases h; exact b0o
 ·exact c3n f S h
theorem c5G:a0B c2e 40000 a0V [] []=some (.bool true,[]):=by kernel_rfl
def b9B:List PV->List MO->Option (PV × List MO):=b8C (a0B c2e 40000 a0V)
theorem c2P (σ:List MO):b9B [] σ=some (.bool true,σ):=by
 unfold b9B b8C
 rw [show b1x σ []=some [] from rfl,Q0,c5G]
 rfl
def b6J:Sx.Sys:=⟨[],.stuck,[],some b9B,none⟩
theorem c3C:SysOk Try.prog a0V b6J where
 ct Φ hΦ n aa σ r σ' hh:=c5B (evalF_good c5K 40000 a0V) aa σ r σ' hh
def b1U (f:Nat):Option Sx.Sys:=if f=a0V then some b6J else Tab f
theorem c5Q:∀ f S,b1U f=some S->SysOk Try.prog f S:=by
 intro f S h
 unfold b1U at h
 split at h
 ·rename_i hf; subst hf; cases h; exact c3C
 ·exact c3n f S h
theorem c0U:∀ f S,Tab f=some S->b1U f=some S:=by
 intro f S h
 unfold b1U
 rw [if_neg (by rintro rfl; exact absurd (h.symm.trans (show Tab a0V=none by kernel_rfl)) (by simp))]
 exact h
theorem evW {n:Nat} {f:Nat} {a:List PV} {m:List MO} {r:PV × List MO} (h:a0B Tab n f a m=some r):a0B b1U n f a m=some r:=b5Z c0U n f a m r h
theorem c4X (F:List PV->List MO->Option (PV × List MO)) (Φ:Fns) (n:Nat) (a:List PV) (σ:List MO):Sys.run Φ (⟨[],.stuck,[],some F,none⟩:Sx.Sys) n a σ=F a σ:=rfl
theorem awW (n:Nat) (σ:List MO):a0B b1U (n+1) a0V [] σ=some (.bool true,σ):=by
 rw [a0B,show b1U a0V=some b6J from if_pos rfl,Q0,b6J,c4X]
 exact c2P σ
end Go.Proofs.Ytflcopaopimlpaa
