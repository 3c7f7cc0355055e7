/- Any offers that come in are a list of offers. -/
import Derived.Test.YthmkfeiapdbojaaHFl
import Derived.Test.YthmkfeiapdbojaaHVr
set_option linter.unusedSimpArgs false
set_option linter.unusedVariables false
set_option maxRecDepth 100000
namespace Go.Proofs.Ythmkfeiapdbojaa
open Go.Sx Go.Bun
theorem d5e {n:Nat}:∀ {rows:List (List PV)},(∀ r∈rows,a1r Try.prog n 59 r)->∃ L,rows=osR L
 | [],_=>⟨[],rfl⟩
 | r::rows,h=>by
  have hr:=h r (by simp)
  obtain ⟨L,rfl⟩:=d5e (rows:=rows) (fun r hr=>h r (by simp [hr]))
  obtain ⟨m,hm,hr⟩:=c0s Try.underlying59 hr
  simp only [List.map_cons,List.map_nil,a5Q] at hr
  obtain ⟨_,_,rfl,h1,_,_,rfl,h2,_,_,rfl,h3,rfl⟩:=hr
  obtain ⟨p,rfl,_⟩:=a3W (k:=.i64) (by kernel_rfl) h1
  obtain ⟨w,rfl⟩:=c1G h2
  obtain ⟨v,rfl,_⟩:=a3W (k:=.i64) (by kernel_rfl) h3
  exact ⟨⟨p,w,v⟩::L,rfl⟩
theorem d5W (L:List Of):d5w L (.sl 8 (osR L)):=by simp [d5w,PV.rowsOf]
end Go.Proofs.Ythmkfeiapdbojaa
