/- ClockResets: b1j of bids; what a d8M brings a9D. -/
import Derived.Test.YtmekflfjaflmkaaHCo
set_option linter.unusedSimpArgs false
set_option linter.unusedVariables false
set_option linter.unusedSectionVars false
open List renaming replicate → Q0
set_option maxRecDepth 100000
namespace Go.Proofs.Ytmekflfjaflmkaa
open Go.Sx
def Ck.fresh(c:Ck):Prop:=c.ask=Q0 c.out.length w0/\c.bid=Q0 c.out.length false
structure Ck.lk (c d:Ck):Prop where
 cl:c.cl=d.cl
 p:c.p=d.p
 out:c.out=d.out
 over:c.over=d.over
theorem d1x{ps:List Pr}{bs:List Bd}{cs ad:List Tri}{o:Po}{s:St}{c d:Ck}(h:c.lk d)(i:Int)(w:W6):(c.doBid ps bs cs ad o s i w).1.lk d:=by
 unfold Ck.doBid;split
 ·exact⟨h.cl,h.p,h.out,h.over⟩
 ·exact h
theorem c0U{c:Ck}(ps:List Pr)(o:Po)(h:c.over=false):(c.close ps o).1.fresh/\(c.close ps o).1.cl=c.cl++[⟨c.p,c.ask,c.gots ps o,c.bid⟩]/\(c.close ps o).1.out=c.out:=by
 rw[c1J c ps o h];unfold Ck.closeTo;split<;>exact⟨⟨rfl,rfl⟩,rfl,rfl⟩
section
variable {s:St}{cs ad:List Tri}(hs:SuOk s cs ad)(hv:a7m s.ps s.bs cs ad=0){o:Po}(ho:o.ok)(n:Nat)(hn:33000<=n){E:PV}{l:List Stp}(hE:E.rowsOf 9=some (l.map Stp.row))(hl:l.length<=200){h:Nat}
include hs hv ho hn hE hl
end
end Go.Proofs.Ytmekflfjaflmkaa
