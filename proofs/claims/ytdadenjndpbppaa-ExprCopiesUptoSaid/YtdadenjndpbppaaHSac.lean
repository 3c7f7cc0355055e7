/- The trees of this seat's functions, part 6. Written by txgen.py. -/
import Derived.Test.YtdadenjndpbppaaHTab
set_option linter.unusedSimpArgs false
set_option linter.unusedVariables false
open Go.Sx.SV renaming int → I
open Go.IntKind renaming i64 → L
open Go.Sx.IE renaming a → A, l → E
open Go.Sx.Kd renaming int → D
set_option maxRecDepth 100000
namespace Go.Proofs.Ytdadenjndpbppaa
open Go.Sx
def a5Q:PT :=
 (.call 27 [(.agg [(I L (A 0)),(I L (A 1)),(I L (A 2)),(I L (A 3)),(I L (A 4)),(I L (A 5)),(I L (A 6)),(I L (A 7)),(.va 0)]),(.fn 45 0 [])] [] [(.agg [(D L),(D L),(D L),(D L),(D L),(D L),(D L),(D L),.val])]
 (.ret true (.agg [(I L (A 8)),(I L (A 9)),(I L (A 10)),(I L (A 11)),(I L (A 12)),(I L (A 13)),(I L (A 14)),(I L (A 15)),(.va 1)]) []))
def expr_Copy_S:Sx.Sys:=⟨[(.sh (.agg [(D L),(D L),(D L),(D L),(D L),(D L),(D L),(D L),.val]))],a5Q,[],none,none⟩
def b0a:List Cfg:=[]
theorem b1P:SysOk Try.prog 25 expr_Copy_S:=a1f (c:=(cg [] [] [] true true false true)) (a0W _ _ _ _ _ _ _ _ _) Try.func25 Try.call25 (by kernel_rfl) b0a expr_Copy_S 5000 rfl (by kernel_rfl) (by kernel_rfl) rfl
def a3C:PT :=
 (.callv 0 [(.agg [(I L (A 0)),(I L (A 1)),(I L (A 2)),(I L (A 3)),(I L (A 4)),(I L (A 5)),(I L (A 6)),(I L (A 7)),(.va 1)])] [(.one .bool)]
 (.ite (.not (.a 0))
 (.ret true (.bool (.t false)) [])
 (.need (.is 0 1)
 (.jump 0 [(.slen 1),(.l 0)] [] [(.va 1),(.va 0)]))))
def a3v:PT :=
 (.ite (.lt (.a 1) (.a 0))
 (.need (treeI (.a 1) (.slen 0))
 (.load false (.ea 0 (.a 1) 9 0) [(D L),(D L),(D L),(D L),(D L),(D L),(D L),(D L),.val]
 (.call 33 [(.agg [(.va 1)]),(.agg [(I L (A 2)),(I L (A 3)),(I L (A 4)),(I L (A 5)),(I L (A 6)),(I L (A 7)),(I L (A 8)),(I L (A 9)),(.va 2)])] [] [(.one .bool)]
 (.ite (.not (.a 0))
  (.ret true (.bool (.t false)) [])
  (.need (treeB (.add (.a 1) (.l 1)))
  (.jump 0 [(.a 0),(.add (.a 1) (.l 1))] [] [(.va 0),(.va 1)]))))))
 (.ret true (.bool (.t true)) []))
def expr_walker_walk_S:Sx.Sys:=⟨[(.sh (.agg [.val])),(.sh (.agg [(D L),(D L),(D L),(D L),(D L),(D L),(D L),(D L),.val]))],a3C,[a3v],none,none⟩
def a6w:List Cfg:=[{ todo:=[(.code [false,false,true,false,true,true]),(.inLoop [false,false,true,false,true,true]),(.inBlock 0),(.code [true,true,true])],sl:=[(.junk 0),(.junk 1),(.ptr 0 0),(.junk 2),(.junk 3),.undef]++jkR 4 7++[(.va 0),(I L (A 0)),(I L (A 1))]++jkR 11 8,H:=[(.cells [(.va 1)] 43 false)],ni:=2,nb:=0,nv:=2,nj:=19 }]
theorem a7m:SysOk Try.prog 33 expr_walker_walk_S:=a1f (c:=(cg [[false,false,true,false,true,true]] [] [(8,[4])] false true false true)) (a0W _ _ _ _ _ _ _ _ _) Try.func33 Try.call33 (by kernel_rfl) a6w expr_walker_walk_S 5000 rfl (by kernel_rfl) (by kernel_rfl) rfl
def b0P:PT :=
 (.load false (.pa 1 0) [(D L)]
 (.need (treeB (.add (.a 8) (.l 1)))
 (.storeM (.pa 1 0) [(.int .i64 (.add (.a 8) (.l 1)))]
 (.ret true (.bool (.t true)) []))))
def expr_Size_1_S:Sx.Sys:=⟨[(.sh (.agg [(D L),(D L),(D L),(D L),(D L),(D L),(D L),(D L),.val])),.ptr],b0P,[],none,none⟩
def a8F:List Cfg:=[]
theorem b0h:SysOk Try.prog 41 expr_Size_1_S:=a1f (c:=(cg [] [] [] true true false true)) (a0W _ _ _ _ _ _ _ _ _) Try.func41 Try.call41 (by kernel_rfl) a8F expr_Size_1_S 5000 rfl (by kernel_rfl) (by kernel_rfl) rfl
end Go.Proofs.Ytdadenjndpbppaa
set_option maxRecDepth 100000
namespace Go.Proofs.Ytdadenjndpbppaa
open Go.Sx
def a3x:PT :=
 (.call 15 [(.agg [(I L (A 0)),(I L (A 1)),(I L (A 2)),(I L (A 3)),(I L (A 4)),(I L (A 5)),(I L (A 6)),(I L (A 7)),(.va 0)])] [] [(.one (D L))]
 (.ret false (.bool (.le (.a 8) (.l 400))) []))
def saleroomlaw11_few_S:Sx.Sys:=⟨[(.sh (.agg [(D L),(D L),(D L),(D L),(D L),(D L),(D L),(D L),.val]))],a3x,[],none,none⟩
def a5P:List Cfg:=[]
theorem a6G:SysOk Try.prog 10 saleroomlaw11_few_S:=a1f (c:=(cg [] [] [] false false false true)) (a0W _ _ _ _ _ _ _ _ _) Try.func10 Try.call10 (by kernel_rfl) a5P saleroomlaw11_few_S 5000 rfl (by kernel_rfl) (by kernel_rfl) rfl
def a9x:PT :=
 (.newM [(I L (E 0)),(I L (E 0)),(I L (E 0)),(I L (E 0)),(I L (E 0)),(I L (E 0))] 23
 (.call 33 [(.agg [(.fn 42 0 [(.pa 1 0)])]),(.agg [(I L (A 0)),(I L (A 1)),(I L (A 2)),(I L (A 3)),(I L (A 4)),(I L (A 5)),(I L (A 6)),(I L (A 7)),(.va 0)])] [] [(.one .bool)]
 (.load false (.pa 1 0) [(D L),(D L),(D L),(D L),(D L),(D L)]
 (.ret false (.agg [(I L (A 8)),(I L (A 9)),(I L (A 10)),(I L (A 11)),(I L (A 12)),(I L (A 13))]) []))))
def expr_Products_S:Sx.Sys:=⟨[(.sh (.agg [(D L),(D L),(D L),(D L),(D L),(D L),(D L),(D L),.val]))],a9x,[],none,none⟩
def a7u:List Cfg:=[]
theorem a8A:SysOk Try.prog 18 expr_Products_S:=a1f (c:=(cg [] [3] [] true false false true)) (a0W _ _ _ _ _ _ _ _ _) Try.func18 Try.call18 (by kernel_rfl) a7u expr_Products_S 5000 rfl (by kernel_rfl) (by kernel_rfl) rfl
def a1w:PT :=
 (.need (.is 1 0)
 (.load false (.pa 0 7) [(D L)]
 (.need (.is 1 0)
 (.storeM (.pa 0 7) [(.int .i64 (.wr .i64 (.add (.a 0) (.l 1))))]
 (.need (.is 1 0)
 (.load false (.pa 0 8) [.val]
 (.need (.is 0 1)
 (.jump 0 [(.slen 1),(.l 0)] [] [(.va 0)]))))))))
def a2V:PT :=
 (.ite (.lt (.a 1) (.a 0))
 (.need (.is 1 0)
 (.load false (.pa 0 8) [.val]
 (.need (treeI (.a 1) (.slen 1))
 (.call 26 [(.ea 1 (.a 1) 9 0)] [] []
 (.jump 0 [(.a 0),(.wr .i64 (.add (.a 1) (.l 1)))] [] [(.va 0)])))))
 (.ret true (.tup []) []))
def saleroomlaw11_spoil_S:Sx.Sys:=⟨[(.sh (.one .val))],a1w,[a2V],none,none⟩
def a5v:List Cfg:=[{ todo:=[(.code [false,false,true,true]),(.inLoop [false,false,true,true]),(.inBlock 0)],sl:=[(.va 0),.undef]++jkR 0 12++[(I L (A 0)),(I L (A 1))]++jkR 12 10,H:=[],ni:=2,nb:=0,nv:=1,nj:=22 }]
theorem a5S:SysOk Try.prog 26 saleroomlaw11_spoil_S:=a1f (c:=(cg [[false,false,true,true]] [] [] true true false false)) (a0W _ _ _ _ _ _ _ _ _) Try.func26 Try.call26 (by kernel_rfl) a5v saleroomlaw11_spoil_S 5000 rfl (by kernel_rfl) (by kernel_rfl) rfl
def a9W:PT :=
 (.call 35 [(.agg [(I L (A 0)),(I L (A 1)),(I L (A 2)),(I L (A 3)),(I L (A 4)),(I L (A 5)),(I L (A 6)),(I L (A 7)),(.va 0)])] [] [(.one .bool)]
 (.ite (.not (.a 0))
 (.storeM (.pa 1 0) [(I L (E 2))]
 (.load false (.pa 1 0) [(D L)]
 (.ret true (.bool (.eq (.a 8) (.l 0))) [])))
 (.call 36 [(.agg [(I L (A 0)),(I L (A 1)),(I L (A 2)),(I L (A 3)),(I L (A 4)),(I L (A 5)),(I L (A 6)),(I L (A 7)),(.va 0)])] [] [(.one .bool)]
 (.ite (.not (.a 1))
  (.storeM (.pa 1 0) [(I L (E 4))]
  (.load false (.pa 1 0) [(D L)]
  (.ret true (.bool (.eq (.a 8) (.l 0))) [])))
  (.load false (.pa 1 0) [(D L)]
  (.ret true (.bool (.eq (.a 8) (.l 0))) []))))))
def expr_Check_2_S:Sx.Sys:=⟨[(.sh (.agg [(D L),(D L),(D L),(D L),(D L),(D L),(D L),(D L),.val])),.ptr],a9W,[],none,none⟩
def a8b:List Cfg:=[]
theorem a9c:SysOk Try.prog 34 expr_Check_2_S:=a1f (c:=(cg [] [] [] true true false true)) (a0W _ _ _ _ _ _ _ _ _) Try.func34 Try.call34 (by kernel_rfl) a8b expr_Check_2_S 5000 rfl (by kernel_rfl) (by kernel_rfl) rfl
def a7Z:PT :=
 (.load false (.pa 1 0) [(D L),(D L),(D L),(D L),(D L),(D L)]
 (.call 43 [(.agg [(I L (A 8)),(I L (A 9)),(I L (A 10)),(I L (A 11)),(I L (A 12)),(I L (A 13))]),(.agg [(I L (A 1)),(I L (A 2)),(I L (A 3)),(I L (A 4)),(I L (A 5)),(I L (A 6))])] [] [(.agg [(D L),(D L),(D L),(D L),(D L),(D L)])]
 (.storeM (.pa 1 0) [(I L (A 14)),(I L (A 15)),(I L (A 16)),(I L (A 17)),(I L (A 18)),(I L (A 19))]
 (.ret true (.bool (.t true)) []))))
def expr_Products_1_S:Sx.Sys:=⟨[(.sh (.agg [(D L),(D L),(D L),(D L),(D L),(D L),(D L),(D L),.val])),.ptr],a7Z,[],none,none⟩
def a7b:List Cfg:=[]
theorem a7J:SysOk Try.prog 42 expr_Products_1_S:=a1f (c:=(cg [] [] [] true true false true)) (a0W _ _ _ _ _ _ _ _ _) Try.func42 Try.call42 (by kernel_rfl) a7b expr_Products_1_S 5000 rfl (by kernel_rfl) (by kernel_rfl) rfl
end Go.Proofs.Ytdadenjndpbppaa
