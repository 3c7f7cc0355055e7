/- The table of types and functions of this seat, as the executor reads it. Written by gentab.py. -/
import Derived.Test.YtdadenjndpbppaaHTxe
import Derived.Test.YtdadenjndpbppaaProg
set_option linter.unusedSimpArgs false
set_option linter.unusedVariables false
open Prod.mk renaming injEq → Q0
open List renaming not_mem_nil → Q1
namespace Go.Proofs.Ytdadenjndpbppaa
open Go.Sx
def b6t:List (Nat × TI):=[
 (1,⟨.func,1,8,[.nilF],[.val],false⟩),
 (2,⟨.int .i64,1,8,[.int .i64 (.l 0)],[.int .i64],false⟩),
 (3,⟨.int .i64,1,8,[.int .i64 (.l 0)],[.int .i64],false⟩),
 (4,⟨.bool,1,1,[.bool (.t false)],[.bool],false⟩),
 (5,⟨.int .u8,1,1,[.int .u8 (.l 0)],[.int .u8],false⟩),
 (9,⟨.str,1,16,[.str []],[.val],false⟩),
 (12,⟨.int .u64,1,8,[.int .u64 (.l 0)],[.int .u64],false⟩),
 (21,⟨.int .i32,1,4,[.int .i32 (.l 0)],[.int .i32],false⟩),
 (22,⟨.arr 6 3,6,48,[.int .i64 (.l 0),.int .i64 (.l 0),.int .i64 (.l 0),.int .i64 (.l 0),.int .i64 (.l 0),.int .i64 (.l 0)],[.int .i64,.int .i64,.int .i64,.int .i64,.int .i64,.int .i64],true⟩),
 (23,⟨.arr 6 3,6,48,[.int .i64 (.l 0),.int .i64 (.l 0),.int .i64 (.l 0),.int .i64 (.l 0),.int .i64 (.l 0),.int .i64 (.l 0)],[.int .i64,.int .i64,.int .i64,.int .i64,.int .i64,.int .i64],true⟩),
 (24,⟨.slice 26,1,24,[.nilS],[.val],false⟩),
 (25,⟨.st [(0,3),(1,23),(7,2),(8,24)],9,88,[.int .i64 (.l 0),.int .i64 (.l 0),.int .i64 (.l 0),.int .i64 (.l 0),.int .i64 (.l 0),.int .i64 (.l 0),.int .i64 (.l 0),.int .i64 (.l 0),.nilS],[.int .i64,.int .i64,.int .i64,.int .i64,.int .i64,.int .i64,.int .i64,.int .i64,.val],false⟩),
 (26,⟨.st [(0,3),(1,23),(7,2),(8,24)],9,88,[.int .i64 (.l 0),.int .i64 (.l 0),.int .i64 (.l 0),.int .i64 (.l 0),.int .i64 (.l 0),.int .i64 (.l 0),.int .i64 (.l 0),.int .i64 (.l 0),.nilS],[.int .i64,.int .i64,.int .i64,.int .i64,.int .i64,.int .i64,.int .i64,.int .i64,.val],false⟩),
 (27,⟨.func,1,8,[.nilF],[.val],false⟩),
 (28,⟨.int .i64,1,8,[.int .i64 (.l 0)],[.int .i64],false⟩),
 (29,⟨.func,1,8,[.nilF],[.val],false⟩),
 (30,⟨.func,1,8,[.nilF],[.val],false⟩),
 (31,⟨.func,1,8,[.nilF],[.val],false⟩),
 (32,⟨.func,1,8,[.nilF],[.val],false⟩),
 (33,⟨.func,1,8,[.nilF],[.val],false⟩),
 (34,⟨.func,1,8,[.nilF],[.val],false⟩),
 (35,⟨.func,1,8,[.nilF],[.val],false⟩),
 (36,⟨.func,1,8,[.nilF],[.val],false⟩),
 (37,⟨.func,1,8,[.nilF],[.val],false⟩),
 (38,⟨.ptr 26,1,8,[.nilP],[.val],false⟩),
 (39,⟨.func,1,8,[.nilF],[.val],false⟩),
 (40,⟨.func,1,8,[.nilF],[.val],false⟩),
 (41,⟨.func,1,8,[.nilF],[.val],false⟩),
 (42,⟨.st [(0,27)],1,8,[.nilF],[.val],false⟩),
 (43,⟨.st [(0,27)],1,8,[.nilF],[.val],false⟩),
 (44,⟨.func,1,8,[.nilF],[.val],false⟩),
 (45,⟨.func,1,8,[.nilF],[.val],false⟩),
 (46,⟨.func,1,8,[.nilF],[.val],false⟩),
 (47,⟨.func,1,8,[.nilF],[.val],false⟩),
 (53,⟨.func,1,8,[.nilF],[.val],false⟩),
 (54,⟨.int .u32,1,4,[.int .u32 (.l 0)],[.int .u32],false⟩),
 (57,⟨.func,1,8,[.nilF],[.val],false⟩),
 (58,⟨.ptr 5,1,8,[.nilP],[.val],false⟩)]
def b3p:List (Nat × List Nat):=[
 (2,[]),
 (3,[4]),
 (4,[4]),
 (5,[4]),
 (6,[4]),
 (7,[4]),
 (8,[4]),
 (9,[4]),
 (10,[4]),
 (11,[28]),
 (12,[28]),
 (13,[4]),
 (14,[3]),
 (15,[3]),
 (16,[3]),
 (17,[3]),
 (18,[23]),
 (19,[23]),
 (20,[4]),
 (21,[4]),
 (22,[24]),
 (23,[4]),
 (24,[24]),
 (25,[26]),
 (26,[]),
 (27,[26]),
 (28,[26]),
 (29,[26]),
 (30,[26]),
 (31,[26]),
 (32,[4]),
 (33,[4]),
 (34,[4]),
 (35,[4]),
 (36,[4]),
 (37,[24]),
 (38,[4]),
 (39,[4]),
 (40,[26]),
 (41,[4]),
 (42,[4]),
 (43,[23]),
 (44,[4]),
 (45,[26]),
 (46,[28]),
 (47,[3]),
 (48,[28]),
 (49,[3])]
def a4b {α:Type} (k:Nat):List (Nat × α)->Option α
 | []=>none
 | (j,x)::l=>if Nat.beq j k then some x else a4b k l
def b5o:List (Nat × MT):=[]
def b5s:List (Nat × QT):=[]
def cx (nw:Bool) (stops:List (List Bool)) (cstops:List (List Bool × Nat)):Ctx :=
 { tab:=fun t=>a4b t b6t,rets:=fun f=>(a4b f b3p).getD [],fok:=fun f=>(a4b f b3p).isSome,nw,stops,cstops,mtab:=fun t=>a4b t b5o,qtab:=fun t=>a4b t b5s }
theorem ti1:TI.Ok Try.prog 1 ⟨.func,1,8,[.nilF],[.val],false⟩ where
 inf:=⟨Try.t1,_,by kernel_rfl,rfl,rfl,rfl,fun _ _=>rfl⟩
 zlen:=rfl
 ty:=⟨_,_,_,Try.underlying1⟩
 one:=fun _=>rfl
 eq:=fun h=>by simp at h
theorem ti2:TI.Ok Try.prog 2 ⟨.int .i64,1,8,[.int .i64 (.l 0)],[.int .i64],false⟩ where
 inf:=⟨Try.t2,_,by kernel_rfl,rfl,rfl,rfl,fun _ _=>rfl⟩
 zlen:=rfl
 ty:=Try.underlying2
 one:=fun _=>rfl
 eq:=fun h=>by simp at h
theorem ti3:TI.Ok Try.prog 3 ⟨.int .i64,1,8,[.int .i64 (.l 0)],[.int .i64],false⟩ where
 inf:=⟨Try.t3,_,by kernel_rfl,rfl,rfl,rfl,fun _ _=>rfl⟩
 zlen:=rfl
 ty:=Try.underlying3
 one:=fun _=>rfl
 eq:=fun h=>by simp at h
theorem ti4:TI.Ok Try.prog 4 ⟨.bool,1,1,[.bool (.t false)],[.bool],false⟩ where
 inf:=⟨Try.t4,_,by kernel_rfl,rfl,rfl,rfl,fun _ _=>rfl⟩
 zlen:=rfl
 ty:=Try.underlying4
 one:=fun _=>rfl
 eq:=fun h=>by simp at h
theorem ti5:TI.Ok Try.prog 5 ⟨.int .u8,1,1,[.int .u8 (.l 0)],[.int .u8],false⟩ where
 inf:=⟨Try.t5,_,by kernel_rfl,rfl,rfl,rfl,fun _ _=>rfl⟩
 zlen:=rfl
 ty:=Try.underlying5
 one:=fun _=>rfl
 eq:=fun h=>by simp at h
theorem ti9:TI.Ok Try.prog 9 ⟨.str,1,16,[.str []],[.val],false⟩ where
 inf:=⟨Try.t9,_,by kernel_rfl,rfl,rfl,rfl,fun _ _=>rfl⟩
 zlen:=rfl
 ty:=Try.underlying9
 one:=fun _=>rfl
 eq:=fun h=>by simp at h
theorem b7c:TI.Ok Try.prog 12 ⟨.int .u64,1,8,[.int .u64 (.l 0)],[.int .u64],false⟩ where
 inf:=⟨Try.t12,_,by kernel_rfl,rfl,rfl,rfl,fun _ _=>rfl⟩
 zlen:=rfl
 ty:=Try.underlying12
 one:=fun _=>rfl
 eq:=fun h=>by simp at h
theorem b6G:TI.Ok Try.prog 21 ⟨.int .i32,1,4,[.int .i32 (.l 0)],[.int .i32],false⟩ where
 inf:=⟨Try.t21,_,by kernel_rfl,rfl,rfl,rfl,fun _ _=>rfl⟩
 zlen:=rfl
 ty:=Try.underlying21
 one:=fun _=>rfl
 eq:=fun h=>by simp at h
theorem b7b:TI.Ok Try.prog 22 ⟨.arr 6 3,6,48,[.int .i64 (.l 0),.int .i64 (.l 0),.int .i64 (.l 0),.int .i64 (.l 0),.int .i64 (.l 0),.int .i64 (.l 0)],[.int .i64,.int .i64,.int .i64,.int .i64,.int .i64,.int .i64],true⟩ where
 inf:=⟨Try.t22,_,by kernel_rfl,rfl,rfl,rfl,fun _ _=>rfl⟩
 zlen:=rfl
 ty:=Try.underlying22
 one:=fun h=>by simp [TI.isAgg] at h
 eq:=fun _=>⟨Try.eqGuardType22,fun w zs us h1 h2=>(show EqT Try.prog 10000 22 true _ from (b0r (inf:=Try.t3) (b2R Try.underlying3 (Try.sizeOf3) (by kernel_rfl) 9998) Try.underlying22 (by kernel_rfl) (Try.sizeOf22) (by kernel_rfl))).eq w zs us h1 h2⟩
theorem b6H:TI.Ok Try.prog 23 ⟨.arr 6 3,6,48,[.int .i64 (.l 0),.int .i64 (.l 0),.int .i64 (.l 0),.int .i64 (.l 0),.int .i64 (.l 0),.int .i64 (.l 0)],[.int .i64,.int .i64,.int .i64,.int .i64,.int .i64,.int .i64],true⟩ where
 inf:=⟨Try.t23,_,by kernel_rfl,rfl,rfl,rfl,fun _ _=>rfl⟩
 zlen:=rfl
 ty:=Try.underlying23
 one:=fun h=>by simp [TI.isAgg] at h
 eq:=fun _=>⟨Try.eqGuardType23,fun w zs us h1 h2=>(show EqT Try.prog 10000 23 true _ from (b0r (inf:=Try.t3) (b2R Try.underlying3 (Try.sizeOf3) (by kernel_rfl) 9998) Try.underlying23 (by kernel_rfl) (Try.sizeOf23) (by kernel_rfl))).eq w zs us h1 h2⟩
theorem b7a:TI.Ok Try.prog 24 ⟨.slice 26,1,24,[.nilS],[.val],false⟩ where
 inf:=⟨Try.t24,_,by kernel_rfl,rfl,rfl,rfl,fun _ _=>rfl⟩
 zlen:=rfl
 ty:=Try.underlying24
 one:=fun _=>rfl
 eq:=fun h=>by simp at h
theorem b7d:TI.Ok Try.prog 25 ⟨.st [(0,3),(1,23),(7,2),(8,24)],9,88,[.int .i64 (.l 0),.int .i64 (.l 0),.int .i64 (.l 0),.int .i64 (.l 0),.int .i64 (.l 0),.int .i64 (.l 0),.int .i64 (.l 0),.int .i64 (.l 0),.nilS],[.int .i64,.int .i64,.int .i64,.int .i64,.int .i64,.int .i64,.int .i64,.int .i64,.val],false⟩ where
 inf:=⟨Try.t25,_,by kernel_rfl,rfl,rfl,rfl,fun _ _=>rfl⟩
 zlen:=rfl
 ty:=⟨_,Try.underlying25,rfl⟩
 one:=fun h=>by simp [TI.isAgg] at h
 eq:=fun h=>by simp at h
theorem b6C:TI.Ok Try.prog 26 ⟨.st [(0,3),(1,23),(7,2),(8,24)],9,88,[.int .i64 (.l 0),.int .i64 (.l 0),.int .i64 (.l 0),.int .i64 (.l 0),.int .i64 (.l 0),.int .i64 (.l 0),.int .i64 (.l 0),.int .i64 (.l 0),.nilS],[.int .i64,.int .i64,.int .i64,.int .i64,.int .i64,.int .i64,.int .i64,.int .i64,.val],false⟩ where
 inf:=⟨Try.t26,_,by kernel_rfl,rfl,rfl,rfl,fun _ _=>rfl⟩
 zlen:=rfl
 ty:=⟨_,Try.underlying26,rfl⟩
 one:=fun h=>by simp [TI.isAgg] at h
 eq:=fun h=>by simp at h
theorem b6D:TI.Ok Try.prog 27 ⟨.func,1,8,[.nilF],[.val],false⟩ where
 inf:=⟨Try.t27,_,by kernel_rfl,rfl,rfl,rfl,fun _ _=>rfl⟩
 zlen:=rfl
 ty:=⟨_,_,_,Try.underlying27⟩
 one:=fun _=>rfl
 eq:=fun h=>by simp at h
theorem b6J:TI.Ok Try.prog 28 ⟨.int .i64,1,8,[.int .i64 (.l 0)],[.int .i64],false⟩ where
 inf:=⟨Try.t28,_,by kernel_rfl,rfl,rfl,rfl,fun _ _=>rfl⟩
 zlen:=rfl
 ty:=Try.underlying28
 one:=fun _=>rfl
 eq:=fun h=>by simp at h
theorem b6O:TI.Ok Try.prog 29 ⟨.func,1,8,[.nilF],[.val],false⟩ where
 inf:=⟨Try.t29,_,by kernel_rfl,rfl,rfl,rfl,fun _ _=>rfl⟩
 zlen:=rfl
 ty:=⟨_,_,_,Try.underlying29⟩
 one:=fun _=>rfl
 eq:=fun h=>by simp at h
theorem b6X:TI.Ok Try.prog 30 ⟨.func,1,8,[.nilF],[.val],false⟩ where
 inf:=⟨Try.t30,_,by kernel_rfl,rfl,rfl,rfl,fun _ _=>rfl⟩
 zlen:=rfl
 ty:=⟨_,_,_,Try.underlying30⟩
 one:=fun _=>rfl
 eq:=fun h=>by simp at h
theorem b7g:TI.Ok Try.prog 31 ⟨.func,1,8,[.nilF],[.val],false⟩ where
 inf:=⟨Try.t31,_,by kernel_rfl,rfl,rfl,rfl,fun _ _=>rfl⟩
 zlen:=rfl
 ty:=⟨_,_,_,Try.underlying31⟩
 one:=fun _=>rfl
 eq:=fun h=>by simp at h
theorem b6S:TI.Ok Try.prog 32 ⟨.func,1,8,[.nilF],[.val],false⟩ where
 inf:=⟨Try.t32,_,by kernel_rfl,rfl,rfl,rfl,fun _ _=>rfl⟩
 zlen:=rfl
 ty:=⟨_,_,_,Try.underlying32⟩
 one:=fun _=>rfl
 eq:=fun h=>by simp at h
theorem b6P:TI.Ok Try.prog 33 ⟨.func,1,8,[.nilF],[.val],false⟩ where
 inf:=⟨Try.t33,_,by kernel_rfl,rfl,rfl,rfl,fun _ _=>rfl⟩
 zlen:=rfl
 ty:=⟨_,_,_,Try.underlying33⟩
 one:=fun _=>rfl
 eq:=fun h=>by simp at h
theorem b6M:TI.Ok Try.prog 34 ⟨.func,1,8,[.nilF],[.val],false⟩ where
 inf:=⟨Try.t34,_,by kernel_rfl,rfl,rfl,rfl,fun _ _=>rfl⟩
 zlen:=rfl
 ty:=⟨_,_,_,Try.underlying34⟩
 one:=fun _=>rfl
 eq:=fun h=>by simp at h
theorem b6R:TI.Ok Try.prog 35 ⟨.func,1,8,[.nilF],[.val],false⟩ where
 inf:=⟨Try.t35,_,by kernel_rfl,rfl,rfl,rfl,fun _ _=>rfl⟩
 zlen:=rfl
 ty:=⟨_,_,_,Try.underlying35⟩
 one:=fun _=>rfl
 eq:=fun h=>by simp at h
theorem b6U:TI.Ok Try.prog 36 ⟨.func,1,8,[.nilF],[.val],false⟩ where
 inf:=⟨Try.t36,_,by kernel_rfl,rfl,rfl,rfl,fun _ _=>rfl⟩
 zlen:=rfl
 ty:=⟨_,_,_,Try.underlying36⟩
 one:=fun _=>rfl
 eq:=fun h=>by simp at h
theorem b6K:TI.Ok Try.prog 37 ⟨.func,1,8,[.nilF],[.val],false⟩ where
 inf:=⟨Try.t37,_,by kernel_rfl,rfl,rfl,rfl,fun _ _=>rfl⟩
 zlen:=rfl
 ty:=⟨_,_,_,Try.underlying37⟩
 one:=fun _=>rfl
 eq:=fun h=>by simp at h
theorem b6T:TI.Ok Try.prog 38 ⟨.ptr 26,1,8,[.nilP],[.val],false⟩ where
 inf:=⟨Try.t38,_,by kernel_rfl,rfl,rfl,rfl,fun _ _=>rfl⟩
 zlen:=rfl
 ty:=Try.underlying38
 one:=fun _=>rfl
 eq:=fun h=>by simp at h
theorem b6F:TI.Ok Try.prog 39 ⟨.func,1,8,[.nilF],[.val],false⟩ where
 inf:=⟨Try.t39,_,by kernel_rfl,rfl,rfl,rfl,fun _ _=>rfl⟩
 zlen:=rfl
 ty:=⟨_,_,_,Try.underlying39⟩
 one:=fun _=>rfl
 eq:=fun h=>by simp at h
theorem b6Q:TI.Ok Try.prog 40 ⟨.func,1,8,[.nilF],[.val],false⟩ where
 inf:=⟨Try.t40,_,by kernel_rfl,rfl,rfl,rfl,fun _ _=>rfl⟩
 zlen:=rfl
 ty:=⟨_,_,_,Try.underlying40⟩
 one:=fun _=>rfl
 eq:=fun h=>by simp at h
theorem b6V:TI.Ok Try.prog 41 ⟨.func,1,8,[.nilF],[.val],false⟩ where
 inf:=⟨Try.t41,_,by kernel_rfl,rfl,rfl,rfl,fun _ _=>rfl⟩
 zlen:=rfl
 ty:=⟨_,_,_,Try.underlying41⟩
 one:=fun _=>rfl
 eq:=fun h=>by simp at h
theorem b6B:TI.Ok Try.prog 42 ⟨.st [(0,27)],1,8,[.nilF],[.val],false⟩ where
 inf:=⟨Try.t42,_,by kernel_rfl,rfl,rfl,rfl,fun _ _=>rfl⟩
 zlen:=rfl
 ty:=⟨_,Try.underlying42,rfl⟩
 one:=fun h=>by simp [TI.isAgg] at h
 eq:=fun h=>by simp at h
theorem b6N:TI.Ok Try.prog 43 ⟨.st [(0,27)],1,8,[.nilF],[.val],false⟩ where
 inf:=⟨Try.t43,_,by kernel_rfl,rfl,rfl,rfl,fun _ _=>rfl⟩
 zlen:=rfl
 ty:=⟨_,Try.underlying43,rfl⟩
 one:=fun h=>by simp [TI.isAgg] at h
 eq:=fun h=>by simp at h
theorem b6Z:TI.Ok Try.prog 44 ⟨.func,1,8,[.nilF],[.val],false⟩ where
 inf:=⟨Try.t44,_,by kernel_rfl,rfl,rfl,rfl,fun _ _=>rfl⟩
 zlen:=rfl
 ty:=⟨_,_,_,Try.underlying44⟩
 one:=fun _=>rfl
 eq:=fun h=>by simp at h
theorem b6Y:TI.Ok Try.prog 45 ⟨.func,1,8,[.nilF],[.val],false⟩ where
 inf:=⟨Try.t45,_,by kernel_rfl,rfl,rfl,rfl,fun _ _=>rfl⟩
 zlen:=rfl
 ty:=⟨_,_,_,Try.underlying45⟩
 one:=fun _=>rfl
 eq:=fun h=>by simp at h
theorem b6I:TI.Ok Try.prog 46 ⟨.func,1,8,[.nilF],[.val],false⟩ where
 inf:=⟨Try.t46,_,by kernel_rfl,rfl,rfl,rfl,fun _ _=>rfl⟩
 zlen:=rfl
 ty:=⟨_,_,_,Try.underlying46⟩
 one:=fun _=>rfl
 eq:=fun h=>by simp at h
theorem b7e:TI.Ok Try.prog 47 ⟨.func,1,8,[.nilF],[.val],false⟩ where
 inf:=⟨Try.t47,_,by kernel_rfl,rfl,rfl,rfl,fun _ _=>rfl⟩
 zlen:=rfl
 ty:=⟨_,_,_,Try.underlying47⟩
 one:=fun _=>rfl
 eq:=fun h=>by simp at h
theorem b6z:TI.Ok Try.prog 53 ⟨.func,1,8,[.nilF],[.val],false⟩ where
 inf:=⟨Try.t53,_,by kernel_rfl,rfl,rfl,rfl,fun _ _=>rfl⟩
 zlen:=rfl
 ty:=⟨_,_,_,Try.underlying53⟩
 one:=fun _=>rfl
 eq:=fun h=>by simp at h
theorem b7i:TI.Ok Try.prog 54 ⟨.int .u32,1,4,[.int .u32 (.l 0)],[.int .u32],false⟩ where
 inf:=⟨Try.t54,_,by kernel_rfl,rfl,rfl,rfl,fun _ _=>rfl⟩
 zlen:=rfl
 ty:=Try.underlying54
 one:=fun _=>rfl
 eq:=fun h=>by simp at h
theorem b7h:TI.Ok Try.prog 57 ⟨.func,1,8,[.nilF],[.val],false⟩ where
 inf:=⟨Try.t57,_,by kernel_rfl,rfl,rfl,rfl,fun _ _=>rfl⟩
 zlen:=rfl
 ty:=⟨_,_,_,Try.underlying57⟩
 one:=fun _=>rfl
 eq:=fun h=>by simp at h
theorem b6E:TI.Ok Try.prog 58 ⟨.ptr 5,1,8,[.nilP],[.val],false⟩ where
 inf:=⟨Try.t58,_,by kernel_rfl,rfl,rfl,rfl,fun _ _=>rfl⟩
 zlen:=rfl
 ty:=Try.underlying58
 one:=fun _=>rfl
 eq:=fun h=>by simp at h
theorem a6A {α:Type} {k:Nat} {x:α}:∀ {l:List (Nat × α)},a4b k l=some x->(k,x)∈l
 | [],h=>by simp [a4b] at h
 | (j,y)::l,h=>by
  simp only [a4b] at h
  split at h
  ·rename_i hj
   simp only [Option.some.injEq] at h
   rw [Nat.eq_of_beq_eq_true hj,h]; exact List.mem_cons_self
  ·exact List.mem_cons_of_mem _ (a6A h)
theorem b6o (nw:Bool) (stops:List (List Bool)) (cstops:List (List Bool × Nat)):ProgOk Try.prog (cx nw stops cstops) where
 mixed:=by kernel_rfl
 tab t i h:=by
  have h:=a6A h
  simp only [b6t,List.mem_cons,Q0,Q1,or_false] at h
  rcases h with h|h|h|h|h|h|h|h|h|h|h|h|h|h|h|h|h|h|h|h|h|h|h|h|h|h|h|h|h|h|h|h|h|h|h|h|h|h
  all_goals obtain ⟨rfl,rfl⟩:=h
  ·exact ti1
  ·exact ti2
  ·exact ti3
  ·exact ti4
  ·exact ti5
  ·exact ti9
  ·exact b7c
  ·exact b6G
  ·exact b7b
  ·exact b6H
  ·exact b7a
  ·exact b7d
  ·exact b6C
  ·exact b6D
  ·exact b6J
  ·exact b6O
  ·exact b6X
  ·exact b7g
  ·exact b6S
  ·exact b6P
  ·exact b6M
  ·exact b6R
  ·exact b6U
  ·exact b6K
  ·exact b6T
  ·exact b6F
  ·exact b6Q
  ·exact b6V
  ·exact b6B
  ·exact b6N
  ·exact b6Z
  ·exact b6Y
  ·exact b6I
  ·exact b7e
  ·exact b6z
  ·exact b7i
  ·exact b7h
  ·exact b6E
 mtab t i h:=by
  simp [cx,b5o,a4b] at h
 qtab t i h:=by
  simp [cx,b5s,a4b] at h
 call f h args w:=by
  simp only [cx,Option.isSome_iff_exists] at h
  obtain ⟨x,h⟩:=h
  have h:=a6A h
  simp only [b3p,List.mem_cons,Q0,Q1,or_false] at h
  rcases h with h|h|h|h|h|h|h|h|h|h|h|h|h|h|h|h|h|h|h|h|h|h|h|h|h|h|h|h|h|h|h|h|h|h|h|h|h|h|h|h|h|h|h|h|h|h|h|h
  all_goals obtain ⟨rfl,_⟩:=h
  ·exact Try.call2 args w
  ·exact Try.call3 args w
  ·exact Try.call4 args w
  ·exact Try.call5 args w
  ·exact Try.call6 args w
  ·exact Try.call7 args w
  ·exact Try.call8 args w
  ·exact Try.call9 args w
  ·exact Try.call10 args w
  ·exact Try.call11 args w
  ·exact Try.call12 args w
  ·exact Try.call13 args w
  ·exact Try.call14 args w
  ·exact Try.call15 args w
  ·exact Try.call16 args w
  ·exact Try.call17 args w
  ·exact Try.call18 args w
  ·exact Try.call19 args w
  ·exact Try.call20 args w
  ·exact Try.call21 args w
  ·exact Try.call22 args w
  ·exact Try.call23 args w
  ·exact Try.call24 args w
  ·exact Try.call25 args w
  ·exact Try.call26 args w
  ·exact Try.call27 args w
  ·exact Try.call28 args w
  ·exact Try.call29 args w
  ·exact Try.call30 args w
  ·exact Try.call31 args w
  ·exact Try.call32 args w
  ·exact Try.call33 args w
  ·exact Try.call34 args w
  ·exact Try.call35 args w
  ·exact Try.call36 args w
  ·exact Try.call37 args w
  ·exact Try.call38 args w
  ·exact Try.call39 args w
  ·exact Try.call40 args w
  ·exact Try.call41 args w
  ·exact Try.call42 args w
  ·exact Try.call43 args w
  ·exact Try.call44 args w
  ·exact Try.call45 args w
  ·exact Try.call46 args w
  ·exact Try.call47 args w
  ·exact Try.call48 args w
  ·exact Try.call49 args w
theorem b4y {c c':Ctx} (h:ProgOk Try.prog c) (h1:c'.tab=c.tab) (h2:c'.fok=c.fok) (h3:c'.mtab=c.mtab) (h4:c'.qtab=c.qtab):ProgOk Try.prog c':=⟨by rw [h1]; exact h.tab,h.mixed,by rw [h2]; exact h.call,by rw [h3]; exact h.mtab,by rw [h4]; exact h.qtab⟩
def cg (stops:List (List Bool)) (amb:List Nat) (vrets:List (Nat × List Nat)) (nofl gen live:Bool) (nw:Bool:=true) (joins:List (List Bool):=[]) (noflT:List Nat:=[]):Ctx:={ cx nw stops [] with rowl:=true,amb,vrets,nofl,gen,live,joins,noflT }
theorem a0W (stops:List (List Bool)) (amb:List Nat) (vrets:List (Nat × List Nat)) (nofl gen live:Bool) (nw:Bool:=true) (joins:List (List Bool):=[]) (noflT:List Nat:=[]):ProgOk Try.prog (cg stops amb vrets nofl gen live nw joins noflT):=b4y (b6o true [] []) rfl rfl rfl rfl
@[reducible] def treeB (x:IE):BE:=.and (.le (.l (-9223372036854775808)) x) (.le x (.l 9223372036854775807))
@[reducible] def treeI (x y:IE):BE:=.and (.le (.l 0) x) (.lt x y)
def jkR (b n:Nat):List SV:=(List.range n).map fun k=>.junk (b+k)
def udR (n:Nat):List SV:=List.replicate n .undef
end Go.Proofs.Ytdadenjndpbppaa
