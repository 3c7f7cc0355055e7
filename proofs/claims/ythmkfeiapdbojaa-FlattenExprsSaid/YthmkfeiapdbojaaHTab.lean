/- The table of types and functions of this seat, as the executor reads it. Written by gentab.py. -/
import Derived.Test.YthmkfeiapdbojaaHTxe
import Derived.Test.YthmkfeiapdbojaaProg
set_option linter.unusedSimpArgs false
set_option linter.unusedVariables false
open List renaming mem_cons → Q0, not_mem_nil → Q2
open Prod.mk renaming injEq → Q1
namespace Go.Proofs.Ythmkfeiapdbojaa
open Go.Sx
def d0g:List (Nat × TI):=[
 (1,⟨.func,1,8,[.nilF],[.val],false⟩),
 (2,⟨.int .i64,1,8,[.int .i64 (.l 0)],[.int .i64],false⟩),
 (3,⟨.int .i64,1,8,[.int .i64 (.l 0)],[.int .i64],false⟩),
 (4,⟨.bool,1,1,[.bool (.t false)],[.bool],false⟩),
 (5,⟨.int .u8,1,1,[.int .u8 (.l 0)],[.int .u8],false⟩),
 (9,⟨.str,1,16,[.str []],[.val],false⟩),
 (12,⟨.int .u64,1,8,[.int .u64 (.l 0)],[.int .u64],false⟩),
 (21,⟨.int .i32,1,4,[.int .i32 (.l 0)],[.int .i32],false⟩),
 (22,⟨.arr 6 3,6,48,[.int .i64 (.l 0),.int .i64 (.l 0),.int .i64 (.l 0),.int .i64 (.l 0),.int .i64 (.l 0),.int .i64 (.l 0)],[.int .i64,.int .i64,.int .i64,.int .i64,.int .i64,.int .i64],true⟩),
 (23,⟨.arr 6 3,6,48,[.int .i64 (.l 0),.int .i64 (.l 0),.int .i64 (.l 0),.int .i64 (.l 0),.int .i64 (.l 0),.int .i64 (.l 0)],[.int .i64,.int .i64,.int .i64,.int .i64,.int .i64,.int .i64],true⟩),
 (24,⟨.slice 26,1,24,[.nilS],[.val],false⟩),
 (25,⟨.st [(0,3),(1,23),(7,2),(8,24)],9,88,[.int .i64 (.l 0),.int .i64 (.l 0),.int .i64 (.l 0),.int .i64 (.l 0),.int .i64 (.l 0),.int .i64 (.l 0),.int .i64 (.l 0),.int .i64 (.l 0),.nilS],[.int .i64,.int .i64,.int .i64,.int .i64,.int .i64,.int .i64,.int .i64,.int .i64,.val],false⟩),
 (26,⟨.st [(0,3),(1,23),(7,2),(8,24)],9,88,[.int .i64 (.l 0),.int .i64 (.l 0),.int .i64 (.l 0),.int .i64 (.l 0),.int .i64 (.l 0),.int .i64 (.l 0),.int .i64 (.l 0),.int .i64 (.l 0),.nilS],[.int .i64,.int .i64,.int .i64,.int .i64,.int .i64,.int .i64,.int .i64,.int .i64,.val],false⟩),
 (27,⟨.func,1,8,[.nilF],[.val],false⟩),
 (28,⟨.int .i64,1,8,[.int .i64 (.l 0)],[.int .i64],false⟩),
 (29,⟨.func,1,8,[.nilF],[.val],false⟩),
 (30,⟨.func,1,8,[.nilF],[.val],false⟩),
 (31,⟨.func,1,8,[.nilF],[.val],false⟩),
 (32,⟨.func,1,8,[.nilF],[.val],false⟩),
 (33,⟨.func,1,8,[.nilF],[.val],false⟩),
 (34,⟨.func,1,8,[.nilF],[.val],false⟩),
 (35,⟨.func,1,8,[.nilF],[.val],false⟩),
 (36,⟨.func,1,8,[.nilF],[.val],false⟩),
 (37,⟨.slice 2,1,24,[.nilS],[.val],false⟩),
 (39,⟨.func,1,8,[.nilF],[.val],false⟩),
 (41,⟨.func,1,8,[.nilF],[.val],false⟩),
 (42,⟨.func,1,8,[.nilF],[.val],false⟩),
 (43,⟨.func,1,8,[.nilF],[.val],false⟩),
 (44,⟨.slice 59,1,24,[.nilS],[.val],false⟩),
 (46,⟨.func,1,8,[.nilF],[.val],false⟩),
 (47,⟨.func,1,8,[.nilF],[.val],false⟩),
 (48,⟨.func,1,8,[.nilF],[.val],false⟩),
 (49,⟨.slice 23,1,24,[.nilS],[.val],false⟩),
 (50,⟨.func,1,8,[.nilF],[.val],false⟩),
 (51,⟨.func,1,8,[.nilF],[.val],false⟩),
 (52,⟨.func,1,8,[.nilF],[.val],false⟩),
 (54,⟨.func,1,8,[.nilF],[.val],false⟩),
 (55,⟨.func,1,8,[.nilF],[.val],false⟩),
 (56,⟨.func,1,8,[.nilF],[.val],false⟩),
 (57,⟨.func,1,8,[.nilF],[.val],false⟩),
 (58,⟨.st [(0,3),(1,23),(7,2)],8,64,[.int .i64 (.l 0),.int .i64 (.l 0),.int .i64 (.l 0),.int .i64 (.l 0),.int .i64 (.l 0),.int .i64 (.l 0),.int .i64 (.l 0),.int .i64 (.l 0)],[.int .i64,.int .i64,.int .i64,.int .i64,.int .i64,.int .i64,.int .i64,.int .i64],true⟩),
 (59,⟨.st [(0,3),(1,23),(7,2)],8,64,[.int .i64 (.l 0),.int .i64 (.l 0),.int .i64 (.l 0),.int .i64 (.l 0),.int .i64 (.l 0),.int .i64 (.l 0),.int .i64 (.l 0),.int .i64 (.l 0)],[.int .i64,.int .i64,.int .i64,.int .i64,.int .i64,.int .i64,.int .i64,.int .i64],true⟩),
 (60,⟨.func,1,8,[.nilF],[.val],false⟩),
 (61,⟨.func,1,8,[.nilF],[.val],false⟩),
 (62,⟨.func,1,8,[.nilF],[.val],false⟩),
 (63,⟨.func,1,8,[.nilF],[.val],false⟩),
 (64,⟨.other,1,8,[.nilM],[.val],false⟩),
 (65,⟨.other,1,8,[.nilM],[.val],false⟩),
 (66,⟨.func,1,8,[.nilF],[.val],false⟩),
 (67,⟨.func,1,8,[.nilF],[.val],false⟩),
 (68,⟨.func,1,8,[.nilF],[.val],false⟩),
 (69,⟨.func,1,8,[.nilF],[.val],false⟩),
 (70,⟨.func,1,8,[.nilF],[.val],false⟩),
 (71,⟨.func,1,8,[.nilF],[.val],false⟩),
 (72,⟨.func,1,8,[.nilF],[.val],false⟩),
 (73,⟨.func,1,8,[.nilF],[.val],false⟩),
 (74,⟨.func,1,8,[.nilF],[.val],false⟩),
 (75,⟨.func,1,8,[.nilF],[.val],false⟩),
 (76,⟨.func,1,8,[.nilF],[.val],false⟩),
 (77,⟨.func,1,8,[.nilF],[.val],false⟩),
 (78,⟨.st [(0,27)],1,8,[.nilF],[.val],false⟩),
 (79,⟨.st [(0,27)],1,8,[.nilF],[.val],false⟩),
 (80,⟨.func,1,8,[.nilF],[.val],false⟩),
 (81,⟨.func,1,8,[.nilF],[.val],false⟩),
 (82,⟨.slice 3,1,24,[.nilS],[.val],false⟩),
 (83,⟨.func,1,8,[.nilF],[.val],false⟩),
 (84,⟨.func,1,8,[.nilF],[.val],false⟩),
 (85,⟨.func,1,8,[.nilF],[.val],false⟩),
 (86,⟨.func,1,8,[.nilF],[.val],false⟩),
 (87,⟨.func,1,8,[.nilF],[.val],false⟩),
 (88,⟨.func,1,8,[.nilF],[.val],false⟩),
 (89,⟨.func,1,8,[.nilF],[.val],false⟩),
 (90,⟨.func,1,8,[.nilF],[.val],false⟩),
 (91,⟨.func,1,8,[.nilF],[.val],false⟩),
 (92,⟨.func,1,8,[.nilF],[.val],false⟩),
 (94,⟨.func,1,8,[.nilF],[.val],false⟩),
 (95,⟨.func,1,8,[.nilF],[.val],false⟩),
 (101,⟨.func,1,8,[.nilF],[.val],false⟩),
 (102,⟨.int .u32,1,4,[.int .u32 (.l 0)],[.int .u32],false⟩),
 (105,⟨.func,1,8,[.nilF],[.val],false⟩),
 (106,⟨.ptr 5,1,8,[.nilP],[.val],false⟩)]
def c4G:List (Nat × List Nat):=[
 (2,[]),
 (3,[4]),
 (4,[4]),
 (5,[4]),
 (6,[4]),
 (7,[4]),
 (8,[4]),
 (9,[4]),
 (10,[4]),
 (11,[4]),
 (12,[4]),
 (13,[4]),
 (14,[4]),
 (15,[4]),
 (16,[28]),
 (17,[4]),
 (18,[2]),
 (19,[23]),
 (20,[2]),
 (21,[2]),
 (22,[2]),
 (23,[3]),
 (24,[37,28]),
 (25,[37,28]),
 (26,[23,28]),
 (27,[4]),
 (28,[4]),
 (29,[4]),
 (30,[4]),
 (31,[44,28]),
 (32,[44,28]),
 (33,[4]),
 (34,[44,28]),
 (35,[44,28]),
 (36,[49]),
 (37,[2]),
 (38,[2]),
 (39,[26,28]),
 (40,[26,28]),
 (41,[4]),
 (42,[28]),
 (43,[44]),
 (44,[44]),
 (45,[4]),
 (46,[3]),
 (47,[26]),
 (48,[28]),
 (49,[65]),
 (50,[28]),
 (51,[37]),
 (52,[3]),
 (53,[69]),
 (54,[]),
 (55,[]),
 (56,[]),
 (57,[4]),
 (58,[23]),
 (59,[3]),
 (60,[44,28]),
 (61,[4]),
 (62,[4]),
 (63,[26]),
 (64,[26]),
 (65,[3]),
 (66,[4]),
 (67,[4]),
 (68,[3]),
 (69,[4]),
 (70,[4]),
 (71,[4]),
 (72,[4]),
 (73,[4]),
 (74,[65]),
 (75,[]),
 (76,[]),
 (77,[65]),
 (78,[23]),
 (79,[3]),
 (80,[24]),
 (81,[4]),
 (82,[4]),
 (83,[3]),
 (84,[37]),
 (85,[2]),
 (86,[]),
 (87,[69]),
 (88,[2]),
 (89,[23]),
 (90,[4]),
 (91,[3]),
 (92,[23]),
 (93,[3]),
 (94,[3]),
 (95,[]),
 (96,[23]),
 (97,[3,28])]
def a7k {α:Type} (k:Nat):List (Nat × α)->Option α
 | []=>none
 | (j,x)::l=>if Nat.beq j k then some x else a7k k l
def c8K:List (Nat × MT):=[]
def c8L:List (Nat × QT):=[(64,⟨23,6,2⟩),(65,⟨23,6,2⟩)]
def cx (nw:Bool) (stops:List (List Bool)) (cstops:List (List Bool × Nat)):Ctx :=
 { tab:=fun t=>a7k t d0g,rets:=fun f=>(a7k f c4G).getD [],fok:=fun f=>(a7k f c4G).isSome,nw,stops,cstops,mtab:=fun t=>a7k t c8K,qtab:=fun t=>a7k t c8L }
theorem ti1:TI.Ok Try.prog 1 ⟨.func,1,8,[.nilF],[.val],false⟩ where
 inf:=⟨Try.t1,_,by kernel_rfl,rfl,rfl,rfl,fun _ _=>rfl⟩
 zlen:=rfl
 ty:=⟨_,_,_,Try.underlying1⟩
 one:=fun _=>rfl
 eq:=fun h=>by simp at h
theorem ti2:TI.Ok Try.prog 2 ⟨.int .i64,1,8,[.int .i64 (.l 0)],[.int .i64],false⟩ where
 inf:=⟨Try.t2,_,by kernel_rfl,rfl,rfl,rfl,fun _ _=>rfl⟩
 zlen:=rfl
 ty:=Try.underlying2
 one:=fun _=>rfl
 eq:=fun h=>by simp at h
theorem ti3:TI.Ok Try.prog 3 ⟨.int .i64,1,8,[.int .i64 (.l 0)],[.int .i64],false⟩ where
 inf:=⟨Try.t3,_,by kernel_rfl,rfl,rfl,rfl,fun _ _=>rfl⟩
 zlen:=rfl
 ty:=Try.underlying3
 one:=fun _=>rfl
 eq:=fun h=>by simp at h
theorem ti4:TI.Ok Try.prog 4 ⟨.bool,1,1,[.bool (.t false)],[.bool],false⟩ where
 inf:=⟨Try.t4,_,by kernel_rfl,rfl,rfl,rfl,fun _ _=>rfl⟩
 zlen:=rfl
 ty:=Try.underlying4
 one:=fun _=>rfl
 eq:=fun h=>by simp at h
theorem ti5:TI.Ok Try.prog 5 ⟨.int .u8,1,1,[.int .u8 (.l 0)],[.int .u8],false⟩ where
 inf:=⟨Try.t5,_,by kernel_rfl,rfl,rfl,rfl,fun _ _=>rfl⟩
 zlen:=rfl
 ty:=Try.underlying5
 one:=fun _=>rfl
 eq:=fun h=>by simp at h
theorem ti9:TI.Ok Try.prog 9 ⟨.str,1,16,[.str []],[.val],false⟩ where
 inf:=⟨Try.t9,_,by kernel_rfl,rfl,rfl,rfl,fun _ _=>rfl⟩
 zlen:=rfl
 ty:=Try.underlying9
 one:=fun _=>rfl
 eq:=fun h=>by simp at h
theorem d1z:TI.Ok Try.prog 12 ⟨.int .u64,1,8,[.int .u64 (.l 0)],[.int .u64],false⟩ where
 inf:=⟨Try.t12,_,by kernel_rfl,rfl,rfl,rfl,fun _ _=>rfl⟩
 zlen:=rfl
 ty:=Try.underlying12
 one:=fun _=>rfl
 eq:=fun h=>by simp at h
theorem d1v:TI.Ok Try.prog 21 ⟨.int .i32,1,4,[.int .i32 (.l 0)],[.int .i32],false⟩ where
 inf:=⟨Try.t21,_,by kernel_rfl,rfl,rfl,rfl,fun _ _=>rfl⟩
 zlen:=rfl
 ty:=Try.underlying21
 one:=fun _=>rfl
 eq:=fun h=>by simp at h
theorem d2A:TI.Ok Try.prog 22 ⟨.arr 6 3,6,48,[.int .i64 (.l 0),.int .i64 (.l 0),.int .i64 (.l 0),.int .i64 (.l 0),.int .i64 (.l 0),.int .i64 (.l 0)],[.int .i64,.int .i64,.int .i64,.int .i64,.int .i64,.int .i64],true⟩ where
 inf:=⟨Try.t22,_,by kernel_rfl,rfl,rfl,rfl,fun _ _=>rfl⟩
 zlen:=rfl
 ty:=Try.underlying22
 one:=fun h=>by simp [TI.isAgg] at h
 eq:=fun _=>⟨Try.eqGuardType22,fun w zs us h1 h2=>(show EqT Try.prog 10000 22 true _ from (b0M (inf:=Try.t3) (a6I Try.underlying3 (Try.sizeOf3) (by kernel_rfl) 9998) Try.underlying22 (by kernel_rfl) (Try.sizeOf22) (by kernel_rfl))).eq w zs us h1 h2⟩
theorem c7c:TI.Ok Try.prog 23 ⟨.arr 6 3,6,48,[.int .i64 (.l 0),.int .i64 (.l 0),.int .i64 (.l 0),.int .i64 (.l 0),.int .i64 (.l 0),.int .i64 (.l 0)],[.int .i64,.int .i64,.int .i64,.int .i64,.int .i64,.int .i64],true⟩ where
 inf:=⟨Try.t23,_,by kernel_rfl,rfl,rfl,rfl,fun _ _=>rfl⟩
 zlen:=rfl
 ty:=Try.underlying23
 one:=fun h=>by simp [TI.isAgg] at h
 eq:=fun _=>⟨Try.eqGuardType23,fun w zs us h1 h2=>(show EqT Try.prog 10000 23 true _ from (b0M (inf:=Try.t3) (a6I Try.underlying3 (Try.sizeOf3) (by kernel_rfl) 9998) Try.underlying23 (by kernel_rfl) (Try.sizeOf23) (by kernel_rfl))).eq w zs us h1 h2⟩
theorem d1r:TI.Ok Try.prog 24 ⟨.slice 26,1,24,[.nilS],[.val],false⟩ where
 inf:=⟨Try.t24,_,by kernel_rfl,rfl,rfl,rfl,fun _ _=>rfl⟩
 zlen:=rfl
 ty:=Try.underlying24
 one:=fun _=>rfl
 eq:=fun h=>by simp at h
theorem d2n:TI.Ok Try.prog 25 ⟨.st [(0,3),(1,23),(7,2),(8,24)],9,88,[.int .i64 (.l 0),.int .i64 (.l 0),.int .i64 (.l 0),.int .i64 (.l 0),.int .i64 (.l 0),.int .i64 (.l 0),.int .i64 (.l 0),.int .i64 (.l 0),.nilS],[.int .i64,.int .i64,.int .i64,.int .i64,.int .i64,.int .i64,.int .i64,.int .i64,.val],false⟩ where
 inf:=⟨Try.t25,_,by kernel_rfl,rfl,rfl,rfl,fun _ _=>rfl⟩
 zlen:=rfl
 ty:=⟨_,Try.underlying25,rfl⟩
 one:=fun h=>by simp [TI.isAgg] at h
 eq:=fun h=>by simp at h
theorem d1s:TI.Ok Try.prog 26 ⟨.st [(0,3),(1,23),(7,2),(8,24)],9,88,[.int .i64 (.l 0),.int .i64 (.l 0),.int .i64 (.l 0),.int .i64 (.l 0),.int .i64 (.l 0),.int .i64 (.l 0),.int .i64 (.l 0),.int .i64 (.l 0),.nilS],[.int .i64,.int .i64,.int .i64,.int .i64,.int .i64,.int .i64,.int .i64,.int .i64,.val],false⟩ where
 inf:=⟨Try.t26,_,by kernel_rfl,rfl,rfl,rfl,fun _ _=>rfl⟩
 zlen:=rfl
 ty:=⟨_,Try.underlying26,rfl⟩
 one:=fun h=>by simp [TI.isAgg] at h
 eq:=fun h=>by simp at h
theorem d2t:TI.Ok Try.prog 27 ⟨.func,1,8,[.nilF],[.val],false⟩ where
 inf:=⟨Try.t27,_,by kernel_rfl,rfl,rfl,rfl,fun _ _=>rfl⟩
 zlen:=rfl
 ty:=⟨_,_,_,Try.underlying27⟩
 one:=fun _=>rfl
 eq:=fun h=>by simp at h
theorem d2r:TI.Ok Try.prog 28 ⟨.int .i64,1,8,[.int .i64 (.l 0)],[.int .i64],false⟩ where
 inf:=⟨Try.t28,_,by kernel_rfl,rfl,rfl,rfl,fun _ _=>rfl⟩
 zlen:=rfl
 ty:=Try.underlying28
 one:=fun _=>rfl
 eq:=fun h=>by simp at h
theorem d1V:TI.Ok Try.prog 29 ⟨.func,1,8,[.nilF],[.val],false⟩ where
 inf:=⟨Try.t29,_,by kernel_rfl,rfl,rfl,rfl,fun _ _=>rfl⟩
 zlen:=rfl
 ty:=⟨_,_,_,Try.underlying29⟩
 one:=fun _=>rfl
 eq:=fun h=>by simp at h
theorem d2D:TI.Ok Try.prog 30 ⟨.func,1,8,[.nilF],[.val],false⟩ where
 inf:=⟨Try.t30,_,by kernel_rfl,rfl,rfl,rfl,fun _ _=>rfl⟩
 zlen:=rfl
 ty:=⟨_,_,_,Try.underlying30⟩
 one:=fun _=>rfl
 eq:=fun h=>by simp at h
theorem d2w:TI.Ok Try.prog 31 ⟨.func,1,8,[.nilF],[.val],false⟩ where
 inf:=⟨Try.t31,_,by kernel_rfl,rfl,rfl,rfl,fun _ _=>rfl⟩
 zlen:=rfl
 ty:=⟨_,_,_,Try.underlying31⟩
 one:=fun _=>rfl
 eq:=fun h=>by simp at h
theorem d2z:TI.Ok Try.prog 32 ⟨.func,1,8,[.nilF],[.val],false⟩ where
 inf:=⟨Try.t32,_,by kernel_rfl,rfl,rfl,rfl,fun _ _=>rfl⟩
 zlen:=rfl
 ty:=⟨_,_,_,Try.underlying32⟩
 one:=fun _=>rfl
 eq:=fun h=>by simp at h
theorem d1i:TI.Ok Try.prog 33 ⟨.func,1,8,[.nilF],[.val],false⟩ where
 inf:=⟨Try.t33,_,by kernel_rfl,rfl,rfl,rfl,fun _ _=>rfl⟩
 zlen:=rfl
 ty:=⟨_,_,_,Try.underlying33⟩
 one:=fun _=>rfl
 eq:=fun h=>by simp at h
theorem d1G:TI.Ok Try.prog 34 ⟨.func,1,8,[.nilF],[.val],false⟩ where
 inf:=⟨Try.t34,_,by kernel_rfl,rfl,rfl,rfl,fun _ _=>rfl⟩
 zlen:=rfl
 ty:=⟨_,_,_,Try.underlying34⟩
 one:=fun _=>rfl
 eq:=fun h=>by simp at h
theorem d2E:TI.Ok Try.prog 35 ⟨.func,1,8,[.nilF],[.val],false⟩ where
 inf:=⟨Try.t35,_,by kernel_rfl,rfl,rfl,rfl,fun _ _=>rfl⟩
 zlen:=rfl
 ty:=⟨_,_,_,Try.underlying35⟩
 one:=fun _=>rfl
 eq:=fun h=>by simp at h
theorem d2g:TI.Ok Try.prog 36 ⟨.func,1,8,[.nilF],[.val],false⟩ where
 inf:=⟨Try.t36,_,by kernel_rfl,rfl,rfl,rfl,fun _ _=>rfl⟩
 zlen:=rfl
 ty:=⟨_,_,_,Try.underlying36⟩
 one:=fun _=>rfl
 eq:=fun h=>by simp at h
theorem d1C:TI.Ok Try.prog 37 ⟨.slice 2,1,24,[.nilS],[.val],false⟩ where
 inf:=⟨Try.t37,_,by kernel_rfl,rfl,rfl,rfl,fun _ _=>rfl⟩
 zlen:=rfl
 ty:=Try.underlying37
 one:=fun _=>rfl
 eq:=fun h=>by simp at h
theorem d2s:TI.Ok Try.prog 39 ⟨.func,1,8,[.nilF],[.val],false⟩ where
 inf:=⟨Try.t39,_,by kernel_rfl,rfl,rfl,rfl,fun _ _=>rfl⟩
 zlen:=rfl
 ty:=⟨_,_,_,Try.underlying39⟩
 one:=fun _=>rfl
 eq:=fun h=>by simp at h
theorem d1Q:TI.Ok Try.prog 41 ⟨.func,1,8,[.nilF],[.val],false⟩ where
 inf:=⟨Try.t41,_,by kernel_rfl,rfl,rfl,rfl,fun _ _=>rfl⟩
 zlen:=rfl
 ty:=⟨_,_,_,Try.underlying41⟩
 one:=fun _=>rfl
 eq:=fun h=>by simp at h
theorem d2v:TI.Ok Try.prog 42 ⟨.func,1,8,[.nilF],[.val],false⟩ where
 inf:=⟨Try.t42,_,by kernel_rfl,rfl,rfl,rfl,fun _ _=>rfl⟩
 zlen:=rfl
 ty:=⟨_,_,_,Try.underlying42⟩
 one:=fun _=>rfl
 eq:=fun h=>by simp at h
theorem d2e:TI.Ok Try.prog 43 ⟨.func,1,8,[.nilF],[.val],false⟩ where
 inf:=⟨Try.t43,_,by kernel_rfl,rfl,rfl,rfl,fun _ _=>rfl⟩
 zlen:=rfl
 ty:=⟨_,_,_,Try.underlying43⟩
 one:=fun _=>rfl
 eq:=fun h=>by simp at h
theorem d1O:TI.Ok Try.prog 44 ⟨.slice 59,1,24,[.nilS],[.val],false⟩ where
 inf:=⟨Try.t44,_,by kernel_rfl,rfl,rfl,rfl,fun _ _=>rfl⟩
 zlen:=rfl
 ty:=Try.underlying44
 one:=fun _=>rfl
 eq:=fun h=>by simp at h
theorem d2j:TI.Ok Try.prog 46 ⟨.func,1,8,[.nilF],[.val],false⟩ where
 inf:=⟨Try.t46,_,by kernel_rfl,rfl,rfl,rfl,fun _ _=>rfl⟩
 zlen:=rfl
 ty:=⟨_,_,_,Try.underlying46⟩
 one:=fun _=>rfl
 eq:=fun h=>by simp at h
theorem d2f:TI.Ok Try.prog 47 ⟨.func,1,8,[.nilF],[.val],false⟩ where
 inf:=⟨Try.t47,_,by kernel_rfl,rfl,rfl,rfl,fun _ _=>rfl⟩
 zlen:=rfl
 ty:=⟨_,_,_,Try.underlying47⟩
 one:=fun _=>rfl
 eq:=fun h=>by simp at h
theorem d2F:TI.Ok Try.prog 48 ⟨.func,1,8,[.nilF],[.val],false⟩ where
 inf:=⟨Try.t48,_,by kernel_rfl,rfl,rfl,rfl,fun _ _=>rfl⟩
 zlen:=rfl
 ty:=⟨_,_,_,Try.underlying48⟩
 one:=fun _=>rfl
 eq:=fun h=>by simp at h
theorem d1y:TI.Ok Try.prog 49 ⟨.slice 23,1,24,[.nilS],[.val],false⟩ where
 inf:=⟨Try.t49,_,by kernel_rfl,rfl,rfl,rfl,fun _ _=>rfl⟩
 zlen:=rfl
 ty:=Try.underlying49
 one:=fun _=>rfl
 eq:=fun h=>by simp at h
theorem d1R:TI.Ok Try.prog 50 ⟨.func,1,8,[.nilF],[.val],false⟩ where
 inf:=⟨Try.t50,_,by kernel_rfl,rfl,rfl,rfl,fun _ _=>rfl⟩
 zlen:=rfl
 ty:=⟨_,_,_,Try.underlying50⟩
 one:=fun _=>rfl
 eq:=fun h=>by simp at h
theorem d1t:TI.Ok Try.prog 51 ⟨.func,1,8,[.nilF],[.val],false⟩ where
 inf:=⟨Try.t51,_,by kernel_rfl,rfl,rfl,rfl,fun _ _=>rfl⟩
 zlen:=rfl
 ty:=⟨_,_,_,Try.underlying51⟩
 one:=fun _=>rfl
 eq:=fun h=>by simp at h
theorem d2q:TI.Ok Try.prog 52 ⟨.func,1,8,[.nilF],[.val],false⟩ where
 inf:=⟨Try.t52,_,by kernel_rfl,rfl,rfl,rfl,fun _ _=>rfl⟩
 zlen:=rfl
 ty:=⟨_,_,_,Try.underlying52⟩
 one:=fun _=>rfl
 eq:=fun h=>by simp at h
theorem d1K:TI.Ok Try.prog 54 ⟨.func,1,8,[.nilF],[.val],false⟩ where
 inf:=⟨Try.t54,_,by kernel_rfl,rfl,rfl,rfl,fun _ _=>rfl⟩
 zlen:=rfl
 ty:=⟨_,_,_,Try.underlying54⟩
 one:=fun _=>rfl
 eq:=fun h=>by simp at h
theorem d1w:TI.Ok Try.prog 55 ⟨.func,1,8,[.nilF],[.val],false⟩ where
 inf:=⟨Try.t55,_,by kernel_rfl,rfl,rfl,rfl,fun _ _=>rfl⟩
 zlen:=rfl
 ty:=⟨_,_,_,Try.underlying55⟩
 one:=fun _=>rfl
 eq:=fun h=>by simp at h
theorem d1n:TI.Ok Try.prog 56 ⟨.func,1,8,[.nilF],[.val],false⟩ where
 inf:=⟨Try.t56,_,by kernel_rfl,rfl,rfl,rfl,fun _ _=>rfl⟩
 zlen:=rfl
 ty:=⟨_,_,_,Try.underlying56⟩
 one:=fun _=>rfl
 eq:=fun h=>by simp at h
theorem d2B:TI.Ok Try.prog 57 ⟨.func,1,8,[.nilF],[.val],false⟩ where
 inf:=⟨Try.t57,_,by kernel_rfl,rfl,rfl,rfl,fun _ _=>rfl⟩
 zlen:=rfl
 ty:=⟨_,_,_,Try.underlying57⟩
 one:=fun _=>rfl
 eq:=fun h=>by simp at h
theorem d1A:TI.Ok Try.prog 58 ⟨.st [(0,3),(1,23),(7,2)],8,64,[.int .i64 (.l 0),.int .i64 (.l 0),.int .i64 (.l 0),.int .i64 (.l 0),.int .i64 (.l 0),.int .i64 (.l 0),.int .i64 (.l 0),.int .i64 (.l 0)],[.int .i64,.int .i64,.int .i64,.int .i64,.int .i64,.int .i64,.int .i64,.int .i64],true⟩ where
 inf:=⟨Try.t58,_,by kernel_rfl,rfl,rfl,rfl,fun _ _=>rfl⟩
 zlen:=rfl
 ty:=⟨_,Try.underlying58,rfl⟩
 one:=fun h=>by simp [TI.isAgg] at h
 eq:=fun _=>⟨Try.eqGuardType58,fun w zs us h1 h2=>(show EqT Try.prog 10000 58 true _ from (b7V Try.underlying58 (.cons (by decide) rfl (a6I Try.underlying3 (Try.sizeOf3) (by kernel_rfl) 9998) (.cons (by decide) rfl (b0M (inf:=Try.t3) (a6I Try.underlying3 (Try.sizeOf3) (by kernel_rfl) 9997) Try.underlying23 (by kernel_rfl) (Try.sizeOf23) (by kernel_rfl)) (.cons (by decide) rfl (a6I Try.underlying2 (Try.sizeOf2) (by kernel_rfl) 9998) (.nil _)))) (by kernel_rfl) (Try.sizeOf58) (by kernel_rfl))).eq w zs us h1 h2⟩
theorem d2x:TI.Ok Try.prog 59 ⟨.st [(0,3),(1,23),(7,2)],8,64,[.int .i64 (.l 0),.int .i64 (.l 0),.int .i64 (.l 0),.int .i64 (.l 0),.int .i64 (.l 0),.int .i64 (.l 0),.int .i64 (.l 0),.int .i64 (.l 0)],[.int .i64,.int .i64,.int .i64,.int .i64,.int .i64,.int .i64,.int .i64,.int .i64],true⟩ where
 inf:=⟨Try.t59,_,by kernel_rfl,rfl,rfl,rfl,fun _ _=>rfl⟩
 zlen:=rfl
 ty:=⟨_,Try.underlying59,rfl⟩
 one:=fun h=>by simp [TI.isAgg] at h
 eq:=fun _=>⟨Try.eqGuardType59,fun w zs us h1 h2=>(show EqT Try.prog 10000 59 true _ from (b7V Try.underlying59 (.cons (by decide) rfl (a6I Try.underlying3 (Try.sizeOf3) (by kernel_rfl) 9998) (.cons (by decide) rfl (b0M (inf:=Try.t3) (a6I Try.underlying3 (Try.sizeOf3) (by kernel_rfl) 9997) Try.underlying23 (by kernel_rfl) (Try.sizeOf23) (by kernel_rfl)) (.cons (by decide) rfl (a6I Try.underlying2 (Try.sizeOf2) (by kernel_rfl) 9998) (.nil _)))) (by kernel_rfl) (Try.sizeOf59) (by kernel_rfl))).eq w zs us h1 h2⟩
theorem d1M:TI.Ok Try.prog 60 ⟨.func,1,8,[.nilF],[.val],false⟩ where
 inf:=⟨Try.t60,_,by kernel_rfl,rfl,rfl,rfl,fun _ _=>rfl⟩
 zlen:=rfl
 ty:=⟨_,_,_,Try.underlying60⟩
 one:=fun _=>rfl
 eq:=fun h=>by simp at h
theorem d2H:TI.Ok Try.prog 61 ⟨.func,1,8,[.nilF],[.val],false⟩ where
 inf:=⟨Try.t61,_,by kernel_rfl,rfl,rfl,rfl,fun _ _=>rfl⟩
 zlen:=rfl
 ty:=⟨_,_,_,Try.underlying61⟩
 one:=fun _=>rfl
 eq:=fun h=>by simp at h
theorem d1j:TI.Ok Try.prog 62 ⟨.func,1,8,[.nilF],[.val],false⟩ where
 inf:=⟨Try.t62,_,by kernel_rfl,rfl,rfl,rfl,fun _ _=>rfl⟩
 zlen:=rfl
 ty:=⟨_,_,_,Try.underlying62⟩
 one:=fun _=>rfl
 eq:=fun h=>by simp at h
theorem d1D:TI.Ok Try.prog 63 ⟨.func,1,8,[.nilF],[.val],false⟩ where
 inf:=⟨Try.t63,_,by kernel_rfl,rfl,rfl,rfl,fun _ _=>rfl⟩
 zlen:=rfl
 ty:=⟨_,_,_,Try.underlying63⟩
 one:=fun _=>rfl
 eq:=fun h=>by simp at h
theorem d2C:TI.Ok Try.prog 64 ⟨.other,1,8,[.nilM],[.val],false⟩ where
 inf:=⟨Try.t64,_,by kernel_rfl,rfl,rfl,rfl,fun _ _=>rfl⟩
 zlen:=rfl
 ty:=⟨_,Try.underlying64,trivial⟩
 one:=fun _=>rfl
 eq:=fun h=>by simp at h
theorem d2c:TI.Ok Try.prog 65 ⟨.other,1,8,[.nilM],[.val],false⟩ where
 inf:=⟨Try.t65,_,by kernel_rfl,rfl,rfl,rfl,fun _ _=>rfl⟩
 zlen:=rfl
 ty:=⟨_,Try.underlying65,trivial⟩
 one:=fun _=>rfl
 eq:=fun h=>by simp at h
theorem d1E:TI.Ok Try.prog 66 ⟨.func,1,8,[.nilF],[.val],false⟩ where
 inf:=⟨Try.t66,_,by kernel_rfl,rfl,rfl,rfl,fun _ _=>rfl⟩
 zlen:=rfl
 ty:=⟨_,_,_,Try.underlying66⟩
 one:=fun _=>rfl
 eq:=fun h=>by simp at h
theorem d2u:TI.Ok Try.prog 67 ⟨.func,1,8,[.nilF],[.val],false⟩ where
 inf:=⟨Try.t67,_,by kernel_rfl,rfl,rfl,rfl,fun _ _=>rfl⟩
 zlen:=rfl
 ty:=⟨_,_,_,Try.underlying67⟩
 one:=fun _=>rfl
 eq:=fun h=>by simp at h
theorem d1P:TI.Ok Try.prog 68 ⟨.func,1,8,[.nilF],[.val],false⟩ where
 inf:=⟨Try.t68,_,by kernel_rfl,rfl,rfl,rfl,fun _ _=>rfl⟩
 zlen:=rfl
 ty:=⟨_,_,_,Try.underlying68⟩
 one:=fun _=>rfl
 eq:=fun h=>by simp at h
theorem d1m:TI.Ok Try.prog 69 ⟨.func,1,8,[.nilF],[.val],false⟩ where
 inf:=⟨Try.t69,_,by kernel_rfl,rfl,rfl,rfl,fun _ _=>rfl⟩
 zlen:=rfl
 ty:=⟨_,_,_,Try.underlying69⟩
 one:=fun _=>rfl
 eq:=fun h=>by simp at h
theorem d2i:TI.Ok Try.prog 70 ⟨.func,1,8,[.nilF],[.val],false⟩ where
 inf:=⟨Try.t70,_,by kernel_rfl,rfl,rfl,rfl,fun _ _=>rfl⟩
 zlen:=rfl
 ty:=⟨_,_,_,Try.underlying70⟩
 one:=fun _=>rfl
 eq:=fun h=>by simp at h
theorem d2G:TI.Ok Try.prog 71 ⟨.func,1,8,[.nilF],[.val],false⟩ where
 inf:=⟨Try.t71,_,by kernel_rfl,rfl,rfl,rfl,fun _ _=>rfl⟩
 zlen:=rfl
 ty:=⟨_,_,_,Try.underlying71⟩
 one:=fun _=>rfl
 eq:=fun h=>by simp at h
theorem d2y:TI.Ok Try.prog 72 ⟨.func,1,8,[.nilF],[.val],false⟩ where
 inf:=⟨Try.t72,_,by kernel_rfl,rfl,rfl,rfl,fun _ _=>rfl⟩
 zlen:=rfl
 ty:=⟨_,_,_,Try.underlying72⟩
 one:=fun _=>rfl
 eq:=fun h=>by simp at h
theorem d1l:TI.Ok Try.prog 73 ⟨.func,1,8,[.nilF],[.val],false⟩ where
 inf:=⟨Try.t73,_,by kernel_rfl,rfl,rfl,rfl,fun _ _=>rfl⟩
 zlen:=rfl
 ty:=⟨_,_,_,Try.underlying73⟩
 one:=fun _=>rfl
 eq:=fun h=>by simp at h
theorem d2d:TI.Ok Try.prog 74 ⟨.func,1,8,[.nilF],[.val],false⟩ where
 inf:=⟨Try.t74,_,by kernel_rfl,rfl,rfl,rfl,fun _ _=>rfl⟩
 zlen:=rfl
 ty:=⟨_,_,_,Try.underlying74⟩
 one:=fun _=>rfl
 eq:=fun h=>by simp at h
theorem d1B:TI.Ok Try.prog 75 ⟨.func,1,8,[.nilF],[.val],false⟩ where
 inf:=⟨Try.t75,_,by kernel_rfl,rfl,rfl,rfl,fun _ _=>rfl⟩
 zlen:=rfl
 ty:=⟨_,_,_,Try.underlying75⟩
 one:=fun _=>rfl
 eq:=fun h=>by simp at h
theorem d1p:TI.Ok Try.prog 76 ⟨.func,1,8,[.nilF],[.val],false⟩ where
 inf:=⟨Try.t76,_,by kernel_rfl,rfl,rfl,rfl,fun _ _=>rfl⟩
 zlen:=rfl
 ty:=⟨_,_,_,Try.underlying76⟩
 one:=fun _=>rfl
 eq:=fun h=>by simp at h
theorem d1J:TI.Ok Try.prog 77 ⟨.func,1,8,[.nilF],[.val],false⟩ where
 inf:=⟨Try.t77,_,by kernel_rfl,rfl,rfl,rfl,fun _ _=>rfl⟩
 zlen:=rfl
 ty:=⟨_,_,_,Try.underlying77⟩
 one:=fun _=>rfl
 eq:=fun h=>by simp at h
theorem d1N:TI.Ok Try.prog 78 ⟨.st [(0,27)],1,8,[.nilF],[.val],false⟩ where
 inf:=⟨Try.t78,_,by kernel_rfl,rfl,rfl,rfl,fun _ _=>rfl⟩
 zlen:=rfl
 ty:=⟨_,Try.underlying78,rfl⟩
 one:=fun h=>by simp [TI.isAgg] at h
 eq:=fun h=>by simp at h
theorem d1H:TI.Ok Try.prog 79 ⟨.st [(0,27)],1,8,[.nilF],[.val],false⟩ where
 inf:=⟨Try.t79,_,by kernel_rfl,rfl,rfl,rfl,fun _ _=>rfl⟩
 zlen:=rfl
 ty:=⟨_,Try.underlying79,rfl⟩
 one:=fun h=>by simp [TI.isAgg] at h
 eq:=fun h=>by simp at h
theorem d2l:TI.Ok Try.prog 80 ⟨.func,1,8,[.nilF],[.val],false⟩ where
 inf:=⟨Try.t80,_,by kernel_rfl,rfl,rfl,rfl,fun _ _=>rfl⟩
 zlen:=rfl
 ty:=⟨_,_,_,Try.underlying80⟩
 one:=fun _=>rfl
 eq:=fun h=>by simp at h
theorem d1Y:TI.Ok Try.prog 81 ⟨.func,1,8,[.nilF],[.val],false⟩ where
 inf:=⟨Try.t81,_,by kernel_rfl,rfl,rfl,rfl,fun _ _=>rfl⟩
 zlen:=rfl
 ty:=⟨_,_,_,Try.underlying81⟩
 one:=fun _=>rfl
 eq:=fun h=>by simp at h
theorem d1S:TI.Ok Try.prog 82 ⟨.slice 3,1,24,[.nilS],[.val],false⟩ where
 inf:=⟨Try.t82,_,by kernel_rfl,rfl,rfl,rfl,fun _ _=>rfl⟩
 zlen:=rfl
 ty:=Try.underlying82
 one:=fun _=>rfl
 eq:=fun h=>by simp at h
theorem d2a:TI.Ok Try.prog 83 ⟨.func,1,8,[.nilF],[.val],false⟩ where
 inf:=⟨Try.t83,_,by kernel_rfl,rfl,rfl,rfl,fun _ _=>rfl⟩
 zlen:=rfl
 ty:=⟨_,_,_,Try.underlying83⟩
 one:=fun _=>rfl
 eq:=fun h=>by simp at h
theorem d1L:TI.Ok Try.prog 84 ⟨.func,1,8,[.nilF],[.val],false⟩ where
 inf:=⟨Try.t84,_,by kernel_rfl,rfl,rfl,rfl,fun _ _=>rfl⟩
 zlen:=rfl
 ty:=⟨_,_,_,Try.underlying84⟩
 one:=fun _=>rfl
 eq:=fun h=>by simp at h
theorem d1W:TI.Ok Try.prog 85 ⟨.func,1,8,[.nilF],[.val],false⟩ where
 inf:=⟨Try.t85,_,by kernel_rfl,rfl,rfl,rfl,fun _ _=>rfl⟩
 zlen:=rfl
 ty:=⟨_,_,_,Try.underlying85⟩
 one:=fun _=>rfl
 eq:=fun h=>by simp at h
theorem d1Z:TI.Ok Try.prog 86 ⟨.func,1,8,[.nilF],[.val],false⟩ where
 inf:=⟨Try.t86,_,by kernel_rfl,rfl,rfl,rfl,fun _ _=>rfl⟩
 zlen:=rfl
 ty:=⟨_,_,_,Try.underlying86⟩
 one:=fun _=>rfl
 eq:=fun h=>by simp at h
theorem d2h:TI.Ok Try.prog 87 ⟨.func,1,8,[.nilF],[.val],false⟩ where
 inf:=⟨Try.t87,_,by kernel_rfl,rfl,rfl,rfl,fun _ _=>rfl⟩
 zlen:=rfl
 ty:=⟨_,_,_,Try.underlying87⟩
 one:=fun _=>rfl
 eq:=fun h=>by simp at h
theorem d1o:TI.Ok Try.prog 88 ⟨.func,1,8,[.nilF],[.val],false⟩ where
 inf:=⟨Try.t88,_,by kernel_rfl,rfl,rfl,rfl,fun _ _=>rfl⟩
 zlen:=rfl
 ty:=⟨_,_,_,Try.underlying88⟩
 one:=fun _=>rfl
 eq:=fun h=>by simp at h
theorem d1T:TI.Ok Try.prog 89 ⟨.func,1,8,[.nilF],[.val],false⟩ where
 inf:=⟨Try.t89,_,by kernel_rfl,rfl,rfl,rfl,fun _ _=>rfl⟩
 zlen:=rfl
 ty:=⟨_,_,_,Try.underlying89⟩
 one:=fun _=>rfl
 eq:=fun h=>by simp at h
theorem d1q:TI.Ok Try.prog 90 ⟨.func,1,8,[.nilF],[.val],false⟩ where
 inf:=⟨Try.t90,_,by kernel_rfl,rfl,rfl,rfl,fun _ _=>rfl⟩
 zlen:=rfl
 ty:=⟨_,_,_,Try.underlying90⟩
 one:=fun _=>rfl
 eq:=fun h=>by simp at h
theorem d1u:TI.Ok Try.prog 91 ⟨.func,1,8,[.nilF],[.val],false⟩ where
 inf:=⟨Try.t91,_,by kernel_rfl,rfl,rfl,rfl,fun _ _=>rfl⟩
 zlen:=rfl
 ty:=⟨_,_,_,Try.underlying91⟩
 one:=fun _=>rfl
 eq:=fun h=>by simp at h
theorem d1k:TI.Ok Try.prog 92 ⟨.func,1,8,[.nilF],[.val],false⟩ where
 inf:=⟨Try.t92,_,by kernel_rfl,rfl,rfl,rfl,fun _ _=>rfl⟩
 zlen:=rfl
 ty:=⟨_,_,_,Try.underlying92⟩
 one:=fun _=>rfl
 eq:=fun h=>by simp at h
theorem d1x:TI.Ok Try.prog 94 ⟨.func,1,8,[.nilF],[.val],false⟩ where
 inf:=⟨Try.t94,_,by kernel_rfl,rfl,rfl,rfl,fun _ _=>rfl⟩
 zlen:=rfl
 ty:=⟨_,_,_,Try.underlying94⟩
 one:=fun _=>rfl
 eq:=fun h=>by simp at h
theorem d2m:TI.Ok Try.prog 95 ⟨.func,1,8,[.nilF],[.val],false⟩ where
 inf:=⟨Try.t95,_,by kernel_rfl,rfl,rfl,rfl,fun _ _=>rfl⟩
 zlen:=rfl
 ty:=⟨_,_,_,Try.underlying95⟩
 one:=fun _=>rfl
 eq:=fun h=>by simp at h
theorem d1g:TI.Ok Try.prog 101 ⟨.func,1,8,[.nilF],[.val],false⟩ where
 inf:=⟨Try.t101,_,by kernel_rfl,rfl,rfl,rfl,fun _ _=>rfl⟩
 zlen:=rfl
 ty:=⟨_,_,_,Try.underlying101⟩
 one:=fun _=>rfl
 eq:=fun h=>by simp at h
theorem d1c:TI.Ok Try.prog 102 ⟨.int .u32,1,4,[.int .u32 (.l 0)],[.int .u32],false⟩ where
 inf:=⟨Try.t102,_,by kernel_rfl,rfl,rfl,rfl,fun _ _=>rfl⟩
 zlen:=rfl
 ty:=Try.underlying102
 one:=fun _=>rfl
 eq:=fun h=>by simp at h
theorem d0W:TI.Ok Try.prog 105 ⟨.func,1,8,[.nilF],[.val],false⟩ where
 inf:=⟨Try.t105,_,by kernel_rfl,rfl,rfl,rfl,fun _ _=>rfl⟩
 zlen:=rfl
 ty:=⟨_,_,_,Try.underlying105⟩
 one:=fun _=>rfl
 eq:=fun h=>by simp at h
theorem d0Q:TI.Ok Try.prog 106 ⟨.ptr 5,1,8,[.nilP],[.val],false⟩ where
 inf:=⟨Try.t106,_,by kernel_rfl,rfl,rfl,rfl,fun _ _=>rfl⟩
 zlen:=rfl
 ty:=Try.underlying106
 one:=fun _=>rfl
 eq:=fun h=>by simp at h
theorem d1I:QT.Ok Try.prog 64 ⟨23,6,2⟩ where
 ty:=Try.underlying64
 kd:=⟨_,_,Try.underlying23⟩
 check em zs w h:=a9D Try.underlying23 Try.underlying3 (fun w=>Go.Sx.run_sizeOf ti3 w) em 9998 zs h w
 eq w zs us h1 h2:=c8v c7c rfl (n:=6) rfl w zs us h1 h2
 zero:=⟨Try.t2,by kernel_rfl,rfl⟩
theorem d1X:QT.Ok Try.prog 65 ⟨23,6,2⟩ where
 ty:=Try.underlying65
 kd:=⟨_,_,Try.underlying23⟩
 check em zs w h:=a9D Try.underlying23 Try.underlying3 (fun w=>Go.Sx.run_sizeOf ti3 w) em 9998 zs h w
 eq w zs us h1 h2:=c8v c7c rfl (n:=6) rfl w zs us h1 h2
 zero:=⟨Try.t2,by kernel_rfl,rfl⟩
theorem a9Z {α:Type} {k:Nat} {x:α}:∀ {l:List (Nat × α)},a7k k l=some x->(k,x)∈l
 | [],h=>by simp [a7k] at h
 | (j,y)::l,h=>by
  simp only [a7k] at h
  split at h
  ·rename_i hj
   simp only [Option.some.injEq] at h
   rw [Nat.eq_of_beq_eq_true hj,h]; exact List.mem_cons_self
  ·exact List.mem_cons_of_mem _ (a9Z h)
theorem b2g (nw:Bool) (stops:List (List Bool)) (cstops:List (List Bool × Nat)):ProgOk Try.prog (cx nw stops cstops) where
 mixed:=by kernel_rfl
 tab t i h:=by
  have h:=a9Z h
  simp only [d0g,Q0,Q1,Q2,or_false] at h
  rcases h with h|h|h|h|h|h|h|h|h|h|h|h|h|h|h|h|h|h|h|h|h|h|h|h|h|h|h|h|h|h|h|h|h|h|h|h|h|h|h|h|h|h|h|h|h|h|h|h|h|h|h|h|h|h|h|h|h|h|h|h|h|h|h|h|h|h|h|h|h|h|h|h|h|h|h|h|h|h|h|h|h
  all_goals obtain ⟨rfl,rfl⟩:=h
  ·exact ti1
  ·exact ti2
  ·exact ti3
  ·exact ti4
  ·exact ti5
  ·exact ti9
  ·exact d1z
  ·exact d1v
  ·exact d2A
  ·exact c7c
  ·exact d1r
  ·exact d2n
  ·exact d1s
  ·exact d2t
  ·exact d2r
  ·exact d1V
  ·exact d2D
  ·exact d2w
  ·exact d2z
  ·exact d1i
  ·exact d1G
  ·exact d2E
  ·exact d2g
  ·exact d1C
  ·exact d2s
  ·exact d1Q
  ·exact d2v
  ·exact d2e
  ·exact d1O
  ·exact d2j
  ·exact d2f
  ·exact d2F
  ·exact d1y
  ·exact d1R
  ·exact d1t
  ·exact d2q
  ·exact d1K
  ·exact d1w
  ·exact d1n
  ·exact d2B
  ·exact d1A
  ·exact d2x
  ·exact d1M
  ·exact d2H
  ·exact d1j
  ·exact d1D
  ·exact d2C
  ·exact d2c
  ·exact d1E
  ·exact d2u
  ·exact d1P
  ·exact d1m
  ·exact d2i
  ·exact d2G
  ·exact d2y
  ·exact d1l
  ·exact d2d
  ·exact d1B
  ·exact d1p
  ·exact d1J
  ·exact d1N
  ·exact d1H
  ·exact d2l
  ·exact d1Y
  ·exact d1S
  ·exact d2a
  ·exact d1L
  ·exact d1W
  ·exact d1Z
  ·exact d2h
  ·exact d1o
  ·exact d1T
  ·exact d1q
  ·exact d1u
  ·exact d1k
  ·exact d1x
  ·exact d2m
  ·exact d1g
  ·exact d1c
  ·exact d0W
  ·exact d0Q
 mtab t i h:=by
  simp [cx,c8K,a7k] at h
 qtab t i h:=by
  have h:=a9Z h
  simp only [c8L,Q0,Q1,Q2,or_false] at h
  rcases h with ⟨rfl,rfl⟩ | ⟨rfl,rfl⟩
  ·exact d1I
  ·exact d1X
 call f h args w:=by
  simp only [cx,Option.isSome_iff_exists] at h
  obtain ⟨x,h⟩:=h
  have h:=a9Z h
  simp only [c4G,Q0,Q1,Q2,or_false] at h
  rcases h with h|h|h|h|h|h|h|h|h|h|h|h|h|h|h|h|h|h|h|h|h|h|h|h|h|h|h|h|h|h|h|h|h|h|h|h|h|h|h|h|h|h|h|h|h|h|h|h|h|h|h|h|h|h|h|h|h|h|h|h|h|h|h|h|h|h|h|h|h|h|h|h|h|h|h|h|h|h|h|h|h|h|h|h|h|h|h|h|h|h|h|h|h|h|h|h
  all_goals obtain ⟨rfl,_⟩:=h
  ·exact Try.call2 args w
  ·exact Try.call3 args w
  ·exact Try.call4 args w
  ·exact Try.call5 args w
  ·exact Try.call6 args w
  ·exact Try.call7 args w
  ·exact Try.call8 args w
  ·exact Try.call9 args w
  ·exact Try.call10 args w
  ·exact Try.call11 args w
  ·exact Try.call12 args w
  ·exact Try.call13 args w
  ·exact Try.call14 args w
  ·exact Try.call15 args w
  ·exact Try.call16 args w
  ·exact Try.call17 args w
  ·exact Try.call18 args w
  ·exact Try.call19 args w
  ·exact Try.call20 args w
  ·exact Try.call21 args w
  ·exact Try.call22 args w
  ·exact Try.call23 args w
  ·exact Try.call24 args w
  ·exact Try.call25 args w
  ·exact Try.call26 args w
  ·exact Try.call27 args w
  ·exact Try.call28 args w
  ·exact Try.call29 args w
  ·exact Try.call30 args w
  ·exact Try.call31 args w
  ·exact Try.call32 args w
  ·exact Try.call33 args w
  ·exact Try.call34 args w
  ·exact Try.call35 args w
  ·exact Try.call36 args w
  ·exact Try.call37 args w
  ·exact Try.call38 args w
  ·exact Try.call39 args w
  ·exact Try.call40 args w
  ·exact Try.call41 args w
  ·exact Try.call42 args w
  ·exact Try.call43 args w
  ·exact Try.call44 args w
  ·exact Try.call45 args w
  ·exact Try.call46 args w
  ·exact Try.call47 args w
  ·exact Try.call48 args w
  ·exact Try.call49 args w
  ·exact Try.call50 args w
  ·exact Try.call51 args w
  ·exact Try.call52 args w
  ·exact Try.call53 args w
  ·exact Try.call54 args w
  ·exact Try.call55 args w
  ·exact Try.call56 args w
  ·exact Try.call57 args w
  ·exact Try.call58 args w
  ·exact Try.call59 args w
  ·exact Try.call60 args w
  ·exact Try.call61 args w
  ·exact Try.call62 args w
  ·exact Try.call63 args w
  ·exact Try.call64 args w
  ·exact Try.call65 args w
  ·exact Try.call66 args w
  ·exact Try.call67 args w
  ·exact Try.call68 args w
  ·exact Try.call69 args w
  ·exact Try.call70 args w
  ·exact Try.call71 args w
  ·exact Try.call72 args w
  ·exact Try.call73 args w
  ·exact Try.call74 args w
  ·exact Try.call75 args w
  ·exact Try.call76 args w
  ·exact Try.call77 args w
  ·exact Try.call78 args w
  ·exact Try.call79 args w
  ·exact Try.call80 args w
  ·exact Try.call81 args w
  ·exact Try.call82 args w
  ·exact Try.call83 args w
  ·exact Try.call84 args w
  ·exact Try.call85 args w
  ·exact Try.call86 args w
  ·exact Try.call87 args w
  ·exact Try.call88 args w
  ·exact Try.call89 args w
  ·exact Try.call90 args w
  ·exact Try.call91 args w
  ·exact Try.call92 args w
  ·exact Try.call93 args w
  ·exact Try.call94 args w
  ·exact Try.call95 args w
  ·exact Try.call96 args w
  ·exact Try.call97 args w
def cl (nw:Bool) (stops:List (List Bool)) (cstops:List (List Bool × Nat)):Ctx:={ cx nw stops cstops with leaf:=true }
theorem c9y (nw:Bool) (stops:List (List Bool)) (cstops:List (List Bool × Nat)):ProgOk Try.prog (cl nw stops cstops):=⟨(b2g nw stops cstops).tab,(b2g nw stops cstops).mixed,(b2g nw stops cstops).call,(b2g nw stops cstops).mtab,(b2g nw stops cstops).qtab⟩
theorem c6h {c c':Ctx} (h:ProgOk Try.prog c) (h1:c'.tab=c.tab) (h2:c'.fok=c.fok) (h3:c'.mtab=c.mtab) (h4:c'.qtab=c.qtab):ProgOk Try.prog c':=⟨by rw [h1]; exact h.tab,h.mixed,by rw [h2]; exact h.call,by rw [h3]; exact h.mtab,by rw [h4]; exact h.qtab⟩
def cg (stops:List (List Bool)) (amb:List Nat) (vrets:List (Nat × List Nat)) (nofl gen live:Bool) (nw:Bool:=true) (joins:List (List Bool):=[]) (noflT:List Nat:=[]):Ctx:={ cx nw stops [] with rowl:=true,amb,vrets,nofl,gen,live,joins,noflT }
theorem a0s (stops:List (List Bool)) (amb:List Nat) (vrets:List (Nat × List Nat)) (nofl gen live:Bool) (nw:Bool:=true) (joins:List (List Bool):=[]) (noflT:List Nat:=[]):ProgOk Try.prog (cg stops amb vrets nofl gen live nw joins noflT):=c6h (b2g true [] []) rfl rfl rfl rfl
@[reducible] def treeB (x:IE):BE:=.and (.le (.l (-9223372036854775808)) x) (.le x (.l 9223372036854775807))
@[reducible] def treeI (x y:IE):BE:=.and (.le (.l 0) x) (.lt x y)
end Go.Proofs.Ythmkfeiapdbojaa
