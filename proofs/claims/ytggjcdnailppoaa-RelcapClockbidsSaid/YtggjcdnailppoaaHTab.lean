/- The table of types and functions of this seat, as the executor reads it. Written by gentab.py. -/
import Derived.Test.YtggjcdnailppoaaHTxe
import Derived.Test.YtggjcdnailppoaaProg
set_option linter.unusedSimpArgs false
set_option linter.unusedVariables false
open List renaming mem_cons → Q0, not_mem_nil → Q2
open Prod.mk renaming injEq → Q1
namespace Go.Proofs.Ytggjcdnailppoaa
open Go.Sx
def b9X:List (Nat × TI):=[
 (1,⟨.func,1,8,[.nilF],[.val],false⟩),
 (2,⟨.int .i64,1,8,[.int .i64 (.l 0)],[.int .i64],false⟩),
 (3,⟨.int .i64,1,8,[.int .i64 (.l 0)],[.int .i64],false⟩),
 (4,⟨.bool,1,1,[.bool (.t false)],[.bool],false⟩),
 (5,⟨.int .u8,1,1,[.int .u8 (.l 0)],[.int .u8],false⟩),
 (9,⟨.str,1,16,[.str []],[.val],false⟩),
 (12,⟨.int .u64,1,8,[.int .u64 (.l 0)],[.int .u64],false⟩),
 (21,⟨.int .i32,1,4,[.int .i32 (.l 0)],[.int .i32],false⟩),
 (22,⟨.slice 46,1,24,[.nilS],[.val],false⟩),
 (23,⟨.func,1,8,[.nilF],[.val],false⟩),
 (24,⟨.func,1,8,[.nilF],[.val],false⟩),
 (25,⟨.slice 33,1,24,[.nilS],[.val],false⟩),
 (26,⟨.func,1,8,[.nilF],[.val],false⟩),
 (27,⟨.func,1,8,[.nilF],[.val],false⟩),
 (28,⟨.arr 6 3,6,48,[.int .i64 (.l 0),.int .i64 (.l 0),.int .i64 (.l 0),.int .i64 (.l 0),.int .i64 (.l 0),.int .i64 (.l 0)],[.int .i64,.int .i64,.int .i64,.int .i64,.int .i64,.int .i64],true⟩),
 (29,⟨.arr 6 3,6,48,[.int .i64 (.l 0),.int .i64 (.l 0),.int .i64 (.l 0),.int .i64 (.l 0),.int .i64 (.l 0),.int .i64 (.l 0)],[.int .i64,.int .i64,.int .i64,.int .i64,.int .i64,.int .i64],true⟩),
 (30,⟨.func,1,8,[.nilF],[.val],false⟩),
 (31,⟨.func,1,8,[.nilF],[.val],false⟩),
 (32,⟨.st [(0,3),(1,29),(7,2)],8,64,[.int .i64 (.l 0),.int .i64 (.l 0),.int .i64 (.l 0),.int .i64 (.l 0),.int .i64 (.l 0),.int .i64 (.l 0),.int .i64 (.l 0),.int .i64 (.l 0)],[.int .i64,.int .i64,.int .i64,.int .i64,.int .i64,.int .i64,.int .i64,.int .i64],true⟩),
 (33,⟨.st [(0,3),(1,29),(7,2)],8,64,[.int .i64 (.l 0),.int .i64 (.l 0),.int .i64 (.l 0),.int .i64 (.l 0),.int .i64 (.l 0),.int .i64 (.l 0),.int .i64 (.l 0),.int .i64 (.l 0)],[.int .i64,.int .i64,.int .i64,.int .i64,.int .i64,.int .i64,.int .i64,.int .i64],true⟩),
 (34,⟨.int .i64,1,8,[.int .i64 (.l 0)],[.int .i64],false⟩),
 (36,⟨.func,1,8,[.nilF],[.val],false⟩),
 (37,⟨.func,1,8,[.nilF],[.val],false⟩),
 (38,⟨.func,1,8,[.nilF],[.val],false⟩),
 (39,⟨.func,1,8,[.nilF],[.val],false⟩),
 (40,⟨.func,1,8,[.nilF],[.val],false⟩),
 (41,⟨.func,1,8,[.nilF],[.val],false⟩),
 (42,⟨.slice 2,1,24,[.nilS],[.val],false⟩),
 (43,⟨.arr 6 2,6,48,[.int .i64 (.l 0),.int .i64 (.l 0),.int .i64 (.l 0),.int .i64 (.l 0),.int .i64 (.l 0),.int .i64 (.l 0)],[.int .i64,.int .i64,.int .i64,.int .i64,.int .i64,.int .i64],true⟩),
 (44,⟨.arr 6 2,6,48,[.int .i64 (.l 0),.int .i64 (.l 0),.int .i64 (.l 0),.int .i64 (.l 0),.int .i64 (.l 0),.int .i64 (.l 0)],[.int .i64,.int .i64,.int .i64,.int .i64,.int .i64,.int .i64],true⟩),
 (45,⟨.st [(0,44),(6,29)],12,96,[.int .i64 (.l 0),.int .i64 (.l 0),.int .i64 (.l 0),.int .i64 (.l 0),.int .i64 (.l 0),.int .i64 (.l 0),.int .i64 (.l 0),.int .i64 (.l 0),.int .i64 (.l 0),.int .i64 (.l 0),.int .i64 (.l 0),.int .i64 (.l 0)],[.int .i64,.int .i64,.int .i64,.int .i64,.int .i64,.int .i64,.int .i64,.int .i64,.int .i64,.int .i64,.int .i64,.int .i64],true⟩),
 (46,⟨.st [(0,44),(6,29)],12,96,[.int .i64 (.l 0),.int .i64 (.l 0),.int .i64 (.l 0),.int .i64 (.l 0),.int .i64 (.l 0),.int .i64 (.l 0),.int .i64 (.l 0),.int .i64 (.l 0),.int .i64 (.l 0),.int .i64 (.l 0),.int .i64 (.l 0),.int .i64 (.l 0)],[.int .i64,.int .i64,.int .i64,.int .i64,.int .i64,.int .i64,.int .i64,.int .i64,.int .i64,.int .i64,.int .i64,.int .i64],true⟩),
 (47,⟨.func,1,8,[.nilF],[.val],false⟩),
 (48,⟨.slice 3,1,24,[.nilS],[.val],false⟩),
 (49,⟨.st [(0,48),(1,42)],2,48,[.nilS,.nilS],[.val,.val],false⟩),
 (50,⟨.st [(0,48),(1,42)],2,48,[.nilS,.nilS],[.val,.val],false⟩),
 (52,⟨.func,1,8,[.nilF],[.val],false⟩),
 (53,⟨.func,1,8,[.nilF],[.val],false⟩),
 (54,⟨.func,1,8,[.nilF],[.val],false⟩),
 (55,⟨.func,1,8,[.nilF],[.val],false⟩),
 (56,⟨.func,1,8,[.nilF],[.val],false⟩),
 (57,⟨.func,1,8,[.nilF],[.val],false⟩),
 (58,⟨.func,1,8,[.nilF],[.val],false⟩),
 (59,⟨.func,1,8,[.nilF],[.val],false⟩),
 (60,⟨.func,1,8,[.nilF],[.val],false⟩),
 (61,⟨.func,1,8,[.nilF],[.val],false⟩),
 (62,⟨.func,1,8,[.nilF],[.val],false⟩),
 (63,⟨.func,1,8,[.nilF],[.val],false⟩),
 (64,⟨.func,1,8,[.nilF],[.val],false⟩),
 (66,⟨.func,1,8,[.nilF],[.val],false⟩),
 (67,⟨.func,1,8,[.nilF],[.val],false⟩),
 (68,⟨.func,1,8,[.nilF],[.val],false⟩),
 (69,⟨.func,1,8,[.nilF],[.val],false⟩),
 (70,⟨.func,1,8,[.nilF],[.val],false⟩),
 (71,⟨.func,1,8,[.nilF],[.val],false⟩),
 (72,⟨.func,1,8,[.nilF],[.val],false⟩),
 (73,⟨.int .u64,1,8,[.int .u64 (.l 0)],[.int .u64],false⟩),
 (74,⟨.func,1,8,[.nilF],[.val],false⟩),
 (75,⟨.func,1,8,[.nilF],[.val],false⟩),
 (76,⟨.func,1,8,[.nilF],[.val],false⟩),
 (77,⟨.int .i64,1,8,[.int .i64 (.l 0)],[.int .i64],false⟩),
 (79,⟨.func,1,8,[.nilF],[.val],false⟩),
 (80,⟨.func,1,8,[.nilF],[.val],false⟩),
 (81,⟨.func,1,8,[.nilF],[.val],false⟩),
 (83,⟨.func,1,8,[.nilF],[.val],false⟩),
 (84,⟨.func,1,8,[.nilF],[.val],false⟩),
 (85,⟨.int .u32,1,4,[.int .u32 (.l 0)],[.int .u32],false⟩),
 (86,⟨.func,1,8,[.nilF],[.val],false⟩),
 (87,⟨.int .u64,1,8,[.int .u64 (.l 0)],[.int .u64],false⟩),
 (88,⟨.other,1,8,[.nilM],[.val],false⟩),
 (89,⟨.int .u64,1,8,[.int .u64 (.l 0)],[.int .u64],false⟩),
 (90,⟨.func,1,8,[.nilF],[.val],false⟩),
 (91,⟨.func,1,8,[.nilF],[.val],false⟩),
 (92,⟨.func,1,8,[.nilF],[.val],false⟩),
 (93,⟨.ptr 3,1,8,[.nilP],[.val],false⟩),
 (94,⟨.func,1,8,[.nilF],[.val],false⟩),
 (95,⟨.ptr 89,1,8,[.nilP],[.val],false⟩),
 (97,⟨.func,1,8,[.nilF],[.val],false⟩),
 (98,⟨.func,1,8,[.nilF],[.val],false⟩),
 (104,⟨.func,1,8,[.nilF],[.val],false⟩),
 (107,⟨.func,1,8,[.nilF],[.val],false⟩),
 (108,⟨.ptr 5,1,8,[.nilP],[.val],false⟩)]
def b6O:List (Nat × List Nat):=[
 (2,[]),
 (3,[4]),
 (4,[4]),
 (5,[4]),
 (6,[4]),
 (7,[4]),
 (8,[4]),
 (9,[4]),
 (10,[4]),
 (11,[25]),
 (12,[25]),
 (13,[2]),
 (14,[2]),
 (15,[3,34]),
 (16,[4]),
 (17,[34]),
 (18,[3,34]),
 (19,[25]),
 (20,[25]),
 (21,[4]),
 (22,[2]),
 (23,[2]),
 (24,[50,4]),
 (25,[34]),
 (26,[4]),
 (27,[2]),
 (28,[25]),
 (29,[4]),
 (30,[]),
 (31,[3]),
 (32,[3]),
 (33,[3]),
 (34,[34]),
 (35,[4]),
 (36,[2]),
 (37,[60]),
 (38,[25]),
 (39,[25]),
 (40,[4]),
 (41,[2]),
 (42,[4]),
 (43,[42,48]),
 (44,[4]),
 (45,[4]),
 (46,[2]),
 (47,[3]),
 (48,[]),
 (49,[3]),
 (50,[2]),
 (51,[4]),
 (52,[4]),
 (53,[48]),
 (54,[]),
 (55,[]),
 (56,[]),
 (57,[3,77]),
 (58,[]),
 (59,[4]),
 (60,[3]),
 (61,[3,4]),
 (62,[3]),
 (63,[3]),
 (64,[]),
 (65,[73]),
 (66,[87]),
 (67,[3]),
 (68,[3]),
 (69,[3,3])]
def a5k {α:Type} (k:Nat):List (Nat × α)->Option α
 | []=>none
 | (j,x)::l=>if Nat.beq j k then some x else a5k k l
def b8X:List (Nat × MT):=[(88,⟨.i64,3,4,.bool (.t false),.one .bool⟩)]
def b8W:List (Nat × QT):=[]
def cx (nw:Bool) (stops:List (List Bool)) (cstops:List (List Bool × Nat)):Ctx :=
 { tab:=fun t=>a5k t b9X,rets:=fun f=>(a5k f b6O).getD [],fok:=fun f=>(a5k f b6O).isSome,nw,stops,cstops,mtab:=fun t=>a5k t b8X,qtab:=fun t=>a5k t b8W }
theorem ti1:TI.Ok Try.prog 1 ⟨.func,1,8,[.nilF],[.val],false⟩ where
 inf:=⟨Try.t1,_,by kernel_rfl,rfl,rfl,rfl,fun _ _=>rfl⟩
 zlen:=rfl
 ty:=⟨_,_,_,Try.underlying1⟩
 one:=fun _=>rfl
 eq:=fun h=>by simp at h
theorem ti2:TI.Ok Try.prog 2 ⟨.int .i64,1,8,[.int .i64 (.l 0)],[.int .i64],false⟩ where
 inf:=⟨Try.t2,_,by kernel_rfl,rfl,rfl,rfl,fun _ _=>rfl⟩
 zlen:=rfl
 ty:=Try.underlying2
 one:=fun _=>rfl
 eq:=fun h=>by simp at h
theorem ti3:TI.Ok Try.prog 3 ⟨.int .i64,1,8,[.int .i64 (.l 0)],[.int .i64],false⟩ where
 inf:=⟨Try.t3,_,by kernel_rfl,rfl,rfl,rfl,fun _ _=>rfl⟩
 zlen:=rfl
 ty:=Try.underlying3
 one:=fun _=>rfl
 eq:=fun h=>by simp at h
theorem ti4:TI.Ok Try.prog 4 ⟨.bool,1,1,[.bool (.t false)],[.bool],false⟩ where
 inf:=⟨Try.t4,_,by kernel_rfl,rfl,rfl,rfl,fun _ _=>rfl⟩
 zlen:=rfl
 ty:=Try.underlying4
 one:=fun _=>rfl
 eq:=fun h=>by simp at h
theorem ti5:TI.Ok Try.prog 5 ⟨.int .u8,1,1,[.int .u8 (.l 0)],[.int .u8],false⟩ where
 inf:=⟨Try.t5,_,by kernel_rfl,rfl,rfl,rfl,fun _ _=>rfl⟩
 zlen:=rfl
 ty:=Try.underlying5
 one:=fun _=>rfl
 eq:=fun h=>by simp at h
theorem ti9:TI.Ok Try.prog 9 ⟨.str,1,16,[.str []],[.val],false⟩ where
 inf:=⟨Try.t9,_,by kernel_rfl,rfl,rfl,rfl,fun _ _=>rfl⟩
 zlen:=rfl
 ty:=Try.underlying9
 one:=fun _=>rfl
 eq:=fun h=>by simp at h
theorem c0F:TI.Ok Try.prog 12 ⟨.int .u64,1,8,[.int .u64 (.l 0)],[.int .u64],false⟩ where
 inf:=⟨Try.t12,_,by kernel_rfl,rfl,rfl,rfl,fun _ _=>rfl⟩
 zlen:=rfl
 ty:=Try.underlying12
 one:=fun _=>rfl
 eq:=fun h=>by simp at h
theorem c1A:TI.Ok Try.prog 21 ⟨.int .i32,1,4,[.int .i32 (.l 0)],[.int .i32],false⟩ where
 inf:=⟨Try.t21,_,by kernel_rfl,rfl,rfl,rfl,fun _ _=>rfl⟩
 zlen:=rfl
 ty:=Try.underlying21
 one:=fun _=>rfl
 eq:=fun h=>by simp at h
theorem c1u:TI.Ok Try.prog 22 ⟨.slice 46,1,24,[.nilS],[.val],false⟩ where
 inf:=⟨Try.t22,_,by kernel_rfl,rfl,rfl,rfl,fun _ _=>rfl⟩
 zlen:=rfl
 ty:=Try.underlying22
 one:=fun _=>rfl
 eq:=fun h=>by simp at h
theorem c0M:TI.Ok Try.prog 23 ⟨.func,1,8,[.nilF],[.val],false⟩ where
 inf:=⟨Try.t23,_,by kernel_rfl,rfl,rfl,rfl,fun _ _=>rfl⟩
 zlen:=rfl
 ty:=⟨_,_,_,Try.underlying23⟩
 one:=fun _=>rfl
 eq:=fun h=>by simp at h
theorem c0t:TI.Ok Try.prog 24 ⟨.func,1,8,[.nilF],[.val],false⟩ where
 inf:=⟨Try.t24,_,by kernel_rfl,rfl,rfl,rfl,fun _ _=>rfl⟩
 zlen:=rfl
 ty:=⟨_,_,_,Try.underlying24⟩
 one:=fun _=>rfl
 eq:=fun h=>by simp at h
theorem c0N:TI.Ok Try.prog 25 ⟨.slice 33,1,24,[.nilS],[.val],false⟩ where
 inf:=⟨Try.t25,_,by kernel_rfl,rfl,rfl,rfl,fun _ _=>rfl⟩
 zlen:=rfl
 ty:=Try.underlying25
 one:=fun _=>rfl
 eq:=fun h=>by simp at h
theorem c0O:TI.Ok Try.prog 26 ⟨.func,1,8,[.nilF],[.val],false⟩ where
 inf:=⟨Try.t26,_,by kernel_rfl,rfl,rfl,rfl,fun _ _=>rfl⟩
 zlen:=rfl
 ty:=⟨_,_,_,Try.underlying26⟩
 one:=fun _=>rfl
 eq:=fun h=>by simp at h
theorem c1p:TI.Ok Try.prog 27 ⟨.func,1,8,[.nilF],[.val],false⟩ where
 inf:=⟨Try.t27,_,by kernel_rfl,rfl,rfl,rfl,fun _ _=>rfl⟩
 zlen:=rfl
 ty:=⟨_,_,_,Try.underlying27⟩
 one:=fun _=>rfl
 eq:=fun h=>by simp at h
theorem c0G:TI.Ok Try.prog 28 ⟨.arr 6 3,6,48,[.int .i64 (.l 0),.int .i64 (.l 0),.int .i64 (.l 0),.int .i64 (.l 0),.int .i64 (.l 0),.int .i64 (.l 0)],[.int .i64,.int .i64,.int .i64,.int .i64,.int .i64,.int .i64],true⟩ where
 inf:=⟨Try.t28,_,by kernel_rfl,rfl,rfl,rfl,fun _ _=>rfl⟩
 zlen:=rfl
 ty:=Try.underlying28
 one:=fun h=>by simp [TI.isAgg] at h
 eq:=fun _=>⟨Try.eqGuardType28,fun w zs us h1 h2=>(show EqT Try.prog 10000 28 true _ from (a2B (inf:=Try.t3) (a2t Try.underlying3 (Try.sizeOf3) (by kernel_rfl) 9998) Try.underlying28 (by kernel_rfl) (Try.sizeOf28) (by kernel_rfl))).eq w zs us h1 h2⟩
theorem c1b:TI.Ok Try.prog 29 ⟨.arr 6 3,6,48,[.int .i64 (.l 0),.int .i64 (.l 0),.int .i64 (.l 0),.int .i64 (.l 0),.int .i64 (.l 0),.int .i64 (.l 0)],[.int .i64,.int .i64,.int .i64,.int .i64,.int .i64,.int .i64],true⟩ where
 inf:=⟨Try.t29,_,by kernel_rfl,rfl,rfl,rfl,fun _ _=>rfl⟩
 zlen:=rfl
 ty:=Try.underlying29
 one:=fun h=>by simp [TI.isAgg] at h
 eq:=fun _=>⟨Try.eqGuardType29,fun w zs us h1 h2=>(show EqT Try.prog 10000 29 true _ from (a2B (inf:=Try.t3) (a2t Try.underlying3 (Try.sizeOf3) (by kernel_rfl) 9998) Try.underlying29 (by kernel_rfl) (Try.sizeOf29) (by kernel_rfl))).eq w zs us h1 h2⟩
theorem c0C:TI.Ok Try.prog 30 ⟨.func,1,8,[.nilF],[.val],false⟩ where
 inf:=⟨Try.t30,_,by kernel_rfl,rfl,rfl,rfl,fun _ _=>rfl⟩
 zlen:=rfl
 ty:=⟨_,_,_,Try.underlying30⟩
 one:=fun _=>rfl
 eq:=fun h=>by simp at h
theorem c0Y:TI.Ok Try.prog 31 ⟨.func,1,8,[.nilF],[.val],false⟩ where
 inf:=⟨Try.t31,_,by kernel_rfl,rfl,rfl,rfl,fun _ _=>rfl⟩
 zlen:=rfl
 ty:=⟨_,_,_,Try.underlying31⟩
 one:=fun _=>rfl
 eq:=fun h=>by simp at h
theorem c0H:TI.Ok Try.prog 32 ⟨.st [(0,3),(1,29),(7,2)],8,64,[.int .i64 (.l 0),.int .i64 (.l 0),.int .i64 (.l 0),.int .i64 (.l 0),.int .i64 (.l 0),.int .i64 (.l 0),.int .i64 (.l 0),.int .i64 (.l 0)],[.int .i64,.int .i64,.int .i64,.int .i64,.int .i64,.int .i64,.int .i64,.int .i64],true⟩ where
 inf:=⟨Try.t32,_,by kernel_rfl,rfl,rfl,rfl,fun _ _=>rfl⟩
 zlen:=rfl
 ty:=⟨_,Try.underlying32,rfl⟩
 one:=fun h=>by simp [TI.isAgg] at h
 eq:=fun _=>⟨Try.eqGuardType32,fun w zs us h1 h2=>(show EqT Try.prog 10000 32 true _ from (a6m Try.underlying32 (.cons (by decide) rfl (a2t Try.underlying3 (Try.sizeOf3) (by kernel_rfl) 9998) (.cons (by decide) rfl (a2B (inf:=Try.t3) (a2t Try.underlying3 (Try.sizeOf3) (by kernel_rfl) 9997) Try.underlying29 (by kernel_rfl) (Try.sizeOf29) (by kernel_rfl)) (.cons (by decide) rfl (a2t Try.underlying2 (Try.sizeOf2) (by kernel_rfl) 9998) (.nil _)))) (by kernel_rfl) (Try.sizeOf32) (by kernel_rfl))).eq w zs us h1 h2⟩
theorem c1U:TI.Ok Try.prog 33 ⟨.st [(0,3),(1,29),(7,2)],8,64,[.int .i64 (.l 0),.int .i64 (.l 0),.int .i64 (.l 0),.int .i64 (.l 0),.int .i64 (.l 0),.int .i64 (.l 0),.int .i64 (.l 0),.int .i64 (.l 0)],[.int .i64,.int .i64,.int .i64,.int .i64,.int .i64,.int .i64,.int .i64,.int .i64],true⟩ where
 inf:=⟨Try.t33,_,by kernel_rfl,rfl,rfl,rfl,fun _ _=>rfl⟩
 zlen:=rfl
 ty:=⟨_,Try.underlying33,rfl⟩
 one:=fun h=>by simp [TI.isAgg] at h
 eq:=fun _=>⟨Try.eqGuardType33,fun w zs us h1 h2=>(show EqT Try.prog 10000 33 true _ from (a6m Try.underlying33 (.cons (by decide) rfl (a2t Try.underlying3 (Try.sizeOf3) (by kernel_rfl) 9998) (.cons (by decide) rfl (a2B (inf:=Try.t3) (a2t Try.underlying3 (Try.sizeOf3) (by kernel_rfl) 9997) Try.underlying29 (by kernel_rfl) (Try.sizeOf29) (by kernel_rfl)) (.cons (by decide) rfl (a2t Try.underlying2 (Try.sizeOf2) (by kernel_rfl) 9998) (.nil _)))) (by kernel_rfl) (Try.sizeOf33) (by kernel_rfl))).eq w zs us h1 h2⟩
theorem c1I:TI.Ok Try.prog 34 ⟨.int .i64,1,8,[.int .i64 (.l 0)],[.int .i64],false⟩ where
 inf:=⟨Try.t34,_,by kernel_rfl,rfl,rfl,rfl,fun _ _=>rfl⟩
 zlen:=rfl
 ty:=Try.underlying34
 one:=fun _=>rfl
 eq:=fun h=>by simp at h
theorem c1q:TI.Ok Try.prog 36 ⟨.func,1,8,[.nilF],[.val],false⟩ where
 inf:=⟨Try.t36,_,by kernel_rfl,rfl,rfl,rfl,fun _ _=>rfl⟩
 zlen:=rfl
 ty:=⟨_,_,_,Try.underlying36⟩
 one:=fun _=>rfl
 eq:=fun h=>by simp at h
theorem c0X:TI.Ok Try.prog 37 ⟨.func,1,8,[.nilF],[.val],false⟩ where
 inf:=⟨Try.t37,_,by kernel_rfl,rfl,rfl,rfl,fun _ _=>rfl⟩
 zlen:=rfl
 ty:=⟨_,_,_,Try.underlying37⟩
 one:=fun _=>rfl
 eq:=fun h=>by simp at h
theorem c1l:TI.Ok Try.prog 38 ⟨.func,1,8,[.nilF],[.val],false⟩ where
 inf:=⟨Try.t38,_,by kernel_rfl,rfl,rfl,rfl,fun _ _=>rfl⟩
 zlen:=rfl
 ty:=⟨_,_,_,Try.underlying38⟩
 one:=fun _=>rfl
 eq:=fun h=>by simp at h
theorem c1L:TI.Ok Try.prog 39 ⟨.func,1,8,[.nilF],[.val],false⟩ where
 inf:=⟨Try.t39,_,by kernel_rfl,rfl,rfl,rfl,fun _ _=>rfl⟩
 zlen:=rfl
 ty:=⟨_,_,_,Try.underlying39⟩
 one:=fun _=>rfl
 eq:=fun h=>by simp at h
theorem c0W:TI.Ok Try.prog 40 ⟨.func,1,8,[.nilF],[.val],false⟩ where
 inf:=⟨Try.t40,_,by kernel_rfl,rfl,rfl,rfl,fun _ _=>rfl⟩
 zlen:=rfl
 ty:=⟨_,_,_,Try.underlying40⟩
 one:=fun _=>rfl
 eq:=fun h=>by simp at h
theorem c0n:TI.Ok Try.prog 41 ⟨.func,1,8,[.nilF],[.val],false⟩ where
 inf:=⟨Try.t41,_,by kernel_rfl,rfl,rfl,rfl,fun _ _=>rfl⟩
 zlen:=rfl
 ty:=⟨_,_,_,Try.underlying41⟩
 one:=fun _=>rfl
 eq:=fun h=>by simp at h
theorem c0I:TI.Ok Try.prog 42 ⟨.slice 2,1,24,[.nilS],[.val],false⟩ where
 inf:=⟨Try.t42,_,by kernel_rfl,rfl,rfl,rfl,fun _ _=>rfl⟩
 zlen:=rfl
 ty:=Try.underlying42
 one:=fun _=>rfl
 eq:=fun h=>by simp at h
theorem c0V:TI.Ok Try.prog 43 ⟨.arr 6 2,6,48,[.int .i64 (.l 0),.int .i64 (.l 0),.int .i64 (.l 0),.int .i64 (.l 0),.int .i64 (.l 0),.int .i64 (.l 0)],[.int .i64,.int .i64,.int .i64,.int .i64,.int .i64,.int .i64],true⟩ where
 inf:=⟨Try.t43,_,by kernel_rfl,rfl,rfl,rfl,fun _ _=>rfl⟩
 zlen:=rfl
 ty:=Try.underlying43
 one:=fun h=>by simp [TI.isAgg] at h
 eq:=fun _=>⟨Try.eqGuardType43,fun w zs us h1 h2=>(show EqT Try.prog 10000 43 true _ from (a2B (inf:=Try.t2) (a2t Try.underlying2 (Try.sizeOf2) (by kernel_rfl) 9998) Try.underlying43 (by kernel_rfl) (Try.sizeOf43) (by kernel_rfl))).eq w zs us h1 h2⟩
theorem c0x:TI.Ok Try.prog 44 ⟨.arr 6 2,6,48,[.int .i64 (.l 0),.int .i64 (.l 0),.int .i64 (.l 0),.int .i64 (.l 0),.int .i64 (.l 0),.int .i64 (.l 0)],[.int .i64,.int .i64,.int .i64,.int .i64,.int .i64,.int .i64],true⟩ where
 inf:=⟨Try.t44,_,by kernel_rfl,rfl,rfl,rfl,fun _ _=>rfl⟩
 zlen:=rfl
 ty:=Try.underlying44
 one:=fun h=>by simp [TI.isAgg] at h
 eq:=fun _=>⟨Try.eqGuardType44,fun w zs us h1 h2=>(show EqT Try.prog 10000 44 true _ from (a2B (inf:=Try.t2) (a2t Try.underlying2 (Try.sizeOf2) (by kernel_rfl) 9998) Try.underlying44 (by kernel_rfl) (Try.sizeOf44) (by kernel_rfl))).eq w zs us h1 h2⟩
theorem c1C:TI.Ok Try.prog 45 ⟨.st [(0,44),(6,29)],12,96,[.int .i64 (.l 0),.int .i64 (.l 0),.int .i64 (.l 0),.int .i64 (.l 0),.int .i64 (.l 0),.int .i64 (.l 0),.int .i64 (.l 0),.int .i64 (.l 0),.int .i64 (.l 0),.int .i64 (.l 0),.int .i64 (.l 0),.int .i64 (.l 0)],[.int .i64,.int .i64,.int .i64,.int .i64,.int .i64,.int .i64,.int .i64,.int .i64,.int .i64,.int .i64,.int .i64,.int .i64],true⟩ where
 inf:=⟨Try.t45,_,by kernel_rfl,rfl,rfl,rfl,fun _ _=>rfl⟩
 zlen:=rfl
 ty:=⟨_,Try.underlying45,rfl⟩
 one:=fun h=>by simp [TI.isAgg] at h
 eq:=fun _=>⟨Try.eqGuardType45,fun w zs us h1 h2=>(show EqT Try.prog 10000 45 true _ from (a6m Try.underlying45 (.cons (by decide) rfl (a2B (inf:=Try.t2) (a2t Try.underlying2 (Try.sizeOf2) (by kernel_rfl) 9997) Try.underlying44 (by kernel_rfl) (Try.sizeOf44) (by kernel_rfl)) (.cons (by decide) rfl (a2B (inf:=Try.t3) (a2t Try.underlying3 (Try.sizeOf3) (by kernel_rfl) 9997) Try.underlying29 (by kernel_rfl) (Try.sizeOf29) (by kernel_rfl)) (.nil _))) (by kernel_rfl) (Try.sizeOf45) (by kernel_rfl))).eq w zs us h1 h2⟩
theorem c0L:TI.Ok Try.prog 46 ⟨.st [(0,44),(6,29)],12,96,[.int .i64 (.l 0),.int .i64 (.l 0),.int .i64 (.l 0),.int .i64 (.l 0),.int .i64 (.l 0),.int .i64 (.l 0),.int .i64 (.l 0),.int .i64 (.l 0),.int .i64 (.l 0),.int .i64 (.l 0),.int .i64 (.l 0),.int .i64 (.l 0)],[.int .i64,.int .i64,.int .i64,.int .i64,.int .i64,.int .i64,.int .i64,.int .i64,.int .i64,.int .i64,.int .i64,.int .i64],true⟩ where
 inf:=⟨Try.t46,_,by kernel_rfl,rfl,rfl,rfl,fun _ _=>rfl⟩
 zlen:=rfl
 ty:=⟨_,Try.underlying46,rfl⟩
 one:=fun h=>by simp [TI.isAgg] at h
 eq:=fun _=>⟨Try.eqGuardType46,fun w zs us h1 h2=>(show EqT Try.prog 10000 46 true _ from (a6m Try.underlying46 (.cons (by decide) rfl (a2B (inf:=Try.t2) (a2t Try.underlying2 (Try.sizeOf2) (by kernel_rfl) 9997) Try.underlying44 (by kernel_rfl) (Try.sizeOf44) (by kernel_rfl)) (.cons (by decide) rfl (a2B (inf:=Try.t3) (a2t Try.underlying3 (Try.sizeOf3) (by kernel_rfl) 9997) Try.underlying29 (by kernel_rfl) (Try.sizeOf29) (by kernel_rfl)) (.nil _))) (by kernel_rfl) (Try.sizeOf46) (by kernel_rfl))).eq w zs us h1 h2⟩
theorem c0R:TI.Ok Try.prog 47 ⟨.func,1,8,[.nilF],[.val],false⟩ where
 inf:=⟨Try.t47,_,by kernel_rfl,rfl,rfl,rfl,fun _ _=>rfl⟩
 zlen:=rfl
 ty:=⟨_,_,_,Try.underlying47⟩
 one:=fun _=>rfl
 eq:=fun h=>by simp at h
theorem c0J:TI.Ok Try.prog 48 ⟨.slice 3,1,24,[.nilS],[.val],false⟩ where
 inf:=⟨Try.t48,_,by kernel_rfl,rfl,rfl,rfl,fun _ _=>rfl⟩
 zlen:=rfl
 ty:=Try.underlying48
 one:=fun _=>rfl
 eq:=fun h=>by simp at h
theorem c1s:TI.Ok Try.prog 49 ⟨.st [(0,48),(1,42)],2,48,[.nilS,.nilS],[.val,.val],false⟩ where
 inf:=⟨Try.t49,_,by kernel_rfl,rfl,rfl,rfl,fun _ _=>rfl⟩
 zlen:=rfl
 ty:=⟨_,Try.underlying49,rfl⟩
 one:=fun h=>by simp [TI.isAgg] at h
 eq:=fun h=>by simp at h
theorem c0A:TI.Ok Try.prog 50 ⟨.st [(0,48),(1,42)],2,48,[.nilS,.nilS],[.val,.val],false⟩ where
 inf:=⟨Try.t50,_,by kernel_rfl,rfl,rfl,rfl,fun _ _=>rfl⟩
 zlen:=rfl
 ty:=⟨_,Try.underlying50,rfl⟩
 one:=fun h=>by simp [TI.isAgg] at h
 eq:=fun h=>by simp at h
theorem c1G:TI.Ok Try.prog 52 ⟨.func,1,8,[.nilF],[.val],false⟩ where
 inf:=⟨Try.t52,_,by kernel_rfl,rfl,rfl,rfl,fun _ _=>rfl⟩
 zlen:=rfl
 ty:=⟨_,_,_,Try.underlying52⟩
 one:=fun _=>rfl
 eq:=fun h=>by simp at h
theorem c1h:TI.Ok Try.prog 53 ⟨.func,1,8,[.nilF],[.val],false⟩ where
 inf:=⟨Try.t53,_,by kernel_rfl,rfl,rfl,rfl,fun _ _=>rfl⟩
 zlen:=rfl
 ty:=⟨_,_,_,Try.underlying53⟩
 one:=fun _=>rfl
 eq:=fun h=>by simp at h
theorem c1E:TI.Ok Try.prog 54 ⟨.func,1,8,[.nilF],[.val],false⟩ where
 inf:=⟨Try.t54,_,by kernel_rfl,rfl,rfl,rfl,fun _ _=>rfl⟩
 zlen:=rfl
 ty:=⟨_,_,_,Try.underlying54⟩
 one:=fun _=>rfl
 eq:=fun h=>by simp at h
theorem c1z:TI.Ok Try.prog 55 ⟨.func,1,8,[.nilF],[.val],false⟩ where
 inf:=⟨Try.t55,_,by kernel_rfl,rfl,rfl,rfl,fun _ _=>rfl⟩
 zlen:=rfl
 ty:=⟨_,_,_,Try.underlying55⟩
 one:=fun _=>rfl
 eq:=fun h=>by simp at h
theorem c1e:TI.Ok Try.prog 56 ⟨.func,1,8,[.nilF],[.val],false⟩ where
 inf:=⟨Try.t56,_,by kernel_rfl,rfl,rfl,rfl,fun _ _=>rfl⟩
 zlen:=rfl
 ty:=⟨_,_,_,Try.underlying56⟩
 one:=fun _=>rfl
 eq:=fun h=>by simp at h
theorem c1Q:TI.Ok Try.prog 57 ⟨.func,1,8,[.nilF],[.val],false⟩ where
 inf:=⟨Try.t57,_,by kernel_rfl,rfl,rfl,rfl,fun _ _=>rfl⟩
 zlen:=rfl
 ty:=⟨_,_,_,Try.underlying57⟩
 one:=fun _=>rfl
 eq:=fun h=>by simp at h
theorem c1S:TI.Ok Try.prog 58 ⟨.func,1,8,[.nilF],[.val],false⟩ where
 inf:=⟨Try.t58,_,by kernel_rfl,rfl,rfl,rfl,fun _ _=>rfl⟩
 zlen:=rfl
 ty:=⟨_,_,_,Try.underlying58⟩
 one:=fun _=>rfl
 eq:=fun h=>by simp at h
theorem c0z:TI.Ok Try.prog 59 ⟨.func,1,8,[.nilF],[.val],false⟩ where
 inf:=⟨Try.t59,_,by kernel_rfl,rfl,rfl,rfl,fun _ _=>rfl⟩
 zlen:=rfl
 ty:=⟨_,_,_,Try.underlying59⟩
 one:=fun _=>rfl
 eq:=fun h=>by simp at h
theorem c0s:TI.Ok Try.prog 60 ⟨.func,1,8,[.nilF],[.val],false⟩ where
 inf:=⟨Try.t60,_,by kernel_rfl,rfl,rfl,rfl,fun _ _=>rfl⟩
 zlen:=rfl
 ty:=⟨_,_,_,Try.underlying60⟩
 one:=fun _=>rfl
 eq:=fun h=>by simp at h
theorem c1F:TI.Ok Try.prog 61 ⟨.func,1,8,[.nilF],[.val],false⟩ where
 inf:=⟨Try.t61,_,by kernel_rfl,rfl,rfl,rfl,fun _ _=>rfl⟩
 zlen:=rfl
 ty:=⟨_,_,_,Try.underlying61⟩
 one:=fun _=>rfl
 eq:=fun h=>by simp at h
theorem c1k:TI.Ok Try.prog 62 ⟨.func,1,8,[.nilF],[.val],false⟩ where
 inf:=⟨Try.t62,_,by kernel_rfl,rfl,rfl,rfl,fun _ _=>rfl⟩
 zlen:=rfl
 ty:=⟨_,_,_,Try.underlying62⟩
 one:=fun _=>rfl
 eq:=fun h=>by simp at h
theorem c1m:TI.Ok Try.prog 63 ⟨.func,1,8,[.nilF],[.val],false⟩ where
 inf:=⟨Try.t63,_,by kernel_rfl,rfl,rfl,rfl,fun _ _=>rfl⟩
 zlen:=rfl
 ty:=⟨_,_,_,Try.underlying63⟩
 one:=fun _=>rfl
 eq:=fun h=>by simp at h
theorem c0u:TI.Ok Try.prog 64 ⟨.func,1,8,[.nilF],[.val],false⟩ where
 inf:=⟨Try.t64,_,by kernel_rfl,rfl,rfl,rfl,fun _ _=>rfl⟩
 zlen:=rfl
 ty:=⟨_,_,_,Try.underlying64⟩
 one:=fun _=>rfl
 eq:=fun h=>by simp at h
theorem c0r:TI.Ok Try.prog 66 ⟨.func,1,8,[.nilF],[.val],false⟩ where
 inf:=⟨Try.t66,_,by kernel_rfl,rfl,rfl,rfl,fun _ _=>rfl⟩
 zlen:=rfl
 ty:=⟨_,_,_,Try.underlying66⟩
 one:=fun _=>rfl
 eq:=fun h=>by simp at h
theorem c0S:TI.Ok Try.prog 67 ⟨.func,1,8,[.nilF],[.val],false⟩ where
 inf:=⟨Try.t67,_,by kernel_rfl,rfl,rfl,rfl,fun _ _=>rfl⟩
 zlen:=rfl
 ty:=⟨_,_,_,Try.underlying67⟩
 one:=fun _=>rfl
 eq:=fun h=>by simp at h
theorem c1g:TI.Ok Try.prog 68 ⟨.func,1,8,[.nilF],[.val],false⟩ where
 inf:=⟨Try.t68,_,by kernel_rfl,rfl,rfl,rfl,fun _ _=>rfl⟩
 zlen:=rfl
 ty:=⟨_,_,_,Try.underlying68⟩
 one:=fun _=>rfl
 eq:=fun h=>by simp at h
theorem c1i:TI.Ok Try.prog 69 ⟨.func,1,8,[.nilF],[.val],false⟩ where
 inf:=⟨Try.t69,_,by kernel_rfl,rfl,rfl,rfl,fun _ _=>rfl⟩
 zlen:=rfl
 ty:=⟨_,_,_,Try.underlying69⟩
 one:=fun _=>rfl
 eq:=fun h=>by simp at h
theorem c0q:TI.Ok Try.prog 70 ⟨.func,1,8,[.nilF],[.val],false⟩ where
 inf:=⟨Try.t70,_,by kernel_rfl,rfl,rfl,rfl,fun _ _=>rfl⟩
 zlen:=rfl
 ty:=⟨_,_,_,Try.underlying70⟩
 one:=fun _=>rfl
 eq:=fun h=>by simp at h
theorem c1n:TI.Ok Try.prog 71 ⟨.func,1,8,[.nilF],[.val],false⟩ where
 inf:=⟨Try.t71,_,by kernel_rfl,rfl,rfl,rfl,fun _ _=>rfl⟩
 zlen:=rfl
 ty:=⟨_,_,_,Try.underlying71⟩
 one:=fun _=>rfl
 eq:=fun h=>by simp at h
theorem c1J:TI.Ok Try.prog 72 ⟨.func,1,8,[.nilF],[.val],false⟩ where
 inf:=⟨Try.t72,_,by kernel_rfl,rfl,rfl,rfl,fun _ _=>rfl⟩
 zlen:=rfl
 ty:=⟨_,_,_,Try.underlying72⟩
 one:=fun _=>rfl
 eq:=fun h=>by simp at h
theorem c1R:TI.Ok Try.prog 73 ⟨.int .u64,1,8,[.int .u64 (.l 0)],[.int .u64],false⟩ where
 inf:=⟨Try.t73,_,by kernel_rfl,rfl,rfl,rfl,fun _ _=>rfl⟩
 zlen:=rfl
 ty:=Try.underlying73
 one:=fun _=>rfl
 eq:=fun h=>by simp at h
theorem c1P:TI.Ok Try.prog 74 ⟨.func,1,8,[.nilF],[.val],false⟩ where
 inf:=⟨Try.t74,_,by kernel_rfl,rfl,rfl,rfl,fun _ _=>rfl⟩
 zlen:=rfl
 ty:=⟨_,_,_,Try.underlying74⟩
 one:=fun _=>rfl
 eq:=fun h=>by simp at h
theorem c1t:TI.Ok Try.prog 75 ⟨.func,1,8,[.nilF],[.val],false⟩ where
 inf:=⟨Try.t75,_,by kernel_rfl,rfl,rfl,rfl,fun _ _=>rfl⟩
 zlen:=rfl
 ty:=⟨_,_,_,Try.underlying75⟩
 one:=fun _=>rfl
 eq:=fun h=>by simp at h
theorem c0y:TI.Ok Try.prog 76 ⟨.func,1,8,[.nilF],[.val],false⟩ where
 inf:=⟨Try.t76,_,by kernel_rfl,rfl,rfl,rfl,fun _ _=>rfl⟩
 zlen:=rfl
 ty:=⟨_,_,_,Try.underlying76⟩
 one:=fun _=>rfl
 eq:=fun h=>by simp at h
theorem c1f:TI.Ok Try.prog 77 ⟨.int .i64,1,8,[.int .i64 (.l 0)],[.int .i64],false⟩ where
 inf:=⟨Try.t77,_,by kernel_rfl,rfl,rfl,rfl,fun _ _=>rfl⟩
 zlen:=rfl
 ty:=Try.underlying77
 one:=fun _=>rfl
 eq:=fun h=>by simp at h
theorem c1H:TI.Ok Try.prog 79 ⟨.func,1,8,[.nilF],[.val],false⟩ where
 inf:=⟨Try.t79,_,by kernel_rfl,rfl,rfl,rfl,fun _ _=>rfl⟩
 zlen:=rfl
 ty:=⟨_,_,_,Try.underlying79⟩
 one:=fun _=>rfl
 eq:=fun h=>by simp at h
theorem c1v:TI.Ok Try.prog 80 ⟨.func,1,8,[.nilF],[.val],false⟩ where
 inf:=⟨Try.t80,_,by kernel_rfl,rfl,rfl,rfl,fun _ _=>rfl⟩
 zlen:=rfl
 ty:=⟨_,_,_,Try.underlying80⟩
 one:=fun _=>rfl
 eq:=fun h=>by simp at h
theorem c0Q:TI.Ok Try.prog 81 ⟨.func,1,8,[.nilF],[.val],false⟩ where
 inf:=⟨Try.t81,_,by kernel_rfl,rfl,rfl,rfl,fun _ _=>rfl⟩
 zlen:=rfl
 ty:=⟨_,_,_,Try.underlying81⟩
 one:=fun _=>rfl
 eq:=fun h=>by simp at h
theorem c1a:TI.Ok Try.prog 83 ⟨.func,1,8,[.nilF],[.val],false⟩ where
 inf:=⟨Try.t83,_,by kernel_rfl,rfl,rfl,rfl,fun _ _=>rfl⟩
 zlen:=rfl
 ty:=⟨_,_,_,Try.underlying83⟩
 one:=fun _=>rfl
 eq:=fun h=>by simp at h
theorem c0D:TI.Ok Try.prog 84 ⟨.func,1,8,[.nilF],[.val],false⟩ where
 inf:=⟨Try.t84,_,by kernel_rfl,rfl,rfl,rfl,fun _ _=>rfl⟩
 zlen:=rfl
 ty:=⟨_,_,_,Try.underlying84⟩
 one:=fun _=>rfl
 eq:=fun h=>by simp at h
theorem c1T:TI.Ok Try.prog 85 ⟨.int .u32,1,4,[.int .u32 (.l 0)],[.int .u32],false⟩ where
 inf:=⟨Try.t85,_,by kernel_rfl,rfl,rfl,rfl,fun _ _=>rfl⟩
 zlen:=rfl
 ty:=Try.underlying85
 one:=fun _=>rfl
 eq:=fun h=>by simp at h
theorem c0U:TI.Ok Try.prog 86 ⟨.func,1,8,[.nilF],[.val],false⟩ where
 inf:=⟨Try.t86,_,by kernel_rfl,rfl,rfl,rfl,fun _ _=>rfl⟩
 zlen:=rfl
 ty:=⟨_,_,_,Try.underlying86⟩
 one:=fun _=>rfl
 eq:=fun h=>by simp at h
theorem c0P:TI.Ok Try.prog 87 ⟨.int .u64,1,8,[.int .u64 (.l 0)],[.int .u64],false⟩ where
 inf:=⟨Try.t87,_,by kernel_rfl,rfl,rfl,rfl,fun _ _=>rfl⟩
 zlen:=rfl
 ty:=Try.underlying87
 one:=fun _=>rfl
 eq:=fun h=>by simp at h
theorem c1d:TI.Ok Try.prog 88 ⟨.other,1,8,[.nilM],[.val],false⟩ where
 inf:=⟨Try.t88,_,by kernel_rfl,rfl,rfl,rfl,fun _ _=>rfl⟩
 zlen:=rfl
 ty:=⟨_,Try.underlying88,trivial⟩
 one:=fun _=>rfl
 eq:=fun h=>by simp at h
theorem c1B:TI.Ok Try.prog 89 ⟨.int .u64,1,8,[.int .u64 (.l 0)],[.int .u64],false⟩ where
 inf:=⟨Try.t89,_,by kernel_rfl,rfl,rfl,rfl,fun _ _=>rfl⟩
 zlen:=rfl
 ty:=Try.underlying89
 one:=fun _=>rfl
 eq:=fun h=>by simp at h
theorem c0T:TI.Ok Try.prog 90 ⟨.func,1,8,[.nilF],[.val],false⟩ where
 inf:=⟨Try.t90,_,by kernel_rfl,rfl,rfl,rfl,fun _ _=>rfl⟩
 zlen:=rfl
 ty:=⟨_,_,_,Try.underlying90⟩
 one:=fun _=>rfl
 eq:=fun h=>by simp at h
theorem c1j:TI.Ok Try.prog 91 ⟨.func,1,8,[.nilF],[.val],false⟩ where
 inf:=⟨Try.t91,_,by kernel_rfl,rfl,rfl,rfl,fun _ _=>rfl⟩
 zlen:=rfl
 ty:=⟨_,_,_,Try.underlying91⟩
 one:=fun _=>rfl
 eq:=fun h=>by simp at h
theorem c1N:TI.Ok Try.prog 92 ⟨.func,1,8,[.nilF],[.val],false⟩ where
 inf:=⟨Try.t92,_,by kernel_rfl,rfl,rfl,rfl,fun _ _=>rfl⟩
 zlen:=rfl
 ty:=⟨_,_,_,Try.underlying92⟩
 one:=fun _=>rfl
 eq:=fun h=>by simp at h
theorem c1x:TI.Ok Try.prog 93 ⟨.ptr 3,1,8,[.nilP],[.val],false⟩ where
 inf:=⟨Try.t93,_,by kernel_rfl,rfl,rfl,rfl,fun _ _=>rfl⟩
 zlen:=rfl
 ty:=Try.underlying93
 one:=fun _=>rfl
 eq:=fun h=>by simp at h
theorem c0Z:TI.Ok Try.prog 94 ⟨.func,1,8,[.nilF],[.val],false⟩ where
 inf:=⟨Try.t94,_,by kernel_rfl,rfl,rfl,rfl,fun _ _=>rfl⟩
 zlen:=rfl
 ty:=⟨_,_,_,Try.underlying94⟩
 one:=fun _=>rfl
 eq:=fun h=>by simp at h
theorem c0o:TI.Ok Try.prog 95 ⟨.ptr 89,1,8,[.nilP],[.val],false⟩ where
 inf:=⟨Try.t95,_,by kernel_rfl,rfl,rfl,rfl,fun _ _=>rfl⟩
 zlen:=rfl
 ty:=Try.underlying95
 one:=fun _=>rfl
 eq:=fun h=>by simp at h
theorem c1K:TI.Ok Try.prog 97 ⟨.func,1,8,[.nilF],[.val],false⟩ where
 inf:=⟨Try.t97,_,by kernel_rfl,rfl,rfl,rfl,fun _ _=>rfl⟩
 zlen:=rfl
 ty:=⟨_,_,_,Try.underlying97⟩
 one:=fun _=>rfl
 eq:=fun h=>by simp at h
theorem c1y:TI.Ok Try.prog 98 ⟨.func,1,8,[.nilF],[.val],false⟩ where
 inf:=⟨Try.t98,_,by kernel_rfl,rfl,rfl,rfl,fun _ _=>rfl⟩
 zlen:=rfl
 ty:=⟨_,_,_,Try.underlying98⟩
 one:=fun _=>rfl
 eq:=fun h=>by simp at h
theorem b9Y:TI.Ok Try.prog 104 ⟨.func,1,8,[.nilF],[.val],false⟩ where
 inf:=⟨Try.t104,_,by kernel_rfl,rfl,rfl,rfl,fun _ _=>rfl⟩
 zlen:=rfl
 ty:=⟨_,_,_,Try.underlying104⟩
 one:=fun _=>rfl
 eq:=fun h=>by simp at h
theorem c0g:TI.Ok Try.prog 107 ⟨.func,1,8,[.nilF],[.val],false⟩ where
 inf:=⟨Try.t107,_,by kernel_rfl,rfl,rfl,rfl,fun _ _=>rfl⟩
 zlen:=rfl
 ty:=⟨_,_,_,Try.underlying107⟩
 one:=fun _=>rfl
 eq:=fun h=>by simp at h
theorem c0e:TI.Ok Try.prog 108 ⟨.ptr 5,1,8,[.nilP],[.val],false⟩ where
 inf:=⟨Try.t108,_,by kernel_rfl,rfl,rfl,rfl,fun _ _=>rfl⟩
 zlen:=rfl
 ty:=Try.underlying108
 one:=fun _=>rfl
 eq:=fun h=>by simp at h
theorem c0v:MT.Ok Try.prog 88 ⟨.i64,3,4,.bool (.t false),.one .bool⟩:=⟨Try.underlying88,Try.underlying3,⟨Try.t4,_,by kernel_rfl,rfl,fun _ _=>rfl⟩⟩
theorem a6M {α:Type} {k:Nat} {x:α}:∀ {l:List (Nat × α)},a5k k l=some x->(k,x)∈l
 | [],h=>by simp [a5k] at h
 | (j,y)::l,h=>by
  simp only [a5k] at h
  split at h
  ·rename_i hj
   simp only [Option.some.injEq] at h
   rw [Nat.eq_of_beq_eq_true hj,h]; exact List.mem_cons_self
  ·exact List.mem_cons_of_mem _ (a6M h)
theorem b9T (nw:Bool) (stops:List (List Bool)) (cstops:List (List Bool × Nat)):ProgOk Try.prog (cx nw stops cstops) where
 mixed:=by kernel_rfl
 tab t i h:=by
  have h:=a6M h
  simp only [b9X,Q0,Q1,Q2,or_false] at h
  rcases h with h|h|h|h|h|h|h|h|h|h|h|h|h|h|h|h|h|h|h|h|h|h|h|h|h|h|h|h|h|h|h|h|h|h|h|h|h|h|h|h|h|h|h|h|h|h|h|h|h|h|h|h|h|h|h|h|h|h|h|h|h|h|h|h|h|h|h|h|h|h|h|h|h|h|h|h|h|h|h|h|h|h
  all_goals obtain ⟨rfl,rfl⟩:=h
  ·exact ti1
  ·exact ti2
  ·exact ti3
  ·exact ti4
  ·exact ti5
  ·exact ti9
  ·exact c0F
  ·exact c1A
  ·exact c1u
  ·exact c0M
  ·exact c0t
  ·exact c0N
  ·exact c0O
  ·exact c1p
  ·exact c0G
  ·exact c1b
  ·exact c0C
  ·exact c0Y
  ·exact c0H
  ·exact c1U
  ·exact c1I
  ·exact c1q
  ·exact c0X
  ·exact c1l
  ·exact c1L
  ·exact c0W
  ·exact c0n
  ·exact c0I
  ·exact c0V
  ·exact c0x
  ·exact c1C
  ·exact c0L
  ·exact c0R
  ·exact c0J
  ·exact c1s
  ·exact c0A
  ·exact c1G
  ·exact c1h
  ·exact c1E
  ·exact c1z
  ·exact c1e
  ·exact c1Q
  ·exact c1S
  ·exact c0z
  ·exact c0s
  ·exact c1F
  ·exact c1k
  ·exact c1m
  ·exact c0u
  ·exact c0r
  ·exact c0S
  ·exact c1g
  ·exact c1i
  ·exact c0q
  ·exact c1n
  ·exact c1J
  ·exact c1R
  ·exact c1P
  ·exact c1t
  ·exact c0y
  ·exact c1f
  ·exact c1H
  ·exact c1v
  ·exact c0Q
  ·exact c1a
  ·exact c0D
  ·exact c1T
  ·exact c0U
  ·exact c0P
  ·exact c1d
  ·exact c1B
  ·exact c0T
  ·exact c1j
  ·exact c1N
  ·exact c1x
  ·exact c0Z
  ·exact c0o
  ·exact c1K
  ·exact c1y
  ·exact b9Y
  ·exact c0g
  ·exact c0e
 mtab t i h:=by
  have h:=a6M h
  simp only [b8X,Q0,Q1,Q2,or_false] at h
  rcases h with ⟨rfl,rfl⟩
  ·exact c0v
 qtab t i h:=by
  simp [cx,b8W,a5k] at h
 call f h args w:=by
  simp only [cx,Option.isSome_iff_exists] at h
  obtain ⟨x,h⟩:=h
  have h:=a6M h
  simp only [b6O,Q0,Q1,Q2,or_false] at h
  rcases h with h|h|h|h|h|h|h|h|h|h|h|h|h|h|h|h|h|h|h|h|h|h|h|h|h|h|h|h|h|h|h|h|h|h|h|h|h|h|h|h|h|h|h|h|h|h|h|h|h|h|h|h|h|h|h|h|h|h|h|h|h|h|h|h|h|h|h|h
  all_goals obtain ⟨rfl,_⟩:=h
  ·exact Try.call2 args w
  ·exact Try.call3 args w
  ·exact Try.call4 args w
  ·exact Try.call5 args w
  ·exact Try.call6 args w
  ·exact Try.call7 args w
  ·exact Try.call8 args w
  ·exact Try.call9 args w
  ·exact Try.call10 args w
  ·exact Try.call11 args w
  ·exact Try.call12 args w
  ·exact Try.call13 args w
  ·exact Try.call14 args w
  ·exact Try.call15 args w
  ·exact Try.call16 args w
  ·exact Try.call17 args w
  ·exact Try.call18 args w
  ·exact Try.call19 args w
  ·exact Try.call20 args w
  ·exact Try.call21 args w
  ·exact Try.call22 args w
  ·exact Try.call23 args w
  ·exact Try.call24 args w
  ·exact Try.call25 args w
  ·exact Try.call26 args w
  ·exact Try.call27 args w
  ·exact Try.call28 args w
  ·exact Try.call29 args w
  ·exact Try.call30 args w
  ·exact Try.call31 args w
  ·exact Try.call32 args w
  ·exact Try.call33 args w
  ·exact Try.call34 args w
  ·exact Try.call35 args w
  ·exact Try.call36 args w
  ·exact Try.call37 args w
  ·exact Try.call38 args w
  ·exact Try.call39 args w
  ·exact Try.call40 args w
  ·exact Try.call41 args w
  ·exact Try.call42 args w
  ·exact Try.call43 args w
  ·exact Try.call44 args w
  ·exact Try.call45 args w
  ·exact Try.call46 args w
  ·exact Try.call47 args w
  ·exact Try.call48 args w
  ·exact Try.call49 args w
  ·exact Try.call50 args w
  ·exact Try.call51 args w
  ·exact Try.call52 args w
  ·exact Try.call53 args w
  ·exact Try.call54 args w
  ·exact Try.call55 args w
  ·exact Try.call56 args w
  ·exact Try.call57 args w
  ·exact Try.call58 args w
  ·exact Try.call59 args w
  ·exact Try.call60 args w
  ·exact Try.call61 args w
  ·exact Try.call62 args w
  ·exact Try.call63 args w
  ·exact Try.call64 args w
  ·exact Try.call65 args w
  ·exact Try.call66 args w
  ·exact Try.call67 args w
  ·exact Try.call68 args w
  ·exact Try.call69 args w
def ch (nw:Bool) (stops:List (List Bool)) (cstops:List (List Bool × Nat)):Ctx:={ cx nw stops cstops with leaf:=true,hole:=true,rowl:=false }
theorem b7B {c c':Ctx} (h:ProgOk Try.prog c) (h1:c'.tab=c.tab) (h2:c'.fok=c.fok) (h3:c'.mtab=c.mtab) (h4:c'.qtab=c.qtab):ProgOk Try.prog c':=⟨by rw [h1]; exact h.tab,h.mixed,by rw [h2]; exact h.call,by rw [h3]; exact h.mtab,by rw [h4]; exact h.qtab⟩
def cg (stops:List (List Bool)) (amb:List Nat) (vrets:List (Nat × List Nat)) (nofl gen live:Bool) (nw:Bool:=true) (joins:List (List Bool):=[]) (noflT:List Nat:=[]):Ctx:={ cx nw stops [] with rowl:=true,amb,vrets,nofl,gen,live,joins,noflT }
theorem a0L (stops:List (List Bool)) (amb:List Nat) (vrets:List (Nat × List Nat)) (nofl gen live:Bool) (nw:Bool:=true) (joins:List (List Bool):=[]) (noflT:List Nat:=[]):ProgOk Try.prog (cg stops amb vrets nofl gen live nw joins noflT):=b7B (b9T true [] []) rfl rfl rfl rfl
@[reducible] def treeB (x:IE):BE:=.and (.le (.l (-9223372036854775808)) x) (.le x (.l 9223372036854775807))
@[reducible] def treeI (x y:IE):BE:=.and (.le (.l 0) x) (.lt x y)
def jkR (b n:Nat):List SV:=(List.range n).map fun k=>.junk (b+k)
def udR (n:Nat):List SV:=List.replicate n .undef
end Go.Proofs.Ytggjcdnailppoaa
