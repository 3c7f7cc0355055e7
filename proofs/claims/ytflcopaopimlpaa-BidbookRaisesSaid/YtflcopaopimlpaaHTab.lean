/- The table of types and functions of this seat, as the executor reads it. Written by gentab.py. -/
import Derived.Test.YtflcopaopimlpaaHTxe
import Derived.Test.YtflcopaopimlpaaProg
set_option linter.unusedSimpArgs false
set_option linter.unusedVariables false
open List renaming mem_cons → Q0, not_mem_nil → Q2
open Prod.mk renaming injEq → Q1
namespace Go.Proofs.Ytflcopaopimlpaa
open Go.Sx
def c6Y:List (Nat × TI):=[
 (1,⟨.func,1,8,[.nilF],[.val],false⟩),
 (2,⟨.int .i64,1,8,[.int .i64 (.l 0)],[.int .i64],false⟩),
 (3,⟨.int .i64,1,8,[.int .i64 (.l 0)],[.int .i64],false⟩),
 (4,⟨.bool,1,1,[.bool (.t false)],[.bool],false⟩),
 (5,⟨.int .u8,1,1,[.int .u8 (.l 0)],[.int .u8],false⟩),
 (9,⟨.str,1,16,[.str []],[.val],false⟩),
 (12,⟨.int .u64,1,8,[.int .u64 (.l 0)],[.int .u64],false⟩),
 (21,⟨.int .i32,1,4,[.int .i32 (.l 0)],[.int .i32],false⟩),
 (22,⟨.slice 80,1,24,[.nilS],[.val],false⟩),
 (23,⟨.slice 83,1,24,[.nilS],[.val],false⟩),
 (24,⟨.slice 76,1,24,[.nilS],[.val],false⟩),
 (25,⟨.slice 78,1,24,[.nilS],[.val],false⟩),
 (26,⟨.st [(0,22),(1,23),(2,24),(3,25)],4,96,[.nilS,.nilS,.nilS,.nilS],[.val,.val,.val,.val],false⟩),
 (27,⟨.st [(0,22),(1,23),(2,24),(3,25)],4,96,[.nilS,.nilS,.nilS,.nilS],[.val,.val,.val,.val],false⟩),
 (28,⟨.slice 43,1,24,[.nilS],[.val],false⟩),
 (29,⟨.func,1,8,[.nilF],[.val],false⟩),
 (30,⟨.func,1,8,[.nilF],[.val],false⟩),
 (31,⟨.ptr 68,1,8,[.nilP],[.val],false⟩),
 (32,⟨.int .i64,1,8,[.int .i64 (.l 0)],[.int .i64],false⟩),
 (34,⟨.func,1,8,[.nilF],[.val],false⟩),
 (35,⟨.ptr 72,1,8,[.nilP],[.val],false⟩),
 (37,⟨.func,1,8,[.nilF],[.val],false⟩),
 (38,⟨.func,1,8,[.nilF],[.val],false⟩),
 (39,⟨.arr 6 3,6,48,[.int .i64 (.l 0),.int .i64 (.l 0),.int .i64 (.l 0),.int .i64 (.l 0),.int .i64 (.l 0),.int .i64 (.l 0)],[.int .i64,.int .i64,.int .i64,.int .i64,.int .i64,.int .i64],true⟩),
 (40,⟨.arr 6 3,6,48,[.int .i64 (.l 0),.int .i64 (.l 0),.int .i64 (.l 0),.int .i64 (.l 0),.int .i64 (.l 0),.int .i64 (.l 0)],[.int .i64,.int .i64,.int .i64,.int .i64,.int .i64,.int .i64],true⟩),
 (41,⟨.slice 52,1,24,[.nilS],[.val],false⟩),
 (42,⟨.st [(0,3),(1,3),(2,40),(8,2),(9,41)],10,96,[.int .i64 (.l 0),.int .i64 (.l 0),.int .i64 (.l 0),.int .i64 (.l 0),.int .i64 (.l 0),.int .i64 (.l 0),.int .i64 (.l 0),.int .i64 (.l 0),.int .i64 (.l 0),.nilS],[.int .i64,.int .i64,.int .i64,.int .i64,.int .i64,.int .i64,.int .i64,.int .i64,.int .i64,.val],false⟩),
 (43,⟨.st [(0,3),(1,3),(2,40),(8,2),(9,41)],10,96,[.int .i64 (.l 0),.int .i64 (.l 0),.int .i64 (.l 0),.int .i64 (.l 0),.int .i64 (.l 0),.int .i64 (.l 0),.int .i64 (.l 0),.int .i64 (.l 0),.int .i64 (.l 0),.nilS],[.int .i64,.int .i64,.int .i64,.int .i64,.int .i64,.int .i64,.int .i64,.int .i64,.int .i64,.val],false⟩),
 (44,⟨.func,1,8,[.nilF],[.val],false⟩),
 (45,⟨.func,1,8,[.nilF],[.val],false⟩),
 (46,⟨.func,1,8,[.nilF],[.val],false⟩),
 (47,⟨.func,1,8,[.nilF],[.val],false⟩),
 (48,⟨.func,1,8,[.nilF],[.val],false⟩),
 (49,⟨.func,1,8,[.nilF],[.val],false⟩),
 (50,⟨.func,1,8,[.nilF],[.val],false⟩),
 (51,⟨.st [(0,3),(1,40),(7,2)],8,64,[.int .i64 (.l 0),.int .i64 (.l 0),.int .i64 (.l 0),.int .i64 (.l 0),.int .i64 (.l 0),.int .i64 (.l 0),.int .i64 (.l 0),.int .i64 (.l 0)],[.int .i64,.int .i64,.int .i64,.int .i64,.int .i64,.int .i64,.int .i64,.int .i64],true⟩),
 (52,⟨.st [(0,3),(1,40),(7,2)],8,64,[.int .i64 (.l 0),.int .i64 (.l 0),.int .i64 (.l 0),.int .i64 (.l 0),.int .i64 (.l 0),.int .i64 (.l 0),.int .i64 (.l 0),.int .i64 (.l 0)],[.int .i64,.int .i64,.int .i64,.int .i64,.int .i64,.int .i64,.int .i64,.int .i64],true⟩),
 (53,⟨.func,1,8,[.nilF],[.val],false⟩),
 (54,⟨.func,1,8,[.nilF],[.val],false⟩),
 (55,⟨.func,1,8,[.nilF],[.val],false⟩),
 (57,⟨.func,1,8,[.nilF],[.val],false⟩),
 (59,⟨.func,1,8,[.nilF],[.val],false⟩),
 (60,⟨.func,1,8,[.nilF],[.val],false⟩),
 (61,⟨.func,1,8,[.nilF],[.val],false⟩),
 (62,⟨.func,1,8,[.nilF],[.val],false⟩),
 (63,⟨.func,1,8,[.nilF],[.val],false⟩),
 (64,⟨.func,1,8,[.nilF],[.val],false⟩),
 (65,⟨.func,1,8,[.nilF],[.val],false⟩),
 (66,⟨.slice 69,1,24,[.nilS],[.val],false⟩),
 (67,⟨.st [(0,27),(4,66)],5,120,[.nilS,.nilS,.nilS,.nilS,.nilS],[.val,.val,.val,.val,.val],false⟩),
 (68,⟨.st [(0,27),(4,66)],5,120,[.nilS,.nilS,.nilS,.nilS,.nilS],[.val,.val,.val,.val,.val],false⟩),
 (69,⟨.other,1,8,[.nilM],[.val],false⟩),
 (70,⟨.slice 41,1,24,[.nilS],[.val],false⟩),
 (71,⟨.st [(0,27),(4,70)],5,120,[.nilS,.nilS,.nilS,.nilS,.nilS],[.val,.val,.val,.val,.val],false⟩),
 (72,⟨.st [(0,27),(4,70)],5,120,[.nilS,.nilS,.nilS,.nilS,.nilS],[.val,.val,.val,.val,.val],false⟩),
 (73,⟨.func,1,8,[.nilF],[.val],false⟩),
 (74,⟨.func,1,8,[.nilF],[.val],false⟩),
 (75,⟨.st [(0,3),(1,3),(2,3)],3,24,[.int .i64 (.l 0),.int .i64 (.l 0),.int .i64 (.l 0)],[.int .i64,.int .i64,.int .i64],true⟩),
 (76,⟨.st [(0,3),(1,3),(2,3)],3,24,[.int .i64 (.l 0),.int .i64 (.l 0),.int .i64 (.l 0)],[.int .i64,.int .i64,.int .i64],true⟩),
 (77,⟨.st [(0,3),(1,3),(2,3)],3,24,[.int .i64 (.l 0),.int .i64 (.l 0),.int .i64 (.l 0)],[.int .i64,.int .i64,.int .i64],true⟩),
 (78,⟨.st [(0,3),(1,3),(2,3)],3,24,[.int .i64 (.l 0),.int .i64 (.l 0),.int .i64 (.l 0)],[.int .i64,.int .i64,.int .i64],true⟩),
 (79,⟨.st [(0,9),(1,3),(2,2),(3,3),(4,3)],5,48,[.str [],.int .i64 (.l 0),.int .i64 (.l 0),.int .i64 (.l 0),.int .i64 (.l 0)],[.val,.int .i64,.int .i64,.int .i64,.int .i64],false⟩),
 (80,⟨.st [(0,9),(1,3),(2,2),(3,3),(4,3)],5,48,[.str [],.int .i64 (.l 0),.int .i64 (.l 0),.int .i64 (.l 0),.int .i64 (.l 0)],[.val,.int .i64,.int .i64,.int .i64,.int .i64],false⟩),
 (81,⟨.func,1,8,[.nilF],[.val],false⟩),
 (82,⟨.st [(0,9),(1,3),(2,2),(3,3)],4,40,[.str [],.int .i64 (.l 0),.int .i64 (.l 0),.int .i64 (.l 0)],[.val,.int .i64,.int .i64,.int .i64],false⟩),
 (83,⟨.st [(0,9),(1,3),(2,2),(3,3)],4,40,[.str [],.int .i64 (.l 0),.int .i64 (.l 0),.int .i64 (.l 0)],[.val,.int .i64,.int .i64,.int .i64],false⟩),
 (84,⟨.func,1,8,[.nilF],[.val],false⟩),
 (85,⟨.func,1,8,[.nilF],[.val],false⟩),
 (86,⟨.func,1,8,[.nilF],[.val],false⟩),
 (87,⟨.func,1,8,[.nilF],[.val],false⟩),
 (88,⟨.func,1,8,[.nilF],[.val],false⟩),
 (89,⟨.func,1,8,[.nilF],[.val],false⟩),
 (90,⟨.func,1,8,[.nilF],[.val],false⟩),
 (91,⟨.func,1,8,[.nilF],[.val],false⟩),
 (92,⟨.func,1,8,[.nilF],[.val],false⟩),
 (93,⟨.func,1,8,[.nilF],[.val],false⟩),
 (95,⟨.func,1,8,[.nilF],[.val],false⟩),
 (96,⟨.func,1,8,[.nilF],[.val],false⟩),
 (98,⟨.func,1,8,[.nilF],[.val],false⟩),
 (99,⟨.func,1,8,[.nilF],[.val],false⟩),
 (101,⟨.func,1,8,[.nilF],[.val],false⟩),
 (102,⟨.func,1,8,[.nilF],[.val],false⟩),
 (103,⟨.func,1,8,[.nilF],[.val],false⟩),
 (104,⟨.int .u64,1,8,[.int .u64 (.l 0)],[.int .u64],false⟩),
 (105,⟨.func,1,8,[.nilF],[.val],false⟩),
 (106,⟨.func,1,8,[.nilF],[.val],false⟩),
 (107,⟨.func,1,8,[.nilF],[.val],false⟩),
 (108,⟨.func,1,8,[.nilF],[.val],false⟩),
 (109,⟨.st [(0,3),(1,9),(2,2),(3,3)],4,40,[.int .i64 (.l 0),.str [],.int .i64 (.l 0),.int .i64 (.l 0)],[.int .i64,.val,.int .i64,.int .i64],false⟩),
 (110,⟨.st [(0,3),(1,9),(2,2),(3,3)],4,40,[.int .i64 (.l 0),.str [],.int .i64 (.l 0),.int .i64 (.l 0)],[.int .i64,.val,.int .i64,.int .i64],false⟩),
 (112,⟨.func,1,8,[.nilF],[.val],false⟩),
 (113,⟨.func,1,8,[.nilF],[.val],false⟩),
 (114,⟨.func,1,8,[.nilF],[.val],false⟩),
 (115,⟨.func,1,8,[.nilF],[.val],false⟩),
 (116,⟨.func,1,8,[.nilF],[.val],false⟩),
 (117,⟨.func,1,8,[.nilF],[.val],false⟩),
 (118,⟨.int .i64,1,8,[.int .i64 (.l 0)],[.int .i64],false⟩),
 (120,⟨.func,1,8,[.nilF],[.val],false⟩),
 (121,⟨.func,1,8,[.nilF],[.val],false⟩),
 (122,⟨.func,1,8,[.nilF],[.val],false⟩),
 (123,⟨.func,1,8,[.nilF],[.val],false⟩),
 (124,⟨.func,1,8,[.nilF],[.val],false⟩),
 (125,⟨.int .u32,1,4,[.int .u32 (.l 0)],[.int .u32],false⟩),
 (126,⟨.func,1,8,[.nilF],[.val],false⟩),
 (127,⟨.int .u64,1,8,[.int .u64 (.l 0)],[.int .u64],false⟩),
 (128,⟨.func,1,8,[.nilF],[.val],false⟩),
 (129,⟨.func,1,8,[.nilF],[.val],false⟩),
 (130,⟨.func,1,8,[.nilF],[.val],false⟩),
 (131,⟨.func,1,8,[.nilF],[.val],false⟩),
 (132,⟨.st [(0,22),(1,40)],7,72,[.nilS,.int .i64 (.l 0),.int .i64 (.l 0),.int .i64 (.l 0),.int .i64 (.l 0),.int .i64 (.l 0),.int .i64 (.l 0)],[.val,.int .i64,.int .i64,.int .i64,.int .i64,.int .i64,.int .i64],false⟩),
 (133,⟨.st [(0,22),(1,40)],7,72,[.nilS,.int .i64 (.l 0),.int .i64 (.l 0),.int .i64 (.l 0),.int .i64 (.l 0),.int .i64 (.l 0),.int .i64 (.l 0)],[.val,.int .i64,.int .i64,.int .i64,.int .i64,.int .i64,.int .i64],false⟩),
 (134,⟨.func,1,8,[.nilF],[.val],false⟩),
 (135,⟨.int .u64,1,8,[.int .u64 (.l 0)],[.int .u64],false⟩),
 (136,⟨.func,1,8,[.nilF],[.val],false⟩),
 (137,⟨.func,1,8,[.nilF],[.val],false⟩),
 (138,⟨.func,1,8,[.nilF],[.val],false⟩),
 (139,⟨.ptr 3,1,8,[.nilP],[.val],false⟩),
 (140,⟨.func,1,8,[.nilF],[.val],false⟩),
 (141,⟨.ptr 135,1,8,[.nilP],[.val],false⟩),
 (143,⟨.func,1,8,[.nilF],[.val],false⟩),
 (144,⟨.func,1,8,[.nilF],[.val],false⟩),
 (150,⟨.func,1,8,[.nilF],[.val],false⟩),
 (153,⟨.func,1,8,[.nilF],[.val],false⟩),
 (154,⟨.ptr 5,1,8,[.nilP],[.val],false⟩)]
def c1C:List (Nat × List Nat):=[
 (2,[]),
 (3,[4]),
 (4,[4]),
 (5,[4]),
 (6,[4]),
 (7,[4]),
 (8,[4]),
 (9,[4]),
 (10,[31,32]),
 (11,[35,32]),
 (12,[4]),
 (13,[4]),
 (14,[32]),
 (15,[31]),
 (16,[35]),
 (17,[32]),
 (18,[32]),
 (19,[4]),
 (20,[41]),
 (21,[41]),
 (22,[3,32]),
 (23,[2,4]),
 (24,[32]),
 (25,[41]),
 (26,[27]),
 (27,[32]),
 (28,[27]),
 (29,[32]),
 (30,[3,32]),
 (31,[41]),
 (32,[32]),
 (33,[32]),
 (34,[32]),
 (35,[3]),
 (36,[3]),
 (37,[4]),
 (38,[32]),
 (39,[]),
 (40,[3]),
 (41,[3]),
 (42,[32]),
 (43,[32]),
 (44,[32]),
 (45,[32]),
 (46,[22]),
 (47,[23]),
 (48,[24]),
 (49,[25]),
 (50,[4]),
 (51,[4]),
 (52,[3,4]),
 (53,[4]),
 (54,[40,40]),
 (55,[40]),
 (56,[3,2,3]),
 (57,[32]),
 (58,[]),
 (59,[3]),
 (60,[4]),
 (61,[3,4]),
 (62,[4]),
 (63,[3]),
 (64,[40]),
 (65,[3,4]),
 (66,[4]),
 (67,[110,32]),
 (68,[32]),
 (69,[40,40]),
 (70,[4]),
 (71,[40]),
 (72,[3]),
 (73,[]),
 (74,[]),
 (75,[]),
 (76,[3,118]),
 (77,[]),
 (78,[4]),
 (79,[3]),
 (80,[3,4]),
 (81,[3]),
 (82,[3]),
 (83,[4]),
 (84,[9]),
 (85,[4]),
 (86,[4]),
 (87,[4]),
 (88,[40]),
 (89,[2]),
 (90,[2]),
 (91,[]),
 (92,[104]),
 (93,[127]),
 (94,[3]),
 (95,[3]),
 (96,[4]),
 (97,[3,3])]
def a6F {α:Type} (k:Nat):List (Nat × α)->Option α
 | []=>none
 | (j,x)::l=>if Nat.beq j k then some x else a6F k l
def c5o:List (Nat × MT):=[]
def c5u:List (Nat × QT):=[(69,⟨40,6,2⟩)]
def cx (nw:Bool) (stops:List (List Bool)) (cstops:List (List Bool × Nat)):Ctx :=
 { tab:=fun t=>a6F t c6Y,rets:=fun f=>(a6F f c1C).getD [],fok:=fun f=>(a6F f c1C).isSome,nw,stops,cstops,mtab:=fun t=>a6F t c5o,qtab:=fun t=>a6F t c5u }
theorem ti1:TI.Ok Try.prog 1 ⟨.func,1,8,[.nilF],[.val],false⟩ where
 inf:=⟨Try.t1,_,by kernel_rfl,rfl,rfl,rfl,fun _ _=>rfl⟩
 zlen:=rfl
 ty:=⟨_,_,_,Try.underlying1⟩
 one:=fun _=>rfl
 eq:=fun h=>by simp at h
theorem ti2:TI.Ok Try.prog 2 ⟨.int .i64,1,8,[.int .i64 (.l 0)],[.int .i64],false⟩ where
 inf:=⟨Try.t2,_,by kernel_rfl,rfl,rfl,rfl,fun _ _=>rfl⟩
 zlen:=rfl
 ty:=Try.underlying2
 one:=fun _=>rfl
 eq:=fun h=>by simp at h
theorem ti3:TI.Ok Try.prog 3 ⟨.int .i64,1,8,[.int .i64 (.l 0)],[.int .i64],false⟩ where
 inf:=⟨Try.t3,_,by kernel_rfl,rfl,rfl,rfl,fun _ _=>rfl⟩
 zlen:=rfl
 ty:=Try.underlying3
 one:=fun _=>rfl
 eq:=fun h=>by simp at h
theorem ti4:TI.Ok Try.prog 4 ⟨.bool,1,1,[.bool (.t false)],[.bool],false⟩ where
 inf:=⟨Try.t4,_,by kernel_rfl,rfl,rfl,rfl,fun _ _=>rfl⟩
 zlen:=rfl
 ty:=Try.underlying4
 one:=fun _=>rfl
 eq:=fun h=>by simp at h
theorem ti5:TI.Ok Try.prog 5 ⟨.int .u8,1,1,[.int .u8 (.l 0)],[.int .u8],false⟩ where
 inf:=⟨Try.t5,_,by kernel_rfl,rfl,rfl,rfl,fun _ _=>rfl⟩
 zlen:=rfl
 ty:=Try.underlying5
 one:=fun _=>rfl
 eq:=fun h=>by simp at h
theorem ti9:TI.Ok Try.prog 9 ⟨.str,1,16,[.str []],[.val],false⟩ where
 inf:=⟨Try.t9,_,by kernel_rfl,rfl,rfl,rfl,fun _ _=>rfl⟩
 zlen:=rfl
 ty:=Try.underlying9
 one:=fun _=>rfl
 eq:=fun h=>by simp at h
theorem c8W:TI.Ok Try.prog 12 ⟨.int .u64,1,8,[.int .u64 (.l 0)],[.int .u64],false⟩ where
 inf:=⟨Try.t12,_,by kernel_rfl,rfl,rfl,rfl,fun _ _=>rfl⟩
 zlen:=rfl
 ty:=Try.underlying12
 one:=fun _=>rfl
 eq:=fun h=>by simp at h
theorem c9f:TI.Ok Try.prog 21 ⟨.int .i32,1,4,[.int .i32 (.l 0)],[.int .i32],false⟩ where
 inf:=⟨Try.t21,_,by kernel_rfl,rfl,rfl,rfl,fun _ _=>rfl⟩
 zlen:=rfl
 ty:=Try.underlying21
 one:=fun _=>rfl
 eq:=fun h=>by simp at h
theorem c9b:TI.Ok Try.prog 22 ⟨.slice 80,1,24,[.nilS],[.val],false⟩ where
 inf:=⟨Try.t22,_,by kernel_rfl,rfl,rfl,rfl,fun _ _=>rfl⟩
 zlen:=rfl
 ty:=Try.underlying22
 one:=fun _=>rfl
 eq:=fun h=>by simp at h
theorem c8o:TI.Ok Try.prog 23 ⟨.slice 83,1,24,[.nilS],[.val],false⟩ where
 inf:=⟨Try.t23,_,by kernel_rfl,rfl,rfl,rfl,fun _ _=>rfl⟩
 zlen:=rfl
 ty:=Try.underlying23
 one:=fun _=>rfl
 eq:=fun h=>by simp at h
theorem c9K:TI.Ok Try.prog 24 ⟨.slice 76,1,24,[.nilS],[.val],false⟩ where
 inf:=⟨Try.t24,_,by kernel_rfl,rfl,rfl,rfl,fun _ _=>rfl⟩
 zlen:=rfl
 ty:=Try.underlying24
 one:=fun _=>rfl
 eq:=fun h=>by simp at h
theorem c8Y:TI.Ok Try.prog 25 ⟨.slice 78,1,24,[.nilS],[.val],false⟩ where
 inf:=⟨Try.t25,_,by kernel_rfl,rfl,rfl,rfl,fun _ _=>rfl⟩
 zlen:=rfl
 ty:=Try.underlying25
 one:=fun _=>rfl
 eq:=fun h=>by simp at h
theorem c8A:TI.Ok Try.prog 26 ⟨.st [(0,22),(1,23),(2,24),(3,25)],4,96,[.nilS,.nilS,.nilS,.nilS],[.val,.val,.val,.val],false⟩ where
 inf:=⟨Try.t26,_,by kernel_rfl,rfl,rfl,rfl,fun _ _=>rfl⟩
 zlen:=rfl
 ty:=⟨_,Try.underlying26,rfl⟩
 one:=fun h=>by simp [TI.isAgg] at h
 eq:=fun h=>by simp at h
theorem c9o:TI.Ok Try.prog 27 ⟨.st [(0,22),(1,23),(2,24),(3,25)],4,96,[.nilS,.nilS,.nilS,.nilS],[.val,.val,.val,.val],false⟩ where
 inf:=⟨Try.t27,_,by kernel_rfl,rfl,rfl,rfl,fun _ _=>rfl⟩
 zlen:=rfl
 ty:=⟨_,Try.underlying27,rfl⟩
 one:=fun h=>by simp [TI.isAgg] at h
 eq:=fun h=>by simp at h
theorem c9k:TI.Ok Try.prog 28 ⟨.slice 43,1,24,[.nilS],[.val],false⟩ where
 inf:=⟨Try.t28,_,by kernel_rfl,rfl,rfl,rfl,fun _ _=>rfl⟩
 zlen:=rfl
 ty:=Try.underlying28
 one:=fun _=>rfl
 eq:=fun h=>by simp at h
theorem c8l:TI.Ok Try.prog 29 ⟨.func,1,8,[.nilF],[.val],false⟩ where
 inf:=⟨Try.t29,_,by kernel_rfl,rfl,rfl,rfl,fun _ _=>rfl⟩
 zlen:=rfl
 ty:=⟨_,_,_,Try.underlying29⟩
 one:=fun _=>rfl
 eq:=fun h=>by simp at h
theorem c8Q:TI.Ok Try.prog 30 ⟨.func,1,8,[.nilF],[.val],false⟩ where
 inf:=⟨Try.t30,_,by kernel_rfl,rfl,rfl,rfl,fun _ _=>rfl⟩
 zlen:=rfl
 ty:=⟨_,_,_,Try.underlying30⟩
 one:=fun _=>rfl
 eq:=fun h=>by simp at h
theorem c8L:TI.Ok Try.prog 31 ⟨.ptr 68,1,8,[.nilP],[.val],false⟩ where
 inf:=⟨Try.t31,_,by kernel_rfl,rfl,rfl,rfl,fun _ _=>rfl⟩
 zlen:=rfl
 ty:=Try.underlying31
 one:=fun _=>rfl
 eq:=fun h=>by simp at h
theorem c8D:TI.Ok Try.prog 32 ⟨.int .i64,1,8,[.int .i64 (.l 0)],[.int .i64],false⟩ where
 inf:=⟨Try.t32,_,by kernel_rfl,rfl,rfl,rfl,fun _ _=>rfl⟩
 zlen:=rfl
 ty:=Try.underlying32
 one:=fun _=>rfl
 eq:=fun h=>by simp at h
theorem c8E:TI.Ok Try.prog 34 ⟨.func,1,8,[.nilF],[.val],false⟩ where
 inf:=⟨Try.t34,_,by kernel_rfl,rfl,rfl,rfl,fun _ _=>rfl⟩
 zlen:=rfl
 ty:=⟨_,_,_,Try.underlying34⟩
 one:=fun _=>rfl
 eq:=fun h=>by simp at h
theorem c8x:TI.Ok Try.prog 35 ⟨.ptr 72,1,8,[.nilP],[.val],false⟩ where
 inf:=⟨Try.t35,_,by kernel_rfl,rfl,rfl,rfl,fun _ _=>rfl⟩
 zlen:=rfl
 ty:=Try.underlying35
 one:=fun _=>rfl
 eq:=fun h=>by simp at h
theorem c8j:TI.Ok Try.prog 37 ⟨.func,1,8,[.nilF],[.val],false⟩ where
 inf:=⟨Try.t37,_,by kernel_rfl,rfl,rfl,rfl,fun _ _=>rfl⟩
 zlen:=rfl
 ty:=⟨_,_,_,Try.underlying37⟩
 one:=fun _=>rfl
 eq:=fun h=>by simp at h
theorem c9y:TI.Ok Try.prog 38 ⟨.func,1,8,[.nilF],[.val],false⟩ where
 inf:=⟨Try.t38,_,by kernel_rfl,rfl,rfl,rfl,fun _ _=>rfl⟩
 zlen:=rfl
 ty:=⟨_,_,_,Try.underlying38⟩
 one:=fun _=>rfl
 eq:=fun h=>by simp at h
theorem c9I:TI.Ok Try.prog 39 ⟨.arr 6 3,6,48,[.int .i64 (.l 0),.int .i64 (.l 0),.int .i64 (.l 0),.int .i64 (.l 0),.int .i64 (.l 0),.int .i64 (.l 0)],[.int .i64,.int .i64,.int .i64,.int .i64,.int .i64,.int .i64],true⟩ where
 inf:=⟨Try.t39,_,by kernel_rfl,rfl,rfl,rfl,fun _ _=>rfl⟩
 zlen:=rfl
 ty:=Try.underlying39
 one:=fun h=>by simp [TI.isAgg] at h
 eq:=fun _=>⟨Try.eqGuardType39,fun w zs us h1 h2=>(show EqT Try.prog 10000 39 true _ from (a9X (inf:=Try.t3) (a2c Try.underlying3 (Try.sizeOf3) (by kernel_rfl) 9998) Try.underlying39 (by kernel_rfl) (Try.sizeOf39) (by kernel_rfl))).eq w zs us h1 h2⟩
theorem c7b:TI.Ok Try.prog 40 ⟨.arr 6 3,6,48,[.int .i64 (.l 0),.int .i64 (.l 0),.int .i64 (.l 0),.int .i64 (.l 0),.int .i64 (.l 0),.int .i64 (.l 0)],[.int .i64,.int .i64,.int .i64,.int .i64,.int .i64,.int .i64],true⟩ where
 inf:=⟨Try.t40,_,by kernel_rfl,rfl,rfl,rfl,fun _ _=>rfl⟩
 zlen:=rfl
 ty:=Try.underlying40
 one:=fun h=>by simp [TI.isAgg] at h
 eq:=fun _=>⟨Try.eqGuardType40,fun w zs us h1 h2=>(show EqT Try.prog 10000 40 true _ from (a9X (inf:=Try.t3) (a2c Try.underlying3 (Try.sizeOf3) (by kernel_rfl) 9998) Try.underlying40 (by kernel_rfl) (Try.sizeOf40) (by kernel_rfl))).eq w zs us h1 h2⟩
theorem c9B:TI.Ok Try.prog 41 ⟨.slice 52,1,24,[.nilS],[.val],false⟩ where
 inf:=⟨Try.t41,_,by kernel_rfl,rfl,rfl,rfl,fun _ _=>rfl⟩
 zlen:=rfl
 ty:=Try.underlying41
 one:=fun _=>rfl
 eq:=fun h=>by simp at h
theorem c9v:TI.Ok Try.prog 42 ⟨.st [(0,3),(1,3),(2,40),(8,2),(9,41)],10,96,[.int .i64 (.l 0),.int .i64 (.l 0),.int .i64 (.l 0),.int .i64 (.l 0),.int .i64 (.l 0),.int .i64 (.l 0),.int .i64 (.l 0),.int .i64 (.l 0),.int .i64 (.l 0),.nilS],[.int .i64,.int .i64,.int .i64,.int .i64,.int .i64,.int .i64,.int .i64,.int .i64,.int .i64,.val],false⟩ where
 inf:=⟨Try.t42,_,by kernel_rfl,rfl,rfl,rfl,fun _ _=>rfl⟩
 zlen:=rfl
 ty:=⟨_,Try.underlying42,rfl⟩
 one:=fun h=>by simp [TI.isAgg] at h
 eq:=fun h=>by simp at h
theorem c8v:TI.Ok Try.prog 43 ⟨.st [(0,3),(1,3),(2,40),(8,2),(9,41)],10,96,[.int .i64 (.l 0),.int .i64 (.l 0),.int .i64 (.l 0),.int .i64 (.l 0),.int .i64 (.l 0),.int .i64 (.l 0),.int .i64 (.l 0),.int .i64 (.l 0),.int .i64 (.l 0),.nilS],[.int .i64,.int .i64,.int .i64,.int .i64,.int .i64,.int .i64,.int .i64,.int .i64,.int .i64,.val],false⟩ where
 inf:=⟨Try.t43,_,by kernel_rfl,rfl,rfl,rfl,fun _ _=>rfl⟩
 zlen:=rfl
 ty:=⟨_,Try.underlying43,rfl⟩
 one:=fun h=>by simp [TI.isAgg] at h
 eq:=fun h=>by simp at h
theorem c8J:TI.Ok Try.prog 44 ⟨.func,1,8,[.nilF],[.val],false⟩ where
 inf:=⟨Try.t44,_,by kernel_rfl,rfl,rfl,rfl,fun _ _=>rfl⟩
 zlen:=rfl
 ty:=⟨_,_,_,Try.underlying44⟩
 one:=fun _=>rfl
 eq:=fun h=>by simp at h
theorem c8S:TI.Ok Try.prog 45 ⟨.func,1,8,[.nilF],[.val],false⟩ where
 inf:=⟨Try.t45,_,by kernel_rfl,rfl,rfl,rfl,fun _ _=>rfl⟩
 zlen:=rfl
 ty:=⟨_,_,_,Try.underlying45⟩
 one:=fun _=>rfl
 eq:=fun h=>by simp at h
theorem c8i:TI.Ok Try.prog 46 ⟨.func,1,8,[.nilF],[.val],false⟩ where
 inf:=⟨Try.t46,_,by kernel_rfl,rfl,rfl,rfl,fun _ _=>rfl⟩
 zlen:=rfl
 ty:=⟨_,_,_,Try.underlying46⟩
 one:=fun _=>rfl
 eq:=fun h=>by simp at h
theorem c9z:TI.Ok Try.prog 47 ⟨.func,1,8,[.nilF],[.val],false⟩ where
 inf:=⟨Try.t47,_,by kernel_rfl,rfl,rfl,rfl,fun _ _=>rfl⟩
 zlen:=rfl
 ty:=⟨_,_,_,Try.underlying47⟩
 one:=fun _=>rfl
 eq:=fun h=>by simp at h
theorem c8w:TI.Ok Try.prog 48 ⟨.func,1,8,[.nilF],[.val],false⟩ where
 inf:=⟨Try.t48,_,by kernel_rfl,rfl,rfl,rfl,fun _ _=>rfl⟩
 zlen:=rfl
 ty:=⟨_,_,_,Try.underlying48⟩
 one:=fun _=>rfl
 eq:=fun h=>by simp at h
theorem c8M:TI.Ok Try.prog 49 ⟨.func,1,8,[.nilF],[.val],false⟩ where
 inf:=⟨Try.t49,_,by kernel_rfl,rfl,rfl,rfl,fun _ _=>rfl⟩
 zlen:=rfl
 ty:=⟨_,_,_,Try.underlying49⟩
 one:=fun _=>rfl
 eq:=fun h=>by simp at h
theorem c9H:TI.Ok Try.prog 50 ⟨.func,1,8,[.nilF],[.val],false⟩ where
 inf:=⟨Try.t50,_,by kernel_rfl,rfl,rfl,rfl,fun _ _=>rfl⟩
 zlen:=rfl
 ty:=⟨_,_,_,Try.underlying50⟩
 one:=fun _=>rfl
 eq:=fun h=>by simp at h
theorem c8I:TI.Ok Try.prog 51 ⟨.st [(0,3),(1,40),(7,2)],8,64,[.int .i64 (.l 0),.int .i64 (.l 0),.int .i64 (.l 0),.int .i64 (.l 0),.int .i64 (.l 0),.int .i64 (.l 0),.int .i64 (.l 0),.int .i64 (.l 0)],[.int .i64,.int .i64,.int .i64,.int .i64,.int .i64,.int .i64,.int .i64,.int .i64],true⟩ where
 inf:=⟨Try.t51,_,by kernel_rfl,rfl,rfl,rfl,fun _ _=>rfl⟩
 zlen:=rfl
 ty:=⟨_,Try.underlying51,rfl⟩
 one:=fun h=>by simp [TI.isAgg] at h
 eq:=fun _=>⟨Try.eqGuardType51,fun w zs us h1 h2=>(show EqT Try.prog 10000 51 true _ from (a5O Try.underlying51 (.cons (by decide) rfl (a2c Try.underlying3 (Try.sizeOf3) (by kernel_rfl) 9998) (.cons (by decide) rfl (a9X (inf:=Try.t3) (a2c Try.underlying3 (Try.sizeOf3) (by kernel_rfl) 9997) Try.underlying40 (by kernel_rfl) (Try.sizeOf40) (by kernel_rfl)) (.cons (by decide) rfl (a2c Try.underlying2 (Try.sizeOf2) (by kernel_rfl) 9998) (.nil _)))) (by kernel_rfl) (Try.sizeOf51) (by kernel_rfl))).eq w zs us h1 h2⟩
theorem c9i:TI.Ok Try.prog 52 ⟨.st [(0,3),(1,40),(7,2)],8,64,[.int .i64 (.l 0),.int .i64 (.l 0),.int .i64 (.l 0),.int .i64 (.l 0),.int .i64 (.l 0),.int .i64 (.l 0),.int .i64 (.l 0),.int .i64 (.l 0)],[.int .i64,.int .i64,.int .i64,.int .i64,.int .i64,.int .i64,.int .i64,.int .i64],true⟩ where
 inf:=⟨Try.t52,_,by kernel_rfl,rfl,rfl,rfl,fun _ _=>rfl⟩
 zlen:=rfl
 ty:=⟨_,Try.underlying52,rfl⟩
 one:=fun h=>by simp [TI.isAgg] at h
 eq:=fun _=>⟨Try.eqGuardType52,fun w zs us h1 h2=>(show EqT Try.prog 10000 52 true _ from (a5O Try.underlying52 (.cons (by decide) rfl (a2c Try.underlying3 (Try.sizeOf3) (by kernel_rfl) 9998) (.cons (by decide) rfl (a9X (inf:=Try.t3) (a2c Try.underlying3 (Try.sizeOf3) (by kernel_rfl) 9997) Try.underlying40 (by kernel_rfl) (Try.sizeOf40) (by kernel_rfl)) (.cons (by decide) rfl (a2c Try.underlying2 (Try.sizeOf2) (by kernel_rfl) 9998) (.nil _)))) (by kernel_rfl) (Try.sizeOf52) (by kernel_rfl))).eq w zs us h1 h2⟩
theorem c9n:TI.Ok Try.prog 53 ⟨.func,1,8,[.nilF],[.val],false⟩ where
 inf:=⟨Try.t53,_,by kernel_rfl,rfl,rfl,rfl,fun _ _=>rfl⟩
 zlen:=rfl
 ty:=⟨_,_,_,Try.underlying53⟩
 one:=fun _=>rfl
 eq:=fun h=>by simp at h
theorem c9j:TI.Ok Try.prog 54 ⟨.func,1,8,[.nilF],[.val],false⟩ where
 inf:=⟨Try.t54,_,by kernel_rfl,rfl,rfl,rfl,fun _ _=>rfl⟩
 zlen:=rfl
 ty:=⟨_,_,_,Try.underlying54⟩
 one:=fun _=>rfl
 eq:=fun h=>by simp at h
theorem c9E:TI.Ok Try.prog 55 ⟨.func,1,8,[.nilF],[.val],false⟩ where
 inf:=⟨Try.t55,_,by kernel_rfl,rfl,rfl,rfl,fun _ _=>rfl⟩
 zlen:=rfl
 ty:=⟨_,_,_,Try.underlying55⟩
 one:=fun _=>rfl
 eq:=fun h=>by simp at h
theorem c8C:TI.Ok Try.prog 57 ⟨.func,1,8,[.nilF],[.val],false⟩ where
 inf:=⟨Try.t57,_,by kernel_rfl,rfl,rfl,rfl,fun _ _=>rfl⟩
 zlen:=rfl
 ty:=⟨_,_,_,Try.underlying57⟩
 one:=fun _=>rfl
 eq:=fun h=>by simp at h
theorem c9t:TI.Ok Try.prog 59 ⟨.func,1,8,[.nilF],[.val],false⟩ where
 inf:=⟨Try.t59,_,by kernel_rfl,rfl,rfl,rfl,fun _ _=>rfl⟩
 zlen:=rfl
 ty:=⟨_,_,_,Try.underlying59⟩
 one:=fun _=>rfl
 eq:=fun h=>by simp at h
theorem c9r:TI.Ok Try.prog 60 ⟨.func,1,8,[.nilF],[.val],false⟩ where
 inf:=⟨Try.t60,_,by kernel_rfl,rfl,rfl,rfl,fun _ _=>rfl⟩
 zlen:=rfl
 ty:=⟨_,_,_,Try.underlying60⟩
 one:=fun _=>rfl
 eq:=fun h=>by simp at h
theorem c8O:TI.Ok Try.prog 61 ⟨.func,1,8,[.nilF],[.val],false⟩ where
 inf:=⟨Try.t61,_,by kernel_rfl,rfl,rfl,rfl,fun _ _=>rfl⟩
 zlen:=rfl
 ty:=⟨_,_,_,Try.underlying61⟩
 one:=fun _=>rfl
 eq:=fun h=>by simp at h
theorem c8m:TI.Ok Try.prog 62 ⟨.func,1,8,[.nilF],[.val],false⟩ where
 inf:=⟨Try.t62,_,by kernel_rfl,rfl,rfl,rfl,fun _ _=>rfl⟩
 zlen:=rfl
 ty:=⟨_,_,_,Try.underlying62⟩
 one:=fun _=>rfl
 eq:=fun h=>by simp at h
theorem c8u:TI.Ok Try.prog 63 ⟨.func,1,8,[.nilF],[.val],false⟩ where
 inf:=⟨Try.t63,_,by kernel_rfl,rfl,rfl,rfl,fun _ _=>rfl⟩
 zlen:=rfl
 ty:=⟨_,_,_,Try.underlying63⟩
 one:=fun _=>rfl
 eq:=fun h=>by simp at h
theorem c9L:TI.Ok Try.prog 64 ⟨.func,1,8,[.nilF],[.val],false⟩ where
 inf:=⟨Try.t64,_,by kernel_rfl,rfl,rfl,rfl,fun _ _=>rfl⟩
 zlen:=rfl
 ty:=⟨_,_,_,Try.underlying64⟩
 one:=fun _=>rfl
 eq:=fun h=>by simp at h
theorem c9l:TI.Ok Try.prog 65 ⟨.func,1,8,[.nilF],[.val],false⟩ where
 inf:=⟨Try.t65,_,by kernel_rfl,rfl,rfl,rfl,fun _ _=>rfl⟩
 zlen:=rfl
 ty:=⟨_,_,_,Try.underlying65⟩
 one:=fun _=>rfl
 eq:=fun h=>by simp at h
theorem c8V:TI.Ok Try.prog 66 ⟨.slice 69,1,24,[.nilS],[.val],false⟩ where
 inf:=⟨Try.t66,_,by kernel_rfl,rfl,rfl,rfl,fun _ _=>rfl⟩
 zlen:=rfl
 ty:=Try.underlying66
 one:=fun _=>rfl
 eq:=fun h=>by simp at h
theorem c9x:TI.Ok Try.prog 67 ⟨.st [(0,27),(4,66)],5,120,[.nilS,.nilS,.nilS,.nilS,.nilS],[.val,.val,.val,.val,.val],false⟩ where
 inf:=⟨Try.t67,_,by kernel_rfl,rfl,rfl,rfl,fun _ _=>rfl⟩
 zlen:=rfl
 ty:=⟨_,Try.underlying67,rfl⟩
 one:=fun h=>by simp [TI.isAgg] at h
 eq:=fun h=>by simp at h
theorem c8t:TI.Ok Try.prog 68 ⟨.st [(0,27),(4,66)],5,120,[.nilS,.nilS,.nilS,.nilS,.nilS],[.val,.val,.val,.val,.val],false⟩ where
 inf:=⟨Try.t68,_,by kernel_rfl,rfl,rfl,rfl,fun _ _=>rfl⟩
 zlen:=rfl
 ty:=⟨_,Try.underlying68,rfl⟩
 one:=fun h=>by simp [TI.isAgg] at h
 eq:=fun h=>by simp at h
theorem c8P:TI.Ok Try.prog 69 ⟨.other,1,8,[.nilM],[.val],false⟩ where
 inf:=⟨Try.t69,_,by kernel_rfl,rfl,rfl,rfl,fun _ _=>rfl⟩
 zlen:=rfl
 ty:=⟨_,Try.underlying69,trivial⟩
 one:=fun _=>rfl
 eq:=fun h=>by simp at h
theorem c9d:TI.Ok Try.prog 70 ⟨.slice 41,1,24,[.nilS],[.val],false⟩ where
 inf:=⟨Try.t70,_,by kernel_rfl,rfl,rfl,rfl,fun _ _=>rfl⟩
 zlen:=rfl
 ty:=Try.underlying70
 one:=fun _=>rfl
 eq:=fun h=>by simp at h
theorem c8B:TI.Ok Try.prog 71 ⟨.st [(0,27),(4,70)],5,120,[.nilS,.nilS,.nilS,.nilS,.nilS],[.val,.val,.val,.val,.val],false⟩ where
 inf:=⟨Try.t71,_,by kernel_rfl,rfl,rfl,rfl,fun _ _=>rfl⟩
 zlen:=rfl
 ty:=⟨_,Try.underlying71,rfl⟩
 one:=fun h=>by simp [TI.isAgg] at h
 eq:=fun h=>by simp at h
theorem c8z:TI.Ok Try.prog 72 ⟨.st [(0,27),(4,70)],5,120,[.nilS,.nilS,.nilS,.nilS,.nilS],[.val,.val,.val,.val,.val],false⟩ where
 inf:=⟨Try.t72,_,by kernel_rfl,rfl,rfl,rfl,fun _ _=>rfl⟩
 zlen:=rfl
 ty:=⟨_,Try.underlying72,rfl⟩
 one:=fun h=>by simp [TI.isAgg] at h
 eq:=fun h=>by simp at h
theorem c9s:TI.Ok Try.prog 73 ⟨.func,1,8,[.nilF],[.val],false⟩ where
 inf:=⟨Try.t73,_,by kernel_rfl,rfl,rfl,rfl,fun _ _=>rfl⟩
 zlen:=rfl
 ty:=⟨_,_,_,Try.underlying73⟩
 one:=fun _=>rfl
 eq:=fun h=>by simp at h
theorem c9c:TI.Ok Try.prog 74 ⟨.func,1,8,[.nilF],[.val],false⟩ where
 inf:=⟨Try.t74,_,by kernel_rfl,rfl,rfl,rfl,fun _ _=>rfl⟩
 zlen:=rfl
 ty:=⟨_,_,_,Try.underlying74⟩
 one:=fun _=>rfl
 eq:=fun h=>by simp at h
theorem c9J:TI.Ok Try.prog 75 ⟨.st [(0,3),(1,3),(2,3)],3,24,[.int .i64 (.l 0),.int .i64 (.l 0),.int .i64 (.l 0)],[.int .i64,.int .i64,.int .i64],true⟩ where
 inf:=⟨Try.t75,_,by kernel_rfl,rfl,rfl,rfl,fun _ _=>rfl⟩
 zlen:=rfl
 ty:=⟨_,Try.underlying75,rfl⟩
 one:=fun h=>by simp [TI.isAgg] at h
 eq:=fun _=>⟨Try.eqGuardType75,fun w zs us h1 h2=>(show EqT Try.prog 10000 75 true _ from (a5O Try.underlying75 (.cons (by decide) rfl (a2c Try.underlying3 (Try.sizeOf3) (by kernel_rfl) 9998) (.cons (by decide) rfl (a2c Try.underlying3 (Try.sizeOf3) (by kernel_rfl) 9998) (.cons (by decide) rfl (a2c Try.underlying3 (Try.sizeOf3) (by kernel_rfl) 9998) (.nil _)))) (by kernel_rfl) (Try.sizeOf75) (by kernel_rfl))).eq w zs us h1 h2⟩
theorem c8k:TI.Ok Try.prog 76 ⟨.st [(0,3),(1,3),(2,3)],3,24,[.int .i64 (.l 0),.int .i64 (.l 0),.int .i64 (.l 0)],[.int .i64,.int .i64,.int .i64],true⟩ where
 inf:=⟨Try.t76,_,by kernel_rfl,rfl,rfl,rfl,fun _ _=>rfl⟩
 zlen:=rfl
 ty:=⟨_,Try.underlying76,rfl⟩
 one:=fun h=>by simp [TI.isAgg] at h
 eq:=fun _=>⟨Try.eqGuardType76,fun w zs us h1 h2=>(show EqT Try.prog 10000 76 true _ from (a5O Try.underlying76 (.cons (by decide) rfl (a2c Try.underlying3 (Try.sizeOf3) (by kernel_rfl) 9998) (.cons (by decide) rfl (a2c Try.underlying3 (Try.sizeOf3) (by kernel_rfl) 9998) (.cons (by decide) rfl (a2c Try.underlying3 (Try.sizeOf3) (by kernel_rfl) 9998) (.nil _)))) (by kernel_rfl) (Try.sizeOf76) (by kernel_rfl))).eq w zs us h1 h2⟩
theorem c8K:TI.Ok Try.prog 77 ⟨.st [(0,3),(1,3),(2,3)],3,24,[.int .i64 (.l 0),.int .i64 (.l 0),.int .i64 (.l 0)],[.int .i64,.int .i64,.int .i64],true⟩ where
 inf:=⟨Try.t77,_,by kernel_rfl,rfl,rfl,rfl,fun _ _=>rfl⟩
 zlen:=rfl
 ty:=⟨_,Try.underlying77,rfl⟩
 one:=fun h=>by simp [TI.isAgg] at h
 eq:=fun _=>⟨Try.eqGuardType77,fun w zs us h1 h2=>(show EqT Try.prog 10000 77 true _ from (a5O Try.underlying77 (.cons (by decide) rfl (a2c Try.underlying3 (Try.sizeOf3) (by kernel_rfl) 9998) (.cons (by decide) rfl (a2c Try.underlying3 (Try.sizeOf3) (by kernel_rfl) 9998) (.cons (by decide) rfl (a2c Try.underlying3 (Try.sizeOf3) (by kernel_rfl) 9998) (.nil _)))) (by kernel_rfl) (Try.sizeOf77) (by kernel_rfl))).eq w zs us h1 h2⟩
theorem c8p:TI.Ok Try.prog 78 ⟨.st [(0,3),(1,3),(2,3)],3,24,[.int .i64 (.l 0),.int .i64 (.l 0),.int .i64 (.l 0)],[.int .i64,.int .i64,.int .i64],true⟩ where
 inf:=⟨Try.t78,_,by kernel_rfl,rfl,rfl,rfl,fun _ _=>rfl⟩
 zlen:=rfl
 ty:=⟨_,Try.underlying78,rfl⟩
 one:=fun h=>by simp [TI.isAgg] at h
 eq:=fun _=>⟨Try.eqGuardType78,fun w zs us h1 h2=>(show EqT Try.prog 10000 78 true _ from (a5O Try.underlying78 (.cons (by decide) rfl (a2c Try.underlying3 (Try.sizeOf3) (by kernel_rfl) 9998) (.cons (by decide) rfl (a2c Try.underlying3 (Try.sizeOf3) (by kernel_rfl) 9998) (.cons (by decide) rfl (a2c Try.underlying3 (Try.sizeOf3) (by kernel_rfl) 9998) (.nil _)))) (by kernel_rfl) (Try.sizeOf78) (by kernel_rfl))).eq w zs us h1 h2⟩
theorem c8F:TI.Ok Try.prog 79 ⟨.st [(0,9),(1,3),(2,2),(3,3),(4,3)],5,48,[.str [],.int .i64 (.l 0),.int .i64 (.l 0),.int .i64 (.l 0),.int .i64 (.l 0)],[.val,.int .i64,.int .i64,.int .i64,.int .i64],false⟩ where
 inf:=⟨Try.t79,_,by kernel_rfl,rfl,rfl,rfl,fun _ _=>rfl⟩
 zlen:=rfl
 ty:=⟨_,Try.underlying79,rfl⟩
 one:=fun h=>by simp [TI.isAgg] at h
 eq:=fun h=>by simp at h
theorem c9F:TI.Ok Try.prog 80 ⟨.st [(0,9),(1,3),(2,2),(3,3),(4,3)],5,48,[.str [],.int .i64 (.l 0),.int .i64 (.l 0),.int .i64 (.l 0),.int .i64 (.l 0)],[.val,.int .i64,.int .i64,.int .i64,.int .i64],false⟩ where
 inf:=⟨Try.t80,_,by kernel_rfl,rfl,rfl,rfl,fun _ _=>rfl⟩
 zlen:=rfl
 ty:=⟨_,Try.underlying80,rfl⟩
 one:=fun h=>by simp [TI.isAgg] at h
 eq:=fun h=>by simp at h
theorem c9a:TI.Ok Try.prog 81 ⟨.func,1,8,[.nilF],[.val],false⟩ where
 inf:=⟨Try.t81,_,by kernel_rfl,rfl,rfl,rfl,fun _ _=>rfl⟩
 zlen:=rfl
 ty:=⟨_,_,_,Try.underlying81⟩
 one:=fun _=>rfl
 eq:=fun h=>by simp at h
theorem c9h:TI.Ok Try.prog 82 ⟨.st [(0,9),(1,3),(2,2),(3,3)],4,40,[.str [],.int .i64 (.l 0),.int .i64 (.l 0),.int .i64 (.l 0)],[.val,.int .i64,.int .i64,.int .i64],false⟩ where
 inf:=⟨Try.t82,_,by kernel_rfl,rfl,rfl,rfl,fun _ _=>rfl⟩
 zlen:=rfl
 ty:=⟨_,Try.underlying82,rfl⟩
 one:=fun h=>by simp [TI.isAgg] at h
 eq:=fun h=>by simp at h
theorem c8U:TI.Ok Try.prog 83 ⟨.st [(0,9),(1,3),(2,2),(3,3)],4,40,[.str [],.int .i64 (.l 0),.int .i64 (.l 0),.int .i64 (.l 0)],[.val,.int .i64,.int .i64,.int .i64],false⟩ where
 inf:=⟨Try.t83,_,by kernel_rfl,rfl,rfl,rfl,fun _ _=>rfl⟩
 zlen:=rfl
 ty:=⟨_,Try.underlying83,rfl⟩
 one:=fun h=>by simp [TI.isAgg] at h
 eq:=fun h=>by simp at h
theorem c9G:TI.Ok Try.prog 84 ⟨.func,1,8,[.nilF],[.val],false⟩ where
 inf:=⟨Try.t84,_,by kernel_rfl,rfl,rfl,rfl,fun _ _=>rfl⟩
 zlen:=rfl
 ty:=⟨_,_,_,Try.underlying84⟩
 one:=fun _=>rfl
 eq:=fun h=>by simp at h
theorem c8X:TI.Ok Try.prog 85 ⟨.func,1,8,[.nilF],[.val],false⟩ where
 inf:=⟨Try.t85,_,by kernel_rfl,rfl,rfl,rfl,fun _ _=>rfl⟩
 zlen:=rfl
 ty:=⟨_,_,_,Try.underlying85⟩
 one:=fun _=>rfl
 eq:=fun h=>by simp at h
theorem c9C:TI.Ok Try.prog 86 ⟨.func,1,8,[.nilF],[.val],false⟩ where
 inf:=⟨Try.t86,_,by kernel_rfl,rfl,rfl,rfl,fun _ _=>rfl⟩
 zlen:=rfl
 ty:=⟨_,_,_,Try.underlying86⟩
 one:=fun _=>rfl
 eq:=fun h=>by simp at h
theorem c8G:TI.Ok Try.prog 87 ⟨.func,1,8,[.nilF],[.val],false⟩ where
 inf:=⟨Try.t87,_,by kernel_rfl,rfl,rfl,rfl,fun _ _=>rfl⟩
 zlen:=rfl
 ty:=⟨_,_,_,Try.underlying87⟩
 one:=fun _=>rfl
 eq:=fun h=>by simp at h
theorem c8y:TI.Ok Try.prog 88 ⟨.func,1,8,[.nilF],[.val],false⟩ where
 inf:=⟨Try.t88,_,by kernel_rfl,rfl,rfl,rfl,fun _ _=>rfl⟩
 zlen:=rfl
 ty:=⟨_,_,_,Try.underlying88⟩
 one:=fun _=>rfl
 eq:=fun h=>by simp at h
theorem c9m:TI.Ok Try.prog 89 ⟨.func,1,8,[.nilF],[.val],false⟩ where
 inf:=⟨Try.t89,_,by kernel_rfl,rfl,rfl,rfl,fun _ _=>rfl⟩
 zlen:=rfl
 ty:=⟨_,_,_,Try.underlying89⟩
 one:=fun _=>rfl
 eq:=fun h=>by simp at h
theorem c9D:TI.Ok Try.prog 90 ⟨.func,1,8,[.nilF],[.val],false⟩ where
 inf:=⟨Try.t90,_,by kernel_rfl,rfl,rfl,rfl,fun _ _=>rfl⟩
 zlen:=rfl
 ty:=⟨_,_,_,Try.underlying90⟩
 one:=fun _=>rfl
 eq:=fun h=>by simp at h
theorem c9A:TI.Ok Try.prog 91 ⟨.func,1,8,[.nilF],[.val],false⟩ where
 inf:=⟨Try.t91,_,by kernel_rfl,rfl,rfl,rfl,fun _ _=>rfl⟩
 zlen:=rfl
 ty:=⟨_,_,_,Try.underlying91⟩
 one:=fun _=>rfl
 eq:=fun h=>by simp at h
theorem c8Z:TI.Ok Try.prog 92 ⟨.func,1,8,[.nilF],[.val],false⟩ where
 inf:=⟨Try.t92,_,by kernel_rfl,rfl,rfl,rfl,fun _ _=>rfl⟩
 zlen:=rfl
 ty:=⟨_,_,_,Try.underlying92⟩
 one:=fun _=>rfl
 eq:=fun h=>by simp at h
theorem c9q:TI.Ok Try.prog 93 ⟨.func,1,8,[.nilF],[.val],false⟩ where
 inf:=⟨Try.t93,_,by kernel_rfl,rfl,rfl,rfl,fun _ _=>rfl⟩
 zlen:=rfl
 ty:=⟨_,_,_,Try.underlying93⟩
 one:=fun _=>rfl
 eq:=fun h=>by simp at h
theorem c8n:TI.Ok Try.prog 95 ⟨.func,1,8,[.nilF],[.val],false⟩ where
 inf:=⟨Try.t95,_,by kernel_rfl,rfl,rfl,rfl,fun _ _=>rfl⟩
 zlen:=rfl
 ty:=⟨_,_,_,Try.underlying95⟩
 one:=fun _=>rfl
 eq:=fun h=>by simp at h
theorem c9g:TI.Ok Try.prog 96 ⟨.func,1,8,[.nilF],[.val],false⟩ where
 inf:=⟨Try.t96,_,by kernel_rfl,rfl,rfl,rfl,fun _ _=>rfl⟩
 zlen:=rfl
 ty:=⟨_,_,_,Try.underlying96⟩
 one:=fun _=>rfl
 eq:=fun h=>by simp at h
theorem c8r:TI.Ok Try.prog 98 ⟨.func,1,8,[.nilF],[.val],false⟩ where
 inf:=⟨Try.t98,_,by kernel_rfl,rfl,rfl,rfl,fun _ _=>rfl⟩
 zlen:=rfl
 ty:=⟨_,_,_,Try.underlying98⟩
 one:=fun _=>rfl
 eq:=fun h=>by simp at h
theorem c9u:TI.Ok Try.prog 99 ⟨.func,1,8,[.nilF],[.val],false⟩ where
 inf:=⟨Try.t99,_,by kernel_rfl,rfl,rfl,rfl,fun _ _=>rfl⟩
 zlen:=rfl
 ty:=⟨_,_,_,Try.underlying99⟩
 one:=fun _=>rfl
 eq:=fun h=>by simp at h
theorem c7N:TI.Ok Try.prog 101 ⟨.func,1,8,[.nilF],[.val],false⟩ where
 inf:=⟨Try.t101,_,by kernel_rfl,rfl,rfl,rfl,fun _ _=>rfl⟩
 zlen:=rfl
 ty:=⟨_,_,_,Try.underlying101⟩
 one:=fun _=>rfl
 eq:=fun h=>by simp at h
theorem c7h:TI.Ok Try.prog 102 ⟨.func,1,8,[.nilF],[.val],false⟩ where
 inf:=⟨Try.t102,_,by kernel_rfl,rfl,rfl,rfl,fun _ _=>rfl⟩
 zlen:=rfl
 ty:=⟨_,_,_,Try.underlying102⟩
 one:=fun _=>rfl
 eq:=fun h=>by simp at h
theorem c7s:TI.Ok Try.prog 103 ⟨.func,1,8,[.nilF],[.val],false⟩ where
 inf:=⟨Try.t103,_,by kernel_rfl,rfl,rfl,rfl,fun _ _=>rfl⟩
 zlen:=rfl
 ty:=⟨_,_,_,Try.underlying103⟩
 one:=fun _=>rfl
 eq:=fun h=>by simp at h
theorem c8c:TI.Ok Try.prog 104 ⟨.int .u64,1,8,[.int .u64 (.l 0)],[.int .u64],false⟩ where
 inf:=⟨Try.t104,_,by kernel_rfl,rfl,rfl,rfl,fun _ _=>rfl⟩
 zlen:=rfl
 ty:=Try.underlying104
 one:=fun _=>rfl
 eq:=fun h=>by simp at h
theorem c8b:TI.Ok Try.prog 105 ⟨.func,1,8,[.nilF],[.val],false⟩ where
 inf:=⟨Try.t105,_,by kernel_rfl,rfl,rfl,rfl,fun _ _=>rfl⟩
 zlen:=rfl
 ty:=⟨_,_,_,Try.underlying105⟩
 one:=fun _=>rfl
 eq:=fun h=>by simp at h
theorem c8g:TI.Ok Try.prog 106 ⟨.func,1,8,[.nilF],[.val],false⟩ where
 inf:=⟨Try.t106,_,by kernel_rfl,rfl,rfl,rfl,fun _ _=>rfl⟩
 zlen:=rfl
 ty:=⟨_,_,_,Try.underlying106⟩
 one:=fun _=>rfl
 eq:=fun h=>by simp at h
theorem c7U:TI.Ok Try.prog 107 ⟨.func,1,8,[.nilF],[.val],false⟩ where
 inf:=⟨Try.t107,_,by kernel_rfl,rfl,rfl,rfl,fun _ _=>rfl⟩
 zlen:=rfl
 ty:=⟨_,_,_,Try.underlying107⟩
 one:=fun _=>rfl
 eq:=fun h=>by simp at h
theorem c8a:TI.Ok Try.prog 108 ⟨.func,1,8,[.nilF],[.val],false⟩ where
 inf:=⟨Try.t108,_,by kernel_rfl,rfl,rfl,rfl,fun _ _=>rfl⟩
 zlen:=rfl
 ty:=⟨_,_,_,Try.underlying108⟩
 one:=fun _=>rfl
 eq:=fun h=>by simp at h
theorem c7R:TI.Ok Try.prog 109 ⟨.st [(0,3),(1,9),(2,2),(3,3)],4,40,[.int .i64 (.l 0),.str [],.int .i64 (.l 0),.int .i64 (.l 0)],[.int .i64,.val,.int .i64,.int .i64],false⟩ where
 inf:=⟨Try.t109,_,by kernel_rfl,rfl,rfl,rfl,fun _ _=>rfl⟩
 zlen:=rfl
 ty:=⟨_,Try.underlying109,rfl⟩
 one:=fun h=>by simp [TI.isAgg] at h
 eq:=fun h=>by simp at h
theorem c7A:TI.Ok Try.prog 110 ⟨.st [(0,3),(1,9),(2,2),(3,3)],4,40,[.int .i64 (.l 0),.str [],.int .i64 (.l 0),.int .i64 (.l 0)],[.int .i64,.val,.int .i64,.int .i64],false⟩ where
 inf:=⟨Try.t110,_,by kernel_rfl,rfl,rfl,rfl,fun _ _=>rfl⟩
 zlen:=rfl
 ty:=⟨_,Try.underlying110,rfl⟩
 one:=fun h=>by simp [TI.isAgg] at h
 eq:=fun h=>by simp at h
theorem c8h:TI.Ok Try.prog 112 ⟨.func,1,8,[.nilF],[.val],false⟩ where
 inf:=⟨Try.t112,_,by kernel_rfl,rfl,rfl,rfl,fun _ _=>rfl⟩
 zlen:=rfl
 ty:=⟨_,_,_,Try.underlying112⟩
 one:=fun _=>rfl
 eq:=fun h=>by simp at h
theorem c7J:TI.Ok Try.prog 113 ⟨.func,1,8,[.nilF],[.val],false⟩ where
 inf:=⟨Try.t113,_,by kernel_rfl,rfl,rfl,rfl,fun _ _=>rfl⟩
 zlen:=rfl
 ty:=⟨_,_,_,Try.underlying113⟩
 one:=fun _=>rfl
 eq:=fun h=>by simp at h
theorem c7k:TI.Ok Try.prog 114 ⟨.func,1,8,[.nilF],[.val],false⟩ where
 inf:=⟨Try.t114,_,by kernel_rfl,rfl,rfl,rfl,fun _ _=>rfl⟩
 zlen:=rfl
 ty:=⟨_,_,_,Try.underlying114⟩
 one:=fun _=>rfl
 eq:=fun h=>by simp at h
theorem c7v:TI.Ok Try.prog 115 ⟨.func,1,8,[.nilF],[.val],false⟩ where
 inf:=⟨Try.t115,_,by kernel_rfl,rfl,rfl,rfl,fun _ _=>rfl⟩
 zlen:=rfl
 ty:=⟨_,_,_,Try.underlying115⟩
 one:=fun _=>rfl
 eq:=fun h=>by simp at h
theorem c8f:TI.Ok Try.prog 116 ⟨.func,1,8,[.nilF],[.val],false⟩ where
 inf:=⟨Try.t116,_,by kernel_rfl,rfl,rfl,rfl,fun _ _=>rfl⟩
 zlen:=rfl
 ty:=⟨_,_,_,Try.underlying116⟩
 one:=fun _=>rfl
 eq:=fun h=>by simp at h
theorem c7u:TI.Ok Try.prog 117 ⟨.func,1,8,[.nilF],[.val],false⟩ where
 inf:=⟨Try.t117,_,by kernel_rfl,rfl,rfl,rfl,fun _ _=>rfl⟩
 zlen:=rfl
 ty:=⟨_,_,_,Try.underlying117⟩
 one:=fun _=>rfl
 eq:=fun h=>by simp at h
theorem c7K:TI.Ok Try.prog 118 ⟨.int .i64,1,8,[.int .i64 (.l 0)],[.int .i64],false⟩ where
 inf:=⟨Try.t118,_,by kernel_rfl,rfl,rfl,rfl,fun _ _=>rfl⟩
 zlen:=rfl
 ty:=Try.underlying118
 one:=fun _=>rfl
 eq:=fun h=>by simp at h
theorem c7T:TI.Ok Try.prog 120 ⟨.func,1,8,[.nilF],[.val],false⟩ where
 inf:=⟨Try.t120,_,by kernel_rfl,rfl,rfl,rfl,fun _ _=>rfl⟩
 zlen:=rfl
 ty:=⟨_,_,_,Try.underlying120⟩
 one:=fun _=>rfl
 eq:=fun h=>by simp at h
theorem c7S:TI.Ok Try.prog 121 ⟨.func,1,8,[.nilF],[.val],false⟩ where
 inf:=⟨Try.t121,_,by kernel_rfl,rfl,rfl,rfl,fun _ _=>rfl⟩
 zlen:=rfl
 ty:=⟨_,_,_,Try.underlying121⟩
 one:=fun _=>rfl
 eq:=fun h=>by simp at h
theorem c7o:TI.Ok Try.prog 122 ⟨.func,1,8,[.nilF],[.val],false⟩ where
 inf:=⟨Try.t122,_,by kernel_rfl,rfl,rfl,rfl,fun _ _=>rfl⟩
 zlen:=rfl
 ty:=⟨_,_,_,Try.underlying122⟩
 one:=fun _=>rfl
 eq:=fun h=>by simp at h
theorem c7X:TI.Ok Try.prog 123 ⟨.func,1,8,[.nilF],[.val],false⟩ where
 inf:=⟨Try.t123,_,by kernel_rfl,rfl,rfl,rfl,fun _ _=>rfl⟩
 zlen:=rfl
 ty:=⟨_,_,_,Try.underlying123⟩
 one:=fun _=>rfl
 eq:=fun h=>by simp at h
theorem c7I:TI.Ok Try.prog 124 ⟨.func,1,8,[.nilF],[.val],false⟩ where
 inf:=⟨Try.t124,_,by kernel_rfl,rfl,rfl,rfl,fun _ _=>rfl⟩
 zlen:=rfl
 ty:=⟨_,_,_,Try.underlying124⟩
 one:=fun _=>rfl
 eq:=fun h=>by simp at h
theorem c7O:TI.Ok Try.prog 125 ⟨.int .u32,1,4,[.int .u32 (.l 0)],[.int .u32],false⟩ where
 inf:=⟨Try.t125,_,by kernel_rfl,rfl,rfl,rfl,fun _ _=>rfl⟩
 zlen:=rfl
 ty:=Try.underlying125
 one:=fun _=>rfl
 eq:=fun h=>by simp at h
theorem c7t:TI.Ok Try.prog 126 ⟨.func,1,8,[.nilF],[.val],false⟩ where
 inf:=⟨Try.t126,_,by kernel_rfl,rfl,rfl,rfl,fun _ _=>rfl⟩
 zlen:=rfl
 ty:=⟨_,_,_,Try.underlying126⟩
 one:=fun _=>rfl
 eq:=fun h=>by simp at h
theorem c7P:TI.Ok Try.prog 127 ⟨.int .u64,1,8,[.int .u64 (.l 0)],[.int .u64],false⟩ where
 inf:=⟨Try.t127,_,by kernel_rfl,rfl,rfl,rfl,fun _ _=>rfl⟩
 zlen:=rfl
 ty:=Try.underlying127
 one:=fun _=>rfl
 eq:=fun h=>by simp at h
theorem c7B:TI.Ok Try.prog 128 ⟨.func,1,8,[.nilF],[.val],false⟩ where
 inf:=⟨Try.t128,_,by kernel_rfl,rfl,rfl,rfl,fun _ _=>rfl⟩
 zlen:=rfl
 ty:=⟨_,_,_,Try.underlying128⟩
 one:=fun _=>rfl
 eq:=fun h=>by simp at h
theorem c7E:TI.Ok Try.prog 129 ⟨.func,1,8,[.nilF],[.val],false⟩ where
 inf:=⟨Try.t129,_,by kernel_rfl,rfl,rfl,rfl,fun _ _=>rfl⟩
 zlen:=rfl
 ty:=⟨_,_,_,Try.underlying129⟩
 one:=fun _=>rfl
 eq:=fun h=>by simp at h
theorem c7m:TI.Ok Try.prog 130 ⟨.func,1,8,[.nilF],[.val],false⟩ where
 inf:=⟨Try.t130,_,by kernel_rfl,rfl,rfl,rfl,fun _ _=>rfl⟩
 zlen:=rfl
 ty:=⟨_,_,_,Try.underlying130⟩
 one:=fun _=>rfl
 eq:=fun h=>by simp at h
theorem c7w:TI.Ok Try.prog 131 ⟨.func,1,8,[.nilF],[.val],false⟩ where
 inf:=⟨Try.t131,_,by kernel_rfl,rfl,rfl,rfl,fun _ _=>rfl⟩
 zlen:=rfl
 ty:=⟨_,_,_,Try.underlying131⟩
 one:=fun _=>rfl
 eq:=fun h=>by simp at h
theorem c8e:TI.Ok Try.prog 132 ⟨.st [(0,22),(1,40)],7,72,[.nilS,.int .i64 (.l 0),.int .i64 (.l 0),.int .i64 (.l 0),.int .i64 (.l 0),.int .i64 (.l 0),.int .i64 (.l 0)],[.val,.int .i64,.int .i64,.int .i64,.int .i64,.int .i64,.int .i64],false⟩ where
 inf:=⟨Try.t132,_,by kernel_rfl,rfl,rfl,rfl,fun _ _=>rfl⟩
 zlen:=rfl
 ty:=⟨_,Try.underlying132,rfl⟩
 one:=fun h=>by simp [TI.isAgg] at h
 eq:=fun h=>by simp at h
theorem c7n:TI.Ok Try.prog 133 ⟨.st [(0,22),(1,40)],7,72,[.nilS,.int .i64 (.l 0),.int .i64 (.l 0),.int .i64 (.l 0),.int .i64 (.l 0),.int .i64 (.l 0),.int .i64 (.l 0)],[.val,.int .i64,.int .i64,.int .i64,.int .i64,.int .i64,.int .i64],false⟩ where
 inf:=⟨Try.t133,_,by kernel_rfl,rfl,rfl,rfl,fun _ _=>rfl⟩
 zlen:=rfl
 ty:=⟨_,Try.underlying133,rfl⟩
 one:=fun h=>by simp [TI.isAgg] at h
 eq:=fun h=>by simp at h
theorem c7i:TI.Ok Try.prog 134 ⟨.func,1,8,[.nilF],[.val],false⟩ where
 inf:=⟨Try.t134,_,by kernel_rfl,rfl,rfl,rfl,fun _ _=>rfl⟩
 zlen:=rfl
 ty:=⟨_,_,_,Try.underlying134⟩
 one:=fun _=>rfl
 eq:=fun h=>by simp at h
theorem c7Z:TI.Ok Try.prog 135 ⟨.int .u64,1,8,[.int .u64 (.l 0)],[.int .u64],false⟩ where
 inf:=⟨Try.t135,_,by kernel_rfl,rfl,rfl,rfl,fun _ _=>rfl⟩
 zlen:=rfl
 ty:=Try.underlying135
 one:=fun _=>rfl
 eq:=fun h=>by simp at h
theorem c7M:TI.Ok Try.prog 136 ⟨.func,1,8,[.nilF],[.val],false⟩ where
 inf:=⟨Try.t136,_,by kernel_rfl,rfl,rfl,rfl,fun _ _=>rfl⟩
 zlen:=rfl
 ty:=⟨_,_,_,Try.underlying136⟩
 one:=fun _=>rfl
 eq:=fun h=>by simp at h
theorem c7W:TI.Ok Try.prog 137 ⟨.func,1,8,[.nilF],[.val],false⟩ where
 inf:=⟨Try.t137,_,by kernel_rfl,rfl,rfl,rfl,fun _ _=>rfl⟩
 zlen:=rfl
 ty:=⟨_,_,_,Try.underlying137⟩
 one:=fun _=>rfl
 eq:=fun h=>by simp at h
theorem c7F:TI.Ok Try.prog 138 ⟨.func,1,8,[.nilF],[.val],false⟩ where
 inf:=⟨Try.t138,_,by kernel_rfl,rfl,rfl,rfl,fun _ _=>rfl⟩
 zlen:=rfl
 ty:=⟨_,_,_,Try.underlying138⟩
 one:=fun _=>rfl
 eq:=fun h=>by simp at h
theorem c7x:TI.Ok Try.prog 139 ⟨.ptr 3,1,8,[.nilP],[.val],false⟩ where
 inf:=⟨Try.t139,_,by kernel_rfl,rfl,rfl,rfl,fun _ _=>rfl⟩
 zlen:=rfl
 ty:=Try.underlying139
 one:=fun _=>rfl
 eq:=fun h=>by simp at h
theorem c7L:TI.Ok Try.prog 140 ⟨.func,1,8,[.nilF],[.val],false⟩ where
 inf:=⟨Try.t140,_,by kernel_rfl,rfl,rfl,rfl,fun _ _=>rfl⟩
 zlen:=rfl
 ty:=⟨_,_,_,Try.underlying140⟩
 one:=fun _=>rfl
 eq:=fun h=>by simp at h
theorem c7j:TI.Ok Try.prog 141 ⟨.ptr 135,1,8,[.nilP],[.val],false⟩ where
 inf:=⟨Try.t141,_,by kernel_rfl,rfl,rfl,rfl,fun _ _=>rfl⟩
 zlen:=rfl
 ty:=Try.underlying141
 one:=fun _=>rfl
 eq:=fun h=>by simp at h
theorem c7z:TI.Ok Try.prog 143 ⟨.func,1,8,[.nilF],[.val],false⟩ where
 inf:=⟨Try.t143,_,by kernel_rfl,rfl,rfl,rfl,fun _ _=>rfl⟩
 zlen:=rfl
 ty:=⟨_,_,_,Try.underlying143⟩
 one:=fun _=>rfl
 eq:=fun h=>by simp at h
theorem c7V:TI.Ok Try.prog 144 ⟨.func,1,8,[.nilF],[.val],false⟩ where
 inf:=⟨Try.t144,_,by kernel_rfl,rfl,rfl,rfl,fun _ _=>rfl⟩
 zlen:=rfl
 ty:=⟨_,_,_,Try.underlying144⟩
 one:=fun _=>rfl
 eq:=fun h=>by simp at h
theorem c7H:TI.Ok Try.prog 150 ⟨.func,1,8,[.nilF],[.val],false⟩ where
 inf:=⟨Try.t150,_,by kernel_rfl,rfl,rfl,rfl,fun _ _=>rfl⟩
 zlen:=rfl
 ty:=⟨_,_,_,Try.underlying150⟩
 one:=fun _=>rfl
 eq:=fun h=>by simp at h
theorem c7Q:TI.Ok Try.prog 153 ⟨.func,1,8,[.nilF],[.val],false⟩ where
 inf:=⟨Try.t153,_,by kernel_rfl,rfl,rfl,rfl,fun _ _=>rfl⟩
 zlen:=rfl
 ty:=⟨_,_,_,Try.underlying153⟩
 one:=fun _=>rfl
 eq:=fun h=>by simp at h
theorem c7D:TI.Ok Try.prog 154 ⟨.ptr 5,1,8,[.nilP],[.val],false⟩ where
 inf:=⟨Try.t154,_,by kernel_rfl,rfl,rfl,rfl,fun _ _=>rfl⟩
 zlen:=rfl
 ty:=Try.underlying154
 one:=fun _=>rfl
 eq:=fun h=>by simp at h
theorem c8N:QT.Ok Try.prog 69 ⟨40,6,2⟩ where
 ty:=Try.underlying69
 kd:=⟨_,_,Try.underlying40⟩
 check em zs w h:=b5v Try.underlying40 Try.underlying3 (fun w=>Go.Sx.run_sizeOf ti3 w) em 9998 zs h w
 eq w zs us h1 h2:=c7r c7b rfl (n:=6) rfl w zs us h1 h2
 zero:=⟨Try.t2,by kernel_rfl,rfl⟩
theorem a9c {α:Type} {k:Nat} {x:α}:∀ {l:List (Nat × α)},a6F k l=some x->(k,x)∈l
 | [],h=>by simp [a6F] at h
 | (j,y)::l,h=>by
  simp only [a6F] at h
  split at h
  ·rename_i hj
   simp only [Option.some.injEq] at h
   rw [Nat.eq_of_beq_eq_true hj,h]; exact List.mem_cons_self
  ·exact List.mem_cons_of_mem _ (a9c h)
theorem c6N (nw:Bool) (stops:List (List Bool)) (cstops:List (List Bool × Nat)):ProgOk Try.prog (cx nw stops cstops) where
 mixed:=by kernel_rfl
 tab t i h:=by
  have h:=a9c h
  simp only [c6Y,Q0,Q1,Q2,or_false] at h
  rcases h with h|h|h|h|h|h|h|h|h|h|h|h|h|h|h|h|h|h|h|h|h|h|h|h|h|h|h|h|h|h|h|h|h|h|h|h|h|h|h|h|h|h|h|h|h|h|h|h|h|h|h|h|h|h|h|h|h|h|h|h|h|h|h|h|h|h|h|h|h|h|h|h|h|h|h|h|h|h|h|h|h|h|h|h|h|h|h|h|h|h|h|h|h|h|h|h|h|h|h|h|h|h|h|h|h|h|h|h|h|h|h|h|h|h|h|h|h|h|h|h|h|h|h|h
  all_goals obtain ⟨rfl,rfl⟩:=h
  ·exact ti1
  ·exact ti2
  ·exact ti3
  ·exact ti4
  ·exact ti5
  ·exact ti9
  ·exact c8W
  ·exact c9f
  ·exact c9b
  ·exact c8o
  ·exact c9K
  ·exact c8Y
  ·exact c8A
  ·exact c9o
  ·exact c9k
  ·exact c8l
  ·exact c8Q
  ·exact c8L
  ·exact c8D
  ·exact c8E
  ·exact c8x
  ·exact c8j
  ·exact c9y
  ·exact c9I
  ·exact c7b
  ·exact c9B
  ·exact c9v
  ·exact c8v
  ·exact c8J
  ·exact c8S
  ·exact c8i
  ·exact c9z
  ·exact c8w
  ·exact c8M
  ·exact c9H
  ·exact c8I
  ·exact c9i
  ·exact c9n
  ·exact c9j
  ·exact c9E
  ·exact c8C
  ·exact c9t
  ·exact c9r
  ·exact c8O
  ·exact c8m
  ·exact c8u
  ·exact c9L
  ·exact c9l
  ·exact c8V
  ·exact c9x
  ·exact c8t
  ·exact c8P
  ·exact c9d
  ·exact c8B
  ·exact c8z
  ·exact c9s
  ·exact c9c
  ·exact c9J
  ·exact c8k
  ·exact c8K
  ·exact c8p
  ·exact c8F
  ·exact c9F
  ·exact c9a
  ·exact c9h
  ·exact c8U
  ·exact c9G
  ·exact c8X
  ·exact c9C
  ·exact c8G
  ·exact c8y
  ·exact c9m
  ·exact c9D
  ·exact c9A
  ·exact c8Z
  ·exact c9q
  ·exact c8n
  ·exact c9g
  ·exact c8r
  ·exact c9u
  ·exact c7N
  ·exact c7h
  ·exact c7s
  ·exact c8c
  ·exact c8b
  ·exact c8g
  ·exact c7U
  ·exact c8a
  ·exact c7R
  ·exact c7A
  ·exact c8h
  ·exact c7J
  ·exact c7k
  ·exact c7v
  ·exact c8f
  ·exact c7u
  ·exact c7K
  ·exact c7T
  ·exact c7S
  ·exact c7o
  ·exact c7X
  ·exact c7I
  ·exact c7O
  ·exact c7t
  ·exact c7P
  ·exact c7B
  ·exact c7E
  ·exact c7m
  ·exact c7w
  ·exact c8e
  ·exact c7n
  ·exact c7i
  ·exact c7Z
  ·exact c7M
  ·exact c7W
  ·exact c7F
  ·exact c7x
  ·exact c7L
  ·exact c7j
  ·exact c7z
  ·exact c7V
  ·exact c7H
  ·exact c7Q
  ·exact c7D
 mtab t i h:=by
  simp [cx,c5o,a6F] at h
 qtab t i h:=by
  have h:=a9c h
  simp only [c5u,Q0,Q1,Q2,or_false] at h
  rcases h with ⟨rfl,rfl⟩
  ·exact c8N
 call f h args w:=by
  simp only [cx,Option.isSome_iff_exists] at h
  obtain ⟨x,h⟩:=h
  have h:=a9c h
  simp only [c1C,Q0,Q1,Q2,or_false] at h
  rcases h with h|h|h|h|h|h|h|h|h|h|h|h|h|h|h|h|h|h|h|h|h|h|h|h|h|h|h|h|h|h|h|h|h|h|h|h|h|h|h|h|h|h|h|h|h|h|h|h|h|h|h|h|h|h|h|h|h|h|h|h|h|h|h|h|h|h|h|h|h|h|h|h|h|h|h|h|h|h|h|h|h|h|h|h|h|h|h|h|h|h|h|h|h|h|h|h
  all_goals obtain ⟨rfl,_⟩:=h
  ·exact Try.call2 args w
  ·exact Try.call3 args w
  ·exact Try.call4 args w
  ·exact Try.call5 args w
  ·exact Try.call6 args w
  ·exact Try.call7 args w
  ·exact Try.call8 args w
  ·exact Try.call9 args w
  ·exact Try.call10 args w
  ·exact Try.call11 args w
  ·exact Try.call12 args w
  ·exact Try.call13 args w
  ·exact Try.call14 args w
  ·exact Try.call15 args w
  ·exact Try.call16 args w
  ·exact Try.call17 args w
  ·exact Try.call18 args w
  ·exact Try.call19 args w
  ·exact Try.call20 args w
  ·exact Try.call21 args w
  ·exact Try.call22 args w
  ·exact Try.call23 args w
  ·exact Try.call24 args w
  ·exact Try.call25 args w
  ·exact Try.call26 args w
  ·exact Try.call27 args w
  ·exact Try.call28 args w
  ·exact Try.call29 args w
  ·exact Try.call30 args w
  ·exact Try.call31 args w
  ·exact Try.call32 args w
  ·exact Try.call33 args w
  ·exact Try.call34 args w
  ·exact Try.call35 args w
  ·exact Try.call36 args w
  ·exact Try.call37 args w
  ·exact Try.call38 args w
  ·exact Try.call39 args w
  ·exact Try.call40 args w
  ·exact Try.call41 args w
  ·exact Try.call42 args w
  ·exact Try.call43 args w
  ·exact Try.call44 args w
  ·exact Try.call45 args w
  ·exact Try.call46 args w
  ·exact Try.call47 args w
  ·exact Try.call48 args w
  ·exact Try.call49 args w
  ·exact Try.call50 args w
  ·exact Try.call51 args w
  ·exact Try.call52 args w
  ·exact Try.call53 args w
  ·exact Try.call54 args w
  ·exact Try.call55 args w
  ·exact Try.call56 args w
  ·exact Try.call57 args w
  ·exact Try.call58 args w
  ·exact Try.call59 args w
  ·exact Try.call60 args w
  ·exact Try.call61 args w
  ·exact Try.call62 args w
  ·exact Try.call63 args w
  ·exact Try.call64 args w
  ·exact Try.call65 args w
  ·exact Try.call66 args w
  ·exact Try.call67 args w
  ·exact Try.call68 args w
  ·exact Try.call69 args w
  ·exact Try.call70 args w
  ·exact Try.call71 args w
  ·exact Try.call72 args w
  ·exact Try.call73 args w
  ·exact Try.call74 args w
  ·exact Try.call75 args w
  ·exact Try.call76 args w
  ·exact Try.call77 args w
  ·exact Try.call78 args w
  ·exact Try.call79 args w
  ·exact Try.call80 args w
  ·exact Try.call81 args w
  ·exact Try.call82 args w
  ·exact Try.call83 args w
  ·exact Try.call84 args w
  ·exact Try.call85 args w
  ·exact Try.call86 args w
  ·exact Try.call87 args w
  ·exact Try.call88 args w
  ·exact Try.call89 args w
  ·exact Try.call90 args w
  ·exact Try.call91 args w
  ·exact Try.call92 args w
  ·exact Try.call93 args w
  ·exact Try.call94 args w
  ·exact Try.call95 args w
  ·exact Try.call96 args w
  ·exact Try.call97 args w
theorem c2i {c c':Ctx} (h:ProgOk Try.prog c) (h1:c'.tab=c.tab) (h2:c'.fok=c.fok) (h3:c'.mtab=c.mtab) (h4:c'.qtab=c.qtab):ProgOk Try.prog c':=⟨by rw [h1]; exact h.tab,h.mixed,by rw [h2]; exact h.call,by rw [h3]; exact h.mtab,by rw [h4]; exact h.qtab⟩
def cg (stops:List (List Bool)) (amb:List Nat) (vrets:List (Nat × List Nat)) (nofl gen live:Bool) (nw:Bool:=true) (joins:List (List Bool):=[]) (noflT:List Nat:=[]):Ctx:={ cx nw stops [] with rowl:=true,amb,vrets,nofl,gen,live,joins,noflT }
theorem a0J (stops:List (List Bool)) (amb:List Nat) (vrets:List (Nat × List Nat)) (nofl gen live:Bool) (nw:Bool:=true) (joins:List (List Bool):=[]) (noflT:List Nat:=[]):ProgOk Try.prog (cg stops amb vrets nofl gen live nw joins noflT):=c2i (c6N true [] []) rfl rfl rfl rfl
@[reducible] def treeB (x:IE):BE:=.and (.le (.l (-9223372036854775808)) x) (.le x (.l 9223372036854775807))
@[reducible] def treeI (x y:IE):BE:=.and (.le (.l 0) x) (.lt x y)
def jkR (b n:Nat):List SV:=(List.range n).map fun k=>.junk (b+k)
def udR (n:Nat):List SV:=List.replicate n .undef
end Go.Proofs.Ytflcopaopimlpaa
