/- The table of types and functions of this seat, as the executor reads it. Written by gentab.py. -/
import Derived.Test.YtggjcdnailppoaaHTxd
import Derived.Test.YtggjcdnailppoaaProg
set_option linter.unusedSimpArgs false
set_option linter.unusedVariables false
namespace Go.Proofs.Ytggjcdnailppoaa
open Go.Sx
def tabL : List (Nat × TI) := [
  (1, ⟨.func, 1, 8, [.nilF], [.val], false⟩),
  (2, ⟨.int .i64, 1, 8, [.int .i64 (.l 0)], [.int .i64], false⟩),
  (3, ⟨.int .i64, 1, 8, [.int .i64 (.l 0)], [.int .i64], false⟩),
  (4, ⟨.bool, 1, 1, [.bool (.t false)], [.bool], false⟩),
  (5, ⟨.int .u8, 1, 1, [.int .u8 (.l 0)], [.int .u8], false⟩),
  (9, ⟨.str, 1, 16, [.str []], [.val], false⟩),
  (12, ⟨.int .u64, 1, 8, [.int .u64 (.l 0)], [.int .u64], false⟩),
  (21, ⟨.int .i32, 1, 4, [.int .i32 (.l 0)], [.int .i32], false⟩),
  (22, ⟨.slice 46, 1, 24, [.nilS], [.val], false⟩),
  (23, ⟨.func, 1, 8, [.nilF], [.val], false⟩),
  (24, ⟨.func, 1, 8, [.nilF], [.val], false⟩),
  (25, ⟨.slice 33, 1, 24, [.nilS], [.val], false⟩),
  (26, ⟨.func, 1, 8, [.nilF], [.val], false⟩),
  (27, ⟨.func, 1, 8, [.nilF], [.val], false⟩),
  (28, ⟨.arr 6 3, 6, 48, [.int .i64 (.l 0), .int .i64 (.l 0), .int .i64 (.l 0), .int .i64 (.l 0), .int .i64 (.l 0), .int .i64 (.l 0)], [.int .i64, .int .i64, .int .i64, .int .i64, .int .i64, .int .i64], true⟩),
  (29, ⟨.arr 6 3, 6, 48, [.int .i64 (.l 0), .int .i64 (.l 0), .int .i64 (.l 0), .int .i64 (.l 0), .int .i64 (.l 0), .int .i64 (.l 0)], [.int .i64, .int .i64, .int .i64, .int .i64, .int .i64, .int .i64], true⟩),
  (30, ⟨.func, 1, 8, [.nilF], [.val], false⟩),
  (31, ⟨.func, 1, 8, [.nilF], [.val], false⟩),
  (32, ⟨.st [(0, 3), (1, 29), (7, 2)], 8, 64, [.int .i64 (.l 0), .int .i64 (.l 0), .int .i64 (.l 0), .int .i64 (.l 0), .int .i64 (.l 0), .int .i64 (.l 0), .int .i64 (.l 0), .int .i64 (.l 0)], [.int .i64, .int .i64, .int .i64, .int .i64, .int .i64, .int .i64, .int .i64, .int .i64], true⟩),
  (33, ⟨.st [(0, 3), (1, 29), (7, 2)], 8, 64, [.int .i64 (.l 0), .int .i64 (.l 0), .int .i64 (.l 0), .int .i64 (.l 0), .int .i64 (.l 0), .int .i64 (.l 0), .int .i64 (.l 0), .int .i64 (.l 0)], [.int .i64, .int .i64, .int .i64, .int .i64, .int .i64, .int .i64, .int .i64, .int .i64], true⟩),
  (34, ⟨.int .i64, 1, 8, [.int .i64 (.l 0)], [.int .i64], false⟩),
  (36, ⟨.func, 1, 8, [.nilF], [.val], false⟩),
  (37, ⟨.func, 1, 8, [.nilF], [.val], false⟩),
  (38, ⟨.func, 1, 8, [.nilF], [.val], false⟩),
  (39, ⟨.func, 1, 8, [.nilF], [.val], false⟩),
  (40, ⟨.func, 1, 8, [.nilF], [.val], false⟩),
  (41, ⟨.func, 1, 8, [.nilF], [.val], false⟩),
  (42, ⟨.slice 2, 1, 24, [.nilS], [.val], false⟩),
  (43, ⟨.arr 6 2, 6, 48, [.int .i64 (.l 0), .int .i64 (.l 0), .int .i64 (.l 0), .int .i64 (.l 0), .int .i64 (.l 0), .int .i64 (.l 0)], [.int .i64, .int .i64, .int .i64, .int .i64, .int .i64, .int .i64], true⟩),
  (44, ⟨.arr 6 2, 6, 48, [.int .i64 (.l 0), .int .i64 (.l 0), .int .i64 (.l 0), .int .i64 (.l 0), .int .i64 (.l 0), .int .i64 (.l 0)], [.int .i64, .int .i64, .int .i64, .int .i64, .int .i64, .int .i64], true⟩),
  (45, ⟨.st [(0, 44), (6, 29)], 12, 96, [.int .i64 (.l 0), .int .i64 (.l 0), .int .i64 (.l 0), .int .i64 (.l 0), .int .i64 (.l 0), .int .i64 (.l 0), .int .i64 (.l 0), .int .i64 (.l 0), .int .i64 (.l 0), .int .i64 (.l 0), .int .i64 (.l 0), .int .i64 (.l 0)], [.int .i64, .int .i64, .int .i64, .int .i64, .int .i64, .int .i64, .int .i64, .int .i64, .int .i64, .int .i64, .int .i64, .int .i64], true⟩),
  (46, ⟨.st [(0, 44), (6, 29)], 12, 96, [.int .i64 (.l 0), .int .i64 (.l 0), .int .i64 (.l 0), .int .i64 (.l 0), .int .i64 (.l 0), .int .i64 (.l 0), .int .i64 (.l 0), .int .i64 (.l 0), .int .i64 (.l 0), .int .i64 (.l 0), .int .i64 (.l 0), .int .i64 (.l 0)], [.int .i64, .int .i64, .int .i64, .int .i64, .int .i64, .int .i64, .int .i64, .int .i64, .int .i64, .int .i64, .int .i64, .int .i64], true⟩),
  (47, ⟨.func, 1, 8, [.nilF], [.val], false⟩),
  (48, ⟨.slice 3, 1, 24, [.nilS], [.val], false⟩),
  (49, ⟨.st [(0, 48), (1, 42)], 2, 48, [.nilS, .nilS], [.val, .val], false⟩),
  (50, ⟨.st [(0, 48), (1, 42)], 2, 48, [.nilS, .nilS], [.val, .val], false⟩),
  (52, ⟨.func, 1, 8, [.nilF], [.val], false⟩),
  (53, ⟨.func, 1, 8, [.nilF], [.val], false⟩),
  (54, ⟨.func, 1, 8, [.nilF], [.val], false⟩),
  (55, ⟨.func, 1, 8, [.nilF], [.val], false⟩),
  (56, ⟨.func, 1, 8, [.nilF], [.val], false⟩),
  (57, ⟨.func, 1, 8, [.nilF], [.val], false⟩),
  (58, ⟨.func, 1, 8, [.nilF], [.val], false⟩),
  (59, ⟨.func, 1, 8, [.nilF], [.val], false⟩),
  (60, ⟨.func, 1, 8, [.nilF], [.val], false⟩),
  (61, ⟨.func, 1, 8, [.nilF], [.val], false⟩),
  (62, ⟨.func, 1, 8, [.nilF], [.val], false⟩),
  (63, ⟨.func, 1, 8, [.nilF], [.val], false⟩),
  (64, ⟨.func, 1, 8, [.nilF], [.val], false⟩),
  (66, ⟨.func, 1, 8, [.nilF], [.val], false⟩),
  (67, ⟨.func, 1, 8, [.nilF], [.val], false⟩),
  (68, ⟨.func, 1, 8, [.nilF], [.val], false⟩),
  (69, ⟨.func, 1, 8, [.nilF], [.val], false⟩),
  (70, ⟨.func, 1, 8, [.nilF], [.val], false⟩),
  (71, ⟨.func, 1, 8, [.nilF], [.val], false⟩),
  (72, ⟨.func, 1, 8, [.nilF], [.val], false⟩),
  (73, ⟨.int .u64, 1, 8, [.int .u64 (.l 0)], [.int .u64], false⟩),
  (74, ⟨.func, 1, 8, [.nilF], [.val], false⟩),
  (75, ⟨.func, 1, 8, [.nilF], [.val], false⟩),
  (76, ⟨.func, 1, 8, [.nilF], [.val], false⟩),
  (77, ⟨.int .i64, 1, 8, [.int .i64 (.l 0)], [.int .i64], false⟩),
  (79, ⟨.func, 1, 8, [.nilF], [.val], false⟩),
  (80, ⟨.func, 1, 8, [.nilF], [.val], false⟩),
  (81, ⟨.func, 1, 8, [.nilF], [.val], false⟩),
  (83, ⟨.func, 1, 8, [.nilF], [.val], false⟩),
  (84, ⟨.func, 1, 8, [.nilF], [.val], false⟩),
  (85, ⟨.int .u32, 1, 4, [.int .u32 (.l 0)], [.int .u32], false⟩),
  (86, ⟨.func, 1, 8, [.nilF], [.val], false⟩),
  (87, ⟨.int .u64, 1, 8, [.int .u64 (.l 0)], [.int .u64], false⟩),
  (89, ⟨.int .u64, 1, 8, [.int .u64 (.l 0)], [.int .u64], false⟩),
  (90, ⟨.func, 1, 8, [.nilF], [.val], false⟩),
  (91, ⟨.func, 1, 8, [.nilF], [.val], false⟩),
  (92, ⟨.func, 1, 8, [.nilF], [.val], false⟩),
  (93, ⟨.ptr 3, 1, 8, [.nilP], [.val], false⟩),
  (94, ⟨.func, 1, 8, [.nilF], [.val], false⟩),
  (95, ⟨.ptr 89, 1, 8, [.nilP], [.val], false⟩),
  (97, ⟨.func, 1, 8, [.nilF], [.val], false⟩),
  (98, ⟨.func, 1, 8, [.nilF], [.val], false⟩),
  (104, ⟨.func, 1, 8, [.nilF], [.val], false⟩),
  (107, ⟨.func, 1, 8, [.nilF], [.val], false⟩),
  (108, ⟨.ptr 5, 1, 8, [.nilP], [.val], false⟩)]
def retsL : List (Nat × List Nat) := [
  (2, []),
  (3, [4]),
  (4, [4]),
  (5, [4]),
  (6, [4]),
  (7, [4]),
  (8, [4]),
  (9, [4]),
  (10, [4]),
  (11, [25]),
  (12, [25]),
  (13, [2]),
  (14, [2]),
  (15, [3, 34]),
  (16, [4]),
  (17, [34]),
  (18, [3, 34]),
  (19, [25]),
  (20, [25]),
  (21, [4]),
  (22, [2]),
  (23, [2]),
  (24, [50, 4]),
  (25, [34]),
  (26, [4]),
  (27, [2]),
  (28, [25]),
  (29, [4]),
  (30, []),
  (31, [3]),
  (32, [3]),
  (33, [3]),
  (34, [34]),
  (35, [4]),
  (36, [2]),
  (37, [60]),
  (38, [25]),
  (39, [25]),
  (40, [4]),
  (41, [2]),
  (42, [4]),
  (43, [42, 48]),
  (44, [4]),
  (45, [4]),
  (46, [2]),
  (47, [3]),
  (48, []),
  (49, [3]),
  (50, [2]),
  (51, [4]),
  (52, [4]),
  (53, [48]),
  (54, []),
  (55, []),
  (56, []),
  (57, [3, 77]),
  (58, []),
  (59, [4]),
  (60, [3]),
  (61, [3, 4]),
  (62, [3]),
  (63, [3]),
  (64, []),
  (65, [73]),
  (66, [87]),
  (67, [3]),
  (68, [3]),
  (69, [3, 3])]
def lookN {α : Type} (k : Nat) : List (Nat × α) → Option α
  | [] => none
  | (j, x) :: l => if Nat.beq j k then some x else lookN k l
def mtabL : List (Nat × MT) := [(88, ⟨.i64, 3, 4, .bool (.t false), .one .bool⟩)]
def cx (nw : Bool) (stops : List (List Bool)) (cstops : List (List Bool × Nat)) : Ctx :=
  { tab := fun t => lookN t tabL, rets := fun f => (lookN f retsL).getD [], fok := fun f => (lookN f retsL).isSome, nw, stops, cstops, mtab := fun t => lookN t mtabL }
theorem ti1 : TI.Ok Try.prog 1 ⟨.func, 1, 8, [.nilF], [.val], false⟩ where
  inf := ⟨Try.t1, _, by kernel_rfl, rfl, rfl, rfl, fun _ _ => rfl⟩
  zlen := rfl
  ty := ⟨_, _, _, Try.underlying1⟩
  one := fun _ => rfl
  eq := fun h => by simp at h
theorem ti2 : TI.Ok Try.prog 2 ⟨.int .i64, 1, 8, [.int .i64 (.l 0)], [.int .i64], false⟩ where
  inf := ⟨Try.t2, _, by kernel_rfl, rfl, rfl, rfl, fun _ _ => rfl⟩
  zlen := rfl
  ty := Try.underlying2
  one := fun _ => rfl
  eq := fun h => by simp at h
theorem ti3 : TI.Ok Try.prog 3 ⟨.int .i64, 1, 8, [.int .i64 (.l 0)], [.int .i64], false⟩ where
  inf := ⟨Try.t3, _, by kernel_rfl, rfl, rfl, rfl, fun _ _ => rfl⟩
  zlen := rfl
  ty := Try.underlying3
  one := fun _ => rfl
  eq := fun h => by simp at h
theorem ti4 : TI.Ok Try.prog 4 ⟨.bool, 1, 1, [.bool (.t false)], [.bool], false⟩ where
  inf := ⟨Try.t4, _, by kernel_rfl, rfl, rfl, rfl, fun _ _ => rfl⟩
  zlen := rfl
  ty := Try.underlying4
  one := fun _ => rfl
  eq := fun h => by simp at h
theorem ti5 : TI.Ok Try.prog 5 ⟨.int .u8, 1, 1, [.int .u8 (.l 0)], [.int .u8], false⟩ where
  inf := ⟨Try.t5, _, by kernel_rfl, rfl, rfl, rfl, fun _ _ => rfl⟩
  zlen := rfl
  ty := Try.underlying5
  one := fun _ => rfl
  eq := fun h => by simp at h
theorem ti9 : TI.Ok Try.prog 9 ⟨.str, 1, 16, [.str []], [.val], false⟩ where
  inf := ⟨Try.t9, _, by kernel_rfl, rfl, rfl, rfl, fun _ _ => rfl⟩
  zlen := rfl
  ty := Try.underlying9
  one := fun _ => rfl
  eq := fun h => by simp at h
theorem ti12 : TI.Ok Try.prog 12 ⟨.int .u64, 1, 8, [.int .u64 (.l 0)], [.int .u64], false⟩ where
  inf := ⟨Try.t12, _, by kernel_rfl, rfl, rfl, rfl, fun _ _ => rfl⟩
  zlen := rfl
  ty := Try.underlying12
  one := fun _ => rfl
  eq := fun h => by simp at h
theorem ti21 : TI.Ok Try.prog 21 ⟨.int .i32, 1, 4, [.int .i32 (.l 0)], [.int .i32], false⟩ where
  inf := ⟨Try.t21, _, by kernel_rfl, rfl, rfl, rfl, fun _ _ => rfl⟩
  zlen := rfl
  ty := Try.underlying21
  one := fun _ => rfl
  eq := fun h => by simp at h
theorem ti22 : TI.Ok Try.prog 22 ⟨.slice 46, 1, 24, [.nilS], [.val], false⟩ where
  inf := ⟨Try.t22, _, by kernel_rfl, rfl, rfl, rfl, fun _ _ => rfl⟩
  zlen := rfl
  ty := Try.underlying22
  one := fun _ => rfl
  eq := fun h => by simp at h
theorem ti23 : TI.Ok Try.prog 23 ⟨.func, 1, 8, [.nilF], [.val], false⟩ where
  inf := ⟨Try.t23, _, by kernel_rfl, rfl, rfl, rfl, fun _ _ => rfl⟩
  zlen := rfl
  ty := ⟨_, _, _, Try.underlying23⟩
  one := fun _ => rfl
  eq := fun h => by simp at h
theorem ti24 : TI.Ok Try.prog 24 ⟨.func, 1, 8, [.nilF], [.val], false⟩ where
  inf := ⟨Try.t24, _, by kernel_rfl, rfl, rfl, rfl, fun _ _ => rfl⟩
  zlen := rfl
  ty := ⟨_, _, _, Try.underlying24⟩
  one := fun _ => rfl
  eq := fun h => by simp at h
theorem ti25 : TI.Ok Try.prog 25 ⟨.slice 33, 1, 24, [.nilS], [.val], false⟩ where
  inf := ⟨Try.t25, _, by kernel_rfl, rfl, rfl, rfl, fun _ _ => rfl⟩
  zlen := rfl
  ty := Try.underlying25
  one := fun _ => rfl
  eq := fun h => by simp at h
theorem ti26 : TI.Ok Try.prog 26 ⟨.func, 1, 8, [.nilF], [.val], false⟩ where
  inf := ⟨Try.t26, _, by kernel_rfl, rfl, rfl, rfl, fun _ _ => rfl⟩
  zlen := rfl
  ty := ⟨_, _, _, Try.underlying26⟩
  one := fun _ => rfl
  eq := fun h => by simp at h
theorem ti27 : TI.Ok Try.prog 27 ⟨.func, 1, 8, [.nilF], [.val], false⟩ where
  inf := ⟨Try.t27, _, by kernel_rfl, rfl, rfl, rfl, fun _ _ => rfl⟩
  zlen := rfl
  ty := ⟨_, _, _, Try.underlying27⟩
  one := fun _ => rfl
  eq := fun h => by simp at h
theorem ti28 : TI.Ok Try.prog 28 ⟨.arr 6 3, 6, 48, [.int .i64 (.l 0), .int .i64 (.l 0), .int .i64 (.l 0), .int .i64 (.l 0), .int .i64 (.l 0), .int .i64 (.l 0)], [.int .i64, .int .i64, .int .i64, .int .i64, .int .i64, .int .i64], true⟩ where
  inf := ⟨Try.t28, _, by kernel_rfl, rfl, rfl, rfl, fun _ _ => rfl⟩
  zlen := rfl
  ty := Try.underlying28
  one := fun h => by simp [TI.isAgg] at h
  eq := fun _ => ⟨Try.eqGuardType28, fun w zs us h1 h2 => (show EqT Try.prog 10000 28 true _ from (eqT_array (inf := Try.t3) (eqT_int Try.underlying3 (Try.sizeOf3) (by kernel_rfl) 9998) Try.underlying28 (by kernel_rfl) (Try.sizeOf28) (by kernel_rfl))).eq w zs us h1 h2⟩
theorem ti29 : TI.Ok Try.prog 29 ⟨.arr 6 3, 6, 48, [.int .i64 (.l 0), .int .i64 (.l 0), .int .i64 (.l 0), .int .i64 (.l 0), .int .i64 (.l 0), .int .i64 (.l 0)], [.int .i64, .int .i64, .int .i64, .int .i64, .int .i64, .int .i64], true⟩ where
  inf := ⟨Try.t29, _, by kernel_rfl, rfl, rfl, rfl, fun _ _ => rfl⟩
  zlen := rfl
  ty := Try.underlying29
  one := fun h => by simp [TI.isAgg] at h
  eq := fun _ => ⟨Try.eqGuardType29, fun w zs us h1 h2 => (show EqT Try.prog 10000 29 true _ from (eqT_array (inf := Try.t3) (eqT_int Try.underlying3 (Try.sizeOf3) (by kernel_rfl) 9998) Try.underlying29 (by kernel_rfl) (Try.sizeOf29) (by kernel_rfl))).eq w zs us h1 h2⟩
theorem ti30 : TI.Ok Try.prog 30 ⟨.func, 1, 8, [.nilF], [.val], false⟩ where
  inf := ⟨Try.t30, _, by kernel_rfl, rfl, rfl, rfl, fun _ _ => rfl⟩
  zlen := rfl
  ty := ⟨_, _, _, Try.underlying30⟩
  one := fun _ => rfl
  eq := fun h => by simp at h
theorem ti31 : TI.Ok Try.prog 31 ⟨.func, 1, 8, [.nilF], [.val], false⟩ where
  inf := ⟨Try.t31, _, by kernel_rfl, rfl, rfl, rfl, fun _ _ => rfl⟩
  zlen := rfl
  ty := ⟨_, _, _, Try.underlying31⟩
  one := fun _ => rfl
  eq := fun h => by simp at h
theorem ti32 : TI.Ok Try.prog 32 ⟨.st [(0, 3), (1, 29), (7, 2)], 8, 64, [.int .i64 (.l 0), .int .i64 (.l 0), .int .i64 (.l 0), .int .i64 (.l 0), .int .i64 (.l 0), .int .i64 (.l 0), .int .i64 (.l 0), .int .i64 (.l 0)], [.int .i64, .int .i64, .int .i64, .int .i64, .int .i64, .int .i64, .int .i64, .int .i64], true⟩ where
  inf := ⟨Try.t32, _, by kernel_rfl, rfl, rfl, rfl, fun _ _ => rfl⟩
  zlen := rfl
  ty := ⟨_, Try.underlying32, rfl⟩
  one := fun h => by simp [TI.isAgg] at h
  eq := fun _ => ⟨Try.eqGuardType32, fun w zs us h1 h2 => (show EqT Try.prog 10000 32 true _ from (eqT_struct Try.underlying32 (.cons (by decide) rfl (eqT_int Try.underlying3 (Try.sizeOf3) (by kernel_rfl) 9998) (.cons (by decide) rfl (eqT_array (inf := Try.t3) (eqT_int Try.underlying3 (Try.sizeOf3) (by kernel_rfl) 9997) Try.underlying29 (by kernel_rfl) (Try.sizeOf29) (by kernel_rfl)) (.cons (by decide) rfl (eqT_int Try.underlying2 (Try.sizeOf2) (by kernel_rfl) 9998) (.nil _)))) (by kernel_rfl) (Try.sizeOf32) (by kernel_rfl))).eq w zs us h1 h2⟩
theorem ti33 : TI.Ok Try.prog 33 ⟨.st [(0, 3), (1, 29), (7, 2)], 8, 64, [.int .i64 (.l 0), .int .i64 (.l 0), .int .i64 (.l 0), .int .i64 (.l 0), .int .i64 (.l 0), .int .i64 (.l 0), .int .i64 (.l 0), .int .i64 (.l 0)], [.int .i64, .int .i64, .int .i64, .int .i64, .int .i64, .int .i64, .int .i64, .int .i64], true⟩ where
  inf := ⟨Try.t33, _, by kernel_rfl, rfl, rfl, rfl, fun _ _ => rfl⟩
  zlen := rfl
  ty := ⟨_, Try.underlying33, rfl⟩
  one := fun h => by simp [TI.isAgg] at h
  eq := fun _ => ⟨Try.eqGuardType33, fun w zs us h1 h2 => (show EqT Try.prog 10000 33 true _ from (eqT_struct Try.underlying33 (.cons (by decide) rfl (eqT_int Try.underlying3 (Try.sizeOf3) (by kernel_rfl) 9998) (.cons (by decide) rfl (eqT_array (inf := Try.t3) (eqT_int Try.underlying3 (Try.sizeOf3) (by kernel_rfl) 9997) Try.underlying29 (by kernel_rfl) (Try.sizeOf29) (by kernel_rfl)) (.cons (by decide) rfl (eqT_int Try.underlying2 (Try.sizeOf2) (by kernel_rfl) 9998) (.nil _)))) (by kernel_rfl) (Try.sizeOf33) (by kernel_rfl))).eq w zs us h1 h2⟩
theorem ti34 : TI.Ok Try.prog 34 ⟨.int .i64, 1, 8, [.int .i64 (.l 0)], [.int .i64], false⟩ where
  inf := ⟨Try.t34, _, by kernel_rfl, rfl, rfl, rfl, fun _ _ => rfl⟩
  zlen := rfl
  ty := Try.underlying34
  one := fun _ => rfl
  eq := fun h => by simp at h
theorem ti36 : TI.Ok Try.prog 36 ⟨.func, 1, 8, [.nilF], [.val], false⟩ where
  inf := ⟨Try.t36, _, by kernel_rfl, rfl, rfl, rfl, fun _ _ => rfl⟩
  zlen := rfl
  ty := ⟨_, _, _, Try.underlying36⟩
  one := fun _ => rfl
  eq := fun h => by simp at h
theorem ti37 : TI.Ok Try.prog 37 ⟨.func, 1, 8, [.nilF], [.val], false⟩ where
  inf := ⟨Try.t37, _, by kernel_rfl, rfl, rfl, rfl, fun _ _ => rfl⟩
  zlen := rfl
  ty := ⟨_, _, _, Try.underlying37⟩
  one := fun _ => rfl
  eq := fun h => by simp at h
theorem ti38 : TI.Ok Try.prog 38 ⟨.func, 1, 8, [.nilF], [.val], false⟩ where
  inf := ⟨Try.t38, _, by kernel_rfl, rfl, rfl, rfl, fun _ _ => rfl⟩
  zlen := rfl
  ty := ⟨_, _, _, Try.underlying38⟩
  one := fun _ => rfl
  eq := fun h => by simp at h
theorem ti39 : TI.Ok Try.prog 39 ⟨.func, 1, 8, [.nilF], [.val], false⟩ where
  inf := ⟨Try.t39, _, by kernel_rfl, rfl, rfl, rfl, fun _ _ => rfl⟩
  zlen := rfl
  ty := ⟨_, _, _, Try.underlying39⟩
  one := fun _ => rfl
  eq := fun h => by simp at h
theorem ti40 : TI.Ok Try.prog 40 ⟨.func, 1, 8, [.nilF], [.val], false⟩ where
  inf := ⟨Try.t40, _, by kernel_rfl, rfl, rfl, rfl, fun _ _ => rfl⟩
  zlen := rfl
  ty := ⟨_, _, _, Try.underlying40⟩
  one := fun _ => rfl
  eq := fun h => by simp at h
theorem ti41 : TI.Ok Try.prog 41 ⟨.func, 1, 8, [.nilF], [.val], false⟩ where
  inf := ⟨Try.t41, _, by kernel_rfl, rfl, rfl, rfl, fun _ _ => rfl⟩
  zlen := rfl
  ty := ⟨_, _, _, Try.underlying41⟩
  one := fun _ => rfl
  eq := fun h => by simp at h
theorem ti42 : TI.Ok Try.prog 42 ⟨.slice 2, 1, 24, [.nilS], [.val], false⟩ where
  inf := ⟨Try.t42, _, by kernel_rfl, rfl, rfl, rfl, fun _ _ => rfl⟩
  zlen := rfl
  ty := Try.underlying42
  one := fun _ => rfl
  eq := fun h => by simp at h
theorem ti43 : TI.Ok Try.prog 43 ⟨.arr 6 2, 6, 48, [.int .i64 (.l 0), .int .i64 (.l 0), .int .i64 (.l 0), .int .i64 (.l 0), .int .i64 (.l 0), .int .i64 (.l 0)], [.int .i64, .int .i64, .int .i64, .int .i64, .int .i64, .int .i64], true⟩ where
  inf := ⟨Try.t43, _, by kernel_rfl, rfl, rfl, rfl, fun _ _ => rfl⟩
  zlen := rfl
  ty := Try.underlying43
  one := fun h => by simp [TI.isAgg] at h
  eq := fun _ => ⟨Try.eqGuardType43, fun w zs us h1 h2 => (show EqT Try.prog 10000 43 true _ from (eqT_array (inf := Try.t2) (eqT_int Try.underlying2 (Try.sizeOf2) (by kernel_rfl) 9998) Try.underlying43 (by kernel_rfl) (Try.sizeOf43) (by kernel_rfl))).eq w zs us h1 h2⟩
theorem ti44 : TI.Ok Try.prog 44 ⟨.arr 6 2, 6, 48, [.int .i64 (.l 0), .int .i64 (.l 0), .int .i64 (.l 0), .int .i64 (.l 0), .int .i64 (.l 0), .int .i64 (.l 0)], [.int .i64, .int .i64, .int .i64, .int .i64, .int .i64, .int .i64], true⟩ where
  inf := ⟨Try.t44, _, by kernel_rfl, rfl, rfl, rfl, fun _ _ => rfl⟩
  zlen := rfl
  ty := Try.underlying44
  one := fun h => by simp [TI.isAgg] at h
  eq := fun _ => ⟨Try.eqGuardType44, fun w zs us h1 h2 => (show EqT Try.prog 10000 44 true _ from (eqT_array (inf := Try.t2) (eqT_int Try.underlying2 (Try.sizeOf2) (by kernel_rfl) 9998) Try.underlying44 (by kernel_rfl) (Try.sizeOf44) (by kernel_rfl))).eq w zs us h1 h2⟩
theorem ti45 : TI.Ok Try.prog 45 ⟨.st [(0, 44), (6, 29)], 12, 96, [.int .i64 (.l 0), .int .i64 (.l 0), .int .i64 (.l 0), .int .i64 (.l 0), .int .i64 (.l 0), .int .i64 (.l 0), .int .i64 (.l 0), .int .i64 (.l 0), .int .i64 (.l 0), .int .i64 (.l 0), .int .i64 (.l 0), .int .i64 (.l 0)], [.int .i64, .int .i64, .int .i64, .int .i64, .int .i64, .int .i64, .int .i64, .int .i64, .int .i64, .int .i64, .int .i64, .int .i64], true⟩ where
  inf := ⟨Try.t45, _, by kernel_rfl, rfl, rfl, rfl, fun _ _ => rfl⟩
  zlen := rfl
  ty := ⟨_, Try.underlying45, rfl⟩
  one := fun h => by simp [TI.isAgg] at h
  eq := fun _ => ⟨Try.eqGuardType45, fun w zs us h1 h2 => (show EqT Try.prog 10000 45 true _ from (eqT_struct Try.underlying45 (.cons (by decide) rfl (eqT_array (inf := Try.t2) (eqT_int Try.underlying2 (Try.sizeOf2) (by kernel_rfl) 9997) Try.underlying44 (by kernel_rfl) (Try.sizeOf44) (by kernel_rfl)) (.cons (by decide) rfl (eqT_array (inf := Try.t3) (eqT_int Try.underlying3 (Try.sizeOf3) (by kernel_rfl) 9997) Try.underlying29 (by kernel_rfl) (Try.sizeOf29) (by kernel_rfl)) (.nil _))) (by kernel_rfl) (Try.sizeOf45) (by kernel_rfl))).eq w zs us h1 h2⟩
theorem ti46 : TI.Ok Try.prog 46 ⟨.st [(0, 44), (6, 29)], 12, 96, [.int .i64 (.l 0), .int .i64 (.l 0), .int .i64 (.l 0), .int .i64 (.l 0), .int .i64 (.l 0), .int .i64 (.l 0), .int .i64 (.l 0), .int .i64 (.l 0), .int .i64 (.l 0), .int .i64 (.l 0), .int .i64 (.l 0), .int .i64 (.l 0)], [.int .i64, .int .i64, .int .i64, .int .i64, .int .i64, .int .i64, .int .i64, .int .i64, .int .i64, .int .i64, .int .i64, .int .i64], true⟩ where
  inf := ⟨Try.t46, _, by kernel_rfl, rfl, rfl, rfl, fun _ _ => rfl⟩
  zlen := rfl
  ty := ⟨_, Try.underlying46, rfl⟩
  one := fun h => by simp [TI.isAgg] at h
  eq := fun _ => ⟨Try.eqGuardType46, fun w zs us h1 h2 => (show EqT Try.prog 10000 46 true _ from (eqT_struct Try.underlying46 (.cons (by decide) rfl (eqT_array (inf := Try.t2) (eqT_int Try.underlying2 (Try.sizeOf2) (by kernel_rfl) 9997) Try.underlying44 (by kernel_rfl) (Try.sizeOf44) (by kernel_rfl)) (.cons (by decide) rfl (eqT_array (inf := Try.t3) (eqT_int Try.underlying3 (Try.sizeOf3) (by kernel_rfl) 9997) Try.underlying29 (by kernel_rfl) (Try.sizeOf29) (by kernel_rfl)) (.nil _))) (by kernel_rfl) (Try.sizeOf46) (by kernel_rfl))).eq w zs us h1 h2⟩
theorem ti47 : TI.Ok Try.prog 47 ⟨.func, 1, 8, [.nilF], [.val], false⟩ where
  inf := ⟨Try.t47, _, by kernel_rfl, rfl, rfl, rfl, fun _ _ => rfl⟩
  zlen := rfl
  ty := ⟨_, _, _, Try.underlying47⟩
  one := fun _ => rfl
  eq := fun h => by simp at h
theorem ti48 : TI.Ok Try.prog 48 ⟨.slice 3, 1, 24, [.nilS], [.val], false⟩ where
  inf := ⟨Try.t48, _, by kernel_rfl, rfl, rfl, rfl, fun _ _ => rfl⟩
  zlen := rfl
  ty := Try.underlying48
  one := fun _ => rfl
  eq := fun h => by simp at h
theorem ti49 : TI.Ok Try.prog 49 ⟨.st [(0, 48), (1, 42)], 2, 48, [.nilS, .nilS], [.val, .val], false⟩ where
  inf := ⟨Try.t49, _, by kernel_rfl, rfl, rfl, rfl, fun _ _ => rfl⟩
  zlen := rfl
  ty := ⟨_, Try.underlying49, rfl⟩
  one := fun h => by simp [TI.isAgg] at h
  eq := fun h => by simp at h
theorem ti50 : TI.Ok Try.prog 50 ⟨.st [(0, 48), (1, 42)], 2, 48, [.nilS, .nilS], [.val, .val], false⟩ where
  inf := ⟨Try.t50, _, by kernel_rfl, rfl, rfl, rfl, fun _ _ => rfl⟩
  zlen := rfl
  ty := ⟨_, Try.underlying50, rfl⟩
  one := fun h => by simp [TI.isAgg] at h
  eq := fun h => by simp at h
theorem ti52 : TI.Ok Try.prog 52 ⟨.func, 1, 8, [.nilF], [.val], false⟩ where
  inf := ⟨Try.t52, _, by kernel_rfl, rfl, rfl, rfl, fun _ _ => rfl⟩
  zlen := rfl
  ty := ⟨_, _, _, Try.underlying52⟩
  one := fun _ => rfl
  eq := fun h => by simp at h
theorem ti53 : TI.Ok Try.prog 53 ⟨.func, 1, 8, [.nilF], [.val], false⟩ where
  inf := ⟨Try.t53, _, by kernel_rfl, rfl, rfl, rfl, fun _ _ => rfl⟩
  zlen := rfl
  ty := ⟨_, _, _, Try.underlying53⟩
  one := fun _ => rfl
  eq := fun h => by simp at h
theorem ti54 : TI.Ok Try.prog 54 ⟨.func, 1, 8, [.nilF], [.val], false⟩ where
  inf := ⟨Try.t54, _, by kernel_rfl, rfl, rfl, rfl, fun _ _ => rfl⟩
  zlen := rfl
  ty := ⟨_, _, _, Try.underlying54⟩
  one := fun _ => rfl
  eq := fun h => by simp at h
theorem ti55 : TI.Ok Try.prog 55 ⟨.func, 1, 8, [.nilF], [.val], false⟩ where
  inf := ⟨Try.t55, _, by kernel_rfl, rfl, rfl, rfl, fun _ _ => rfl⟩
  zlen := rfl
  ty := ⟨_, _, _, Try.underlying55⟩
  one := fun _ => rfl
  eq := fun h => by simp at h
theorem ti56 : TI.Ok Try.prog 56 ⟨.func, 1, 8, [.nilF], [.val], false⟩ where
  inf := ⟨Try.t56, _, by kernel_rfl, rfl, rfl, rfl, fun _ _ => rfl⟩
  zlen := rfl
  ty := ⟨_, _, _, Try.underlying56⟩
  one := fun _ => rfl
  eq := fun h => by simp at h
theorem ti57 : TI.Ok Try.prog 57 ⟨.func, 1, 8, [.nilF], [.val], false⟩ where
  inf := ⟨Try.t57, _, by kernel_rfl, rfl, rfl, rfl, fun _ _ => rfl⟩
  zlen := rfl
  ty := ⟨_, _, _, Try.underlying57⟩
  one := fun _ => rfl
  eq := fun h => by simp at h
theorem ti58 : TI.Ok Try.prog 58 ⟨.func, 1, 8, [.nilF], [.val], false⟩ where
  inf := ⟨Try.t58, _, by kernel_rfl, rfl, rfl, rfl, fun _ _ => rfl⟩
  zlen := rfl
  ty := ⟨_, _, _, Try.underlying58⟩
  one := fun _ => rfl
  eq := fun h => by simp at h
theorem ti59 : TI.Ok Try.prog 59 ⟨.func, 1, 8, [.nilF], [.val], false⟩ where
  inf := ⟨Try.t59, _, by kernel_rfl, rfl, rfl, rfl, fun _ _ => rfl⟩
  zlen := rfl
  ty := ⟨_, _, _, Try.underlying59⟩
  one := fun _ => rfl
  eq := fun h => by simp at h
theorem ti60 : TI.Ok Try.prog 60 ⟨.func, 1, 8, [.nilF], [.val], false⟩ where
  inf := ⟨Try.t60, _, by kernel_rfl, rfl, rfl, rfl, fun _ _ => rfl⟩
  zlen := rfl
  ty := ⟨_, _, _, Try.underlying60⟩
  one := fun _ => rfl
  eq := fun h => by simp at h
theorem ti61 : TI.Ok Try.prog 61 ⟨.func, 1, 8, [.nilF], [.val], false⟩ where
  inf := ⟨Try.t61, _, by kernel_rfl, rfl, rfl, rfl, fun _ _ => rfl⟩
  zlen := rfl
  ty := ⟨_, _, _, Try.underlying61⟩
  one := fun _ => rfl
  eq := fun h => by simp at h
theorem ti62 : TI.Ok Try.prog 62 ⟨.func, 1, 8, [.nilF], [.val], false⟩ where
  inf := ⟨Try.t62, _, by kernel_rfl, rfl, rfl, rfl, fun _ _ => rfl⟩
  zlen := rfl
  ty := ⟨_, _, _, Try.underlying62⟩
  one := fun _ => rfl
  eq := fun h => by simp at h
theorem ti63 : TI.Ok Try.prog 63 ⟨.func, 1, 8, [.nilF], [.val], false⟩ where
  inf := ⟨Try.t63, _, by kernel_rfl, rfl, rfl, rfl, fun _ _ => rfl⟩
  zlen := rfl
  ty := ⟨_, _, _, Try.underlying63⟩
  one := fun _ => rfl
  eq := fun h => by simp at h
theorem ti64 : TI.Ok Try.prog 64 ⟨.func, 1, 8, [.nilF], [.val], false⟩ where
  inf := ⟨Try.t64, _, by kernel_rfl, rfl, rfl, rfl, fun _ _ => rfl⟩
  zlen := rfl
  ty := ⟨_, _, _, Try.underlying64⟩
  one := fun _ => rfl
  eq := fun h => by simp at h
theorem ti66 : TI.Ok Try.prog 66 ⟨.func, 1, 8, [.nilF], [.val], false⟩ where
  inf := ⟨Try.t66, _, by kernel_rfl, rfl, rfl, rfl, fun _ _ => rfl⟩
  zlen := rfl
  ty := ⟨_, _, _, Try.underlying66⟩
  one := fun _ => rfl
  eq := fun h => by simp at h
theorem ti67 : TI.Ok Try.prog 67 ⟨.func, 1, 8, [.nilF], [.val], false⟩ where
  inf := ⟨Try.t67, _, by kernel_rfl, rfl, rfl, rfl, fun _ _ => rfl⟩
  zlen := rfl
  ty := ⟨_, _, _, Try.underlying67⟩
  one := fun _ => rfl
  eq := fun h => by simp at h
theorem ti68 : TI.Ok Try.prog 68 ⟨.func, 1, 8, [.nilF], [.val], false⟩ where
  inf := ⟨Try.t68, _, by kernel_rfl, rfl, rfl, rfl, fun _ _ => rfl⟩
  zlen := rfl
  ty := ⟨_, _, _, Try.underlying68⟩
  one := fun _ => rfl
  eq := fun h => by simp at h
theorem ti69 : TI.Ok Try.prog 69 ⟨.func, 1, 8, [.nilF], [.val], false⟩ where
  inf := ⟨Try.t69, _, by kernel_rfl, rfl, rfl, rfl, fun _ _ => rfl⟩
  zlen := rfl
  ty := ⟨_, _, _, Try.underlying69⟩
  one := fun _ => rfl
  eq := fun h => by simp at h
theorem ti70 : TI.Ok Try.prog 70 ⟨.func, 1, 8, [.nilF], [.val], false⟩ where
  inf := ⟨Try.t70, _, by kernel_rfl, rfl, rfl, rfl, fun _ _ => rfl⟩
  zlen := rfl
  ty := ⟨_, _, _, Try.underlying70⟩
  one := fun _ => rfl
  eq := fun h => by simp at h
theorem ti71 : TI.Ok Try.prog 71 ⟨.func, 1, 8, [.nilF], [.val], false⟩ where
  inf := ⟨Try.t71, _, by kernel_rfl, rfl, rfl, rfl, fun _ _ => rfl⟩
  zlen := rfl
  ty := ⟨_, _, _, Try.underlying71⟩
  one := fun _ => rfl
  eq := fun h => by simp at h
theorem ti72 : TI.Ok Try.prog 72 ⟨.func, 1, 8, [.nilF], [.val], false⟩ where
  inf := ⟨Try.t72, _, by kernel_rfl, rfl, rfl, rfl, fun _ _ => rfl⟩
  zlen := rfl
  ty := ⟨_, _, _, Try.underlying72⟩
  one := fun _ => rfl
  eq := fun h => by simp at h
theorem ti73 : TI.Ok Try.prog 73 ⟨.int .u64, 1, 8, [.int .u64 (.l 0)], [.int .u64], false⟩ where
  inf := ⟨Try.t73, _, by kernel_rfl, rfl, rfl, rfl, fun _ _ => rfl⟩
  zlen := rfl
  ty := Try.underlying73
  one := fun _ => rfl
  eq := fun h => by simp at h
theorem ti74 : TI.Ok Try.prog 74 ⟨.func, 1, 8, [.nilF], [.val], false⟩ where
  inf := ⟨Try.t74, _, by kernel_rfl, rfl, rfl, rfl, fun _ _ => rfl⟩
  zlen := rfl
  ty := ⟨_, _, _, Try.underlying74⟩
  one := fun _ => rfl
  eq := fun h => by simp at h
theorem ti75 : TI.Ok Try.prog 75 ⟨.func, 1, 8, [.nilF], [.val], false⟩ where
  inf := ⟨Try.t75, _, by kernel_rfl, rfl, rfl, rfl, fun _ _ => rfl⟩
  zlen := rfl
  ty := ⟨_, _, _, Try.underlying75⟩
  one := fun _ => rfl
  eq := fun h => by simp at h
theorem ti76 : TI.Ok Try.prog 76 ⟨.func, 1, 8, [.nilF], [.val], false⟩ where
  inf := ⟨Try.t76, _, by kernel_rfl, rfl, rfl, rfl, fun _ _ => rfl⟩
  zlen := rfl
  ty := ⟨_, _, _, Try.underlying76⟩
  one := fun _ => rfl
  eq := fun h => by simp at h
theorem ti77 : TI.Ok Try.prog 77 ⟨.int .i64, 1, 8, [.int .i64 (.l 0)], [.int .i64], false⟩ where
  inf := ⟨Try.t77, _, by kernel_rfl, rfl, rfl, rfl, fun _ _ => rfl⟩
  zlen := rfl
  ty := Try.underlying77
  one := fun _ => rfl
  eq := fun h => by simp at h
theorem ti79 : TI.Ok Try.prog 79 ⟨.func, 1, 8, [.nilF], [.val], false⟩ where
  inf := ⟨Try.t79, _, by kernel_rfl, rfl, rfl, rfl, fun _ _ => rfl⟩
  zlen := rfl
  ty := ⟨_, _, _, Try.underlying79⟩
  one := fun _ => rfl
  eq := fun h => by simp at h
theorem ti80 : TI.Ok Try.prog 80 ⟨.func, 1, 8, [.nilF], [.val], false⟩ where
  inf := ⟨Try.t80, _, by kernel_rfl, rfl, rfl, rfl, fun _ _ => rfl⟩
  zlen := rfl
  ty := ⟨_, _, _, Try.underlying80⟩
  one := fun _ => rfl
  eq := fun h => by simp at h
theorem ti81 : TI.Ok Try.prog 81 ⟨.func, 1, 8, [.nilF], [.val], false⟩ where
  inf := ⟨Try.t81, _, by kernel_rfl, rfl, rfl, rfl, fun _ _ => rfl⟩
  zlen := rfl
  ty := ⟨_, _, _, Try.underlying81⟩
  one := fun _ => rfl
  eq := fun h => by simp at h
theorem ti83 : TI.Ok Try.prog 83 ⟨.func, 1, 8, [.nilF], [.val], false⟩ where
  inf := ⟨Try.t83, _, by kernel_rfl, rfl, rfl, rfl, fun _ _ => rfl⟩
  zlen := rfl
  ty := ⟨_, _, _, Try.underlying83⟩
  one := fun _ => rfl
  eq := fun h => by simp at h
theorem ti84 : TI.Ok Try.prog 84 ⟨.func, 1, 8, [.nilF], [.val], false⟩ where
  inf := ⟨Try.t84, _, by kernel_rfl, rfl, rfl, rfl, fun _ _ => rfl⟩
  zlen := rfl
  ty := ⟨_, _, _, Try.underlying84⟩
  one := fun _ => rfl
  eq := fun h => by simp at h
theorem ti85 : TI.Ok Try.prog 85 ⟨.int .u32, 1, 4, [.int .u32 (.l 0)], [.int .u32], false⟩ where
  inf := ⟨Try.t85, _, by kernel_rfl, rfl, rfl, rfl, fun _ _ => rfl⟩
  zlen := rfl
  ty := Try.underlying85
  one := fun _ => rfl
  eq := fun h => by simp at h
theorem ti86 : TI.Ok Try.prog 86 ⟨.func, 1, 8, [.nilF], [.val], false⟩ where
  inf := ⟨Try.t86, _, by kernel_rfl, rfl, rfl, rfl, fun _ _ => rfl⟩
  zlen := rfl
  ty := ⟨_, _, _, Try.underlying86⟩
  one := fun _ => rfl
  eq := fun h => by simp at h
theorem ti87 : TI.Ok Try.prog 87 ⟨.int .u64, 1, 8, [.int .u64 (.l 0)], [.int .u64], false⟩ where
  inf := ⟨Try.t87, _, by kernel_rfl, rfl, rfl, rfl, fun _ _ => rfl⟩
  zlen := rfl
  ty := Try.underlying87
  one := fun _ => rfl
  eq := fun h => by simp at h
theorem ti89 : TI.Ok Try.prog 89 ⟨.int .u64, 1, 8, [.int .u64 (.l 0)], [.int .u64], false⟩ where
  inf := ⟨Try.t89, _, by kernel_rfl, rfl, rfl, rfl, fun _ _ => rfl⟩
  zlen := rfl
  ty := Try.underlying89
  one := fun _ => rfl
  eq := fun h => by simp at h
theorem ti90 : TI.Ok Try.prog 90 ⟨.func, 1, 8, [.nilF], [.val], false⟩ where
  inf := ⟨Try.t90, _, by kernel_rfl, rfl, rfl, rfl, fun _ _ => rfl⟩
  zlen := rfl
  ty := ⟨_, _, _, Try.underlying90⟩
  one := fun _ => rfl
  eq := fun h => by simp at h
theorem ti91 : TI.Ok Try.prog 91 ⟨.func, 1, 8, [.nilF], [.val], false⟩ where
  inf := ⟨Try.t91, _, by kernel_rfl, rfl, rfl, rfl, fun _ _ => rfl⟩
  zlen := rfl
  ty := ⟨_, _, _, Try.underlying91⟩
  one := fun _ => rfl
  eq := fun h => by simp at h
theorem ti92 : TI.Ok Try.prog 92 ⟨.func, 1, 8, [.nilF], [.val], false⟩ where
  inf := ⟨Try.t92, _, by kernel_rfl, rfl, rfl, rfl, fun _ _ => rfl⟩
  zlen := rfl
  ty := ⟨_, _, _, Try.underlying92⟩
  one := fun _ => rfl
  eq := fun h => by simp at h
theorem ti93 : TI.Ok Try.prog 93 ⟨.ptr 3, 1, 8, [.nilP], [.val], false⟩ where
  inf := ⟨Try.t93, _, by kernel_rfl, rfl, rfl, rfl, fun _ _ => rfl⟩
  zlen := rfl
  ty := Try.underlying93
  one := fun _ => rfl
  eq := fun h => by simp at h
theorem ti94 : TI.Ok Try.prog 94 ⟨.func, 1, 8, [.nilF], [.val], false⟩ where
  inf := ⟨Try.t94, _, by kernel_rfl, rfl, rfl, rfl, fun _ _ => rfl⟩
  zlen := rfl
  ty := ⟨_, _, _, Try.underlying94⟩
  one := fun _ => rfl
  eq := fun h => by simp at h
theorem ti95 : TI.Ok Try.prog 95 ⟨.ptr 89, 1, 8, [.nilP], [.val], false⟩ where
  inf := ⟨Try.t95, _, by kernel_rfl, rfl, rfl, rfl, fun _ _ => rfl⟩
  zlen := rfl
  ty := Try.underlying95
  one := fun _ => rfl
  eq := fun h => by simp at h
theorem ti97 : TI.Ok Try.prog 97 ⟨.func, 1, 8, [.nilF], [.val], false⟩ where
  inf := ⟨Try.t97, _, by kernel_rfl, rfl, rfl, rfl, fun _ _ => rfl⟩
  zlen := rfl
  ty := ⟨_, _, _, Try.underlying97⟩
  one := fun _ => rfl
  eq := fun h => by simp at h
theorem ti98 : TI.Ok Try.prog 98 ⟨.func, 1, 8, [.nilF], [.val], false⟩ where
  inf := ⟨Try.t98, _, by kernel_rfl, rfl, rfl, rfl, fun _ _ => rfl⟩
  zlen := rfl
  ty := ⟨_, _, _, Try.underlying98⟩
  one := fun _ => rfl
  eq := fun h => by simp at h
theorem ti104 : TI.Ok Try.prog 104 ⟨.func, 1, 8, [.nilF], [.val], false⟩ where
  inf := ⟨Try.t104, _, by kernel_rfl, rfl, rfl, rfl, fun _ _ => rfl⟩
  zlen := rfl
  ty := ⟨_, _, _, Try.underlying104⟩
  one := fun _ => rfl
  eq := fun h => by simp at h
theorem ti107 : TI.Ok Try.prog 107 ⟨.func, 1, 8, [.nilF], [.val], false⟩ where
  inf := ⟨Try.t107, _, by kernel_rfl, rfl, rfl, rfl, fun _ _ => rfl⟩
  zlen := rfl
  ty := ⟨_, _, _, Try.underlying107⟩
  one := fun _ => rfl
  eq := fun h => by simp at h
theorem ti108 : TI.Ok Try.prog 108 ⟨.ptr 5, 1, 8, [.nilP], [.val], false⟩ where
  inf := ⟨Try.t108, _, by kernel_rfl, rfl, rfl, rfl, fun _ _ => rfl⟩
  zlen := rfl
  ty := Try.underlying108
  one := fun _ => rfl
  eq := fun h => by simp at h
theorem mt88 : MT.Ok Try.prog 88 ⟨.i64, 3, 4, .bool (.t false), .one .bool⟩ := ⟨Try.underlying88, Try.underlying3, ⟨Try.t4, _, by kernel_rfl, rfl, fun _ _ => rfl⟩⟩
theorem look_mem {α : Type} {k : Nat} {x : α} : ∀ {l : List (Nat × α)}, lookN k l = some x → (k, x) ∈ l
  | [], h => by simp [lookN] at h
  | (j, y) :: l, h => by
    simp only [lookN] at h
    split at h
    · rename_i hj
      simp only [Option.some.injEq] at h
      rw [Nat.eq_of_beq_eq_true hj, h]; exact List.mem_cons_self
    · exact List.mem_cons_of_mem _ (look_mem h)
theorem progOk (nw : Bool) (stops : List (List Bool)) (cstops : List (List Bool × Nat)) : ProgOk Try.prog (cx nw stops cstops) where
  mixed := by kernel_rfl
  tab t i h := by
    have h := look_mem h
    simp only [tabL, List.mem_cons, Prod.mk.injEq, List.not_mem_nil, or_false] at h
    rcases h with ⟨rfl, rfl⟩ | ⟨rfl, rfl⟩ | ⟨rfl, rfl⟩ | ⟨rfl, rfl⟩ | ⟨rfl, rfl⟩ | ⟨rfl, rfl⟩ | ⟨rfl, rfl⟩ | ⟨rfl, rfl⟩ | ⟨rfl, rfl⟩ | ⟨rfl, rfl⟩ | ⟨rfl, rfl⟩ | ⟨rfl, rfl⟩ | ⟨rfl, rfl⟩ | ⟨rfl, rfl⟩ | ⟨rfl, rfl⟩ | ⟨rfl, rfl⟩ | ⟨rfl, rfl⟩ | ⟨rfl, rfl⟩ | ⟨rfl, rfl⟩ | ⟨rfl, rfl⟩ | ⟨rfl, rfl⟩ | ⟨rfl, rfl⟩ | ⟨rfl, rfl⟩ | ⟨rfl, rfl⟩ | ⟨rfl, rfl⟩ | ⟨rfl, rfl⟩ | ⟨rfl, rfl⟩ | ⟨rfl, rfl⟩ | ⟨rfl, rfl⟩ | ⟨rfl, rfl⟩ | ⟨rfl, rfl⟩ | ⟨rfl, rfl⟩ | ⟨rfl, rfl⟩ | ⟨rfl, rfl⟩ | ⟨rfl, rfl⟩ | ⟨rfl, rfl⟩ | ⟨rfl, rfl⟩ | ⟨rfl, rfl⟩ | ⟨rfl, rfl⟩ | ⟨rfl, rfl⟩ | ⟨rfl, rfl⟩ | ⟨rfl, rfl⟩ | ⟨rfl, rfl⟩ | ⟨rfl, rfl⟩ | ⟨rfl, rfl⟩ | ⟨rfl, rfl⟩ | ⟨rfl, rfl⟩ | ⟨rfl, rfl⟩ | ⟨rfl, rfl⟩ | ⟨rfl, rfl⟩ | ⟨rfl, rfl⟩ | ⟨rfl, rfl⟩ | ⟨rfl, rfl⟩ | ⟨rfl, rfl⟩ | ⟨rfl, rfl⟩ | ⟨rfl, rfl⟩ | ⟨rfl, rfl⟩ | ⟨rfl, rfl⟩ | ⟨rfl, rfl⟩ | ⟨rfl, rfl⟩ | ⟨rfl, rfl⟩ | ⟨rfl, rfl⟩ | ⟨rfl, rfl⟩ | ⟨rfl, rfl⟩ | ⟨rfl, rfl⟩ | ⟨rfl, rfl⟩ | ⟨rfl, rfl⟩ | ⟨rfl, rfl⟩ | ⟨rfl, rfl⟩ | ⟨rfl, rfl⟩ | ⟨rfl, rfl⟩ | ⟨rfl, rfl⟩ | ⟨rfl, rfl⟩ | ⟨rfl, rfl⟩ | ⟨rfl, rfl⟩ | ⟨rfl, rfl⟩ | ⟨rfl, rfl⟩ | ⟨rfl, rfl⟩ | ⟨rfl, rfl⟩ | ⟨rfl, rfl⟩ | ⟨rfl, rfl⟩
    · exact ti1
    · exact ti2
    · exact ti3
    · exact ti4
    · exact ti5
    · exact ti9
    · exact ti12
    · exact ti21
    · exact ti22
    · exact ti23
    · exact ti24
    · exact ti25
    · exact ti26
    · exact ti27
    · exact ti28
    · exact ti29
    · exact ti30
    · exact ti31
    · exact ti32
    · exact ti33
    · exact ti34
    · exact ti36
    · exact ti37
    · exact ti38
    · exact ti39
    · exact ti40
    · exact ti41
    · exact ti42
    · exact ti43
    · exact ti44
    · exact ti45
    · exact ti46
    · exact ti47
    · exact ti48
    · exact ti49
    · exact ti50
    · exact ti52
    · exact ti53
    · exact ti54
    · exact ti55
    · exact ti56
    · exact ti57
    · exact ti58
    · exact ti59
    · exact ti60
    · exact ti61
    · exact ti62
    · exact ti63
    · exact ti64
    · exact ti66
    · exact ti67
    · exact ti68
    · exact ti69
    · exact ti70
    · exact ti71
    · exact ti72
    · exact ti73
    · exact ti74
    · exact ti75
    · exact ti76
    · exact ti77
    · exact ti79
    · exact ti80
    · exact ti81
    · exact ti83
    · exact ti84
    · exact ti85
    · exact ti86
    · exact ti87
    · exact ti89
    · exact ti90
    · exact ti91
    · exact ti92
    · exact ti93
    · exact ti94
    · exact ti95
    · exact ti97
    · exact ti98
    · exact ti104
    · exact ti107
    · exact ti108
  mtab t i h := by
    have h := look_mem h
    simp only [mtabL, List.mem_cons, Prod.mk.injEq, List.not_mem_nil, or_false] at h
    rcases h with ⟨rfl, rfl⟩
    · exact mt88
  call f h args w := by
    simp only [cx, Option.isSome_iff_exists] at h
    obtain ⟨x, h⟩ := h
    have h := look_mem h
    simp only [retsL, List.mem_cons, Prod.mk.injEq, List.not_mem_nil, or_false] at h
    rcases h with ⟨rfl, _⟩ | ⟨rfl, _⟩ | ⟨rfl, _⟩ | ⟨rfl, _⟩ | ⟨rfl, _⟩ | ⟨rfl, _⟩ | ⟨rfl, _⟩ | ⟨rfl, _⟩ | ⟨rfl, _⟩ | ⟨rfl, _⟩ | ⟨rfl, _⟩ | ⟨rfl, _⟩ | ⟨rfl, _⟩ | ⟨rfl, _⟩ | ⟨rfl, _⟩ | ⟨rfl, _⟩ | ⟨rfl, _⟩ | ⟨rfl, _⟩ | ⟨rfl, _⟩ | ⟨rfl, _⟩ | ⟨rfl, _⟩ | ⟨rfl, _⟩ | ⟨rfl, _⟩ | ⟨rfl, _⟩ | ⟨rfl, _⟩ | ⟨rfl, _⟩ | ⟨rfl, _⟩ | ⟨rfl, _⟩ | ⟨rfl, _⟩ | ⟨rfl, _⟩ | ⟨rfl, _⟩ | ⟨rfl, _⟩ | ⟨rfl, _⟩ | ⟨rfl, _⟩ | ⟨rfl, _⟩ | ⟨rfl, _⟩ | ⟨rfl, _⟩ | ⟨rfl, _⟩ | ⟨rfl, _⟩ | ⟨rfl, _⟩ | ⟨rfl, _⟩ | ⟨rfl, _⟩ | ⟨rfl, _⟩ | ⟨rfl, _⟩ | ⟨rfl, _⟩ | ⟨rfl, _⟩ | ⟨rfl, _⟩ | ⟨rfl, _⟩ | ⟨rfl, _⟩ | ⟨rfl, _⟩ | ⟨rfl, _⟩ | ⟨rfl, _⟩ | ⟨rfl, _⟩ | ⟨rfl, _⟩ | ⟨rfl, _⟩ | ⟨rfl, _⟩ | ⟨rfl, _⟩ | ⟨rfl, _⟩ | ⟨rfl, _⟩ | ⟨rfl, _⟩ | ⟨rfl, _⟩ | ⟨rfl, _⟩ | ⟨rfl, _⟩ | ⟨rfl, _⟩ | ⟨rfl, _⟩ | ⟨rfl, _⟩ | ⟨rfl, _⟩ | ⟨rfl, _⟩
    · exact Try.call2 args w
    · exact Try.call3 args w
    · exact Try.call4 args w
    · exact Try.call5 args w
    · exact Try.call6 args w
    · exact Try.call7 args w
    · exact Try.call8 args w
    · exact Try.call9 args w
    · exact Try.call10 args w
    · exact Try.call11 args w
    · exact Try.call12 args w
    · exact Try.call13 args w
    · exact Try.call14 args w
    · exact Try.call15 args w
    · exact Try.call16 args w
    · exact Try.call17 args w
    · exact Try.call18 args w
    · exact Try.call19 args w
    · exact Try.call20 args w
    · exact Try.call21 args w
    · exact Try.call22 args w
    · exact Try.call23 args w
    · exact Try.call24 args w
    · exact Try.call25 args w
    · exact Try.call26 args w
    · exact Try.call27 args w
    · exact Try.call28 args w
    · exact Try.call29 args w
    · exact Try.call30 args w
    · exact Try.call31 args w
    · exact Try.call32 args w
    · exact Try.call33 args w
    · exact Try.call34 args w
    · exact Try.call35 args w
    · exact Try.call36 args w
    · exact Try.call37 args w
    · exact Try.call38 args w
    · exact Try.call39 args w
    · exact Try.call40 args w
    · exact Try.call41 args w
    · exact Try.call42 args w
    · exact Try.call43 args w
    · exact Try.call44 args w
    · exact Try.call45 args w
    · exact Try.call46 args w
    · exact Try.call47 args w
    · exact Try.call48 args w
    · exact Try.call49 args w
    · exact Try.call50 args w
    · exact Try.call51 args w
    · exact Try.call52 args w
    · exact Try.call53 args w
    · exact Try.call54 args w
    · exact Try.call55 args w
    · exact Try.call56 args w
    · exact Try.call57 args w
    · exact Try.call58 args w
    · exact Try.call59 args w
    · exact Try.call60 args w
    · exact Try.call61 args w
    · exact Try.call62 args w
    · exact Try.call63 args w
    · exact Try.call64 args w
    · exact Try.call65 args w
    · exact Try.call66 args w
    · exact Try.call67 args w
    · exact Try.call68 args w
    · exact Try.call69 args w
def cl (nw : Bool) (stops : List (List Bool)) (cstops : List (List Bool × Nat)) : Ctx := { cx nw stops cstops with leaf := true }
theorem progOkL (nw : Bool) (stops : List (List Bool)) (cstops : List (List Bool × Nat)) : ProgOk Try.prog (cl nw stops cstops) := ⟨(progOk nw stops cstops).tab, (progOk nw stops cstops).mixed, (progOk nw stops cstops).call, (progOk nw stops cstops).mtab⟩
def ch (nw : Bool) (stops : List (List Bool)) (cstops : List (List Bool × Nat)) : Ctx := { cx nw stops cstops with leaf := true, hole := true, rowl := false }
def cr (nw : Bool) (stops : List (List Bool)) (cstops : List (List Bool × Nat)) : Ctx := { cx nw stops cstops with rowl := true }
theorem progOkR (nw : Bool) (stops : List (List Bool)) (cstops : List (List Bool × Nat)) : ProgOk Try.prog (cr nw stops cstops) := ⟨(progOk nw stops cstops).tab, (progOk nw stops cstops).mixed, (progOk nw stops cstops).call, (progOk nw stops cstops).mtab⟩
theorem progOkH (nw : Bool) (stops : List (List Bool)) (cstops : List (List Bool × Nat)) : ProgOk Try.prog (ch nw stops cstops) := ⟨(progOk nw stops cstops).tab, (progOk nw stops cstops).mixed, (progOk nw stops cstops).call, (progOk nw stops cstops).mtab⟩
theorem ProgOk_of {c c' : Ctx} (h : ProgOk Try.prog c) (h1 : c'.tab = c.tab) (h2 : c'.fok = c.fok) (h3 : c'.mtab = c.mtab) : ProgOk Try.prog c' := ⟨by rw [h1]; exact h.tab, h.mixed, by rw [h2]; exact h.call, by rw [h3]; exact h.mtab⟩
def cg (stops : List (List Bool)) (amb : List Nat) (vrets : List (Nat × List Nat)) (nofl gen live : Bool) (nw : Bool := true) (joins : List (List Bool) := []) (noflT : List Nat := []) : Ctx := { cx nw stops [] with rowl := true, amb, vrets, nofl, gen, live, joins, noflT }
theorem progOkG (stops : List (List Bool)) (amb : List Nat) (vrets : List (Nat × List Nat)) (nofl gen live : Bool) (nw : Bool := true) (joins : List (List Bool) := []) (noflT : List Nat := []) : ProgOk Try.prog (cg stops amb vrets nofl gen live nw joins noflT) := ProgOk_of (progOk true [] []) rfl rfl rfl
end Go.Proofs.Ytggjcdnailppoaa
