/- The table of types and functions of this seat, as the executor reads it. Written by gentab.py. -/
import Derived.Test.YtfbhgmnbndlipaaHSxN
import Derived.Test.YtfbhgmnbndlipaaProg
namespace Go.Proofs.Ytfbhgmnbndlipaa
open Go.Sx
def tabL : List (Nat × TI) := [
  (1, ⟨.func, 1, 8, [.nilF], [.val], false⟩),
  (2, ⟨.int .i64, 1, 8, [.int .i64 (.l 0)], [.int .i64], false⟩),
  (3, ⟨.int .i64, 1, 8, [.int .i64 (.l 0)], [.int .i64], false⟩),
  (4, ⟨.bool, 1, 1, [.bool (.t false)], [.bool], false⟩),
  (5, ⟨.int .u8, 1, 1, [.int .u8 (.l 0)], [.int .u8], false⟩),
  (9, ⟨.str, 1, 16, [.str []], [.val], false⟩),
  (12, ⟨.int .u64, 1, 8, [.int .u64 (.l 0)], [.int .u64], false⟩),
  (21, ⟨.int .i32, 1, 4, [.int .i32 (.l 0)], [.int .i32], false⟩),
  (22, ⟨.arr 6 3, 6, 48, [.int .i64 (.l 0), .int .i64 (.l 0), .int .i64 (.l 0), .int .i64 (.l 0), .int .i64 (.l 0), .int .i64 (.l 0)], [.int .i64, .int .i64, .int .i64, .int .i64, .int .i64, .int .i64], true⟩),
  (23, ⟨.arr 6 3, 6, 48, [.int .i64 (.l 0), .int .i64 (.l 0), .int .i64 (.l 0), .int .i64 (.l 0), .int .i64 (.l 0), .int .i64 (.l 0)], [.int .i64, .int .i64, .int .i64, .int .i64, .int .i64, .int .i64], true⟩),
  (24, ⟨.int .i64, 1, 8, [.int .i64 (.l 0)], [.int .i64], false⟩),
  (26, ⟨.func, 1, 8, [.nilF], [.val], false⟩),
  (27, ⟨.func, 1, 8, [.nilF], [.val], false⟩),
  (28, ⟨.func, 1, 8, [.nilF], [.val], false⟩),
  (29, ⟨.func, 1, 8, [.nilF], [.val], false⟩),
  (31, ⟨.func, 1, 8, [.nilF], [.val], false⟩),
  (32, ⟨.func, 1, 8, [.nilF], [.val], false⟩),
  (33, ⟨.func, 1, 8, [.nilF], [.val], false⟩),
  (34, ⟨.func, 1, 8, [.nilF], [.val], false⟩),
  (35, ⟨.func, 1, 8, [.nilF], [.val], false⟩),
  (36, ⟨.arr 6 2, 6, 48, [.int .i64 (.l 0), .int .i64 (.l 0), .int .i64 (.l 0), .int .i64 (.l 0), .int .i64 (.l 0), .int .i64 (.l 0)], [.int .i64, .int .i64, .int .i64, .int .i64, .int .i64, .int .i64], true⟩),
  (37, ⟨.arr 6 2, 6, 48, [.int .i64 (.l 0), .int .i64 (.l 0), .int .i64 (.l 0), .int .i64 (.l 0), .int .i64 (.l 0), .int .i64 (.l 0)], [.int .i64, .int .i64, .int .i64, .int .i64, .int .i64, .int .i64], true⟩),
  (38, ⟨.func, 1, 8, [.nilF], [.val], false⟩),
  (39, ⟨.func, 1, 8, [.nilF], [.val], false⟩),
  (40, ⟨.func, 1, 8, [.nilF], [.val], false⟩),
  (41, ⟨.slice 23, 1, 24, [.nilS], [.val], false⟩),
  (42, ⟨.func, 1, 8, [.nilF], [.val], false⟩),
  (43, ⟨.func, 1, 8, [.nilF], [.val], false⟩),
  (44, ⟨.func, 1, 8, [.nilF], [.val], false⟩),
  (45, ⟨.func, 1, 8, [.nilF], [.val], false⟩),
  (46, ⟨.func, 1, 8, [.nilF], [.val], false⟩),
  (47, ⟨.func, 1, 8, [.nilF], [.val], false⟩),
  (48, ⟨.func, 1, 8, [.nilF], [.val], false⟩),
  (49, ⟨.func, 1, 8, [.nilF], [.val], false⟩),
  (50, ⟨.func, 1, 8, [.nilF], [.val], false⟩),
  (56, ⟨.func, 1, 8, [.nilF], [.val], false⟩),
  (57, ⟨.int .u32, 1, 4, [.int .u32 (.l 0)], [.int .u32], false⟩),
  (60, ⟨.func, 1, 8, [.nilF], [.val], false⟩),
  (61, ⟨.ptr 5, 1, 8, [.nilP], [.val], false⟩)]
def retsL : List (Nat × List Nat) := [
  (2, []),
  (3, [4]),
  (4, [4]),
  (5, [4]),
  (6, [4]),
  (7, [4]),
  (8, [4]),
  (9, [3, 24]),
  (10, [3, 24]),
  (11, [3]),
  (12, [3]),
  (13, [4]),
  (14, [23, 24]),
  (15, [23, 24]),
  (16, [3]),
  (17, [24]),
  (18, [24]),
  (19, [23]),
  (20, [23]),
  (21, [23]),
  (22, [23]),
  (23, [4]),
  (24, [4]),
  (25, [3]),
  (26, [4]),
  (27, [23]),
  (28, [23]),
  (29, [23]),
  (30, [23]),
  (31, [3]),
  (32, [3]),
  (33, [2]),
  (34, [2]),
  (35, [41]),
  (36, [44]),
  (37, [41]),
  (38, [48]),
  (39, []),
  (40, [44]),
  (41, []),
  (42, []),
  (43, [23])]
def lookN {α : Type} (k : Nat) : List (Nat × α) → Option α
  | [] => none
  | (j, x) :: l => if Nat.beq j k then some x else lookN k l
def cx (nw : Bool) (stops : List (List Bool)) (cstops : List (List Bool × Nat)) : Ctx :=
  { tab := fun t => lookN t tabL, rets := fun f => (lookN f retsL).getD [], fok := fun f => (lookN f retsL).isSome, nw, stops, cstops }
theorem ti1 : TI.Ok Try.prog 1 ⟨.func, 1, 8, [.nilF], [.val], false⟩ where
  inf := ⟨Try.t1, _, by kernel_rfl, rfl, rfl, rfl, fun _ _ => rfl⟩
  zlen := rfl
  ty := ⟨_, _, _, Try.underlying1⟩
  one := fun _ => rfl
  eq := fun h => by simp at h
theorem ti2 : TI.Ok Try.prog 2 ⟨.int .i64, 1, 8, [.int .i64 (.l 0)], [.int .i64], false⟩ where
  inf := ⟨Try.t2, _, by kernel_rfl, rfl, rfl, rfl, fun _ _ => rfl⟩
  zlen := rfl
  ty := Try.underlying2
  one := fun _ => rfl
  eq := fun h => by simp at h
theorem ti3 : TI.Ok Try.prog 3 ⟨.int .i64, 1, 8, [.int .i64 (.l 0)], [.int .i64], false⟩ where
  inf := ⟨Try.t3, _, by kernel_rfl, rfl, rfl, rfl, fun _ _ => rfl⟩
  zlen := rfl
  ty := Try.underlying3
  one := fun _ => rfl
  eq := fun h => by simp at h
theorem ti4 : TI.Ok Try.prog 4 ⟨.bool, 1, 1, [.bool (.t false)], [.bool], false⟩ where
  inf := ⟨Try.t4, _, by kernel_rfl, rfl, rfl, rfl, fun _ _ => rfl⟩
  zlen := rfl
  ty := Try.underlying4
  one := fun _ => rfl
  eq := fun h => by simp at h
theorem ti5 : TI.Ok Try.prog 5 ⟨.int .u8, 1, 1, [.int .u8 (.l 0)], [.int .u8], false⟩ where
  inf := ⟨Try.t5, _, by kernel_rfl, rfl, rfl, rfl, fun _ _ => rfl⟩
  zlen := rfl
  ty := Try.underlying5
  one := fun _ => rfl
  eq := fun h => by simp at h
theorem ti9 : TI.Ok Try.prog 9 ⟨.str, 1, 16, [.str []], [.val], false⟩ where
  inf := ⟨Try.t9, _, by kernel_rfl, rfl, rfl, rfl, fun _ _ => rfl⟩
  zlen := rfl
  ty := Try.underlying9
  one := fun _ => rfl
  eq := fun h => by simp at h
theorem ti12 : TI.Ok Try.prog 12 ⟨.int .u64, 1, 8, [.int .u64 (.l 0)], [.int .u64], false⟩ where
  inf := ⟨Try.t12, _, by kernel_rfl, rfl, rfl, rfl, fun _ _ => rfl⟩
  zlen := rfl
  ty := Try.underlying12
  one := fun _ => rfl
  eq := fun h => by simp at h
theorem ti21 : TI.Ok Try.prog 21 ⟨.int .i32, 1, 4, [.int .i32 (.l 0)], [.int .i32], false⟩ where
  inf := ⟨Try.t21, _, by kernel_rfl, rfl, rfl, rfl, fun _ _ => rfl⟩
  zlen := rfl
  ty := Try.underlying21
  one := fun _ => rfl
  eq := fun h => by simp at h
theorem ti22 : TI.Ok Try.prog 22 ⟨.arr 6 3, 6, 48, [.int .i64 (.l 0), .int .i64 (.l 0), .int .i64 (.l 0), .int .i64 (.l 0), .int .i64 (.l 0), .int .i64 (.l 0)], [.int .i64, .int .i64, .int .i64, .int .i64, .int .i64, .int .i64], true⟩ where
  inf := ⟨Try.t22, _, by kernel_rfl, rfl, rfl, rfl, fun _ _ => rfl⟩
  zlen := rfl
  ty := Try.underlying22
  one := fun h => by simp [TI.isAgg] at h
  eq := fun _ => ⟨Try.eqGuardType22, fun w zs us h1 h2 => (show EqT Try.prog 10000 22 true _ from (eqT_array (inf := Try.t3) (eqT_int Try.underlying3 (Try.sizeOf3) (by kernel_rfl) 9998) Try.underlying22 (by kernel_rfl) (Try.sizeOf22) (by kernel_rfl))).eq w zs us h1 h2⟩
theorem ti23 : TI.Ok Try.prog 23 ⟨.arr 6 3, 6, 48, [.int .i64 (.l 0), .int .i64 (.l 0), .int .i64 (.l 0), .int .i64 (.l 0), .int .i64 (.l 0), .int .i64 (.l 0)], [.int .i64, .int .i64, .int .i64, .int .i64, .int .i64, .int .i64], true⟩ where
  inf := ⟨Try.t23, _, by kernel_rfl, rfl, rfl, rfl, fun _ _ => rfl⟩
  zlen := rfl
  ty := Try.underlying23
  one := fun h => by simp [TI.isAgg] at h
  eq := fun _ => ⟨Try.eqGuardType23, fun w zs us h1 h2 => (show EqT Try.prog 10000 23 true _ from (eqT_array (inf := Try.t3) (eqT_int Try.underlying3 (Try.sizeOf3) (by kernel_rfl) 9998) Try.underlying23 (by kernel_rfl) (Try.sizeOf23) (by kernel_rfl))).eq w zs us h1 h2⟩
theorem ti24 : TI.Ok Try.prog 24 ⟨.int .i64, 1, 8, [.int .i64 (.l 0)], [.int .i64], false⟩ where
  inf := ⟨Try.t24, _, by kernel_rfl, rfl, rfl, rfl, fun _ _ => rfl⟩
  zlen := rfl
  ty := Try.underlying24
  one := fun _ => rfl
  eq := fun h => by simp at h
theorem ti26 : TI.Ok Try.prog 26 ⟨.func, 1, 8, [.nilF], [.val], false⟩ where
  inf := ⟨Try.t26, _, by kernel_rfl, rfl, rfl, rfl, fun _ _ => rfl⟩
  zlen := rfl
  ty := ⟨_, _, _, Try.underlying26⟩
  one := fun _ => rfl
  eq := fun h => by simp at h
theorem ti27 : TI.Ok Try.prog 27 ⟨.func, 1, 8, [.nilF], [.val], false⟩ where
  inf := ⟨Try.t27, _, by kernel_rfl, rfl, rfl, rfl, fun _ _ => rfl⟩
  zlen := rfl
  ty := ⟨_, _, _, Try.underlying27⟩
  one := fun _ => rfl
  eq := fun h => by simp at h
theorem ti28 : TI.Ok Try.prog 28 ⟨.func, 1, 8, [.nilF], [.val], false⟩ where
  inf := ⟨Try.t28, _, by kernel_rfl, rfl, rfl, rfl, fun _ _ => rfl⟩
  zlen := rfl
  ty := ⟨_, _, _, Try.underlying28⟩
  one := fun _ => rfl
  eq := fun h => by simp at h
theorem ti29 : TI.Ok Try.prog 29 ⟨.func, 1, 8, [.nilF], [.val], false⟩ where
  inf := ⟨Try.t29, _, by kernel_rfl, rfl, rfl, rfl, fun _ _ => rfl⟩
  zlen := rfl
  ty := ⟨_, _, _, Try.underlying29⟩
  one := fun _ => rfl
  eq := fun h => by simp at h
theorem ti31 : TI.Ok Try.prog 31 ⟨.func, 1, 8, [.nilF], [.val], false⟩ where
  inf := ⟨Try.t31, _, by kernel_rfl, rfl, rfl, rfl, fun _ _ => rfl⟩
  zlen := rfl
  ty := ⟨_, _, _, Try.underlying31⟩
  one := fun _ => rfl
  eq := fun h => by simp at h
theorem ti32 : TI.Ok Try.prog 32 ⟨.func, 1, 8, [.nilF], [.val], false⟩ where
  inf := ⟨Try.t32, _, by kernel_rfl, rfl, rfl, rfl, fun _ _ => rfl⟩
  zlen := rfl
  ty := ⟨_, _, _, Try.underlying32⟩
  one := fun _ => rfl
  eq := fun h => by simp at h
theorem ti33 : TI.Ok Try.prog 33 ⟨.func, 1, 8, [.nilF], [.val], false⟩ where
  inf := ⟨Try.t33, _, by kernel_rfl, rfl, rfl, rfl, fun _ _ => rfl⟩
  zlen := rfl
  ty := ⟨_, _, _, Try.underlying33⟩
  one := fun _ => rfl
  eq := fun h => by simp at h
theorem ti34 : TI.Ok Try.prog 34 ⟨.func, 1, 8, [.nilF], [.val], false⟩ where
  inf := ⟨Try.t34, _, by kernel_rfl, rfl, rfl, rfl, fun _ _ => rfl⟩
  zlen := rfl
  ty := ⟨_, _, _, Try.underlying34⟩
  one := fun _ => rfl
  eq := fun h => by simp at h
theorem ti35 : TI.Ok Try.prog 35 ⟨.func, 1, 8, [.nilF], [.val], false⟩ where
  inf := ⟨Try.t35, _, by kernel_rfl, rfl, rfl, rfl, fun _ _ => rfl⟩
  zlen := rfl
  ty := ⟨_, _, _, Try.underlying35⟩
  one := fun _ => rfl
  eq := fun h => by simp at h
theorem ti36 : TI.Ok Try.prog 36 ⟨.arr 6 2, 6, 48, [.int .i64 (.l 0), .int .i64 (.l 0), .int .i64 (.l 0), .int .i64 (.l 0), .int .i64 (.l 0), .int .i64 (.l 0)], [.int .i64, .int .i64, .int .i64, .int .i64, .int .i64, .int .i64], true⟩ where
  inf := ⟨Try.t36, _, by kernel_rfl, rfl, rfl, rfl, fun _ _ => rfl⟩
  zlen := rfl
  ty := Try.underlying36
  one := fun h => by simp [TI.isAgg] at h
  eq := fun _ => ⟨Try.eqGuardType36, fun w zs us h1 h2 => (show EqT Try.prog 10000 36 true _ from (eqT_array (inf := Try.t2) (eqT_int Try.underlying2 (Try.sizeOf2) (by kernel_rfl) 9998) Try.underlying36 (by kernel_rfl) (Try.sizeOf36) (by kernel_rfl))).eq w zs us h1 h2⟩
theorem ti37 : TI.Ok Try.prog 37 ⟨.arr 6 2, 6, 48, [.int .i64 (.l 0), .int .i64 (.l 0), .int .i64 (.l 0), .int .i64 (.l 0), .int .i64 (.l 0), .int .i64 (.l 0)], [.int .i64, .int .i64, .int .i64, .int .i64, .int .i64, .int .i64], true⟩ where
  inf := ⟨Try.t37, _, by kernel_rfl, rfl, rfl, rfl, fun _ _ => rfl⟩
  zlen := rfl
  ty := Try.underlying37
  one := fun h => by simp [TI.isAgg] at h
  eq := fun _ => ⟨Try.eqGuardType37, fun w zs us h1 h2 => (show EqT Try.prog 10000 37 true _ from (eqT_array (inf := Try.t2) (eqT_int Try.underlying2 (Try.sizeOf2) (by kernel_rfl) 9998) Try.underlying37 (by kernel_rfl) (Try.sizeOf37) (by kernel_rfl))).eq w zs us h1 h2⟩
theorem ti38 : TI.Ok Try.prog 38 ⟨.func, 1, 8, [.nilF], [.val], false⟩ where
  inf := ⟨Try.t38, _, by kernel_rfl, rfl, rfl, rfl, fun _ _ => rfl⟩
  zlen := rfl
  ty := ⟨_, _, _, Try.underlying38⟩
  one := fun _ => rfl
  eq := fun h => by simp at h
theorem ti39 : TI.Ok Try.prog 39 ⟨.func, 1, 8, [.nilF], [.val], false⟩ where
  inf := ⟨Try.t39, _, by kernel_rfl, rfl, rfl, rfl, fun _ _ => rfl⟩
  zlen := rfl
  ty := ⟨_, _, _, Try.underlying39⟩
  one := fun _ => rfl
  eq := fun h => by simp at h
theorem ti40 : TI.Ok Try.prog 40 ⟨.func, 1, 8, [.nilF], [.val], false⟩ where
  inf := ⟨Try.t40, _, by kernel_rfl, rfl, rfl, rfl, fun _ _ => rfl⟩
  zlen := rfl
  ty := ⟨_, _, _, Try.underlying40⟩
  one := fun _ => rfl
  eq := fun h => by simp at h
theorem ti41 : TI.Ok Try.prog 41 ⟨.slice 23, 1, 24, [.nilS], [.val], false⟩ where
  inf := ⟨Try.t41, _, by kernel_rfl, rfl, rfl, rfl, fun _ _ => rfl⟩
  zlen := rfl
  ty := Try.underlying41
  one := fun _ => rfl
  eq := fun h => by simp at h
theorem ti42 : TI.Ok Try.prog 42 ⟨.func, 1, 8, [.nilF], [.val], false⟩ where
  inf := ⟨Try.t42, _, by kernel_rfl, rfl, rfl, rfl, fun _ _ => rfl⟩
  zlen := rfl
  ty := ⟨_, _, _, Try.underlying42⟩
  one := fun _ => rfl
  eq := fun h => by simp at h
theorem ti43 : TI.Ok Try.prog 43 ⟨.func, 1, 8, [.nilF], [.val], false⟩ where
  inf := ⟨Try.t43, _, by kernel_rfl, rfl, rfl, rfl, fun _ _ => rfl⟩
  zlen := rfl
  ty := ⟨_, _, _, Try.underlying43⟩
  one := fun _ => rfl
  eq := fun h => by simp at h
theorem ti44 : TI.Ok Try.prog 44 ⟨.func, 1, 8, [.nilF], [.val], false⟩ where
  inf := ⟨Try.t44, _, by kernel_rfl, rfl, rfl, rfl, fun _ _ => rfl⟩
  zlen := rfl
  ty := ⟨_, _, _, Try.underlying44⟩
  one := fun _ => rfl
  eq := fun h => by simp at h
theorem ti45 : TI.Ok Try.prog 45 ⟨.func, 1, 8, [.nilF], [.val], false⟩ where
  inf := ⟨Try.t45, _, by kernel_rfl, rfl, rfl, rfl, fun _ _ => rfl⟩
  zlen := rfl
  ty := ⟨_, _, _, Try.underlying45⟩
  one := fun _ => rfl
  eq := fun h => by simp at h
theorem ti46 : TI.Ok Try.prog 46 ⟨.func, 1, 8, [.nilF], [.val], false⟩ where
  inf := ⟨Try.t46, _, by kernel_rfl, rfl, rfl, rfl, fun _ _ => rfl⟩
  zlen := rfl
  ty := ⟨_, _, _, Try.underlying46⟩
  one := fun _ => rfl
  eq := fun h => by simp at h
theorem ti47 : TI.Ok Try.prog 47 ⟨.func, 1, 8, [.nilF], [.val], false⟩ where
  inf := ⟨Try.t47, _, by kernel_rfl, rfl, rfl, rfl, fun _ _ => rfl⟩
  zlen := rfl
  ty := ⟨_, _, _, Try.underlying47⟩
  one := fun _ => rfl
  eq := fun h => by simp at h
theorem ti48 : TI.Ok Try.prog 48 ⟨.func, 1, 8, [.nilF], [.val], false⟩ where
  inf := ⟨Try.t48, _, by kernel_rfl, rfl, rfl, rfl, fun _ _ => rfl⟩
  zlen := rfl
  ty := ⟨_, _, _, Try.underlying48⟩
  one := fun _ => rfl
  eq := fun h => by simp at h
theorem ti49 : TI.Ok Try.prog 49 ⟨.func, 1, 8, [.nilF], [.val], false⟩ where
  inf := ⟨Try.t49, _, by kernel_rfl, rfl, rfl, rfl, fun _ _ => rfl⟩
  zlen := rfl
  ty := ⟨_, _, _, Try.underlying49⟩
  one := fun _ => rfl
  eq := fun h => by simp at h
theorem ti50 : TI.Ok Try.prog 50 ⟨.func, 1, 8, [.nilF], [.val], false⟩ where
  inf := ⟨Try.t50, _, by kernel_rfl, rfl, rfl, rfl, fun _ _ => rfl⟩
  zlen := rfl
  ty := ⟨_, _, _, Try.underlying50⟩
  one := fun _ => rfl
  eq := fun h => by simp at h
theorem ti56 : TI.Ok Try.prog 56 ⟨.func, 1, 8, [.nilF], [.val], false⟩ where
  inf := ⟨Try.t56, _, by kernel_rfl, rfl, rfl, rfl, fun _ _ => rfl⟩
  zlen := rfl
  ty := ⟨_, _, _, Try.underlying56⟩
  one := fun _ => rfl
  eq := fun h => by simp at h
theorem ti57 : TI.Ok Try.prog 57 ⟨.int .u32, 1, 4, [.int .u32 (.l 0)], [.int .u32], false⟩ where
  inf := ⟨Try.t57, _, by kernel_rfl, rfl, rfl, rfl, fun _ _ => rfl⟩
  zlen := rfl
  ty := Try.underlying57
  one := fun _ => rfl
  eq := fun h => by simp at h
theorem ti60 : TI.Ok Try.prog 60 ⟨.func, 1, 8, [.nilF], [.val], false⟩ where
  inf := ⟨Try.t60, _, by kernel_rfl, rfl, rfl, rfl, fun _ _ => rfl⟩
  zlen := rfl
  ty := ⟨_, _, _, Try.underlying60⟩
  one := fun _ => rfl
  eq := fun h => by simp at h
theorem ti61 : TI.Ok Try.prog 61 ⟨.ptr 5, 1, 8, [.nilP], [.val], false⟩ where
  inf := ⟨Try.t61, _, by kernel_rfl, rfl, rfl, rfl, fun _ _ => rfl⟩
  zlen := rfl
  ty := Try.underlying61
  one := fun _ => rfl
  eq := fun h => by simp at h
theorem look_mem {α : Type} {k : Nat} {x : α} : ∀ {l : List (Nat × α)}, lookN k l = some x → (k, x) ∈ l
  | [], h => by simp [lookN] at h
  | (j, y) :: l, h => by
    simp only [lookN] at h
    split at h
    · rename_i hj
      simp only [Option.some.injEq] at h
      rw [Nat.eq_of_beq_eq_true hj, h]; exact List.mem_cons_self
    · exact List.mem_cons_of_mem _ (look_mem h)
theorem progOk (nw : Bool) (stops : List (List Bool)) (cstops : List (List Bool × Nat)) : ProgOk Try.prog (cx nw stops cstops) where
  mixed := by kernel_rfl
  tab t i h := by
    have h := look_mem h
    simp only [tabL, List.mem_cons, Prod.mk.injEq, List.not_mem_nil, or_false] at h
    rcases h with ⟨rfl, rfl⟩ | ⟨rfl, rfl⟩ | ⟨rfl, rfl⟩ | ⟨rfl, rfl⟩ | ⟨rfl, rfl⟩ | ⟨rfl, rfl⟩ | ⟨rfl, rfl⟩ | ⟨rfl, rfl⟩ | ⟨rfl, rfl⟩ | ⟨rfl, rfl⟩ | ⟨rfl, rfl⟩ | ⟨rfl, rfl⟩ | ⟨rfl, rfl⟩ | ⟨rfl, rfl⟩ | ⟨rfl, rfl⟩ | ⟨rfl, rfl⟩ | ⟨rfl, rfl⟩ | ⟨rfl, rfl⟩ | ⟨rfl, rfl⟩ | ⟨rfl, rfl⟩ | ⟨rfl, rfl⟩ | ⟨rfl, rfl⟩ | ⟨rfl, rfl⟩ | ⟨rfl, rfl⟩ | ⟨rfl, rfl⟩ | ⟨rfl, rfl⟩ | ⟨rfl, rfl⟩ | ⟨rfl, rfl⟩ | ⟨rfl, rfl⟩ | ⟨rfl, rfl⟩ | ⟨rfl, rfl⟩ | ⟨rfl, rfl⟩ | ⟨rfl, rfl⟩ | ⟨rfl, rfl⟩ | ⟨rfl, rfl⟩ | ⟨rfl, rfl⟩ | ⟨rfl, rfl⟩ | ⟨rfl, rfl⟩ | ⟨rfl, rfl⟩
    · exact ti1
    · exact ti2
    · exact ti3
    · exact ti4
    · exact ti5
    · exact ti9
    · exact ti12
    · exact ti21
    · exact ti22
    · exact ti23
    · exact ti24
    · exact ti26
    · exact ti27
    · exact ti28
    · exact ti29
    · exact ti31
    · exact ti32
    · exact ti33
    · exact ti34
    · exact ti35
    · exact ti36
    · exact ti37
    · exact ti38
    · exact ti39
    · exact ti40
    · exact ti41
    · exact ti42
    · exact ti43
    · exact ti44
    · exact ti45
    · exact ti46
    · exact ti47
    · exact ti48
    · exact ti49
    · exact ti50
    · exact ti56
    · exact ti57
    · exact ti60
    · exact ti61
  call f h args w := by
    simp only [cx, Option.isSome_iff_exists] at h
    obtain ⟨x, h⟩ := h
    have h := look_mem h
    simp only [retsL, List.mem_cons, Prod.mk.injEq, List.not_mem_nil, or_false] at h
    rcases h with ⟨rfl, _⟩ | ⟨rfl, _⟩ | ⟨rfl, _⟩ | ⟨rfl, _⟩ | ⟨rfl, _⟩ | ⟨rfl, _⟩ | ⟨rfl, _⟩ | ⟨rfl, _⟩ | ⟨rfl, _⟩ | ⟨rfl, _⟩ | ⟨rfl, _⟩ | ⟨rfl, _⟩ | ⟨rfl, _⟩ | ⟨rfl, _⟩ | ⟨rfl, _⟩ | ⟨rfl, _⟩ | ⟨rfl, _⟩ | ⟨rfl, _⟩ | ⟨rfl, _⟩ | ⟨rfl, _⟩ | ⟨rfl, _⟩ | ⟨rfl, _⟩ | ⟨rfl, _⟩ | ⟨rfl, _⟩ | ⟨rfl, _⟩ | ⟨rfl, _⟩ | ⟨rfl, _⟩ | ⟨rfl, _⟩ | ⟨rfl, _⟩ | ⟨rfl, _⟩ | ⟨rfl, _⟩ | ⟨rfl, _⟩ | ⟨rfl, _⟩ | ⟨rfl, _⟩ | ⟨rfl, _⟩ | ⟨rfl, _⟩ | ⟨rfl, _⟩ | ⟨rfl, _⟩ | ⟨rfl, _⟩ | ⟨rfl, _⟩ | ⟨rfl, _⟩ | ⟨rfl, _⟩
    · exact Try.call2 args w
    · exact Try.call3 args w
    · exact Try.call4 args w
    · exact Try.call5 args w
    · exact Try.call6 args w
    · exact Try.call7 args w
    · exact Try.call8 args w
    · exact Try.call9 args w
    · exact Try.call10 args w
    · exact Try.call11 args w
    · exact Try.call12 args w
    · exact Try.call13 args w
    · exact Try.call14 args w
    · exact Try.call15 args w
    · exact Try.call16 args w
    · exact Try.call17 args w
    · exact Try.call18 args w
    · exact Try.call19 args w
    · exact Try.call20 args w
    · exact Try.call21 args w
    · exact Try.call22 args w
    · exact Try.call23 args w
    · exact Try.call24 args w
    · exact Try.call25 args w
    · exact Try.call26 args w
    · exact Try.call27 args w
    · exact Try.call28 args w
    · exact Try.call29 args w
    · exact Try.call30 args w
    · exact Try.call31 args w
    · exact Try.call32 args w
    · exact Try.call33 args w
    · exact Try.call34 args w
    · exact Try.call35 args w
    · exact Try.call36 args w
    · exact Try.call37 args w
    · exact Try.call38 args w
    · exact Try.call39 args w
    · exact Try.call40 args w
    · exact Try.call41 args w
    · exact Try.call42 args w
    · exact Try.call43 args w
def cl (nw : Bool) (stops : List (List Bool)) (cstops : List (List Bool × Nat)) : Ctx := { cx nw stops cstops with leaf := true }
theorem progOkL (nw : Bool) (stops : List (List Bool)) (cstops : List (List Bool × Nat)) : ProgOk Try.prog (cl nw stops cstops) := ⟨(progOk nw stops cstops).tab, (progOk nw stops cstops).mixed, (progOk nw stops cstops).call⟩
end Go.Proofs.Ytfbhgmnbndlipaa
