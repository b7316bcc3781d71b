/- the tables of types and functions that the machine reads are the program's. No condition. -/
import Derived.Test.YtihjifkmnbfoiaaGreatDoorRows
import Derived.Test.YtihjifkmnbfoiaaGreatDoorMachD
import Derived.KernelRfl
set_option linter.unusedVariables false
namespace Go.Proofs.YtihjifkmnbfoiaaGreatDoor
open Go Go.AM
namespace Tabs
noncomputable def ty0 : List (Option TI) := [none,
  some ⟨.func, 1, 8, [.nilfn], false, none⟩,
  some ⟨.int .i64, 1, 8, [.int .i64 (0)], false, some [.int]⟩,
  some ⟨.int .i64, 1, 8, [.int .i64 (0)], false, some [.int]⟩,
  some ⟨.bool, 1, 1, [.bool false], false, some [.bool]⟩,
  some ⟨.int .u8, 1, 1, [.int .u8 (0)], false, some [.int]⟩,
  some ⟨.int .u8, 1, 1, [.int .u8 (0)], false, some [.int]⟩,
  some ⟨.struct [(0, (1, 2)), (1, (1, 3)), (2, (1, 4)), (3, (1, 6))], 4, 24, [.int .i64 (0), .int .i64 (0), .bool false, .int .u8 (0)], true, some [.int, .int, .bool, .int]⟩,
  some ⟨.struct [(0, (1, 2)), (1, (1, 3)), (2, (1, 4)), (3, (1, 6))], 4, 24, [.int .i64 (0), .int .i64 (0), .bool false, .int .u8 (0)], true, some [.int, .int, .bool, .int]⟩,
  some ⟨.str, 1, 16, [.str []], false, some [.str]⟩,
  some ⟨.str, 1, 16, [.str []], false, some [.str]⟩,
  some ⟨.str, 1, 16, [.str []], false, some [.str]⟩,
  some ⟨.int .u64, 1, 8, [.int .u64 (0)], false, some [.int]⟩,
  some ⟨.struct [(0, (1, 9)), (1, (1, 12))], 2, 24, [.str [], .int .u64 (0)], true, none⟩,
  some ⟨.struct [(0, (1, 9)), (1, (1, 12))], 2, 24, [.str [], .int .u64 (0)], true, none⟩,
  some ⟨.ptr 433, 1, 8, [.nilptr], false, none⟩]
noncomputable def ty1 : List (Option TI) := [some ⟨.ptr 436, 1, 8, [.nilptr], false, none⟩,
  some ⟨.ptr 443, 1, 8, [.nilptr], false, none⟩,
  some ⟨.struct [(0, (1, 17))], 1, 8, [.nilptr], true, none⟩,
  some ⟨.struct [(0, (1, 17))], 1, 8, [.nilptr], true, none⟩,
  some ⟨.iface, 1, 16, [.nilif], false, none⟩,
  some ⟨.int .i32, 1, 4, [.int .i32 (0)], false, some [.int]⟩,
  some ⟨.func, 1, 8, [.nilfn], false, none⟩,
  some ⟨.ptr 55, 1, 8, [.nilptr], false, none⟩,
  some ⟨.int .i64, 1, 8, [.int .i64 (0)], false, some [.int]⟩,
  none,
  some ⟨.func, 1, 8, [.nilfn], false, none⟩,
  some ⟨.ptr 41, 1, 8, [.nilptr], false, none⟩,
  some ⟨.func, 1, 8, [.nilfn], false, none⟩,
  some ⟨.struct [(0, (1, 3)), (1, (1, 3)), (2, (1, 3))], 3, 24, [.int .i64 (0), .int .i64 (0), .int .i64 (0)], true, some [.int, .int, .int]⟩,
  some ⟨.struct [(0, (1, 3)), (1, (1, 3)), (2, (1, 3))], 3, 24, [.int .i64 (0), .int .i64 (0), .int .i64 (0)], true, some [.int, .int, .int]⟩,
  some ⟨.struct [(0, (3, 30)), (3, (1, 3))], 4, 32, [.int .i64 (0), .int .i64 (0), .int .i64 (0), .int .i64 (0)], true, some [.int, .int, .int, .int]⟩]
noncomputable def ty2 : List (Option TI) := [some ⟨.struct [(0, (3, 30)), (3, (1, 3))], 4, 32, [.int .i64 (0), .int .i64 (0), .int .i64 (0), .int .i64 (0)], true, some [.int, .int, .int, .int]⟩,
  some ⟨.slice 5, 1, 24, [.nilslc], false, none⟩,
  some ⟨.struct [(0, (1, 3)), (1, (4, 32)), (5, (1, 33))], 6, 64, [.int .i64 (0), .int .i64 (0), .int .i64 (0), .int .i64 (0), .int .i64 (0), .nilslc], true, none⟩,
  some ⟨.struct [(0, (1, 3)), (1, (4, 32)), (5, (1, 33))], 6, 64, [.int .i64 (0), .int .i64 (0), .int .i64 (0), .int .i64 (0), .int .i64 (0), .nilslc], true, none⟩,
  none,
  some ⟨.func, 1, 8, [.nilfn], false, none⟩,
  some ⟨.ptr 121, 1, 8, [.nilptr], false, none⟩,
  some ⟨.slice 45, 1, 24, [.nilslc], false, none⟩,
  some ⟨.struct [(0, (1, 38)), (1, (1, 39)), (2, (1, 3)), (3, (1, 3))], 4, 48, [.nilptr, .nilslc, .int .i64 (0), .int .i64 (0)], true, none⟩,
  some ⟨.struct [(0, (1, 38)), (1, (1, 39)), (2, (1, 3)), (3, (1, 3))], 4, 48, [.nilptr, .nilslc, .int .i64 (0), .int .i64 (0)], true, none⟩,
  some ⟨.func, 1, 8, [.nilfn], false, none⟩,
  some ⟨.map 30 33, 1, 8, [.nilmap], false, none⟩,
  some ⟨.func, 1, 8, [.nilfn], false, none⟩,
  some ⟨.ptr 108, 1, 8, [.nilptr], false, none⟩,
  none,
  some ⟨.func, 1, 8, [.nilfn], false, none⟩]
noncomputable def ty3 : List (Option TI) := [some ⟨.func, 1, 8, [.nilfn], false, none⟩,
  some ⟨.func, 1, 8, [.nilfn], false, none⟩,
  some ⟨.func, 1, 8, [.nilfn], false, none⟩,
  some ⟨.map 30 4, 1, 8, [.nilmap], false, none⟩,
  some ⟨.slice 33, 1, 24, [.nilslc], false, none⟩,
  some ⟨.ptr 35, 1, 8, [.nilptr], false, none⟩,
  some ⟨.struct [(0, (1, 3)), (1, (1, 3)), (2, (1, 3)), (3, (1, 4)), (4, (1, 51)), (5, (1, 51)), (6, (1, 4)), (7, (3, 30)), (10, (1, 4)), (11, (1, 3)), (12, (1, 52)), (13, (1, 3)), (14, (1, 53)), (15, (1, 3))], 16, 144, [.int .i64 (0), .int .i64 (0), .int .i64 (0), .bool false, .nilmap, .nilmap, .bool false, .int .i64 (0), .int .i64 (0), .int .i64 (0), .bool false, .int .i64 (0), .nilslc, .int .i64 (0), .nilptr, .int .i64 (0)], true, none⟩,
  some ⟨.struct [(0, (1, 3)), (1, (1, 3)), (2, (1, 3)), (3, (1, 4)), (4, (1, 51)), (5, (1, 51)), (6, (1, 4)), (7, (3, 30)), (10, (1, 4)), (11, (1, 3)), (12, (1, 52)), (13, (1, 3)), (14, (1, 53)), (15, (1, 3))], 16, 144, [.int .i64 (0), .int .i64 (0), .int .i64 (0), .bool false, .nilmap, .nilmap, .bool false, .int .i64 (0), .int .i64 (0), .int .i64 (0), .bool false, .int .i64 (0), .nilslc, .int .i64 (0), .nilptr, .int .i64 (0)], true, none⟩,
  some ⟨.func, 1, 8, [.nilfn], false, none⟩,
  some ⟨.slice 32, 1, 24, [.nilslc], false, none⟩,
  some ⟨.struct [(0, (1, 24)), (1, (1, 33)), (2, (1, 57)), (3, (1, 3)), (4, (1, 4))], 5, 72, [.int .i64 (0), .nilslc, .nilslc, .int .i64 (0), .bool false], true, none⟩,
  some ⟨.struct [(0, (1, 24)), (1, (1, 33)), (2, (1, 57)), (3, (1, 3)), (4, (1, 4))], 5, 72, [.int .i64 (0), .nilslc, .nilslc, .int .i64 (0), .bool false], true, none⟩,
  none,
  some ⟨.func, 1, 8, [.nilfn], false, none⟩,
  some ⟨.slice 206, 1, 24, [.nilslc], false, none⟩,
  some ⟨.struct [(0, (1, 24)), (1, (1, 3)), (2, (1, 3)), (3, (1, 3)), (4, (1, 3)), (5, (1, 4)), (6, (1, 62)), (7, (1, 33))], 8, 96, [.int .i64 (0), .int .i64 (0), .int .i64 (0), .int .i64 (0), .int .i64 (0), .bool false, .nilslc, .nilslc], true, none⟩]
noncomputable def ty4 : List (Option TI) := [some ⟨.struct [(0, (1, 24)), (1, (1, 3)), (2, (1, 3)), (3, (1, 3)), (4, (1, 3)), (5, (1, 4)), (6, (1, 62)), (7, (1, 33))], 8, 96, [.int .i64 (0), .int .i64 (0), .int .i64 (0), .int .i64 (0), .int .i64 (0), .bool false, .nilslc, .nilslc], true, none⟩,
  some ⟨.func, 1, 8, [.nilfn], false, none⟩,
  some ⟨.struct [(0, (1, 3)), (1, (1, 3)), (2, (1, 3))], 3, 24, [.int .i64 (0), .int .i64 (0), .int .i64 (0)], true, some [.int, .int, .int]⟩,
  some ⟨.struct [(0, (1, 3)), (1, (1, 3)), (2, (1, 3))], 3, 24, [.int .i64 (0), .int .i64 (0), .int .i64 (0)], true, some [.int, .int, .int]⟩,
  some ⟨.slice 93, 1, 24, [.nilslc], false, none⟩,
  some ⟨.slice 147, 1, 24, [.nilslc], false, none⟩,
  some ⟨.struct [(0, (3, 67)), (3, (1, 3)), (4, (1, 9)), (5, (1, 9)), (6, (1, 4)), (7, (1, 4)), (8, (1, 4)), (9, (1, 3)), (10, (1, 3)), (11, (1, 3)), (12, (1, 68)), (13, (1, 69))], 14, 144, [.int .i64 (0), .int .i64 (0), .int .i64 (0), .int .i64 (0), .str [], .str [], .bool false, .bool false, .bool false, .int .i64 (0), .int .i64 (0), .int .i64 (0), .nilslc, .nilslc], true, none⟩,
  some ⟨.struct [(0, (3, 67)), (3, (1, 3)), (4, (1, 9)), (5, (1, 9)), (6, (1, 4)), (7, (1, 4)), (8, (1, 4)), (9, (1, 3)), (10, (1, 3)), (11, (1, 3)), (12, (1, 68)), (13, (1, 69))], 14, 144, [.int .i64 (0), .int .i64 (0), .int .i64 (0), .int .i64 (0), .str [], .str [], .bool false, .bool false, .bool false, .int .i64 (0), .int .i64 (0), .int .i64 (0), .nilslc, .nilslc], true, none⟩,
  some ⟨.func, 1, 8, [.nilfn], false, none⟩,
  some ⟨.slice 97, 1, 24, [.nilslc], false, none⟩,
  some ⟨.func, 1, 8, [.nilfn], false, none⟩,
  none,
  some ⟨.func, 1, 8, [.nilfn], false, none⟩,
  some ⟨.func, 1, 8, [.nilfn], false, none⟩,
  some ⟨.func, 1, 8, [.nilfn], false, none⟩,
  some ⟨.func, 1, 8, [.nilfn], false, none⟩]
noncomputable def ty5 : List (Option TI) := [some ⟨.func, 1, 8, [.nilfn], false, none⟩,
  some ⟨.slice 83, 1, 24, [.nilslc], false, none⟩,
  some ⟨.struct [(0, (1, 3)), (1, (1, 33))], 2, 32, [.int .i64 (0), .nilslc], true, none⟩,
  some ⟨.struct [(0, (1, 3)), (1, (1, 33))], 2, 32, [.int .i64 (0), .nilslc], true, none⟩,
  some ⟨.slice 90, 1, 24, [.nilslc], false, none⟩,
  none,
  some ⟨.func, 1, 8, [.nilfn], false, none⟩,
  none,
  some ⟨.func, 1, 8, [.nilfn], false, none⟩,
  some ⟨.struct [(0, (3, 30)), (3, (1, 33))], 4, 48, [.int .i64 (0), .int .i64 (0), .int .i64 (0), .nilslc], true, none⟩,
  some ⟨.struct [(0, (3, 30)), (3, (1, 33))], 4, 48, [.int .i64 (0), .int .i64 (0), .int .i64 (0), .nilslc], true, none⟩,
  some ⟨.func, 1, 8, [.nilfn], false, none⟩,
  some ⟨.struct [(0, (3, 30)), (3, (1, 3))], 4, 32, [.int .i64 (0), .int .i64 (0), .int .i64 (0), .int .i64 (0)], true, some [.int, .int, .int, .int]⟩,
  some ⟨.struct [(0, (3, 30)), (3, (1, 3))], 4, 32, [.int .i64 (0), .int .i64 (0), .int .i64 (0), .int .i64 (0)], true, some [.int, .int, .int, .int]⟩,
  none,
  some ⟨.ptr 158, 1, 8, [.nilptr], false, none⟩]
noncomputable def ty6 : List (Option TI) := [some ⟨.struct [(0, (3, 30)), (3, (1, 3)), (4, (1, 3)), (5, (1, 3))], 6, 48, [.int .i64 (0), .int .i64 (0), .int .i64 (0), .int .i64 (0), .int .i64 (0), .int .i64 (0)], true, some [.int, .int, .int, .int, .int, .int]⟩,
  some ⟨.struct [(0, (3, 30)), (3, (1, 3)), (4, (1, 3)), (5, (1, 3))], 6, 48, [.int .i64 (0), .int .i64 (0), .int .i64 (0), .int .i64 (0), .int .i64 (0), .int .i64 (0)], true, some [.int, .int, .int, .int, .int, .int]⟩,
  some ⟨.func, 1, 8, [.nilfn], false, none⟩,
  some ⟨.func, 1, 8, [.nilfn], false, none⟩,
  none,
  some ⟨.func, 1, 8, [.nilfn], false, none⟩,
  some ⟨.ptr 165, 1, 8, [.nilptr], false, none⟩,
  none,
  some ⟨.func, 1, 8, [.nilfn], false, none⟩,
  none,
  some ⟨.func, 1, 8, [.nilfn], false, none⟩,
  some ⟨.struct [(0, (1, 95))], 1, 8, [.nilptr], true, none⟩,
  some ⟨.struct [(0, (1, 95))], 1, 8, [.nilptr], true, none⟩,
  some ⟨.func, 1, 8, [.nilfn], false, none⟩,
  some ⟨.func, 1, 8, [.nilfn], false, none⟩,
  some ⟨.ptr 172, 1, 8, [.nilptr], false, none⟩]
noncomputable def ty7 : List (Option TI) := [some ⟨.func, 1, 8, [.nilfn], false, none⟩,
  some ⟨.ptr 177, 1, 8, [.nilptr], false, none⟩,
  some ⟨.func, 1, 8, [.nilfn], false, none⟩,
  some ⟨.ptr 180, 1, 8, [.nilptr], false, none⟩,
  some ⟨.func, 1, 8, [.nilfn], false, none⟩,
  some ⟨.map 3 193, 1, 8, [.nilmap], false, none⟩,
  some ⟨.map 30 97, 1, 8, [.nilmap], false, none⟩,
  some ⟨.arr 5 3, 5, 40, [.int .i64 (0), .int .i64 (0), .int .i64 (0), .int .i64 (0), .int .i64 (0)], true, some [.int, .int, .int, .int, .int]⟩,
  some ⟨.struct [(0, (1, 3)), (1, (1, 3)), (2, (1, 3)), (3, (5, 119)), (8, (1, 111)), (9, (1, 113)), (10, (1, 115)), (11, (1, 117)), (12, (1, 118))], 13, 104, [.int .i64 (0), .int .i64 (0), .int .i64 (0), .int .i64 (0), .int .i64 (0), .int .i64 (0), .int .i64 (0), .int .i64 (0), .nilptr, .nilptr, .nilptr, .nilmap, .nilmap], true, none⟩,
  some ⟨.struct [(0, (1, 3)), (1, (1, 3)), (2, (1, 3)), (3, (5, 119)), (8, (1, 111)), (9, (1, 113)), (10, (1, 115)), (11, (1, 117)), (12, (1, 118))], 13, 104, [.int .i64 (0), .int .i64 (0), .int .i64 (0), .int .i64 (0), .int .i64 (0), .int .i64 (0), .int .i64 (0), .int .i64 (0), .nilptr, .nilptr, .nilptr, .nilmap, .nilmap], true, none⟩,
  some ⟨.func, 1, 8, [.nilfn], false, none⟩,
  some ⟨.func, 1, 8, [.nilfn], false, none⟩,
  some ⟨.func, 1, 8, [.nilfn], false, none⟩,
  some ⟨.func, 1, 8, [.nilfn], false, none⟩,
  some ⟨.func, 1, 8, [.nilfn], false, none⟩,
  some ⟨.func, 1, 8, [.nilfn], false, none⟩]
noncomputable def ty8 : List (Option TI) := [some ⟨.func, 1, 8, [.nilfn], false, none⟩,
  some ⟨.func, 1, 8, [.nilfn], false, none⟩,
  none,
  some ⟨.func, 1, 8, [.nilfn], false, none⟩,
  none,
  some ⟨.func, 1, 8, [.nilfn], false, none⟩,
  some ⟨.func, 1, 8, [.nilfn], false, none⟩,
  some ⟨.func, 1, 8, [.nilfn], false, none⟩,
  some ⟨.func, 1, 8, [.nilfn], false, none⟩,
  some ⟨.func, 1, 8, [.nilfn], false, none⟩,
  some ⟨.func, 1, 8, [.nilfn], false, none⟩,
  some ⟨.func, 1, 8, [.nilfn], false, none⟩,
  some ⟨.func, 1, 8, [.nilfn], false, none⟩,
  some ⟨.func, 1, 8, [.nilfn], false, none⟩,
  some ⟨.struct [(0, (3, 30)), (3, (1, 3)), (4, (1, 3))], 5, 40, [.int .i64 (0), .int .i64 (0), .int .i64 (0), .int .i64 (0), .int .i64 (0)], true, some [.int, .int, .int, .int, .int]⟩,
  some ⟨.struct [(0, (3, 30)), (3, (1, 3)), (4, (1, 3))], 5, 40, [.int .i64 (0), .int .i64 (0), .int .i64 (0), .int .i64 (0), .int .i64 (0)], true, some [.int, .int, .int, .int, .int]⟩]
noncomputable def ty9 : List (Option TI) := [some ⟨.ptr 90, 1, 8, [.nilptr], false, none⟩,
  some ⟨.func, 1, 8, [.nilfn], false, none⟩,
  some ⟨.struct [(0, (1, 3)), (1, (1, 3)), (2, (1, 3)), (3, (1, 3)), (4, (5, 143)), (9, (5, 143))], 14, 112, replicateL [.int .i64 (0)] 14, true, some [.int, .int, .int, .int, .int, .int, .int, .int, .int, .int, .int, .int, .int, .int]⟩,
  some ⟨.struct [(0, (1, 3)), (1, (1, 3)), (2, (1, 3)), (3, (1, 3)), (4, (5, 143)), (9, (5, 143))], 14, 112, replicateL [.int .i64 (0)] 14, true, some [.int, .int, .int, .int, .int, .int, .int, .int, .int, .int, .int, .int, .int, .int]⟩,
  some ⟨.func, 1, 8, [.nilfn], false, none⟩,
  some ⟨.func, 1, 8, [.nilfn], false, none⟩,
  some ⟨.func, 1, 8, [.nilfn], false, none⟩,
  some ⟨.struct [(0, (3, 30)), (3, (1, 3)), (4, (1, 3)), (5, (1, 3))], 6, 48, [.int .i64 (0), .int .i64 (0), .int .i64 (0), .int .i64 (0), .int .i64 (0), .int .i64 (0)], true, some [.int, .int, .int, .int, .int, .int]⟩,
  some ⟨.struct [(0, (3, 30)), (3, (1, 3)), (4, (1, 3)), (5, (1, 3))], 6, 48, [.int .i64 (0), .int .i64 (0), .int .i64 (0), .int .i64 (0), .int .i64 (0), .int .i64 (0)], true, some [.int, .int, .int, .int, .int, .int]⟩,
  some ⟨.func, 1, 8, [.nilfn], false, none⟩,
  some ⟨.slice 3, 1, 24, [.nilslc], false, none⟩,
  some ⟨.ptr 229, 1, 8, [.nilptr], false, none⟩,
  some ⟨.map 32 154, 1, 8, [.nilmap], false, none⟩,
  some ⟨.struct [(0, (1, 102)), (1, (1, 155)), (2, (1, 156)), (3, (1, 4))], 4, 32, [.nilptr, .nilptr, .nilmap, .bool false], true, none⟩,
  some ⟨.struct [(0, (1, 102)), (1, (1, 155)), (2, (1, 156)), (3, (1, 4))], 4, 32, [.nilptr, .nilptr, .nilmap, .bool false], true, none⟩,
  some ⟨.func, 1, 8, [.nilfn], false, none⟩]
noncomputable def ty10 : List (Option TI) := [none,
  some ⟨.func, 1, 8, [.nilfn], false, none⟩,
  some ⟨.slice 238, 1, 24, [.nilslc], false, none⟩,
  some ⟨.slice 240, 1, 24, [.nilslc], false, none⟩,
  some ⟨.struct [(0, (1, 162)), (1, (1, 162)), (2, (1, 163)), (3, (1, 3)), (4, (1, 3)), (5, (1, 4))], 6, 96, [.nilslc, .nilslc, .nilslc, .int .i64 (0), .int .i64 (0), .bool false], true, none⟩,
  some ⟨.struct [(0, (1, 162)), (1, (1, 162)), (2, (1, 163)), (3, (1, 3)), (4, (1, 3)), (5, (1, 4))], 6, 96, [.nilslc, .nilslc, .nilslc, .int .i64 (0), .int .i64 (0), .bool false], true, none⟩,
  some ⟨.func, 1, 8, [.nilfn], false, none⟩,
  some ⟨.func, 1, 8, [.nilfn], false, none⟩,
  some ⟨.func, 1, 8, [.nilfn], false, none⟩,
  some ⟨.ptr 198, 1, 8, [.nilptr], false, none⟩,
  some ⟨.arr 4 169, 4, 32, [.nilptr, .nilptr, .nilptr, .nilptr], true, none⟩,
  some ⟨.struct [(0, (4, 170)), (4, (1, 4))], 5, 40, [.nilptr, .nilptr, .nilptr, .nilptr, .bool false], true, none⟩,
  some ⟨.struct [(0, (4, 170)), (4, (1, 4))], 5, 40, [.nilptr, .nilptr, .nilptr, .nilptr, .bool false], true, none⟩,
  some ⟨.ptr 249, 1, 8, [.nilptr], false, none⟩,
  some ⟨.func, 1, 8, [.nilfn], false, none⟩,
  some ⟨.map 3 173, 1, 8, [.nilmap], false, none⟩]
noncomputable def ty11 : List (Option TI) := [some ⟨.struct [(0, (1, 175))], 1, 8, [.nilmap], true, none⟩,
  some ⟨.struct [(0, (1, 175))], 1, 8, [.nilmap], true, none⟩,
  some ⟨.slice 264, 1, 24, [.nilslc], false, none⟩,
  some ⟨.struct [(0, (1, 4)), (1, (1, 178))], 2, 32, [.bool false, .nilslc], true, none⟩,
  some ⟨.struct [(0, (1, 4)), (1, (1, 178))], 2, 32, [.bool false, .nilslc], true, none⟩,
  some ⟨.func, 1, 8, [.nilfn], false, none⟩,
  some ⟨.struct [(0, (1, 24))], 1, 8, [.int .i64 (0)], true, some [.int]⟩,
  some ⟨.struct [(0, (1, 24))], 1, 8, [.int .i64 (0)], true, some [.int]⟩,
  none,
  some ⟨.func, 1, 8, [.nilfn], false, none⟩,
  some ⟨.map 30 3, 1, 8, [.nilmap], false, none⟩,
  some ⟨.func, 1, 8, [.nilfn], false, none⟩,
  some ⟨.func, 1, 8, [.nilfn], false, none⟩,
  some ⟨.func, 1, 8, [.nilfn], false, none⟩,
  some ⟨.func, 1, 8, [.nilfn], false, none⟩,
  some ⟨.slice 143, 1, 24, [.nilslc], false, none⟩]
noncomputable def ty12 : List (Option TI) := [none,
  some ⟨.ptr 270, 1, 8, [.nilptr], false, none⟩,
  some ⟨.func, 1, 8, [.nilfn], false, none⟩,
  some ⟨.func, 1, 8, [.nilfn], false, none⟩,
  some ⟨.func, 1, 8, [.nilfn], false, none⟩,
  some ⟨.struct [(0, (3, 67)), (3, (1, 33))], 4, 48, [.int .i64 (0), .int .i64 (0), .int .i64 (0), .nilslc], true, none⟩,
  some ⟨.struct [(0, (3, 67)), (3, (1, 33))], 4, 48, [.int .i64 (0), .int .i64 (0), .int .i64 (0), .nilslc], true, none⟩,
  some ⟨.func, 1, 8, [.nilfn], false, none⟩,
  some ⟨.ptr 354, 1, 8, [.nilptr], false, none⟩,
  some ⟨.func, 1, 8, [.nilfn], false, none⟩,
  some ⟨.func, 1, 8, [.nilfn], false, none⟩,
  some ⟨.func, 1, 8, [.nilfn], false, none⟩,
  some ⟨.func, 1, 8, [.nilfn], false, none⟩,
  some ⟨.struct [(0, (1, 9)), (1, (1, 3)), (2, (1, 4))], 3, 32, [.str [], .int .i64 (0), .bool false], true, some [.str, .int, .bool]⟩,
  some ⟨.struct [(0, (1, 9)), (1, (1, 3)), (2, (1, 4))], 3, 32, [.str [], .int .i64 (0), .bool false], true, some [.str, .int, .bool]⟩,
  some ⟨.func, 1, 8, [.nilfn], false, none⟩]
noncomputable def ty13 : List (Option TI) := [some ⟨.func, 1, 8, [.nilfn], false, none⟩,
  some ⟨.func, 1, 8, [.nilfn], false, none⟩,
  some ⟨.func, 1, 8, [.nilfn], false, none⟩,
  some ⟨.func, 1, 8, [.nilfn], false, none⟩,
  some ⟨.int .u64, 1, 8, [.int .u64 (0)], false, some [.int]⟩,
  some ⟨.func, 1, 8, [.nilfn], false, none⟩,
  some ⟨.func, 1, 8, [.nilfn], false, none⟩,
  some ⟨.func, 1, 8, [.nilfn], false, none⟩,
  some ⟨.ptr 24, 1, 8, [.nilptr], false, none⟩,
  some ⟨.func, 1, 8, [.nilfn], false, none⟩,
  some ⟨.func, 1, 8, [.nilfn], false, none⟩,
  some ⟨.func, 1, 8, [.nilfn], false, none⟩,
  some ⟨.func, 1, 8, [.nilfn], false, none⟩,
  some ⟨.func, 1, 8, [.nilfn], false, none⟩,
  some ⟨.ptr 224, 1, 8, [.nilptr], false, none⟩,
  some ⟨.struct [(0, (1, 33)), (1, (1, 3))], 2, 32, [.nilslc, .int .i64 (0)], true, none⟩]
noncomputable def ty14 : List (Option TI) := [some ⟨.struct [(0, (1, 33)), (1, (1, 3))], 2, 32, [.nilslc, .int .i64 (0)], true, none⟩,
  some ⟨.func, 1, 8, [.nilfn], false, none⟩,
  some ⟨.func, 1, 8, [.nilfn], false, none⟩,
  some ⟨.slice 231, 1, 24, [.nilslc], false, none⟩,
  some ⟨.struct [(0, (1, 102)), (1, (1, 3)), (2, (1, 227))], 3, 40, [.nilptr, .int .i64 (0), .nilslc], true, none⟩,
  some ⟨.struct [(0, (1, 102)), (1, (1, 3)), (2, (1, 227))], 3, 40, [.nilptr, .int .i64 (0), .nilslc], true, none⟩,
  some ⟨.struct [(0, (1, 4)), (1, (1, 3)), (2, (1, 33))], 3, 40, [.bool false, .int .i64 (0), .nilslc], true, none⟩,
  some ⟨.struct [(0, (1, 4)), (1, (1, 3)), (2, (1, 33))], 3, 40, [.bool false, .int .i64 (0), .nilslc], true, none⟩,
  none,
  some ⟨.func, 1, 8, [.nilfn], false, none⟩,
  some ⟨.func, 1, 8, [.nilfn], false, none⟩,
  some ⟨.func, 1, 8, [.nilfn], false, none⟩,
  some ⟨.arr 64 5, 64, 64, replicateL [.int .u8 (0)] 64, true, some [.int, .int, .int, .int, .int, .int, .int, .int, .int, .int, .int, .int, .int, .int, .int, .int, .int, .int, .int, .int, .int, .int, .int, .int, .int, .int, .int, .int, .int, .int, .int, .int, .int, .int, .int, .int, .int, .int, .int, .int, .int, .int, .int, .int, .int, .int, .int, .int, .int, .int, .int, .int, .int, .int, .int, .int, .int, .int, .int, .int, .int, .int, .int, .int]⟩,
  some ⟨.struct [(0, (64, 236))], 64, 64, replicateL [.int .u8 (0)] 64, true, some [.int, .int, .int, .int, .int, .int, .int, .int, .int, .int, .int, .int, .int, .int, .int, .int, .int, .int, .int, .int, .int, .int, .int, .int, .int, .int, .int, .int, .int, .int, .int, .int, .int, .int, .int, .int, .int, .int, .int, .int, .int, .int, .int, .int, .int, .int, .int, .int, .int, .int, .int, .int, .int, .int, .int, .int, .int, .int, .int, .int, .int, .int, .int, .int]⟩,
  some ⟨.struct [(0, (64, 236))], 64, 64, replicateL [.int .u8 (0)] 64, true, some [.int, .int, .int, .int, .int, .int, .int, .int, .int, .int, .int, .int, .int, .int, .int, .int, .int, .int, .int, .int, .int, .int, .int, .int, .int, .int, .int, .int, .int, .int, .int, .int, .int, .int, .int, .int, .int, .int, .int, .int, .int, .int, .int, .int, .int, .int, .int, .int, .int, .int, .int, .int, .int, .int, .int, .int, .int, .int, .int, .int, .int, .int, .int, .int]⟩,
  some ⟨.struct [(0, (1, 3)), (1, (64, 238))], 65, 72, [.int .i64 (0), .int .u8 (0), .int .u8 (0), .int .u8 (0), .int .u8 (0), .int .u8 (0), .int .u8 (0), .int .u8 (0), .int .u8 (0), .int .u8 (0), .int .u8 (0), .int .u8 (0), .int .u8 (0), .int .u8 (0), .int .u8 (0), .int .u8 (0), .int .u8 (0), .int .u8 (0), .int .u8 (0), .int .u8 (0), .int .u8 (0), .int .u8 (0), .int .u8 (0), .int .u8 (0), .int .u8 (0), .int .u8 (0), .int .u8 (0), .int .u8 (0), .int .u8 (0), .int .u8 (0), .int .u8 (0), .int .u8 (0), .int .u8 (0), .int .u8 (0), .int .u8 (0), .int .u8 (0), .int .u8 (0), .int .u8 (0), .int .u8 (0), .int .u8 (0), .int .u8 (0), .int .u8 (0), .int .u8 (0), .int .u8 (0), .int .u8 (0), .int .u8 (0), .int .u8 (0), .int .u8 (0), .int .u8 (0), .int .u8 (0), .int .u8 (0), .int .u8 (0), .int .u8 (0), .int .u8 (0), .int .u8 (0), .int .u8 (0), .int .u8 (0), .int .u8 (0), .int .u8 (0), .int .u8 (0), .int .u8 (0), .int .u8 (0), .int .u8 (0), .int .u8 (0), .int .u8 (0)], true, none⟩]
noncomputable def ty15 : List (Option TI) := [some ⟨.struct [(0, (1, 3)), (1, (64, 238))], 65, 72, [.int .i64 (0), .int .u8 (0), .int .u8 (0), .int .u8 (0), .int .u8 (0), .int .u8 (0), .int .u8 (0), .int .u8 (0), .int .u8 (0), .int .u8 (0), .int .u8 (0), .int .u8 (0), .int .u8 (0), .int .u8 (0), .int .u8 (0), .int .u8 (0), .int .u8 (0), .int .u8 (0), .int .u8 (0), .int .u8 (0), .int .u8 (0), .int .u8 (0), .int .u8 (0), .int .u8 (0), .int .u8 (0), .int .u8 (0), .int .u8 (0), .int .u8 (0), .int .u8 (0), .int .u8 (0), .int .u8 (0), .int .u8 (0), .int .u8 (0), .int .u8 (0), .int .u8 (0), .int .u8 (0), .int .u8 (0), .int .u8 (0), .int .u8 (0), .int .u8 (0), .int .u8 (0), .int .u8 (0), .int .u8 (0), .int .u8 (0), .int .u8 (0), .int .u8 (0), .int .u8 (0), .int .u8 (0), .int .u8 (0), .int .u8 (0), .int .u8 (0), .int .u8 (0), .int .u8 (0), .int .u8 (0), .int .u8 (0), .int .u8 (0), .int .u8 (0), .int .u8 (0), .int .u8 (0), .int .u8 (0), .int .u8 (0), .int .u8 (0), .int .u8 (0), .int .u8 (0), .int .u8 (0)], true, none⟩,
  some ⟨.func, 1, 8, [.nilfn], false, none⟩,
  some ⟨.func, 1, 8, [.nilfn], false, none⟩,
  none,
  some ⟨.func, 1, 8, [.nilfn], false, none⟩,
  none,
  some ⟨.func, 1, 8, [.nilfn], false, none⟩,
  some ⟨.map 9 3, 1, 8, [.nilmap], false, none⟩,
  some ⟨.struct [(0, (1, 3)), (1, (1, 9)), (2, (1, 4)), (3, (1, 247))], 4, 40, [.int .i64 (0), .str [], .bool false, .nilmap], true, none⟩,
  some ⟨.struct [(0, (1, 3)), (1, (1, 9)), (2, (1, 4)), (3, (1, 247))], 4, 40, [.int .i64 (0), .str [], .bool false, .nilmap], true, none⟩,
  some ⟨.func, 1, 8, [.nilfn], false, none⟩,
  some ⟨.func, 1, 8, [.nilfn], false, none⟩,
  some ⟨.func, 1, 8, [.nilfn], false, none⟩,
  none,
  some ⟨.func, 1, 8, [.nilfn], false, none⟩,
  some ⟨.func, 1, 8, [.nilfn], false, none⟩]
noncomputable def ty16 : List (Option TI) := [none,
  some ⟨.func, 1, 8, [.nilfn], false, none⟩,
  some ⟨.func, 1, 8, [.nilfn], false, none⟩,
  none,
  some ⟨.func, 1, 8, [.nilfn], false, none⟩,
  some ⟨.func, 1, 8, [.nilfn], false, none⟩,
  some ⟨.func, 1, 8, [.nilfn], false, none⟩,
  some ⟨.struct [(0, (1, 3)), (1, (1, 3)), (2, (1, 3)), (3, (1, 4))], 4, 32, [.int .i64 (0), .int .i64 (0), .int .i64 (0), .bool false], true, some [.int, .int, .int, .bool]⟩,
  some ⟨.struct [(0, (1, 3)), (1, (1, 3)), (2, (1, 3)), (3, (1, 4))], 4, 32, [.int .i64 (0), .int .i64 (0), .int .i64 (0), .bool false], true, some [.int, .int, .int, .bool]⟩,
  none,
  some ⟨.func, 1, 8, [.nilfn], false, none⟩,
  some ⟨.func, 1, 8, [.nilfn], false, none⟩,
  none,
  some ⟨.struct [(0, (1, 4)), (1, (1, 3)), (2, (1, 191))], 3, 40, [.bool false, .int .i64 (0), .nilslc], true, none⟩,
  some ⟨.struct [(0, (1, 4)), (1, (1, 3)), (2, (1, 191))], 3, 40, [.bool false, .int .i64 (0), .nilslc], true, none⟩,
  some ⟨.func, 1, 8, [.nilfn], false, none⟩]
noncomputable def ty17 : List (Option TI) := [some ⟨.func, 1, 8, [.nilfn], false, none⟩,
  some ⟨.func, 1, 8, [.nilfn], false, none⟩,
  some ⟨.func, 1, 8, [.nilfn], false, none⟩,
  some ⟨.func, 1, 8, [.nilfn], false, none⟩,
  some ⟨.func, 1, 8, [.nilfn], false, none⟩,
  some ⟨.func, 1, 8, [.nilfn], false, none⟩,
  some ⟨.func, 1, 8, [.nilfn], false, none⟩,
  some ⟨.func, 1, 8, [.nilfn], false, none⟩,
  some ⟨.func, 1, 8, [.nilfn], false, none⟩,
  some ⟨.func, 1, 8, [.nilfn], false, none⟩,
  some ⟨.struct [(0, (1, 24))], 1, 8, [.int .i64 (0)], true, some [.int]⟩,
  some ⟨.struct [(0, (1, 24))], 1, 8, [.int .i64 (0)], true, some [.int]⟩,
  some ⟨.struct [(0, (1, 24))], 1, 8, [.int .i64 (0)], true, some [.int]⟩,
  some ⟨.struct [(0, (1, 24))], 1, 8, [.int .i64 (0)], true, some [.int]⟩,
  some ⟨.func, 1, 8, [.nilfn], false, none⟩,
  some ⟨.func, 1, 8, [.nilfn], false, none⟩]
noncomputable def ty18 : List (Option TI) := [some ⟨.func, 1, 8, [.nilfn], false, none⟩,
  some ⟨.func, 1, 8, [.nilfn], false, none⟩,
  some ⟨.ptr 348, 1, 8, [.nilptr], false, none⟩,
  some ⟨.func, 1, 8, [.nilfn], false, none⟩,
  some ⟨.func, 1, 8, [.nilfn], false, none⟩,
  some ⟨.func, 1, 8, [.nilfn], false, none⟩,
  some ⟨.func, 1, 8, [.nilfn], false, none⟩,
  some ⟨.func, 1, 8, [.nilfn], false, none⟩,
  some ⟨.int .i64, 1, 8, [.int .i64 (0)], false, some [.int]⟩,
  none,
  some ⟨.func, 1, 8, [.nilfn], false, none⟩,
  some ⟨.func, 1, 8, [.nilfn], false, none⟩,
  some ⟨.func, 1, 8, [.nilfn], false, none⟩,
  some ⟨.func, 1, 8, [.nilfn], false, none⟩,
  some ⟨.func, 1, 8, [.nilfn], false, none⟩,
  some ⟨.int .u32, 1, 4, [.int .u32 (0)], false, some [.int]⟩]
noncomputable def ty19 : List (Option TI) := [some ⟨.func, 1, 8, [.nilfn], false, none⟩,
  some ⟨.int .u64, 1, 8, [.int .u64 (0)], false, some [.int]⟩,
  some ⟨.struct [(0, (1, 24))], 1, 8, [.int .i64 (0)], true, some [.int]⟩,
  some ⟨.struct [(0, (1, 24))], 1, 8, [.int .i64 (0)], true, some [.int]⟩,
  none,
  none,
  some ⟨.func, 1, 8, [.nilfn], false, none⟩,
  some ⟨.func, 1, 8, [.nilfn], false, none⟩,
  some ⟨.struct [(0, (3, 30)), (3, (1, 3)), (4, (1, 3)), (5, (1, 3))], 6, 48, [.int .i64 (0), .int .i64 (0), .int .i64 (0), .int .i64 (0), .int .i64 (0), .int .i64 (0)], true, some [.int, .int, .int, .int, .int, .int]⟩,
  some ⟨.func, 1, 8, [.nilfn], false, none⟩,
  some ⟨.func, 1, 8, [.nilfn], false, none⟩,
  some ⟨.arr 256 4, 256, 256, replicateL [.bool false] 256, true, none⟩,
  some ⟨.arr 256 4, 256, 256, replicateL [.bool false] 256, true, none⟩,
  none,
  some ⟨.func, 1, 8, [.nilfn], false, none⟩,
  some ⟨.func, 1, 8, [.nilfn], false, none⟩]
noncomputable def ty20 : List (Option TI) := [some ⟨.ptr 316, 1, 8, [.nilptr], false, none⟩,
  none,
  some ⟨.func, 1, 8, [.nilfn], false, none⟩,
  some ⟨.func, 1, 8, [.nilfn], false, none⟩,
  some ⟨.struct [(0, (1, 24))], 1, 8, [.int .i64 (0)], true, some [.int]⟩,
  some ⟨.struct [(0, (1, 24))], 1, 8, [.int .i64 (0)], true, some [.int]⟩,
  none,
  some ⟨.func, 1, 8, [.nilfn], false, none⟩,
  some ⟨.func, 1, 8, [.nilfn], false, none⟩,
  some ⟨.func, 1, 8, [.nilfn], false, none⟩,
  some ⟨.func, 1, 8, [.nilfn], false, none⟩,
  some ⟨.func, 1, 8, [.nilfn], false, none⟩,
  some ⟨.func, 1, 8, [.nilfn], false, none⟩,
  none,
  some ⟨.func, 1, 8, [.nilfn], false, none⟩,
  some ⟨.func, 1, 8, [.nilfn], false, none⟩]
noncomputable def ty21 : List (Option TI) := [some ⟨.slice 9, 1, 24, [.nilslc], false, none⟩,
  none,
  some ⟨.func, 1, 8, [.nilfn], false, none⟩,
  some ⟨.func, 1, 8, [.nilfn], false, none⟩,
  some ⟨.func, 1, 8, [.nilfn], false, none⟩,
  some ⟨.func, 1, 8, [.nilfn], false, none⟩,
  some ⟨.func, 1, 8, [.nilfn], false, none⟩,
  some ⟨.func, 1, 8, [.nilfn], false, none⟩,
  some ⟨.func, 1, 8, [.nilfn], false, none⟩,
  some ⟨.func, 1, 8, [.nilfn], false, none⟩,
  some ⟨.func, 1, 8, [.nilfn], false, none⟩,
  some ⟨.struct [(0, (1, 33)), (1, (1, 24))], 2, 32, [.nilslc, .int .i64 (0)], true, none⟩,
  some ⟨.struct [(0, (1, 33)), (1, (1, 24))], 2, 32, [.nilslc, .int .i64 (0)], true, none⟩,
  some ⟨.func, 1, 8, [.nilfn], false, none⟩,
  none,
  some ⟨.func, 1, 8, [.nilfn], false, none⟩]
noncomputable def ty22 : List (Option TI) := [none,
  some ⟨.struct [(0, (1, 4)), (1, (1, 33)), (2, (1, 24))], 3, 40, [.bool false, .nilslc, .int .i64 (0)], true, none⟩,
  some ⟨.struct [(0, (1, 4)), (1, (1, 33)), (2, (1, 24))], 3, 40, [.bool false, .nilslc, .int .i64 (0)], true, none⟩,
  none,
  some ⟨.func, 1, 8, [.nilfn], false, none⟩,
  some ⟨.func, 1, 8, [.nilfn], false, none⟩,
  some ⟨.int .u64, 1, 8, [.int .u64 (0)], false, some [.int]⟩,
  some ⟨.func, 1, 8, [.nilfn], false, none⟩,
  some ⟨.func, 1, 8, [.nilfn], false, none⟩,
  some ⟨.func, 1, 8, [.nilfn], false, none⟩,
  some ⟨.ptr 3, 1, 8, [.nilptr], false, none⟩,
  some ⟨.func, 1, 8, [.nilfn], false, none⟩,
  none,
  some ⟨.func, 1, 8, [.nilfn], false, none⟩,
  some ⟨.func, 1, 8, [.nilfn], false, none⟩,
  some ⟨.func, 1, 8, [.nilfn], false, none⟩]
noncomputable def ty23 : List (Option TI) := [some ⟨.func, 1, 8, [.nilfn], false, none⟩,
  none,
  some ⟨.func, 1, 8, [.nilfn], false, none⟩,
  some ⟨.func, 1, 8, [.nilfn], false, none⟩,
  some ⟨.ptr 373, 1, 8, [.nilptr], false, none⟩,
  some ⟨.struct [(0, (1, 33)), (1, (1, 3))], 2, 32, [.nilslc, .int .i64 (0)], true, none⟩,
  some ⟨.func, 1, 8, [.nilfn], false, none⟩,
  some ⟨.func, 1, 8, [.nilfn], false, none⟩,
  none,
  some ⟨.func, 1, 8, [.nilfn], false, none⟩,
  some ⟨.func, 1, 8, [.nilfn], false, none⟩,
  some ⟨.func, 1, 8, [.nilfn], false, none⟩,
  some ⟨.func, 1, 8, [.nilfn], false, none⟩,
  some ⟨.func, 1, 8, [.nilfn], false, none⟩,
  some ⟨.func, 1, 8, [.nilfn], false, none⟩,
  some ⟨.ptr 358, 1, 8, [.nilptr], false, none⟩]
noncomputable def ty24 : List (Option TI) := [none,
  some ⟨.func, 1, 8, [.nilfn], false, none⟩,
  none,
  some ⟨.func, 1, 8, [.nilfn], false, none⟩,
  some ⟨.func, 1, 8, [.nilfn], false, none⟩,
  some ⟨.func, 1, 8, [.nilfn], false, none⟩,
  some ⟨.func, 1, 8, [.nilfn], false, none⟩,
  some ⟨.func, 1, 8, [.nilfn], false, none⟩,
  some ⟨.func, 1, 8, [.nilfn], false, none⟩,
  some ⟨.func, 1, 8, [.nilfn], false, none⟩,
  some ⟨.func, 1, 8, [.nilfn], false, none⟩,
  some ⟨.func, 1, 8, [.nilfn], false, none⟩,
  some ⟨.func, 1, 8, [.nilfn], false, none⟩,
  some ⟨.func, 1, 8, [.nilfn], false, none⟩,
  some ⟨.func, 1, 8, [.nilfn], false, none⟩,
  some ⟨.func, 1, 8, [.nilfn], false, none⟩]
noncomputable def ty25 : List (Option TI) := [some ⟨.func, 1, 8, [.nilfn], false, none⟩,
  some ⟨.func, 1, 8, [.nilfn], false, none⟩,
  some ⟨.func, 1, 8, [.nilfn], false, none⟩,
  some ⟨.func, 1, 8, [.nilfn], false, none⟩,
  some ⟨.func, 1, 8, [.nilfn], false, none⟩,
  some ⟨.func, 1, 8, [.nilfn], false, none⟩,
  some ⟨.func, 1, 8, [.nilfn], false, none⟩,
  some ⟨.func, 1, 8, [.nilfn], false, none⟩,
  some ⟨.func, 1, 8, [.nilfn], false, none⟩,
  some ⟨.arr 256 5, 256, 256, replicateL [.int .u8 (0)] 256, true, none⟩,
  some ⟨.struct [(0, (1, 5)), (1, (1, 5))], 2, 2, [.int .u8 (0), .int .u8 (0)], true, some [.int, .int]⟩,
  some ⟨.struct [(0, (1, 5)), (1, (1, 5))], 2, 2, [.int .u8 (0), .int .u8 (0)], true, some [.int, .int]⟩,
  some ⟨.arr 16 411, 32, 32, replicateL [.int .u8 (0)] 32, true, some [.int, .int, .int, .int, .int, .int, .int, .int, .int, .int, .int, .int, .int, .int, .int, .int, .int, .int, .int, .int, .int, .int, .int, .int, .int, .int, .int, .int, .int, .int, .int, .int]⟩,
  some ⟨.func, 1, 8, [.nilfn], false, none⟩,
  some ⟨.func, 1, 8, [.nilfn], false, none⟩,
  some ⟨.func, 1, 8, [.nilfn], false, none⟩]
noncomputable def ty26 : List (Option TI) := [some ⟨.func, 1, 8, [.nilfn], false, none⟩,
  some ⟨.func, 1, 8, [.nilfn], false, none⟩,
  some ⟨.func, 1, 8, [.nilfn], false, none⟩,
  some ⟨.func, 1, 8, [.nilfn], false, none⟩,
  some ⟨.ptr 422, 1, 8, [.nilptr], false, none⟩,
  some ⟨.struct [(0, (1, 420)), (1, (1, 33))], 2, 32, [.nilptr, .nilslc], true, none⟩,
  some ⟨.struct [(0, (1, 420)), (1, (1, 33))], 2, 32, [.nilptr, .nilslc], true, none⟩,
  some ⟨.iface, 1, 16, [.nilif], false, none⟩,
  some ⟨.iface, 1, 16, [.nilif], false, none⟩,
  none,
  some ⟨.func, 1, 8, [.nilfn], false, none⟩,
  some ⟨.func, 1, 8, [.nilfn], false, none⟩,
  some ⟨.func, 1, 8, [.nilfn], false, none⟩,
  some ⟨.ptr 5, 1, 8, [.nilptr], false, none⟩,
  some ⟨.other, 1, 8, [.nilptr], false, none⟩,
  some ⟨.func, 1, 8, [.nilfn], false, none⟩]
noncomputable def ty27 : List (Option TI) := [some ⟨.struct [(0, (1, 17)), (1, (1, 17)), (2, (1, 17)), (3, (1, 9))], 4, 40, [.nilptr, .nilptr, .nilptr, .str []], true, none⟩,
  some ⟨.struct [(0, (1, 17)), (1, (1, 17)), (2, (1, 17)), (3, (1, 9))], 4, 40, [.nilptr, .nilptr, .nilptr, .str []], true, none⟩,
  some ⟨.arr 0 16, 0, 0, [], true, none⟩,
  some ⟨.struct [(0, (0, 434))], 0, 0, [], true, none⟩,
  some ⟨.struct [(0, (0, 434))], 0, 0, [], true, none⟩,
  some ⟨.int .u8, 1, 1, [.int .u8 (0)], false, some [.int]⟩,
  some ⟨.int .u8, 1, 1, [.int .u8 (0)], false, some [.int]⟩,
  some ⟨.func, 1, 8, [.nilfn], false, none⟩,
  some ⟨.int .i32, 1, 4, [.int .i32 (0)], false, some [.int]⟩,
  some ⟨.int .i32, 1, 4, [.int .i32 (0)], false, some [.int]⟩,
  some ⟨.struct [(0, (1, 12)), (1, (1, 12)), (2, (1, 303)), (3, (1, 437)), (4, (1, 5)), (5, (1, 5)), (6, (1, 438)), (7, (1, 439)), (8, (1, 429)), (9, (1, 440)), (10, (1, 441))], 11, 48, [.int .u64 (0), .int .u64 (0), .int .u32 (0), .int .u8 (0), .int .u8 (0), .int .u8 (0), .int .u8 (0), .nilfn, .nilptr, .int .i32 (0), .int .i32 (0)], true, none⟩,
  some ⟨.struct [(0, (1, 12)), (1, (1, 12)), (2, (1, 303)), (3, (1, 437)), (4, (1, 5)), (5, (1, 5)), (6, (1, 438)), (7, (1, 439)), (8, (1, 429)), (9, (1, 440)), (10, (1, 441))], 11, 48, [.int .u64 (0), .int .u64 (0), .int .u32 (0), .int .u8 (0), .int .u8 (0), .int .u8 (0), .int .u8 (0), .nilfn, .nilptr, .int .i32 (0), .int .i32 (0)], true, none⟩,
  none,
  none,
  none,
  none]
noncomputable def fn0 : List (Option AFn) := [some ⟨false, Tryz.f0.body, 0, Tryz.f0.results.toList⟩, some ⟨false, Tryz.f1.body, 0, Tryz.f1.results.toList⟩, some ⟨false, Tryz.f2.body, 1, Tryz.f2.results.toList⟩, some ⟨false, Tryz.f3.body, 55, Tryz.f3.results.toList⟩, some ⟨false, Tryz.f4.body, 61, Tryz.f4.results.toList⟩, some ⟨false, Tryz.f5.body, 27, Tryz.f5.results.toList⟩, some ⟨false, Tryz.f6.body, 45, Tryz.f6.results.toList⟩, some ⟨false, Tryz.f7.body, 99, Tryz.f7.results.toList⟩, some ⟨false, Tryz.f8.body, 11, Tryz.f8.results.toList⟩, some ⟨false, Tryz.f9.body, 223, Tryz.f9.results.toList⟩, some ⟨false, Tryz.f10.body, 84, Tryz.f10.results.toList⟩, some ⟨false, Tryz.f11.body, 26, Tryz.f11.results.toList⟩, some ⟨false, Tryz.f12.body, 65, Tryz.f12.results.toList⟩, some ⟨false, Tryz.f13.body, 9, Tryz.f13.results.toList⟩, some ⟨false, Tryz.f14.body, 94, Tryz.f14.results.toList⟩, some ⟨false, Tryz.f15.body, 8, Tryz.f15.results.toList⟩]
noncomputable def fn1 : List (Option AFn) := [some ⟨false, Tryz.f16.body, 39, Tryz.f16.results.toList⟩, some ⟨false, Tryz.f17.body, 72, Tryz.f17.results.toList⟩, some ⟨false, Tryz.f18.body, 12, Tryz.f18.results.toList⟩, some ⟨false, Tryz.f19.body, 21, Tryz.f19.results.toList⟩, some ⟨false, Tryz.f20.body, 25, Tryz.f20.results.toList⟩, some ⟨false, Tryz.f21.body, 105, Tryz.f21.results.toList⟩, some ⟨false, Tryz.f22.body, 7, Tryz.f22.results.toList⟩, some ⟨false, Tryz.f23.body, 47, Tryz.f23.results.toList⟩, some ⟨false, Tryz.f24.body, 21, Tryz.f24.results.toList⟩, some ⟨false, Tryz.f25.body, 21, Tryz.f25.results.toList⟩, some ⟨false, Tryz.f26.body, 24, Tryz.f26.results.toList⟩, some ⟨false, Tryz.f27.body, 100, Tryz.f27.results.toList⟩, some ⟨false, Tryz.f28.body, 48, Tryz.f28.results.toList⟩, some ⟨false, Tryz.f29.body, 29, Tryz.f29.results.toList⟩, some ⟨false, Tryz.f30.body, 10, Tryz.f30.results.toList⟩, some ⟨false, Tryz.f31.body, 9, Tryz.f31.results.toList⟩]
noncomputable def fn2 : List (Option AFn) := [some ⟨false, Tryz.f32.body, 38, Tryz.f32.results.toList⟩, some ⟨false, Tryz.f33.body, 21, Tryz.f33.results.toList⟩, some ⟨false, Tryz.f34.body, 16, Tryz.f34.results.toList⟩, some ⟨false, Tryz.f35.body, 43, Tryz.f35.results.toList⟩, some ⟨false, Tryz.f36.body, 91, Tryz.f36.results.toList⟩, some ⟨false, Tryz.f37.body, 26, Tryz.f37.results.toList⟩, some ⟨false, Tryz.f38.body, 3, Tryz.f38.results.toList⟩, some ⟨false, Tryz.f39.body, 6, Tryz.f39.results.toList⟩, some ⟨false, Tryz.f40.body, 3, Tryz.f40.results.toList⟩, some ⟨false, Tryz.f41.body, 9, Tryz.f41.results.toList⟩, some ⟨false, Tryz.f42.body, 11, Tryz.f42.results.toList⟩, some ⟨false, Tryz.f43.body, 16, Tryz.f43.results.toList⟩, some ⟨false, Tryz.f44.body, 12, Tryz.f44.results.toList⟩, some ⟨false, Tryz.f45.body, 20, Tryz.f45.results.toList⟩, some ⟨false, Tryz.f46.body, 12, Tryz.f46.results.toList⟩, some ⟨false, Tryz.f47.body, 29, Tryz.f47.results.toList⟩]
noncomputable def fn3 : List (Option AFn) := [some ⟨false, Tryz.f48.body, 25, Tryz.f48.results.toList⟩, some ⟨false, Tryz.f49.body, 84, Tryz.f49.results.toList⟩, some ⟨false, Tryz.f50.body, 41, Tryz.f50.results.toList⟩, some ⟨false, Tryz.f51.body, 14, Tryz.f51.results.toList⟩, some ⟨false, Tryz.f52.body, 62, Tryz.f52.results.toList⟩, some ⟨false, Tryz.f53.body, 8, Tryz.f53.results.toList⟩, some ⟨false, Tryz.f54.body, 14, Tryz.f54.results.toList⟩, some ⟨false, Tryz.f55.body, 10, Tryz.f55.results.toList⟩, some ⟨false, Tryz.f56.body, 22, Tryz.f56.results.toList⟩, some ⟨false, Tryz.f57.body, 29, Tryz.f57.results.toList⟩, some ⟨false, Tryz.f58.body, 16, Tryz.f58.results.toList⟩, some ⟨false, Tryz.f59.body, 15, Tryz.f59.results.toList⟩, some ⟨false, Tryz.f60.body, 35, Tryz.f60.results.toList⟩, some ⟨false, Tryz.f61.body, 6, Tryz.f61.results.toList⟩, some ⟨false, Tryz.f62.body, 39, Tryz.f62.results.toList⟩, some ⟨false, Tryz.f63.body, 68, Tryz.f63.results.toList⟩]
noncomputable def fn4 : List (Option AFn) := [some ⟨false, Tryz.f64.body, 6, Tryz.f64.results.toList⟩, some ⟨false, Tryz.f65.body, 9, Tryz.f65.results.toList⟩, some ⟨false, Tryz.f66.body, 31, Tryz.f66.results.toList⟩, some ⟨false, Tryz.f67.body, 26, Tryz.f67.results.toList⟩, some ⟨false, Tryz.f68.body, 37, Tryz.f68.results.toList⟩, some ⟨false, Tryz.f69.body, 12, Tryz.f69.results.toList⟩, some ⟨false, Tryz.f70.body, 29, Tryz.f70.results.toList⟩, some ⟨false, Tryz.f71.body, 83, Tryz.f71.results.toList⟩, some ⟨false, Tryz.f72.body, 95, Tryz.f72.results.toList⟩, some ⟨false, Tryz.f73.body, 10, Tryz.f73.results.toList⟩, some ⟨false, Tryz.f74.body, 58, Tryz.f74.results.toList⟩, some ⟨false, Tryz.f75.body, 26, Tryz.f75.results.toList⟩, some ⟨false, Tryz.f76.body, 19, Tryz.f76.results.toList⟩, some ⟨false, Tryz.f77.body, 91, Tryz.f77.results.toList⟩, some ⟨false, Tryz.f78.body, 10, Tryz.f78.results.toList⟩, some ⟨false, Tryz.f79.body, 15, Tryz.f79.results.toList⟩]
noncomputable def fn5 : List (Option AFn) := [some ⟨false, Tryz.f80.body, 30, Tryz.f80.results.toList⟩, some ⟨false, Tryz.f81.body, 13, Tryz.f81.results.toList⟩, some ⟨false, Tryz.f82.body, 11, Tryz.f82.results.toList⟩, some ⟨false, Tryz.f83.body, 16, Tryz.f83.results.toList⟩, some ⟨false, Tryz.f84.body, 11, Tryz.f84.results.toList⟩, some ⟨false, Tryz.f85.body, 6, Tryz.f85.results.toList⟩, some ⟨false, Tryz.f86.body, 34, Tryz.f86.results.toList⟩, some ⟨false, Tryz.f87.body, 65, Tryz.f87.results.toList⟩, some ⟨false, Tryz.f88.body, 20, Tryz.f88.results.toList⟩, some ⟨false, Tryz.f89.body, 33, Tryz.f89.results.toList⟩, some ⟨false, Tryz.f90.body, 23, Tryz.f90.results.toList⟩, some ⟨false, Tryz.f91.body, 52, Tryz.f91.results.toList⟩, some ⟨false, Tryz.f92.body, 132, Tryz.f92.results.toList⟩, some ⟨false, Tryz.f93.body, 26, Tryz.f93.results.toList⟩, some ⟨false, Tryz.f94.body, 12, Tryz.f94.results.toList⟩, some ⟨false, Tryz.f95.body, 9, Tryz.f95.results.toList⟩]
noncomputable def fn6 : List (Option AFn) := [some ⟨false, Tryz.f96.body, 118, Tryz.f96.results.toList⟩, some ⟨false, Tryz.f97.body, 70, Tryz.f97.results.toList⟩, some ⟨false, Tryz.f98.body, 40, Tryz.f98.results.toList⟩, some ⟨false, Tryz.f99.body, 38, Tryz.f99.results.toList⟩, some ⟨false, Tryz.f100.body, 115, Tryz.f100.results.toList⟩, some ⟨false, Tryz.f101.body, 64, Tryz.f101.results.toList⟩, some ⟨false, Tryz.f102.body, 31, Tryz.f102.results.toList⟩, some ⟨false, Tryz.f103.body, 21, Tryz.f103.results.toList⟩, some ⟨false, Tryz.f104.body, 16, Tryz.f104.results.toList⟩, some ⟨false, Tryz.f105.body, 7, Tryz.f105.results.toList⟩, some ⟨false, Tryz.f106.body, 53, Tryz.f106.results.toList⟩, some ⟨false, Tryz.f107.body, 10, Tryz.f107.results.toList⟩, some ⟨false, Tryz.f108.body, 8, Tryz.f108.results.toList⟩, some ⟨false, Tryz.f109.body, 9, Tryz.f109.results.toList⟩, some ⟨false, Tryz.f110.body, 8, Tryz.f110.results.toList⟩, some ⟨false, Tryz.f111.body, 12, Tryz.f111.results.toList⟩]
noncomputable def fn7 : List (Option AFn) := [some ⟨false, Tryz.f112.body, 9, Tryz.f112.results.toList⟩, some ⟨false, Tryz.f113.body, 10, Tryz.f113.results.toList⟩, some ⟨false, Tryz.f114.body, 27, Tryz.f114.results.toList⟩, some ⟨false, Tryz.f115.body, 8, Tryz.f115.results.toList⟩, some ⟨false, Tryz.f116.body, 41, Tryz.f116.results.toList⟩, some ⟨false, Tryz.f117.body, 148, Tryz.f117.results.toList⟩, some ⟨false, Tryz.f118.body, 8, Tryz.f118.results.toList⟩, some ⟨false, Tryz.f119.body, 18, Tryz.f119.results.toList⟩, some ⟨false, Tryz.f120.body, 20, Tryz.f120.results.toList⟩, some ⟨false, Tryz.f121.body, 9, Tryz.f121.results.toList⟩, some ⟨false, Tryz.f122.body, 4, Tryz.f122.results.toList⟩, some ⟨false, Tryz.f123.body, 18, Tryz.f123.results.toList⟩, some ⟨false, Tryz.f124.body, 53, Tryz.f124.results.toList⟩, some ⟨false, Tryz.f125.body, 44, Tryz.f125.results.toList⟩, some ⟨false, Tryz.f126.body, 38, Tryz.f126.results.toList⟩, some ⟨false, Tryz.f127.body, 19, Tryz.f127.results.toList⟩]
noncomputable def fn8 : List (Option AFn) := [some ⟨false, Tryz.f128.body, 28, Tryz.f128.results.toList⟩, some ⟨false, Tryz.f129.body, 48, Tryz.f129.results.toList⟩, some ⟨false, Tryz.f130.body, 59, Tryz.f130.results.toList⟩, some ⟨false, Tryz.f131.body, 12, Tryz.f131.results.toList⟩, some ⟨false, Tryz.f132.body, 20, Tryz.f132.results.toList⟩, some ⟨false, Tryz.f133.body, 7, Tryz.f133.results.toList⟩, some ⟨false, Tryz.f134.body, 23, Tryz.f134.results.toList⟩, some ⟨false, Tryz.f135.body, 12, Tryz.f135.results.toList⟩, some ⟨false, Tryz.f136.body, 90, Tryz.f136.results.toList⟩, some ⟨false, Tryz.f137.body, 18, Tryz.f137.results.toList⟩, some ⟨false, Tryz.f138.body, 29, Tryz.f138.results.toList⟩, some ⟨false, Tryz.f139.body, 18, Tryz.f139.results.toList⟩, some ⟨false, Tryz.f140.body, 16, Tryz.f140.results.toList⟩, some ⟨false, Tryz.f141.body, 30, Tryz.f141.results.toList⟩, some ⟨false, Tryz.f142.body, 4, Tryz.f142.results.toList⟩, some ⟨false, Tryz.f143.body, 42, Tryz.f143.results.toList⟩]
noncomputable def fn9 : List (Option AFn) := [some ⟨false, Tryz.f144.body, 63, Tryz.f144.results.toList⟩, some ⟨false, Tryz.f145.body, 10, Tryz.f145.results.toList⟩, some ⟨false, Tryz.f146.body, 18, Tryz.f146.results.toList⟩, some ⟨false, Tryz.f147.body, 31, Tryz.f147.results.toList⟩, some ⟨false, Tryz.f148.body, 18, Tryz.f148.results.toList⟩, some ⟨false, Tryz.f149.body, 81, Tryz.f149.results.toList⟩, some ⟨false, Tryz.f150.body, 11, Tryz.f150.results.toList⟩, some ⟨false, Tryz.f151.body, 53, Tryz.f151.results.toList⟩, some ⟨false, Tryz.f152.body, 24, Tryz.f152.results.toList⟩, some ⟨false, Tryz.f153.body, 27, Tryz.f153.results.toList⟩, some ⟨false, Tryz.f154.body, 24, Tryz.f154.results.toList⟩, some ⟨false, Tryz.f155.body, 74, Tryz.f155.results.toList⟩, some ⟨false, Tryz.f156.body, 3, Tryz.f156.results.toList⟩, some ⟨false, Tryz.f157.body, 40, Tryz.f157.results.toList⟩, some ⟨false, Tryz.f158.body, 9, Tryz.f158.results.toList⟩, some ⟨false, Tryz.f159.body, 78, Tryz.f159.results.toList⟩]
noncomputable def fn10 : List (Option AFn) := [some ⟨false, Tryz.f160.body, 107, Tryz.f160.results.toList⟩, some ⟨false, Tryz.f161.body, 9, Tryz.f161.results.toList⟩, some ⟨false, Tryz.f162.body, 59, Tryz.f162.results.toList⟩, some ⟨false, Tryz.f163.body, 112, Tryz.f163.results.toList⟩, some ⟨false, Tryz.f164.body, 33, Tryz.f164.results.toList⟩, some ⟨false, Tryz.f165.body, 30, Tryz.f165.results.toList⟩, some ⟨false, Tryz.f166.body, 36, Tryz.f166.results.toList⟩, some ⟨false, Tryz.f167.body, 20, Tryz.f167.results.toList⟩, some ⟨false, Tryz.f168.body, 6, Tryz.f168.results.toList⟩, some ⟨false, Tryz.f169.body, 87, Tryz.f169.results.toList⟩, some ⟨false, Tryz.f170.body, 8, Tryz.f170.results.toList⟩, some ⟨false, Tryz.f171.body, 54, Tryz.f171.results.toList⟩, some ⟨false, Tryz.f172.body, 6, Tryz.f172.results.toList⟩, some ⟨false, Tryz.f173.body, 21, Tryz.f173.results.toList⟩, some ⟨false, Tryz.f174.body, 9, Tryz.f174.results.toList⟩, some ⟨false, Tryz.f175.body, 31, Tryz.f175.results.toList⟩]
noncomputable def fn11 : List (Option AFn) := [some ⟨false, Tryz.f176.body, 9, Tryz.f176.results.toList⟩, some ⟨false, Tryz.f177.body, 24, Tryz.f177.results.toList⟩, some ⟨false, Tryz.f178.body, 10, Tryz.f178.results.toList⟩, some ⟨false, Tryz.f179.body, 8, Tryz.f179.results.toList⟩, some ⟨false, Tryz.f180.body, 6, Tryz.f180.results.toList⟩, some ⟨false, Tryz.f181.body, 14, Tryz.f181.results.toList⟩, some ⟨false, Tryz.f182.body, 7, Tryz.f182.results.toList⟩, some ⟨false, Tryz.f183.body, 15, Tryz.f183.results.toList⟩, some ⟨false, Tryz.f184.body, 28, Tryz.f184.results.toList⟩, some ⟨false, Tryz.f185.body, 11, Tryz.f185.results.toList⟩, some ⟨false, Tryz.f186.body, 9, Tryz.f186.results.toList⟩, some ⟨false, Tryz.f187.body, 23, Tryz.f187.results.toList⟩, some ⟨false, Tryz.f188.body, 16, Tryz.f188.results.toList⟩, some ⟨false, Tryz.f189.body, 13, Tryz.f189.results.toList⟩, some ⟨false, Tryz.f190.body, 32, Tryz.f190.results.toList⟩, some ⟨false, Tryz.f191.body, 19, Tryz.f191.results.toList⟩]
noncomputable def fn12 : List (Option AFn) := [some ⟨false, Tryz.f192.body, 9, Tryz.f192.results.toList⟩, some ⟨false, Tryz.f193.body, 42, Tryz.f193.results.toList⟩, some ⟨false, Tryz.f194.body, 8, Tryz.f194.results.toList⟩, some ⟨false, Tryz.f195.body, 10, Tryz.f195.results.toList⟩, some ⟨false, Tryz.f196.body, 63, Tryz.f196.results.toList⟩, some ⟨false, Tryz.f197.body, 41, Tryz.f197.results.toList⟩, some ⟨false, Tryz.f198.body, 11, Tryz.f198.results.toList⟩, some ⟨false, Tryz.f199.body, 8, Tryz.f199.results.toList⟩, some ⟨false, Tryz.f200.body, 21, Tryz.f200.results.toList⟩, some ⟨false, Tryz.f201.body, 53, Tryz.f201.results.toList⟩, some ⟨false, Tryz.f202.body, 60, Tryz.f202.results.toList⟩, some ⟨false, Tryz.f203.body, 67, Tryz.f203.results.toList⟩, some ⟨false, Tryz.f204.body, 63, Tryz.f204.results.toList⟩, some ⟨false, Tryz.f205.body, 34, Tryz.f205.results.toList⟩, some ⟨false, Tryz.f206.body, 141, Tryz.f206.results.toList⟩, some ⟨false, Tryz.f207.body, 90, Tryz.f207.results.toList⟩]
noncomputable def fn13 : List (Option AFn) := [some ⟨false, Tryz.f208.body, 178, Tryz.f208.results.toList⟩, some ⟨false, Tryz.f209.body, 19, Tryz.f209.results.toList⟩, some ⟨false, Tryz.f210.body, 25, Tryz.f210.results.toList⟩, some ⟨false, Tryz.f211.body, 6, Tryz.f211.results.toList⟩, some ⟨false, Tryz.f212.body, 9, Tryz.f212.results.toList⟩, some ⟨false, Tryz.f213.body, 94, Tryz.f213.results.toList⟩, some ⟨false, Tryz.f214.body, 45, Tryz.f214.results.toList⟩, some ⟨false, Tryz.f215.body, 28, Tryz.f215.results.toList⟩, some ⟨false, Tryz.f216.body, 12, Tryz.f216.results.toList⟩, some ⟨false, Tryz.f217.body, 24, Tryz.f217.results.toList⟩, some ⟨false, Tryz.f218.body, 21, Tryz.f218.results.toList⟩, some ⟨false, Tryz.f219.body, 23, Tryz.f219.results.toList⟩, some ⟨false, Tryz.f220.body, 35, Tryz.f220.results.toList⟩, some ⟨false, Tryz.f221.body, 18, Tryz.f221.results.toList⟩, some ⟨false, Tryz.f222.body, 37, Tryz.f222.results.toList⟩, some ⟨false, Tryz.f223.body, 81, Tryz.f223.results.toList⟩]
noncomputable def fn14 : List (Option AFn) := [some ⟨false, Tryz.f224.body, 19, Tryz.f224.results.toList⟩, some ⟨false, Tryz.f225.body, 21, Tryz.f225.results.toList⟩, some ⟨false, Tryz.f226.body, 20, Tryz.f226.results.toList⟩, some ⟨false, Tryz.f227.body, 26, Tryz.f227.results.toList⟩, some ⟨false, Tryz.f228.body, 15, Tryz.f228.results.toList⟩, some ⟨false, Tryz.f229.body, 7, Tryz.f229.results.toList⟩, some ⟨false, Tryz.f230.body, 43, Tryz.f230.results.toList⟩, some ⟨false, Tryz.f231.body, 33, Tryz.f231.results.toList⟩, some ⟨false, Tryz.f232.body, 10, Tryz.f232.results.toList⟩, some ⟨false, Tryz.f233.body, 20, Tryz.f233.results.toList⟩, some ⟨false, Tryz.f234.body, 93, Tryz.f234.results.toList⟩, some ⟨false, Tryz.f235.body, 47, Tryz.f235.results.toList⟩, some ⟨false, Tryz.f236.body, 14, Tryz.f236.results.toList⟩, some ⟨false, Tryz.f237.body, 33, Tryz.f237.results.toList⟩, some ⟨false, Tryz.f238.body, 12, Tryz.f238.results.toList⟩, some ⟨false, Tryz.f239.body, 37, Tryz.f239.results.toList⟩]
noncomputable def fn15 : List (Option AFn) := [some ⟨false, Tryz.f240.body, 28, Tryz.f240.results.toList⟩, some ⟨false, Tryz.f241.body, 58, Tryz.f241.results.toList⟩, some ⟨false, Tryz.f242.body, 43, Tryz.f242.results.toList⟩, some ⟨false, Tryz.f243.body, 9, Tryz.f243.results.toList⟩, some ⟨false, Tryz.f244.body, 8, Tryz.f244.results.toList⟩, some ⟨false, Tryz.f245.body, 48, Tryz.f245.results.toList⟩, some ⟨false, Tryz.f246.body, 14, Tryz.f246.results.toList⟩, some ⟨false, Tryz.f247.body, 10, Tryz.f247.results.toList⟩, some ⟨false, Tryz.f248.body, 8, Tryz.f248.results.toList⟩, some ⟨false, Tryz.f249.body, 19, Tryz.f249.results.toList⟩, some ⟨false, Tryz.f250.body, 20, Tryz.f250.results.toList⟩, some ⟨false, Tryz.f251.body, 95, Tryz.f251.results.toList⟩, some ⟨false, Tryz.f252.body, 34, Tryz.f252.results.toList⟩, some ⟨false, Tryz.f253.body, 22, Tryz.f253.results.toList⟩, some ⟨false, Tryz.f254.body, 7, Tryz.f254.results.toList⟩, some ⟨false, Tryz.f255.body, 10, Tryz.f255.results.toList⟩]
noncomputable def fn16 : List (Option AFn) := [some ⟨false, Tryz.f256.body, 7, Tryz.f256.results.toList⟩, some ⟨false, Tryz.f257.body, 19, Tryz.f257.results.toList⟩, some ⟨false, Tryz.f258.body, 11, Tryz.f258.results.toList⟩, some ⟨false, Tryz.f259.body, 19, Tryz.f259.results.toList⟩, some ⟨false, Tryz.f260.body, 19, Tryz.f260.results.toList⟩, some ⟨false, Tryz.f261.body, 20, Tryz.f261.results.toList⟩, some ⟨false, Tryz.f262.body, 45, Tryz.f262.results.toList⟩, some ⟨false, Tryz.f263.body, 82, Tryz.f263.results.toList⟩, some ⟨false, Tryz.f264.body, 7, Tryz.f264.results.toList⟩, some ⟨false, Tryz.f265.body, 33, Tryz.f265.results.toList⟩, some ⟨false, Tryz.f266.body, 18, Tryz.f266.results.toList⟩, some ⟨false, Tryz.f267.body, 41, Tryz.f267.results.toList⟩, some ⟨false, Tryz.f268.body, 13, Tryz.f268.results.toList⟩, some ⟨false, Tryz.f269.body, 29, Tryz.f269.results.toList⟩, some ⟨false, Tryz.f270.body, 35, Tryz.f270.results.toList⟩, some ⟨false, Tryz.f271.body, 10, Tryz.f271.results.toList⟩]
noncomputable def fn17 : List (Option AFn) := [some ⟨false, Tryz.f272.body, 53, Tryz.f272.results.toList⟩, some ⟨false, Tryz.f273.body, 15, Tryz.f273.results.toList⟩, some ⟨false, Tryz.f274.body, 71, Tryz.f274.results.toList⟩, some ⟨false, Tryz.f275.body, 22, Tryz.f275.results.toList⟩, some ⟨false, Tryz.f276.body, 7, Tryz.f276.results.toList⟩, some ⟨false, Tryz.f277.body, 10, Tryz.f277.results.toList⟩, some ⟨false, Tryz.f278.body, 41, Tryz.f278.results.toList⟩, some ⟨false, Tryz.f279.body, 148, Tryz.f279.results.toList⟩, some ⟨false, Tryz.f280.body, 32, Tryz.f280.results.toList⟩, some ⟨false, Tryz.f281.body, 27, Tryz.f281.results.toList⟩, some ⟨false, Tryz.f282.body, 148, Tryz.f282.results.toList⟩, some ⟨false, Tryz.f283.body, 8, Tryz.f283.results.toList⟩, some ⟨false, Tryz.f284.body, 2, Tryz.f284.results.toList⟩, some ⟨false, Tryz.f285.body, 10, Tryz.f285.results.toList⟩, some ⟨false, Tryz.f286.body, 27, Tryz.f286.results.toList⟩, some ⟨false, Tryz.f287.body, 32, Tryz.f287.results.toList⟩]
noncomputable def fn18 : List (Option AFn) := [some ⟨false, Tryz.f288.body, 6, Tryz.f288.results.toList⟩, some ⟨false, Tryz.f289.body, 69, Tryz.f289.results.toList⟩, some ⟨false, Tryz.f290.body, 18, Tryz.f290.results.toList⟩, some ⟨false, Tryz.f291.body, 24, Tryz.f291.results.toList⟩, some ⟨false, Tryz.f292.body, 5, Tryz.f292.results.toList⟩, some ⟨false, Tryz.f293.body, 6, Tryz.f293.results.toList⟩, some ⟨false, Tryz.f294.body, 8, Tryz.f294.results.toList⟩, some ⟨false, Tryz.f295.body, 6, Tryz.f295.results.toList⟩, some ⟨false, Tryz.f296.body, 122, Tryz.f296.results.toList⟩, some ⟨false, Tryz.f297.body, 53, Tryz.f297.results.toList⟩, some ⟨false, Tryz.f298.body, 60, Tryz.f298.results.toList⟩, some ⟨false, Tryz.f299.body, 67, Tryz.f299.results.toList⟩, some ⟨false, Tryz.f300.body, 63, Tryz.f300.results.toList⟩, some ⟨false, Tryz.f301.body, 34, Tryz.f301.results.toList⟩, some ⟨false, Tryz.f302.body, 141, Tryz.f302.results.toList⟩, some ⟨false, Tryz.f303.body, 90, Tryz.f303.results.toList⟩]
noncomputable def fn19 : List (Option AFn) := [some ⟨false, Tryz.f304.body, 178, Tryz.f304.results.toList⟩, some ⟨false, Tryz.f305.body, 6, Tryz.f305.results.toList⟩, some ⟨false, Tryz.f306.body, 8, Tryz.f306.results.toList⟩, some ⟨false, Tryz.f307.body, 53, Tryz.f307.results.toList⟩, some ⟨false, Tryz.f308.body, 60, Tryz.f308.results.toList⟩, some ⟨false, Tryz.f309.body, 67, Tryz.f309.results.toList⟩, some ⟨false, Tryz.f310.body, 63, Tryz.f310.results.toList⟩, some ⟨false, Tryz.f311.body, 34, Tryz.f311.results.toList⟩, some ⟨false, Tryz.f312.body, 141, Tryz.f312.results.toList⟩, some ⟨false, Tryz.f313.body, 90, Tryz.f313.results.toList⟩, some ⟨false, Tryz.f314.body, 178, Tryz.f314.results.toList⟩, some ⟨false, Tryz.f315.body, 2, Tryz.f315.results.toList⟩, some ⟨false, Tryz.f316.body, 14, Tryz.f316.results.toList⟩, some ⟨false, Tryz.f317.body, 20, Tryz.f317.results.toList⟩, some ⟨false, Tryz.f318.body, 14, Tryz.f318.results.toList⟩, some ⟨false, Tryz.f319.body, 15, Tryz.f319.results.toList⟩]
noncomputable def fn20 : List (Option AFn) := [some ⟨false, Tryz.f320.body, 9, Tryz.f320.results.toList⟩, some ⟨false, Tryz.f321.body, 23, Tryz.f321.results.toList⟩, some ⟨false, Tryz.f322.body, 15, Tryz.f322.results.toList⟩, some ⟨false, Tryz.f323.body, 23, Tryz.f323.results.toList⟩, some ⟨false, Tryz.f324.body, 82, Tryz.f324.results.toList⟩, some ⟨false, Tryz.f325.body, 18, Tryz.f325.results.toList⟩, some ⟨false, Tryz.f326.body, 41, Tryz.f326.results.toList⟩, some ⟨false, Tryz.f327.body, 75, Tryz.f327.results.toList⟩, some ⟨false, Tryz.f328.body, 8, Tryz.f328.results.toList⟩, some ⟨false, Tryz.f329.body, 82, Tryz.f329.results.toList⟩, some ⟨false, Tryz.f330.body, 18, Tryz.f330.results.toList⟩, some ⟨false, Tryz.f331.body, 41, Tryz.f331.results.toList⟩, some ⟨false, Tryz.f332.body, 28, Tryz.f332.results.toList⟩, some ⟨false, Tryz.f333.body, 12, Tryz.f333.results.toList⟩, some ⟨false, Tryz.f334.body, 32, Tryz.f334.results.toList⟩, some ⟨false, Tryz.f335.body, 25, Tryz.f335.results.toList⟩]
noncomputable def fn21 : List (Option AFn) := [some ⟨false, Tryz.f336.body, 19, Tryz.f336.results.toList⟩, some ⟨false, Tryz.f337.body, 14, Tryz.f337.results.toList⟩, some ⟨true, Tryz.f338.body, 2, Tryz.f338.results.toList⟩, some ⟨false, Tryz.f339.body, 32, Tryz.f339.results.toList⟩, some ⟨false, Tryz.f340.body, 20, Tryz.f340.results.toList⟩, some ⟨false, Tryz.f341.body, 30, Tryz.f341.results.toList⟩, some ⟨false, Tryz.f342.body, 1, Tryz.f342.results.toList⟩, some ⟨false, Tryz.f343.body, 1, Tryz.f343.results.toList⟩, some ⟨false, Tryz.f344.body, 1, Tryz.f344.results.toList⟩, some ⟨false, Tryz.f345.body, 1, Tryz.f345.results.toList⟩, some ⟨false, Tryz.f346.body, 1, Tryz.f346.results.toList⟩, some ⟨false, Tryz.f347.body, 1, Tryz.f347.results.toList⟩, some ⟨false, Tryz.f348.body, 1, Tryz.f348.results.toList⟩, some ⟨false, Tryz.f349.body, 1, Tryz.f349.results.toList⟩, some ⟨false, Tryz.f350.body, 1, Tryz.f350.results.toList⟩, some ⟨false, Tryz.f351.body, 1, Tryz.f351.results.toList⟩]
noncomputable def fn22 : List (Option AFn) := [some ⟨false, Tryz.f352.body, 1, Tryz.f352.results.toList⟩, some ⟨false, Tryz.f353.body, 1, Tryz.f353.results.toList⟩, some ⟨false, Tryz.f354.body, 1, Tryz.f354.results.toList⟩, some ⟨false, Tryz.f355.body, 1, Tryz.f355.results.toList⟩, some ⟨false, Tryz.f356.body, 1, Tryz.f356.results.toList⟩, some ⟨false, Tryz.f357.body, 1, Tryz.f357.results.toList⟩, some ⟨false, Tryz.f358.body, 1, Tryz.f358.results.toList⟩, some ⟨false, Tryz.f359.body, 1, Tryz.f359.results.toList⟩, some ⟨false, Tryz.f360.body, 1, Tryz.f360.results.toList⟩, some ⟨false, Tryz.f361.body, 2, Tryz.f361.results.toList⟩, some ⟨false, Tryz.f362.body, 1, Tryz.f362.results.toList⟩, some ⟨false, Tryz.f363.body, 2, Tryz.f363.results.toList⟩, some ⟨false, Tryz.f364.body, 1, Tryz.f364.results.toList⟩, some ⟨false, Tryz.f365.body, 1, Tryz.f365.results.toList⟩, some ⟨false, Tryz.f366.body, 1, Tryz.f366.results.toList⟩, some ⟨false, Tryz.f367.body, 0, Tryz.f367.results.toList⟩]
noncomputable def fn23 : List (Option AFn) := [some ⟨false, Tryz.f368.body, 0, Tryz.f368.results.toList⟩, some ⟨false, Tryz.f369.body, 0, Tryz.f369.results.toList⟩, some ⟨false, Tryz.f370.body, 0, Tryz.f370.results.toList⟩, some ⟨false, Tryz.f371.body, 6, Tryz.f371.results.toList⟩, none, none, none, none, none, none, none, none, none, none, none, none]
noncomputable def T : Tab := ⟨[ty0, ty1, ty2, ty3, ty4, ty5, ty6, ty7, ty8, ty9, ty10, ty11, ty12, ty13, ty14, ty15, ty16, ty17, ty18, ty19, ty20, ty21, ty22, ty23, ty24, ty25, ty26, ty27], [fn0, fn1, fn2, fn3, fn4, fn5, fn6, fn7, fn8, fn9, fn10, fn11, fn12, fn13, fn14, fn15, fn16, fn17, fn18, fn19, fn20, fn21, fn22, fn23]⟩

set_option maxRecDepth 100000
theorem ty0_ok : ty0 = (List.range 16).map fun j => tiOf Tryz.prog (16 * 0 + j) := by kernel_rfl
theorem ty1_ok : ty1 = (List.range 16).map fun j => tiOf Tryz.prog (16 * 1 + j) := by kernel_rfl
theorem ty2_ok : ty2 = (List.range 16).map fun j => tiOf Tryz.prog (16 * 2 + j) := by kernel_rfl
theorem ty3_ok : ty3 = (List.range 16).map fun j => tiOf Tryz.prog (16 * 3 + j) := by kernel_rfl
theorem ty4_ok : ty4 = (List.range 16).map fun j => tiOf Tryz.prog (16 * 4 + j) := by kernel_rfl
theorem ty5_ok : ty5 = (List.range 16).map fun j => tiOf Tryz.prog (16 * 5 + j) := by kernel_rfl
theorem ty6_ok : ty6 = (List.range 16).map fun j => tiOf Tryz.prog (16 * 6 + j) := by kernel_rfl
theorem ty7_ok : ty7 = (List.range 16).map fun j => tiOf Tryz.prog (16 * 7 + j) := by kernel_rfl
theorem ty8_ok : ty8 = (List.range 16).map fun j => tiOf Tryz.prog (16 * 8 + j) := by kernel_rfl
theorem ty9_ok : ty9 = (List.range 16).map fun j => tiOf Tryz.prog (16 * 9 + j) := by kernel_rfl
theorem ty10_ok : ty10 = (List.range 16).map fun j => tiOf Tryz.prog (16 * 10 + j) := by kernel_rfl
theorem ty11_ok : ty11 = (List.range 16).map fun j => tiOf Tryz.prog (16 * 11 + j) := by kernel_rfl
theorem ty12_ok : ty12 = (List.range 16).map fun j => tiOf Tryz.prog (16 * 12 + j) := by kernel_rfl
theorem ty13_ok : ty13 = (List.range 16).map fun j => tiOf Tryz.prog (16 * 13 + j) := by kernel_rfl
theorem ty14_ok : ty14 = (List.range 16).map fun j => tiOf Tryz.prog (16 * 14 + j) := by kernel_rfl
theorem ty15_ok : ty15 = (List.range 16).map fun j => tiOf Tryz.prog (16 * 15 + j) := by kernel_rfl
theorem ty16_ok : ty16 = (List.range 16).map fun j => tiOf Tryz.prog (16 * 16 + j) := by kernel_rfl
theorem ty17_ok : ty17 = (List.range 16).map fun j => tiOf Tryz.prog (16 * 17 + j) := by kernel_rfl
theorem ty18_ok : ty18 = (List.range 16).map fun j => tiOf Tryz.prog (16 * 18 + j) := by kernel_rfl
theorem ty19_ok : ty19 = (List.range 16).map fun j => tiOf Tryz.prog (16 * 19 + j) := by kernel_rfl
theorem ty20_ok : ty20 = (List.range 16).map fun j => tiOf Tryz.prog (16 * 20 + j) := by kernel_rfl
theorem ty21_ok : ty21 = (List.range 16).map fun j => tiOf Tryz.prog (16 * 21 + j) := by kernel_rfl
theorem ty22_ok : ty22 = (List.range 16).map fun j => tiOf Tryz.prog (16 * 22 + j) := by kernel_rfl
theorem ty23_ok : ty23 = (List.range 16).map fun j => tiOf Tryz.prog (16 * 23 + j) := by kernel_rfl
theorem ty24_ok : ty24 = (List.range 16).map fun j => tiOf Tryz.prog (16 * 24 + j) := by kernel_rfl
theorem ty25_ok : ty25 = (List.range 16).map fun j => tiOf Tryz.prog (16 * 25 + j) := by kernel_rfl
theorem ty26_ok : ty26 = (List.range 16).map fun j => tiOf Tryz.prog (16 * 26 + j) := by kernel_rfl
theorem ty27_ok : ty27 = (List.range 16).map fun j => tiOf Tryz.prog (16 * 27 + j) := by kernel_rfl
theorem fn0_ok : fn0 = (List.range 16).map fun j => fnOf Tryz.prog (16 * 0 + j) := by kernel_rfl
theorem fn1_ok : fn1 = (List.range 16).map fun j => fnOf Tryz.prog (16 * 1 + j) := by kernel_rfl
theorem fn2_ok : fn2 = (List.range 16).map fun j => fnOf Tryz.prog (16 * 2 + j) := by kernel_rfl
theorem fn3_ok : fn3 = (List.range 16).map fun j => fnOf Tryz.prog (16 * 3 + j) := by kernel_rfl
theorem fn4_ok : fn4 = (List.range 16).map fun j => fnOf Tryz.prog (16 * 4 + j) := by kernel_rfl
theorem fn5_ok : fn5 = (List.range 16).map fun j => fnOf Tryz.prog (16 * 5 + j) := by kernel_rfl
theorem fn6_ok : fn6 = (List.range 16).map fun j => fnOf Tryz.prog (16 * 6 + j) := by kernel_rfl
theorem fn7_ok : fn7 = (List.range 16).map fun j => fnOf Tryz.prog (16 * 7 + j) := by kernel_rfl
theorem fn8_ok : fn8 = (List.range 16).map fun j => fnOf Tryz.prog (16 * 8 + j) := by kernel_rfl
theorem fn9_ok : fn9 = (List.range 16).map fun j => fnOf Tryz.prog (16 * 9 + j) := by kernel_rfl
theorem fn10_ok : fn10 = (List.range 16).map fun j => fnOf Tryz.prog (16 * 10 + j) := by kernel_rfl
theorem fn11_ok : fn11 = (List.range 16).map fun j => fnOf Tryz.prog (16 * 11 + j) := by kernel_rfl
theorem fn12_ok : fn12 = (List.range 16).map fun j => fnOf Tryz.prog (16 * 12 + j) := by kernel_rfl
theorem fn13_ok : fn13 = (List.range 16).map fun j => fnOf Tryz.prog (16 * 13 + j) := by kernel_rfl
theorem fn14_ok : fn14 = (List.range 16).map fun j => fnOf Tryz.prog (16 * 14 + j) := by kernel_rfl
theorem fn15_ok : fn15 = (List.range 16).map fun j => fnOf Tryz.prog (16 * 15 + j) := by kernel_rfl
theorem fn16_ok : fn16 = (List.range 16).map fun j => fnOf Tryz.prog (16 * 16 + j) := by kernel_rfl
theorem fn17_ok : fn17 = (List.range 16).map fun j => fnOf Tryz.prog (16 * 17 + j) := by kernel_rfl
theorem fn18_ok : fn18 = (List.range 16).map fun j => fnOf Tryz.prog (16 * 18 + j) := by kernel_rfl
theorem fn19_ok : fn19 = (List.range 16).map fun j => fnOf Tryz.prog (16 * 19 + j) := by kernel_rfl
theorem fn20_ok : fn20 = (List.range 16).map fun j => fnOf Tryz.prog (16 * 20 + j) := by kernel_rfl
theorem fn21_ok : fn21 = (List.range 16).map fun j => fnOf Tryz.prog (16 * 21 + j) := by kernel_rfl
theorem fn22_ok : fn22 = (List.range 16).map fun j => fnOf Tryz.prog (16 * 22 + j) := by kernel_rfl
theorem fn23_ok : fn23 = (List.range 16).map fun j => fnOf Tryz.prog (16 * 23 + j) := by kernel_rfl
theorem tys_ok : T.tys = (List.range 28).map fun r => (List.range 16).map fun j => tiOf Tryz.prog (16 * r + j) := by
  show [ty0, ty1, ty2, ty3, ty4, ty5, ty6, ty7, ty8, ty9, ty10, ty11, ty12, ty13, ty14, ty15, ty16, ty17, ty18, ty19, ty20, ty21, ty22, ty23, ty24, ty25, ty26, ty27] = _
  rw [ty0_ok, ty1_ok, ty2_ok, ty3_ok, ty4_ok, ty5_ok, ty6_ok, ty7_ok, ty8_ok, ty9_ok, ty10_ok, ty11_ok, ty12_ok, ty13_ok, ty14_ok, ty15_ok, ty16_ok, ty17_ok, ty18_ok, ty19_ok, ty20_ok, ty21_ok, ty22_ok, ty23_ok, ty24_ok, ty25_ok, ty26_ok, ty27_ok]
  kernel_rfl
theorem fns_ok : T.fns = (List.range 24).map fun r => (List.range 16).map fun j => fnOf Tryz.prog (16 * r + j) := by
  show [fn0, fn1, fn2, fn3, fn4, fn5, fn6, fn7, fn8, fn9, fn10, fn11, fn12, fn13, fn14, fn15, fn16, fn17, fn18, fn19, fn20, fn21, fn22, fn23] = _
  rw [fn0_ok, fn1_ok, fn2_ok, fn3_ok, fn4_ok, fn5_ok, fn6_ok, fn7_ok, fn8_ok, fn9_ok, fn10_ok, fn11_ok, fn12_ok, fn13_ok, fn14_ok, fn15_ok, fn16_ok, fn17_ok, fn18_ok, fn19_ok, fn20_ok, fn21_ok, fn22_ok, fn23_ok]
  kernel_rfl
theorem T_ok : TabOk Tryz.prog T := tabOk_of tys_ok fns_ok
theorem mixed : Tryz.prog.follows .mixedOrders = true := by kernel_rfl
end Tabs
end Go.Proofs.YtihjifkmnbfoiaaGreatDoor
