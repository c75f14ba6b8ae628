/- The rows of the types, as far as the walks ask them. -/
import Derived.Test.YtmiboaogfjgkjaaDoorPkC
set_option linter.unusedSimpArgs false
namespace Go.Proofs.YtmiboaogfjgkjaaDoor
open Go.RowKit Am
@[go_sem] theorem ti2 : ti Tryd.prog 2 = some ⟨(.int .i64), 1, 8, [.int .i64 0]⟩ := by kernel_rfl
@[go_sem] theorem ti3 : ti Tryd.prog 3 = some ⟨(.int .i64), 1, 8, [.int .i64 0]⟩ := by kernel_rfl
@[go_sem] theorem ti4 : ti Tryd.prog 4 = some ⟨.bool, 1, 1, [.bool false]⟩ := by kernel_rfl
@[go_sem] theorem ti5 : ti Tryd.prog 5 = some ⟨(.int .u8), 1, 1, [.int .u8 0]⟩ := by kernel_rfl
@[go_sem] theorem ti6 : ti Tryd.prog 6 = some ⟨(.int .u8), 1, 1, [.int .u8 0]⟩ := by kernel_rfl
@[go_sem] theorem ti7 : ti Tryd.prog 7 = some ⟨(.struct [(0, 2), (1, 3), (2, 4), (3, 6)]), 4, 24, [.int .i64 0, .int .i64 0, .bool false, .int .u8 0]⟩ := by kernel_rfl
@[go_sem] theorem eqo7 : eqOk Tryd.prog 7 = some [(.int .i64), (.int .i64), .bool, (.int .u8)] := by kernel_rfl
@[go_sem] theorem ti8 : ti Tryd.prog 8 = some ⟨(.struct [(0, 2), (1, 3), (2, 4), (3, 6)]), 4, 24, [.int .i64 0, .int .i64 0, .bool false, .int .u8 0]⟩ := by kernel_rfl
@[go_sem] theorem eqo8 : eqOk Tryd.prog 8 = some [(.int .i64), (.int .i64), .bool, (.int .u8)] := by kernel_rfl
@[go_sem] theorem ti9 : ti Tryd.prog 9 = some ⟨.str, 1, 16, [.string ⟨#[]⟩]⟩ := by kernel_rfl
@[go_sem] theorem ti10 : ti Tryd.prog 10 = some ⟨.str, 1, 16, [.string ⟨#[]⟩]⟩ := by kernel_rfl
@[go_sem] theorem ti11 : ti Tryd.prog 11 = some ⟨.str, 1, 16, [.string ⟨#[]⟩]⟩ := by kernel_rfl
@[go_sem] theorem ti12 : ti Tryd.prog 12 = some ⟨(.int .u64), 1, 8, [.int .u64 0]⟩ := by kernel_rfl
@[go_sem] theorem ti13 : ti Tryd.prog 13 = some ⟨(.struct [(0, 9), (1, 12)]), 2, 24, [.string ⟨#[]⟩, .int .u64 0]⟩ := by kernel_rfl
@[go_sem] theorem ti14 : ti Tryd.prog 14 = some ⟨(.struct [(0, 9), (1, 12)]), 2, 24, [.string ⟨#[]⟩, .int .u64 0]⟩ := by kernel_rfl
@[go_sem] theorem ti18 : ti Tryd.prog 18 = some ⟨(.struct [(0, 17)]), 1, 8, [.pointer none]⟩ := by kernel_rfl
@[go_sem] theorem ti19 : ti Tryd.prog 19 = some ⟨(.struct [(0, 17)]), 1, 8, [.pointer none]⟩ := by kernel_rfl
@[go_sem] theorem ti21 : ti Tryd.prog 21 = some ⟨(.int .i32), 1, 4, [.int .i32 0]⟩ := by kernel_rfl
@[go_sem] theorem ti22 : ti Tryd.prog 22 = some ⟨(.slice 52), 1, 24, [.slice none 0 0]⟩ := by kernel_rfl
@[go_sem] theorem ti25 : ti Tryd.prog 25 = some ⟨(.slice 39), 1, 24, [.slice none 0 0]⟩ := by kernel_rfl
@[go_sem] theorem ti29 : ti Tryd.prog 29 = some ⟨(.struct [(0, 3), (1, 3), (2, 3), (3, 9), (4, 9), (5, 3)]), 6, 64, [.int .i64 0, .int .i64 0, .int .i64 0, .string ⟨#[]⟩, .string ⟨#[]⟩, .int .i64 0]⟩ := by kernel_rfl
@[go_sem] theorem eqo29 : eqOk Tryd.prog 29 = some [(.int .i64), (.int .i64), (.int .i64), .str, .str, (.int .i64)] := by kernel_rfl
@[go_sem] theorem ti30 : ti Tryd.prog 30 = some ⟨(.struct [(0, 3), (1, 3), (2, 3), (3, 9), (4, 9), (5, 3)]), 6, 64, [.int .i64 0, .int .i64 0, .int .i64 0, .string ⟨#[]⟩, .string ⟨#[]⟩, .int .i64 0]⟩ := by kernel_rfl
@[go_sem] theorem eqo30 : eqOk Tryd.prog 30 = some [(.int .i64), (.int .i64), (.int .i64), .str, .str, (.int .i64)] := by kernel_rfl
@[go_sem] theorem ti31 : ti Tryd.prog 31 = some ⟨(.slice 35), 1, 24, [.slice none 0 0]⟩ := by kernel_rfl
@[go_sem] theorem ti32 : ti Tryd.prog 32 = some ⟨(.slice 9), 1, 24, [.slice none 0 0]⟩ := by kernel_rfl
@[go_sem] theorem ti33 : ti Tryd.prog 33 = some ⟨(.slice 70), 1, 24, [.slice none 0 0]⟩ := by kernel_rfl
@[go_sem] theorem ti34 : ti Tryd.prog 34 = some ⟨(.struct [(0, 3), (1, 3), (2, 3), (3, 9), (4, 31), (5, 32), (6, 33)]), 7, 112, [.int .i64 0, .int .i64 0, .int .i64 0, .string ⟨#[]⟩, .slice none 0 0, .slice none 0 0, .slice none 0 0]⟩ := by kernel_rfl
@[go_sem] theorem eqo34 : eqOk Tryd.prog 34 = some [(.int .i64), (.int .i64), (.int .i64), .str, (.slice 35), (.slice 9), (.slice 70)] := by kernel_rfl
@[go_sem] theorem ti35 : ti Tryd.prog 35 = some ⟨(.struct [(0, 3), (1, 3), (2, 3), (3, 9), (4, 31), (5, 32), (6, 33)]), 7, 112, [.int .i64 0, .int .i64 0, .int .i64 0, .string ⟨#[]⟩, .slice none 0 0, .slice none 0 0, .slice none 0 0]⟩ := by kernel_rfl
@[go_sem] theorem eqo35 : eqOk Tryd.prog 35 = some [(.int .i64), (.int .i64), (.int .i64), .str, (.slice 35), (.slice 9), (.slice 70)] := by kernel_rfl
@[go_sem] theorem ti38 : ti Tryd.prog 38 = some ⟨(.struct [(0, 3), (1, 4), (2, 9)]), 3, 32, [.int .i64 0, .bool false, .string ⟨#[]⟩]⟩ := by kernel_rfl
@[go_sem] theorem eqo38 : eqOk Tryd.prog 38 = some [(.int .i64), .bool, .str] := by kernel_rfl
@[go_sem] theorem ti39 : ti Tryd.prog 39 = some ⟨(.struct [(0, 3), (1, 4), (2, 9)]), 3, 32, [.int .i64 0, .bool false, .string ⟨#[]⟩]⟩ := by kernel_rfl
@[go_sem] theorem eqo39 : eqOk Tryd.prog 39 = some [(.int .i64), .bool, .str] := by kernel_rfl
@[go_sem] theorem ti41 : ti Tryd.prog 41 = some ⟨(.struct [(0, 3), (1, 3), (2, 3), (3, 9), (4, 9), (5, 3)]), 6, 64, [.int .i64 0, .int .i64 0, .int .i64 0, .string ⟨#[]⟩, .string ⟨#[]⟩, .int .i64 0]⟩ := by kernel_rfl
@[go_sem] theorem eqo41 : eqOk Tryd.prog 41 = some [(.int .i64), (.int .i64), (.int .i64), .str, .str, (.int .i64)] := by kernel_rfl
@[go_sem] theorem ti43 : ti Tryd.prog 43 = some ⟨(.slice 46), 1, 24, [.slice none 0 0]⟩ := by kernel_rfl
@[go_sem] theorem ti44 : ti Tryd.prog 44 = some ⟨(.slice 74), 1, 24, [.slice none 0 0]⟩ := by kernel_rfl
@[go_sem] theorem ti45 : ti Tryd.prog 45 = some ⟨(.struct [(0, 3), (1, 3), (2, 3), (3, 9), (4, 43), (5, 32), (6, 44)]), 7, 112, [.int .i64 0, .int .i64 0, .int .i64 0, .string ⟨#[]⟩, .slice none 0 0, .slice none 0 0, .slice none 0 0]⟩ := by kernel_rfl
@[go_sem] theorem eqo45 : eqOk Tryd.prog 45 = some [(.int .i64), (.int .i64), (.int .i64), .str, (.slice 46), (.slice 9), (.slice 74)] := by kernel_rfl
@[go_sem] theorem ti46 : ti Tryd.prog 46 = some ⟨(.struct [(0, 3), (1, 3), (2, 3), (3, 9), (4, 43), (5, 32), (6, 44)]), 7, 112, [.int .i64 0, .int .i64 0, .int .i64 0, .string ⟨#[]⟩, .slice none 0 0, .slice none 0 0, .slice none 0 0]⟩ := by kernel_rfl
@[go_sem] theorem eqo46 : eqOk Tryd.prog 46 = some [(.int .i64), (.int .i64), (.int .i64), .str, (.slice 46), (.slice 9), (.slice 74)] := by kernel_rfl
@[go_sem] theorem ti52 : ti Tryd.prog 52 = some ⟨(.struct [(0, 3), (1, 4), (2, 9)]), 3, 32, [.int .i64 0, .bool false, .string ⟨#[]⟩]⟩ := by kernel_rfl
@[go_sem] theorem eqo52 : eqOk Tryd.prog 52 = some [(.int .i64), .bool, .str] := by kernel_rfl
@[go_sem] theorem ti65 : ti Tryd.prog 65 = some ⟨(.slice 5), 1, 24, [.slice none 0 0]⟩ := by kernel_rfl
@[go_sem] theorem ti67 : ti Tryd.prog 67 = some ⟨(.slice 3), 1, 24, [.slice none 0 0]⟩ := by kernel_rfl
@[go_sem] theorem ti68 : ti Tryd.prog 68 = some ⟨(.slice 97), 1, 24, [.slice none 0 0]⟩ := by kernel_rfl
@[go_sem] theorem ti69 : ti Tryd.prog 69 = some ⟨(.struct [(0, 67), (1, 68)]), 2, 48, [.slice none 0 0, .slice none 0 0]⟩ := by kernel_rfl
@[go_sem] theorem eqo69 : eqOk Tryd.prog 69 = some [(.slice 3), (.slice 97)] := by kernel_rfl
@[go_sem] theorem ti70 : ti Tryd.prog 70 = some ⟨(.struct [(0, 67), (1, 68)]), 2, 48, [.slice none 0 0, .slice none 0 0]⟩ := by kernel_rfl
@[go_sem] theorem eqo70 : eqOk Tryd.prog 70 = some [(.slice 3), (.slice 97)] := by kernel_rfl
@[go_sem] theorem ti72 : ti Tryd.prog 72 = some ⟨(.slice 95), 1, 24, [.slice none 0 0]⟩ := by kernel_rfl
@[go_sem] theorem ti73 : ti Tryd.prog 73 = some ⟨(.struct [(0, 67), (1, 72)]), 2, 48, [.slice none 0 0, .slice none 0 0]⟩ := by kernel_rfl
@[go_sem] theorem eqo73 : eqOk Tryd.prog 73 = some [(.slice 3), (.slice 95)] := by kernel_rfl
@[go_sem] theorem ti74 : ti Tryd.prog 74 = some ⟨(.struct [(0, 67), (1, 72)]), 2, 48, [.slice none 0 0, .slice none 0 0]⟩ := by kernel_rfl
@[go_sem] theorem eqo74 : eqOk Tryd.prog 74 = some [(.slice 3), (.slice 95)] := by kernel_rfl
@[go_sem] theorem ti94 : ti Tryd.prog 94 = some ⟨(.struct [(0, 3), (1, 3)]), 2, 16, [.int .i64 0, .int .i64 0]⟩ := by kernel_rfl
@[go_sem] theorem eqo94 : eqOk Tryd.prog 94 = some [(.int .i64), (.int .i64)] := by kernel_rfl
@[go_sem] theorem ti95 : ti Tryd.prog 95 = some ⟨(.struct [(0, 3), (1, 3)]), 2, 16, [.int .i64 0, .int .i64 0]⟩ := by kernel_rfl
@[go_sem] theorem eqo95 : eqOk Tryd.prog 95 = some [(.int .i64), (.int .i64)] := by kernel_rfl
@[go_sem] theorem ti97 : ti Tryd.prog 97 = some ⟨(.struct [(0, 3), (1, 3)]), 2, 16, [.int .i64 0, .int .i64 0]⟩ := by kernel_rfl
@[go_sem] theorem eqo97 : eqOk Tryd.prog 97 = some [(.int .i64), (.int .i64)] := by kernel_rfl
@[go_sem] theorem ti100 : ti Tryd.prog 100 = some ⟨(.struct [(0, 99), (1, 65)]), 2, 32, [.pointer none, .slice none 0 0]⟩ := by kernel_rfl
@[go_sem] theorem eqo100 : eqOk Tryd.prog 100 = some [.other, (.slice 5)] := by kernel_rfl
@[go_sem] theorem ti101 : ti Tryd.prog 101 = some ⟨(.struct [(0, 99), (1, 65)]), 2, 32, [.pointer none, .slice none 0 0]⟩ := by kernel_rfl
@[go_sem] theorem eqo101 : eqOk Tryd.prog 101 = some [.other, (.slice 5)] := by kernel_rfl
@[go_sem] theorem ti109 : ti Tryd.prog 109 = some ⟨(.int .u64), 1, 8, [.int .u64 0]⟩ := by kernel_rfl
@[go_sem] theorem ti119 : ti Tryd.prog 119 = some ⟨(.int .u32), 1, 4, [.int .u32 0]⟩ := by kernel_rfl
@[go_sem] theorem ti121 : ti Tryd.prog 121 = some ⟨(.int .u64), 1, 8, [.int .u64 0]⟩ := by kernel_rfl
@[go_sem] theorem ti132 : ti Tryd.prog 132 = some ⟨(.struct [(0, 17), (1, 17), (2, 17), (3, 9)]), 4, 40, [.pointer none, .pointer none, .pointer none, .string ⟨#[]⟩]⟩ := by kernel_rfl
@[go_sem] theorem ti133 : ti Tryd.prog 133 = some ⟨(.struct [(0, 17), (1, 17), (2, 17), (3, 9)]), 4, 40, [.pointer none, .pointer none, .pointer none, .string ⟨#[]⟩]⟩ := by kernel_rfl
@[go_sem] theorem ti135 : ti Tryd.prog 135 = some ⟨(.struct [(0, 134)]), 0, 0, []⟩ := by kernel_rfl
@[go_sem] theorem ti136 : ti Tryd.prog 136 = some ⟨(.struct [(0, 134)]), 0, 0, []⟩ := by kernel_rfl
@[go_sem] theorem ti138 : ti Tryd.prog 138 = some ⟨(.int .u8), 1, 1, [.int .u8 0]⟩ := by kernel_rfl
@[go_sem] theorem ti139 : ti Tryd.prog 139 = some ⟨(.int .u8), 1, 1, [.int .u8 0]⟩ := by kernel_rfl
@[go_sem] theorem ti141 : ti Tryd.prog 141 = some ⟨(.int .i32), 1, 4, [.int .i32 0]⟩ := by kernel_rfl
@[go_sem] theorem ti142 : ti Tryd.prog 142 = some ⟨(.int .i32), 1, 4, [.int .i32 0]⟩ := by kernel_rfl
@[go_sem] theorem ti143 : ti Tryd.prog 143 = some ⟨(.struct [(0, 12), (1, 12), (2, 119), (3, 138), (4, 5), (5, 5), (6, 139), (7, 140), (8, 115), (9, 141), (10, 142)]), 11, 48, [.int .u64 0, .int .u64 0, .int .u32 0, .int .u8 0, .int .u8 0, .int .u8 0, .int .u8 0, .nilFunc, .pointer none, .int .i32 0, .int .i32 0]⟩ := by kernel_rfl
@[go_sem] theorem ti144 : ti Tryd.prog 144 = some ⟨(.struct [(0, 12), (1, 12), (2, 119), (3, 138), (4, 5), (5, 5), (6, 139), (7, 140), (8, 115), (9, 141), (10, 142)]), 11, 48, [.int .u64 0, .int .u64 0, .int .u32 0, .int .u8 0, .int .u8 0, .int .u8 0, .int .u8 0, .nilFunc, .pointer none, .int .i32 0, .int .i32 0]⟩ := by kernel_rfl
end Go.Proofs.YtmiboaogfjgkjaaDoor
