/- The rows of the types, as far as the walks ask them. -/
import Derived.Test.YtbknilpmpjjfpaaPkC
set_option linter.unusedSimpArgs false
namespace Go.Proofs.Ytbknilpmpjjfpaa
open Go.RowKit Am
@[go_sem] theorem ti2 : ti Try.prog 2 = some ⟨(.int .i64), 1, 8, [.int .i64 0]⟩ := by kernel_rfl
@[go_sem] theorem ti3 : ti Try.prog 3 = some ⟨(.int .i64), 1, 8, [.int .i64 0]⟩ := by kernel_rfl
@[go_sem] theorem ti4 : ti Try.prog 4 = some ⟨.bool, 1, 1, [.bool false]⟩ := by kernel_rfl
@[go_sem] theorem ti5 : ti Try.prog 5 = some ⟨(.int .u8), 1, 1, [.int .u8 0]⟩ := by kernel_rfl
@[go_sem] theorem ti6 : ti Try.prog 6 = some ⟨(.int .u8), 1, 1, [.int .u8 0]⟩ := by kernel_rfl
@[go_sem] theorem ti7 : ti Try.prog 7 = some ⟨(.struct [(0, 2), (1, 3), (2, 4), (3, 6)]), 4, 24, [.int .i64 0, .int .i64 0, .bool false, .int .u8 0]⟩ := by kernel_rfl
@[go_sem] theorem eqo7 : eqOk Try.prog 7 = some [(.int .i64), (.int .i64), .bool, (.int .u8)] := by kernel_rfl
@[go_sem] theorem ti8 : ti Try.prog 8 = some ⟨(.struct [(0, 2), (1, 3), (2, 4), (3, 6)]), 4, 24, [.int .i64 0, .int .i64 0, .bool false, .int .u8 0]⟩ := by kernel_rfl
@[go_sem] theorem eqo8 : eqOk Try.prog 8 = some [(.int .i64), (.int .i64), .bool, (.int .u8)] := by kernel_rfl
@[go_sem] theorem ti9 : ti Try.prog 9 = some ⟨.str, 1, 16, [.string ⟨#[]⟩]⟩ := by kernel_rfl
@[go_sem] theorem ti10 : ti Try.prog 10 = some ⟨.str, 1, 16, [.string ⟨#[]⟩]⟩ := by kernel_rfl
@[go_sem] theorem ti11 : ti Try.prog 11 = some ⟨.str, 1, 16, [.string ⟨#[]⟩]⟩ := by kernel_rfl
@[go_sem] theorem ti12 : ti Try.prog 12 = some ⟨(.int .u64), 1, 8, [.int .u64 0]⟩ := by kernel_rfl
@[go_sem] theorem ti13 : ti Try.prog 13 = some ⟨(.struct [(0, 9), (1, 12)]), 2, 24, [.string ⟨#[]⟩, .int .u64 0]⟩ := by kernel_rfl
@[go_sem] theorem ti14 : ti Try.prog 14 = some ⟨(.struct [(0, 9), (1, 12)]), 2, 24, [.string ⟨#[]⟩, .int .u64 0]⟩ := by kernel_rfl
@[go_sem] theorem ti18 : ti Try.prog 18 = some ⟨(.struct [(0, 17)]), 1, 8, [.pointer none]⟩ := by kernel_rfl
@[go_sem] theorem ti19 : ti Try.prog 19 = some ⟨(.struct [(0, 17)]), 1, 8, [.pointer none]⟩ := by kernel_rfl
@[go_sem] theorem ti21 : ti Try.prog 21 = some ⟨(.int .i32), 1, 4, [.int .i32 0]⟩ := by kernel_rfl
@[go_sem] theorem ti22 : ti Try.prog 22 = some ⟨(.slice 5), 1, 24, [.slice none 0 0]⟩ := by kernel_rfl
@[go_sem] theorem ti24 : ti Try.prog 24 = some ⟨(.slice 28), 1, 24, [.slice none 0 0]⟩ := by kernel_rfl
@[go_sem] theorem ti25 : ti Try.prog 25 = some ⟨(.slice 9), 1, 24, [.slice none 0 0]⟩ := by kernel_rfl
@[go_sem] theorem ti26 : ti Try.prog 26 = some ⟨(.slice 45), 1, 24, [.slice none 0 0]⟩ := by kernel_rfl
@[go_sem] theorem ti27 : ti Try.prog 27 = some ⟨(.struct [(0, 3), (1, 3), (2, 3), (3, 9), (4, 24), (5, 25), (6, 26)]), 7, 112, [.int .i64 0, .int .i64 0, .int .i64 0, .string ⟨#[]⟩, .slice none 0 0, .slice none 0 0, .slice none 0 0]⟩ := by kernel_rfl
@[go_sem] theorem eqo27 : eqOk Try.prog 27 = some [(.int .i64), (.int .i64), (.int .i64), .str, (.slice 28), (.slice 9), (.slice 45)] := by kernel_rfl
@[go_sem] theorem ti28 : ti Try.prog 28 = some ⟨(.struct [(0, 3), (1, 3), (2, 3), (3, 9), (4, 24), (5, 25), (6, 26)]), 7, 112, [.int .i64 0, .int .i64 0, .int .i64 0, .string ⟨#[]⟩, .slice none 0 0, .slice none 0 0, .slice none 0 0]⟩ := by kernel_rfl
@[go_sem] theorem eqo28 : eqOk Try.prog 28 = some [(.int .i64), (.int .i64), (.int .i64), .str, (.slice 28), (.slice 9), (.slice 45)] := by kernel_rfl
@[go_sem] theorem ti31 : ti Try.prog 31 = some ⟨(.slice 37), 1, 24, [.slice none 0 0]⟩ := by kernel_rfl
@[go_sem] theorem ti32 : ti Try.prog 32 = some ⟨(.struct [(0, 3), (1, 3), (2, 31)]), 3, 40, [.int .i64 0, .int .i64 0, .slice none 0 0]⟩ := by kernel_rfl
@[go_sem] theorem eqo32 : eqOk Try.prog 32 = some [(.int .i64), (.int .i64), (.slice 37)] := by kernel_rfl
@[go_sem] theorem ti33 : ti Try.prog 33 = some ⟨(.struct [(0, 3), (1, 3), (2, 31)]), 3, 40, [.int .i64 0, .int .i64 0, .slice none 0 0]⟩ := by kernel_rfl
@[go_sem] theorem eqo33 : eqOk Try.prog 33 = some [(.int .i64), (.int .i64), (.slice 37)] := by kernel_rfl
@[go_sem] theorem ti36 : ti Try.prog 36 = some ⟨(.struct [(0, 3), (1, 3), (2, 3), (3, 3)]), 4, 32, [.int .i64 0, .int .i64 0, .int .i64 0, .int .i64 0]⟩ := by kernel_rfl
@[go_sem] theorem eqo36 : eqOk Try.prog 36 = some [(.int .i64), (.int .i64), (.int .i64), (.int .i64)] := by kernel_rfl
@[go_sem] theorem ti37 : ti Try.prog 37 = some ⟨(.struct [(0, 3), (1, 3), (2, 3), (3, 3)]), 4, 32, [.int .i64 0, .int .i64 0, .int .i64 0, .int .i64 0]⟩ := by kernel_rfl
@[go_sem] theorem eqo37 : eqOk Try.prog 37 = some [(.int .i64), (.int .i64), (.int .i64), (.int .i64)] := by kernel_rfl
@[go_sem] theorem ti42 : ti Try.prog 42 = some ⟨(.slice 3), 1, 24, [.slice none 0 0]⟩ := by kernel_rfl
@[go_sem] theorem ti43 : ti Try.prog 43 = some ⟨(.slice 94), 1, 24, [.slice none 0 0]⟩ := by kernel_rfl
@[go_sem] theorem ti44 : ti Try.prog 44 = some ⟨(.struct [(0, 42), (1, 43)]), 2, 48, [.slice none 0 0, .slice none 0 0]⟩ := by kernel_rfl
@[go_sem] theorem eqo44 : eqOk Try.prog 44 = some [(.slice 3), (.slice 94)] := by kernel_rfl
@[go_sem] theorem ti45 : ti Try.prog 45 = some ⟨(.struct [(0, 42), (1, 43)]), 2, 48, [.slice none 0 0, .slice none 0 0]⟩ := by kernel_rfl
@[go_sem] theorem eqo45 : eqOk Try.prog 45 = some [(.slice 3), (.slice 94)] := by kernel_rfl
@[go_sem] theorem ti57 : ti Try.prog 57 = some ⟨(.slice 59), 1, 24, [.slice none 0 0]⟩ := by kernel_rfl
@[go_sem] theorem ti58 : ti Try.prog 58 = some ⟨(.struct [(0, 3), (1, 3), (2, 9), (3, 57)]), 4, 56, [.int .i64 0, .int .i64 0, .string ⟨#[]⟩, .slice none 0 0]⟩ := by kernel_rfl
@[go_sem] theorem eqo58 : eqOk Try.prog 58 = some [(.int .i64), (.int .i64), .str, (.slice 59)] := by kernel_rfl
@[go_sem] theorem ti59 : ti Try.prog 59 = some ⟨(.struct [(0, 3), (1, 3), (2, 9), (3, 57)]), 4, 56, [.int .i64 0, .int .i64 0, .string ⟨#[]⟩, .slice none 0 0]⟩ := by kernel_rfl
@[go_sem] theorem eqo59 : eqOk Try.prog 59 = some [(.int .i64), (.int .i64), .str, (.slice 59)] := by kernel_rfl
@[go_sem] theorem ti93 : ti Try.prog 93 = some ⟨(.struct [(0, 3), (1, 3)]), 2, 16, [.int .i64 0, .int .i64 0]⟩ := by kernel_rfl
@[go_sem] theorem eqo93 : eqOk Try.prog 93 = some [(.int .i64), (.int .i64)] := by kernel_rfl
@[go_sem] theorem ti94 : ti Try.prog 94 = some ⟨(.struct [(0, 3), (1, 3)]), 2, 16, [.int .i64 0, .int .i64 0]⟩ := by kernel_rfl
@[go_sem] theorem eqo94 : eqOk Try.prog 94 = some [(.int .i64), (.int .i64)] := by kernel_rfl
@[go_sem] theorem ti105 : ti Try.prog 105 = some ⟨(.struct [(0, 22), (1, 3), (2, 3)]), 3, 40, [.slice none 0 0, .int .i64 0, .int .i64 0]⟩ := by kernel_rfl
@[go_sem] theorem eqo105 : eqOk Try.prog 105 = some [(.slice 5), (.int .i64), (.int .i64)] := by kernel_rfl
@[go_sem] theorem ti106 : ti Try.prog 106 = some ⟨(.struct [(0, 22), (1, 3), (2, 3)]), 3, 40, [.slice none 0 0, .int .i64 0, .int .i64 0]⟩ := by kernel_rfl
@[go_sem] theorem eqo106 : eqOk Try.prog 106 = some [(.slice 5), (.int .i64), (.int .i64)] := by kernel_rfl
@[go_sem] theorem ti119 : ti Try.prog 119 = some ⟨(.slice 135), 1, 24, [.slice none 0 0]⟩ := by kernel_rfl
@[go_sem] theorem ti123 : ti Try.prog 123 = some ⟨(.struct [(0, 119), (1, 3), (2, 3), (3, 3)]), 4, 48, [.slice none 0 0, .int .i64 0, .int .i64 0, .int .i64 0]⟩ := by kernel_rfl
@[go_sem] theorem eqo123 : eqOk Try.prog 123 = some [(.slice 135), (.int .i64), (.int .i64), (.int .i64)] := by kernel_rfl
@[go_sem] theorem ti124 : ti Try.prog 124 = some ⟨(.struct [(0, 119), (1, 3), (2, 3), (3, 3)]), 4, 48, [.slice none 0 0, .int .i64 0, .int .i64 0, .int .i64 0]⟩ := by kernel_rfl
@[go_sem] theorem eqo124 : eqOk Try.prog 124 = some [(.slice 135), (.int .i64), (.int .i64), (.int .i64)] := by kernel_rfl
@[go_sem] theorem ti133 : ti Try.prog 133 = some ⟨(.int .u64), 1, 8, [.int .u64 0]⟩ := by kernel_rfl
@[go_sem] theorem ti134 : ti Try.prog 134 = some ⟨(.struct [(0, 3), (1, 3), (2, 3), (3, 9)]), 4, 40, [.int .i64 0, .int .i64 0, .int .i64 0, .string ⟨#[]⟩]⟩ := by kernel_rfl
@[go_sem] theorem eqo134 : eqOk Try.prog 134 = some [(.int .i64), (.int .i64), (.int .i64), .str] := by kernel_rfl
@[go_sem] theorem ti135 : ti Try.prog 135 = some ⟨(.struct [(0, 3), (1, 3), (2, 3), (3, 9)]), 4, 40, [.int .i64 0, .int .i64 0, .int .i64 0, .string ⟨#[]⟩]⟩ := by kernel_rfl
@[go_sem] theorem eqo135 : eqOk Try.prog 135 = some [(.int .i64), (.int .i64), (.int .i64), .str] := by kernel_rfl
@[go_sem] theorem ti154 : ti Try.prog 154 = some ⟨(.struct [(0, 17), (1, 17), (2, 17), (3, 9)]), 4, 40, [.pointer none, .pointer none, .pointer none, .string ⟨#[]⟩]⟩ := by kernel_rfl
@[go_sem] theorem ti155 : ti Try.prog 155 = some ⟨(.struct [(0, 17), (1, 17), (2, 17), (3, 9)]), 4, 40, [.pointer none, .pointer none, .pointer none, .string ⟨#[]⟩]⟩ := by kernel_rfl
@[go_sem] theorem ti157 : ti Try.prog 157 = some ⟨(.struct [(0, 156)]), 0, 0, []⟩ := by kernel_rfl
@[go_sem] theorem ti158 : ti Try.prog 158 = some ⟨(.struct [(0, 156)]), 0, 0, []⟩ := by kernel_rfl
@[go_sem] theorem ti160 : ti Try.prog 160 = some ⟨(.int .u32), 1, 4, [.int .u32 0]⟩ := by kernel_rfl
@[go_sem] theorem ti161 : ti Try.prog 161 = some ⟨(.int .u8), 1, 1, [.int .u8 0]⟩ := by kernel_rfl
@[go_sem] theorem ti162 : ti Try.prog 162 = some ⟨(.int .u8), 1, 1, [.int .u8 0]⟩ := by kernel_rfl
@[go_sem] theorem ti165 : ti Try.prog 165 = some ⟨(.int .i32), 1, 4, [.int .i32 0]⟩ := by kernel_rfl
@[go_sem] theorem ti166 : ti Try.prog 166 = some ⟨(.int .i32), 1, 4, [.int .i32 0]⟩ := by kernel_rfl
@[go_sem] theorem ti167 : ti Try.prog 167 = some ⟨(.struct [(0, 12), (1, 12), (2, 160), (3, 161), (4, 5), (5, 5), (6, 162), (7, 163), (8, 164), (9, 165), (10, 166)]), 11, 48, [.int .u64 0, .int .u64 0, .int .u32 0, .int .u8 0, .int .u8 0, .int .u8 0, .int .u8 0, .nilFunc, .pointer none, .int .i32 0, .int .i32 0]⟩ := by kernel_rfl
@[go_sem] theorem ti168 : ti Try.prog 168 = some ⟨(.struct [(0, 12), (1, 12), (2, 160), (3, 161), (4, 5), (5, 5), (6, 162), (7, 163), (8, 164), (9, 165), (10, 166)]), 11, 48, [.int .u64 0, .int .u64 0, .int .u32 0, .int .u8 0, .int .u8 0, .int .u8 0, .int .u8 0, .nilFunc, .pointer none, .int .i32 0, .int .i32 0]⟩ := by kernel_rfl
end Go.Proofs.Ytbknilpmpjjfpaa
