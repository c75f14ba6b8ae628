/- The rows of the types, as far as the walks ask them. -/
import Derived.Test.YtbknilpmpjjfpaaGreatPkC
set_option linter.unusedSimpArgs false
namespace Go.Proofs.YtbknilpmpjjfpaaGreat
open Go.RowKit Am
@[go_sem] theorem ti2 : ti Tryz.prog 2 = some ⟨(.int .i64), 1, 8, [.int .i64 0]⟩ := by kernel_rfl
@[go_sem] theorem ti3 : ti Tryz.prog 3 = some ⟨(.int .i64), 1, 8, [.int .i64 0]⟩ := by kernel_rfl
@[go_sem] theorem ti4 : ti Tryz.prog 4 = some ⟨.bool, 1, 1, [.bool false]⟩ := by kernel_rfl
@[go_sem] theorem ti5 : ti Tryz.prog 5 = some ⟨(.int .u8), 1, 1, [.int .u8 0]⟩ := by kernel_rfl
@[go_sem] theorem ti6 : ti Tryz.prog 6 = some ⟨(.int .u8), 1, 1, [.int .u8 0]⟩ := by kernel_rfl
@[go_sem] theorem ti7 : ti Tryz.prog 7 = some ⟨(.struct [(0, 2), (1, 3), (2, 4), (3, 6)]), 4, 24, [.int .i64 0, .int .i64 0, .bool false, .int .u8 0]⟩ := by kernel_rfl
@[go_sem] theorem eqo7 : eqOk Tryz.prog 7 = some [(.int .i64), (.int .i64), .bool, (.int .u8)] := by kernel_rfl
@[go_sem] theorem ti8 : ti Tryz.prog 8 = some ⟨(.struct [(0, 2), (1, 3), (2, 4), (3, 6)]), 4, 24, [.int .i64 0, .int .i64 0, .bool false, .int .u8 0]⟩ := by kernel_rfl
@[go_sem] theorem eqo8 : eqOk Tryz.prog 8 = some [(.int .i64), (.int .i64), .bool, (.int .u8)] := by kernel_rfl
@[go_sem] theorem ti9 : ti Tryz.prog 9 = some ⟨.str, 1, 16, [.string ⟨#[]⟩]⟩ := by kernel_rfl
@[go_sem] theorem ti10 : ti Tryz.prog 10 = some ⟨.str, 1, 16, [.string ⟨#[]⟩]⟩ := by kernel_rfl
@[go_sem] theorem ti11 : ti Tryz.prog 11 = some ⟨.str, 1, 16, [.string ⟨#[]⟩]⟩ := by kernel_rfl
@[go_sem] theorem ti12 : ti Tryz.prog 12 = some ⟨(.int .u64), 1, 8, [.int .u64 0]⟩ := by kernel_rfl
@[go_sem] theorem ti13 : ti Tryz.prog 13 = some ⟨(.struct [(0, 9), (1, 12)]), 2, 24, [.string ⟨#[]⟩, .int .u64 0]⟩ := by kernel_rfl
@[go_sem] theorem ti14 : ti Tryz.prog 14 = some ⟨(.struct [(0, 9), (1, 12)]), 2, 24, [.string ⟨#[]⟩, .int .u64 0]⟩ := by kernel_rfl
@[go_sem] theorem ti18 : ti Tryz.prog 18 = some ⟨(.struct [(0, 17)]), 1, 8, [.pointer none]⟩ := by kernel_rfl
@[go_sem] theorem ti19 : ti Tryz.prog 19 = some ⟨(.struct [(0, 17)]), 1, 8, [.pointer none]⟩ := by kernel_rfl
@[go_sem] theorem ti21 : ti Tryz.prog 21 = some ⟨(.int .i32), 1, 4, [.int .i32 0]⟩ := by kernel_rfl
@[go_sem] theorem ti22 : ti Tryz.prog 22 = some ⟨(.slice 33), 1, 24, [.slice none 0 0]⟩ := by kernel_rfl
@[go_sem] theorem ti23 : ti Tryz.prog 23 = some ⟨(.struct [(0, 22)]), 1, 24, [.slice none 0 0]⟩ := by kernel_rfl
@[go_sem] theorem eqo23 : eqOk Tryz.prog 23 = some [(.slice 33)] := by kernel_rfl
@[go_sem] theorem ti24 : ti Tryz.prog 24 = some ⟨(.struct [(0, 22)]), 1, 24, [.slice none 0 0]⟩ := by kernel_rfl
@[go_sem] theorem eqo24 : eqOk Tryz.prog 24 = some [(.slice 33)] := by kernel_rfl
@[go_sem] theorem ti25 : ti Tryz.prog 25 = some ⟨(.slice 146), 1, 24, [.slice none 0 0]⟩ := by kernel_rfl
@[go_sem] theorem ti26 : ti Tryz.prog 26 = some ⟨(.struct [(0, 3), (1, 3), (2, 25)]), 3, 40, [.int .i64 0, .int .i64 0, .slice none 0 0]⟩ := by kernel_rfl
@[go_sem] theorem eqo26 : eqOk Tryz.prog 26 = some [(.int .i64), (.int .i64), (.slice 146)] := by kernel_rfl
@[go_sem] theorem ti27 : ti Tryz.prog 27 = some ⟨(.struct [(0, 3), (1, 3), (2, 25)]), 3, 40, [.int .i64 0, .int .i64 0, .slice none 0 0]⟩ := by kernel_rfl
@[go_sem] theorem eqo27 : eqOk Tryz.prog 27 = some [(.int .i64), (.int .i64), (.slice 146)] := by kernel_rfl
@[go_sem] theorem ti28 : ti Tryz.prog 28 = some ⟨(.slice 106), 1, 24, [.slice none 0 0]⟩ := by kernel_rfl
@[go_sem] theorem ti29 : ti Tryz.prog 29 = some ⟨(.slice 113), 1, 24, [.slice none 0 0]⟩ := by kernel_rfl
@[go_sem] theorem ti30 : ti Tryz.prog 30 = some ⟨(.struct [(0, 24), (1, 27), (4, 28), (5, 29), (6, 3), (7, 3), (8, 3)]), 9, 136, [.slice none 0 0, .int .i64 0, .int .i64 0, .slice none 0 0, .slice none 0 0, .slice none 0 0, .int .i64 0, .int .i64 0, .int .i64 0]⟩ := by kernel_rfl
@[go_sem] theorem ti31 : ti Tryz.prog 31 = some ⟨(.struct [(0, 24), (1, 27), (4, 28), (5, 29), (6, 3), (7, 3), (8, 3)]), 9, 136, [.slice none 0 0, .int .i64 0, .int .i64 0, .slice none 0 0, .slice none 0 0, .slice none 0 0, .int .i64 0, .int .i64 0, .int .i64 0]⟩ := by kernel_rfl
@[go_sem] theorem ti32 : ti Tryz.prog 32 = some ⟨(.struct [(0, 3), (1, 3), (2, 3), (3, 9), (4, 9), (5, 3)]), 6, 64, [.int .i64 0, .int .i64 0, .int .i64 0, .string ⟨#[]⟩, .string ⟨#[]⟩, .int .i64 0]⟩ := by kernel_rfl
@[go_sem] theorem eqo32 : eqOk Tryz.prog 32 = some [(.int .i64), (.int .i64), (.int .i64), .str, .str, (.int .i64)] := by kernel_rfl
@[go_sem] theorem ti33 : ti Tryz.prog 33 = some ⟨(.struct [(0, 3), (1, 3), (2, 3), (3, 9), (4, 9), (5, 3)]), 6, 64, [.int .i64 0, .int .i64 0, .int .i64 0, .string ⟨#[]⟩, .string ⟨#[]⟩, .int .i64 0]⟩ := by kernel_rfl
@[go_sem] theorem eqo33 : eqOk Tryz.prog 33 = some [(.int .i64), (.int .i64), (.int .i64), .str, .str, (.int .i64)] := by kernel_rfl
@[go_sem] theorem ti34 : ti Tryz.prog 34 = some ⟨(.struct [(0, 3), (1, 3), (2, 33)]), 8, 80, [.int .i64 0, .int .i64 0, .int .i64 0, .int .i64 0, .int .i64 0, .string ⟨#[]⟩, .string ⟨#[]⟩, .int .i64 0]⟩ := by kernel_rfl
@[go_sem] theorem eqo34 : eqOk Tryz.prog 34 = some [(.int .i64), (.int .i64), (.struct [(0, 3), (1, 3), (2, 3), (3, 9), (4, 9), (5, 3)])] := by kernel_rfl
@[go_sem] theorem ti35 : ti Tryz.prog 35 = some ⟨(.struct [(0, 3), (1, 3), (2, 33)]), 8, 80, [.int .i64 0, .int .i64 0, .int .i64 0, .int .i64 0, .int .i64 0, .string ⟨#[]⟩, .string ⟨#[]⟩, .int .i64 0]⟩ := by kernel_rfl
@[go_sem] theorem eqo35 : eqOk Tryz.prog 35 = some [(.int .i64), (.int .i64), (.struct [(0, 3), (1, 3), (2, 3), (3, 9), (4, 9), (5, 3)])] := by kernel_rfl
@[go_sem] theorem ti38 : ti Tryz.prog 38 = some ⟨(.slice 51), 1, 24, [.slice none 0 0]⟩ := by kernel_rfl
@[go_sem] theorem ti39 : ti Tryz.prog 39 = some ⟨(.struct [(0, 38)]), 1, 24, [.slice none 0 0]⟩ := by kernel_rfl
@[go_sem] theorem eqo39 : eqOk Tryz.prog 39 = some [(.slice 51)] := by kernel_rfl
@[go_sem] theorem ti40 : ti Tryz.prog 40 = some ⟨(.struct [(0, 38)]), 1, 24, [.slice none 0 0]⟩ := by kernel_rfl
@[go_sem] theorem eqo40 : eqOk Tryz.prog 40 = some [(.slice 51)] := by kernel_rfl
@[go_sem] theorem ti41 : ti Tryz.prog 41 = some ⟨(.slice 156), 1, 24, [.slice none 0 0]⟩ := by kernel_rfl
@[go_sem] theorem ti42 : ti Tryz.prog 42 = some ⟨(.struct [(0, 3), (1, 3), (2, 41)]), 3, 40, [.int .i64 0, .int .i64 0, .slice none 0 0]⟩ := by kernel_rfl
@[go_sem] theorem eqo42 : eqOk Tryz.prog 42 = some [(.int .i64), (.int .i64), (.slice 156)] := by kernel_rfl
@[go_sem] theorem ti43 : ti Tryz.prog 43 = some ⟨(.struct [(0, 3), (1, 3), (2, 41)]), 3, 40, [.int .i64 0, .int .i64 0, .slice none 0 0]⟩ := by kernel_rfl
@[go_sem] theorem eqo43 : eqOk Tryz.prog 43 = some [(.int .i64), (.int .i64), (.slice 156)] := by kernel_rfl
@[go_sem] theorem ti44 : ti Tryz.prog 44 = some ⟨(.slice 129), 1, 24, [.slice none 0 0]⟩ := by kernel_rfl
@[go_sem] theorem ti45 : ti Tryz.prog 45 = some ⟨(.slice 85), 1, 24, [.slice none 0 0]⟩ := by kernel_rfl
@[go_sem] theorem ti46 : ti Tryz.prog 46 = some ⟨(.struct [(0, 40), (1, 43), (4, 44), (5, 45), (6, 3), (7, 3), (8, 3)]), 9, 136, [.slice none 0 0, .int .i64 0, .int .i64 0, .slice none 0 0, .slice none 0 0, .slice none 0 0, .int .i64 0, .int .i64 0, .int .i64 0]⟩ := by kernel_rfl
@[go_sem] theorem ti47 : ti Tryz.prog 47 = some ⟨(.struct [(0, 40), (1, 43), (4, 44), (5, 45), (6, 3), (7, 3), (8, 3)]), 9, 136, [.slice none 0 0, .int .i64 0, .int .i64 0, .slice none 0 0, .slice none 0 0, .slice none 0 0, .int .i64 0, .int .i64 0, .int .i64 0]⟩ := by kernel_rfl
@[go_sem] theorem ti51 : ti Tryz.prog 51 = some ⟨(.struct [(0, 3), (1, 3), (2, 3), (3, 9), (4, 9), (5, 3)]), 6, 64, [.int .i64 0, .int .i64 0, .int .i64 0, .string ⟨#[]⟩, .string ⟨#[]⟩, .int .i64 0]⟩ := by kernel_rfl
@[go_sem] theorem eqo51 : eqOk Tryz.prog 51 = some [(.int .i64), (.int .i64), (.int .i64), .str, .str, (.int .i64)] := by kernel_rfl
@[go_sem] theorem ti52 : ti Tryz.prog 52 = some ⟨(.struct [(0, 3), (1, 3), (2, 51)]), 8, 80, [.int .i64 0, .int .i64 0, .int .i64 0, .int .i64 0, .int .i64 0, .string ⟨#[]⟩, .string ⟨#[]⟩, .int .i64 0]⟩ := by kernel_rfl
@[go_sem] theorem eqo52 : eqOk Tryz.prog 52 = some [(.int .i64), (.int .i64), (.struct [(0, 3), (1, 3), (2, 3), (3, 9), (4, 9), (5, 3)])] := by kernel_rfl
@[go_sem] theorem ti53 : ti Tryz.prog 53 = some ⟨(.struct [(0, 3), (1, 3), (2, 51)]), 8, 80, [.int .i64 0, .int .i64 0, .int .i64 0, .int .i64 0, .int .i64 0, .string ⟨#[]⟩, .string ⟨#[]⟩, .int .i64 0]⟩ := by kernel_rfl
@[go_sem] theorem eqo53 : eqOk Tryz.prog 53 = some [(.int .i64), (.int .i64), (.struct [(0, 3), (1, 3), (2, 3), (3, 9), (4, 9), (5, 3)])] := by kernel_rfl
@[go_sem] theorem ti58 : ti Tryz.prog 58 = some ⟨(.slice 35), 1, 24, [.slice none 0 0]⟩ := by kernel_rfl
@[go_sem] theorem ti60 : ti Tryz.prog 60 = some ⟨(.slice 3), 1, 24, [.slice none 0 0]⟩ := by kernel_rfl
@[go_sem] theorem ti63 : ti Tryz.prog 63 = some ⟨(.slice 53), 1, 24, [.slice none 0 0]⟩ := by kernel_rfl
@[go_sem] theorem ti79 : ti Tryz.prog 79 = some ⟨(.slice 83), 1, 24, [.slice none 0 0]⟩ := by kernel_rfl
@[go_sem] theorem ti80 : ti Tryz.prog 80 = some ⟨(.slice 9), 1, 24, [.slice none 0 0]⟩ := by kernel_rfl
@[go_sem] theorem ti81 : ti Tryz.prog 81 = some ⟨(.slice 154), 1, 24, [.slice none 0 0]⟩ := by kernel_rfl
@[go_sem] theorem ti82 : ti Tryz.prog 82 = some ⟨(.struct [(0, 3), (1, 3), (2, 3), (3, 9), (4, 79), (5, 80), (6, 81)]), 7, 112, [.int .i64 0, .int .i64 0, .int .i64 0, .string ⟨#[]⟩, .slice none 0 0, .slice none 0 0, .slice none 0 0]⟩ := by kernel_rfl
@[go_sem] theorem eqo82 : eqOk Tryz.prog 82 = some [(.int .i64), (.int .i64), (.int .i64), .str, (.slice 83), (.slice 9), (.slice 154)] := by kernel_rfl
@[go_sem] theorem ti83 : ti Tryz.prog 83 = some ⟨(.struct [(0, 3), (1, 3), (2, 3), (3, 9), (4, 79), (5, 80), (6, 81)]), 7, 112, [.int .i64 0, .int .i64 0, .int .i64 0, .string ⟨#[]⟩, .slice none 0 0, .slice none 0 0, .slice none 0 0]⟩ := by kernel_rfl
@[go_sem] theorem eqo83 : eqOk Tryz.prog 83 = some [(.int .i64), (.int .i64), (.int .i64), .str, (.slice 83), (.slice 9), (.slice 154)] := by kernel_rfl
@[go_sem] theorem ti84 : ti Tryz.prog 84 = some ⟨(.struct [(0, 3), (1, 3), (2, 3), (3, 60), (4, 83), (11, 4)]), 12, 168, [.int .i64 0, .int .i64 0, .int .i64 0, .slice none 0 0, .int .i64 0, .int .i64 0, .int .i64 0, .string ⟨#[]⟩, .slice none 0 0, .slice none 0 0, .slice none 0 0, .bool false]⟩ := by kernel_rfl
@[go_sem] theorem ti85 : ti Tryz.prog 85 = some ⟨(.struct [(0, 3), (1, 3), (2, 3), (3, 60), (4, 83), (11, 4)]), 12, 168, [.int .i64 0, .int .i64 0, .int .i64 0, .slice none 0 0, .int .i64 0, .int .i64 0, .int .i64 0, .string ⟨#[]⟩, .slice none 0 0, .slice none 0 0, .slice none 0 0, .bool false]⟩ := by kernel_rfl
@[go_sem] theorem ti104 : ti Tryz.prog 104 = some ⟨(.slice 170), 1, 24, [.slice none 0 0]⟩ := by kernel_rfl
@[go_sem] theorem ti105 : ti Tryz.prog 105 = some ⟨(.struct [(0, 3), (1, 3), (2, 104)]), 3, 40, [.int .i64 0, .int .i64 0, .slice none 0 0]⟩ := by kernel_rfl
@[go_sem] theorem eqo105 : eqOk Tryz.prog 105 = some [(.int .i64), (.int .i64), (.slice 170)] := by kernel_rfl
@[go_sem] theorem ti106 : ti Tryz.prog 106 = some ⟨(.struct [(0, 3), (1, 3), (2, 104)]), 3, 40, [.int .i64 0, .int .i64 0, .slice none 0 0]⟩ := by kernel_rfl
@[go_sem] theorem eqo106 : eqOk Tryz.prog 106 = some [(.int .i64), (.int .i64), (.slice 170)] := by kernel_rfl
@[go_sem] theorem ti108 : ti Tryz.prog 108 = some ⟨(.slice 111), 1, 24, [.slice none 0 0]⟩ := by kernel_rfl
@[go_sem] theorem ti109 : ti Tryz.prog 109 = some ⟨(.slice 187), 1, 24, [.slice none 0 0]⟩ := by kernel_rfl
@[go_sem] theorem ti110 : ti Tryz.prog 110 = some ⟨(.struct [(0, 3), (1, 3), (2, 3), (3, 9), (4, 108), (5, 80), (6, 109)]), 7, 112, [.int .i64 0, .int .i64 0, .int .i64 0, .string ⟨#[]⟩, .slice none 0 0, .slice none 0 0, .slice none 0 0]⟩ := by kernel_rfl
@[go_sem] theorem eqo110 : eqOk Tryz.prog 110 = some [(.int .i64), (.int .i64), (.int .i64), .str, (.slice 111), (.slice 9), (.slice 187)] := by kernel_rfl
@[go_sem] theorem ti111 : ti Tryz.prog 111 = some ⟨(.struct [(0, 3), (1, 3), (2, 3), (3, 9), (4, 108), (5, 80), (6, 109)]), 7, 112, [.int .i64 0, .int .i64 0, .int .i64 0, .string ⟨#[]⟩, .slice none 0 0, .slice none 0 0, .slice none 0 0]⟩ := by kernel_rfl
@[go_sem] theorem eqo111 : eqOk Tryz.prog 111 = some [(.int .i64), (.int .i64), (.int .i64), .str, (.slice 111), (.slice 9), (.slice 187)] := by kernel_rfl
@[go_sem] theorem ti112 : ti Tryz.prog 112 = some ⟨(.struct [(0, 3), (1, 3), (2, 3), (3, 60), (4, 111), (11, 4)]), 12, 168, [.int .i64 0, .int .i64 0, .int .i64 0, .slice none 0 0, .int .i64 0, .int .i64 0, .int .i64 0, .string ⟨#[]⟩, .slice none 0 0, .slice none 0 0, .slice none 0 0, .bool false]⟩ := by kernel_rfl
@[go_sem] theorem ti113 : ti Tryz.prog 113 = some ⟨(.struct [(0, 3), (1, 3), (2, 3), (3, 60), (4, 111), (11, 4)]), 12, 168, [.int .i64 0, .int .i64 0, .int .i64 0, .slice none 0 0, .int .i64 0, .int .i64 0, .int .i64 0, .string ⟨#[]⟩, .slice none 0 0, .slice none 0 0, .slice none 0 0, .bool false]⟩ := by kernel_rfl
@[go_sem] theorem ti127 : ti Tryz.prog 127 = some ⟨(.slice 166), 1, 24, [.slice none 0 0]⟩ := by kernel_rfl
@[go_sem] theorem ti128 : ti Tryz.prog 128 = some ⟨(.struct [(0, 3), (1, 3), (2, 127)]), 3, 40, [.int .i64 0, .int .i64 0, .slice none 0 0]⟩ := by kernel_rfl
@[go_sem] theorem eqo128 : eqOk Tryz.prog 128 = some [(.int .i64), (.int .i64), (.slice 166)] := by kernel_rfl
@[go_sem] theorem ti129 : ti Tryz.prog 129 = some ⟨(.struct [(0, 3), (1, 3), (2, 127)]), 3, 40, [.int .i64 0, .int .i64 0, .slice none 0 0]⟩ := by kernel_rfl
@[go_sem] theorem eqo129 : eqOk Tryz.prog 129 = some [(.int .i64), (.int .i64), (.slice 166)] := by kernel_rfl
@[go_sem] theorem ti143 : ti Tryz.prog 143 = some ⟨(.slice 5), 1, 24, [.slice none 0 0]⟩ := by kernel_rfl
@[go_sem] theorem ti145 : ti Tryz.prog 145 = some ⟨(.struct [(0, 9), (1, 3)]), 2, 24, [.string ⟨#[]⟩, .int .i64 0]⟩ := by kernel_rfl
@[go_sem] theorem eqo145 : eqOk Tryz.prog 145 = some [.str, (.int .i64)] := by kernel_rfl
@[go_sem] theorem ti146 : ti Tryz.prog 146 = some ⟨(.struct [(0, 9), (1, 3)]), 2, 24, [.string ⟨#[]⟩, .int .i64 0]⟩ := by kernel_rfl
@[go_sem] theorem eqo146 : eqOk Tryz.prog 146 = some [.str, (.int .i64)] := by kernel_rfl
@[go_sem] theorem ti152 : ti Tryz.prog 152 = some ⟨(.slice 183), 1, 24, [.slice none 0 0]⟩ := by kernel_rfl
@[go_sem] theorem ti153 : ti Tryz.prog 153 = some ⟨(.struct [(0, 60), (1, 152)]), 2, 48, [.slice none 0 0, .slice none 0 0]⟩ := by kernel_rfl
@[go_sem] theorem eqo153 : eqOk Tryz.prog 153 = some [(.slice 3), (.slice 183)] := by kernel_rfl
@[go_sem] theorem ti154 : ti Tryz.prog 154 = some ⟨(.struct [(0, 60), (1, 152)]), 2, 48, [.slice none 0 0, .slice none 0 0]⟩ := by kernel_rfl
@[go_sem] theorem eqo154 : eqOk Tryz.prog 154 = some [(.slice 3), (.slice 183)] := by kernel_rfl
@[go_sem] theorem ti156 : ti Tryz.prog 156 = some ⟨(.struct [(0, 9), (1, 3)]), 2, 24, [.string ⟨#[]⟩, .int .i64 0]⟩ := by kernel_rfl
@[go_sem] theorem eqo156 : eqOk Tryz.prog 156 = some [.str, (.int .i64)] := by kernel_rfl
@[go_sem] theorem ti165 : ti Tryz.prog 165 = some ⟨(.struct [(0, 3), (1, 3), (2, 3), (3, 9), (4, 83)]), 11, 152, [.int .i64 0, .int .i64 0, .int .i64 0, .string ⟨#[]⟩, .int .i64 0, .int .i64 0, .int .i64 0, .string ⟨#[]⟩, .slice none 0 0, .slice none 0 0, .slice none 0 0]⟩ := by kernel_rfl
@[go_sem] theorem eqo165 : eqOk Tryz.prog 165 = some [(.int .i64), (.int .i64), (.int .i64), .str, (.struct [(0, 3), (1, 3), (2, 3), (3, 9), (4, 79), (5, 80), (6, 81)])] := by kernel_rfl
@[go_sem] theorem ti166 : ti Tryz.prog 166 = some ⟨(.struct [(0, 3), (1, 3), (2, 3), (3, 9), (4, 83)]), 11, 152, [.int .i64 0, .int .i64 0, .int .i64 0, .string ⟨#[]⟩, .int .i64 0, .int .i64 0, .int .i64 0, .string ⟨#[]⟩, .slice none 0 0, .slice none 0 0, .slice none 0 0]⟩ := by kernel_rfl
@[go_sem] theorem eqo166 : eqOk Tryz.prog 166 = some [(.int .i64), (.int .i64), (.int .i64), .str, (.struct [(0, 3), (1, 3), (2, 3), (3, 9), (4, 79), (5, 80), (6, 81)])] := by kernel_rfl
@[go_sem] theorem ti169 : ti Tryz.prog 169 = some ⟨(.struct [(0, 3), (1, 3), (2, 3), (3, 9), (4, 111)]), 11, 152, [.int .i64 0, .int .i64 0, .int .i64 0, .string ⟨#[]⟩, .int .i64 0, .int .i64 0, .int .i64 0, .string ⟨#[]⟩, .slice none 0 0, .slice none 0 0, .slice none 0 0]⟩ := by kernel_rfl
@[go_sem] theorem eqo169 : eqOk Tryz.prog 169 = some [(.int .i64), (.int .i64), (.int .i64), .str, (.struct [(0, 3), (1, 3), (2, 3), (3, 9), (4, 108), (5, 80), (6, 109)])] := by kernel_rfl
@[go_sem] theorem ti170 : ti Tryz.prog 170 = some ⟨(.struct [(0, 3), (1, 3), (2, 3), (3, 9), (4, 111)]), 11, 152, [.int .i64 0, .int .i64 0, .int .i64 0, .string ⟨#[]⟩, .int .i64 0, .int .i64 0, .int .i64 0, .string ⟨#[]⟩, .slice none 0 0, .slice none 0 0, .slice none 0 0]⟩ := by kernel_rfl
@[go_sem] theorem eqo170 : eqOk Tryz.prog 170 = some [(.int .i64), (.int .i64), (.int .i64), .str, (.struct [(0, 3), (1, 3), (2, 3), (3, 9), (4, 108), (5, 80), (6, 109)])] := by kernel_rfl
@[go_sem] theorem ti182 : ti Tryz.prog 182 = some ⟨(.struct [(0, 3), (1, 3)]), 2, 16, [.int .i64 0, .int .i64 0]⟩ := by kernel_rfl
@[go_sem] theorem eqo182 : eqOk Tryz.prog 182 = some [(.int .i64), (.int .i64)] := by kernel_rfl
@[go_sem] theorem ti183 : ti Tryz.prog 183 = some ⟨(.struct [(0, 3), (1, 3)]), 2, 16, [.int .i64 0, .int .i64 0]⟩ := by kernel_rfl
@[go_sem] theorem eqo183 : eqOk Tryz.prog 183 = some [(.int .i64), (.int .i64)] := by kernel_rfl
@[go_sem] theorem ti185 : ti Tryz.prog 185 = some ⟨(.slice 197), 1, 24, [.slice none 0 0]⟩ := by kernel_rfl
@[go_sem] theorem ti186 : ti Tryz.prog 186 = some ⟨(.struct [(0, 60), (1, 185)]), 2, 48, [.slice none 0 0, .slice none 0 0]⟩ := by kernel_rfl
@[go_sem] theorem eqo186 : eqOk Tryz.prog 186 = some [(.slice 3), (.slice 197)] := by kernel_rfl
@[go_sem] theorem ti187 : ti Tryz.prog 187 = some ⟨(.struct [(0, 60), (1, 185)]), 2, 48, [.slice none 0 0, .slice none 0 0]⟩ := by kernel_rfl
@[go_sem] theorem eqo187 : eqOk Tryz.prog 187 = some [(.slice 3), (.slice 197)] := by kernel_rfl
@[go_sem] theorem ti197 : ti Tryz.prog 197 = some ⟨(.struct [(0, 3), (1, 3)]), 2, 16, [.int .i64 0, .int .i64 0]⟩ := by kernel_rfl
@[go_sem] theorem eqo197 : eqOk Tryz.prog 197 = some [(.int .i64), (.int .i64)] := by kernel_rfl
@[go_sem] theorem ti200 : ti Tryz.prog 200 = some ⟨(.struct [(0, 17), (1, 17), (2, 17), (3, 9)]), 4, 40, [.pointer none, .pointer none, .pointer none, .string ⟨#[]⟩]⟩ := by kernel_rfl
@[go_sem] theorem ti201 : ti Tryz.prog 201 = some ⟨(.struct [(0, 17), (1, 17), (2, 17), (3, 9)]), 4, 40, [.pointer none, .pointer none, .pointer none, .string ⟨#[]⟩]⟩ := by kernel_rfl
@[go_sem] theorem ti203 : ti Tryz.prog 203 = some ⟨(.struct [(0, 202)]), 0, 0, []⟩ := by kernel_rfl
@[go_sem] theorem ti204 : ti Tryz.prog 204 = some ⟨(.struct [(0, 202)]), 0, 0, []⟩ := by kernel_rfl
@[go_sem] theorem ti206 : ti Tryz.prog 206 = some ⟨(.int .u32), 1, 4, [.int .u32 0]⟩ := by kernel_rfl
@[go_sem] theorem ti207 : ti Tryz.prog 207 = some ⟨(.int .u8), 1, 1, [.int .u8 0]⟩ := by kernel_rfl
@[go_sem] theorem ti208 : ti Tryz.prog 208 = some ⟨(.int .u8), 1, 1, [.int .u8 0]⟩ := by kernel_rfl
@[go_sem] theorem ti211 : ti Tryz.prog 211 = some ⟨(.int .i32), 1, 4, [.int .i32 0]⟩ := by kernel_rfl
@[go_sem] theorem ti212 : ti Tryz.prog 212 = some ⟨(.int .i32), 1, 4, [.int .i32 0]⟩ := by kernel_rfl
@[go_sem] theorem ti213 : ti Tryz.prog 213 = some ⟨(.struct [(0, 12), (1, 12), (2, 206), (3, 207), (4, 5), (5, 5), (6, 208), (7, 209), (8, 210), (9, 211), (10, 212)]), 11, 48, [.int .u64 0, .int .u64 0, .int .u32 0, .int .u8 0, .int .u8 0, .int .u8 0, .int .u8 0, .nilFunc, .pointer none, .int .i32 0, .int .i32 0]⟩ := by kernel_rfl
@[go_sem] theorem ti214 : ti Tryz.prog 214 = some ⟨(.struct [(0, 12), (1, 12), (2, 206), (3, 207), (4, 5), (5, 5), (6, 208), (7, 209), (8, 210), (9, 211), (10, 212)]), 11, 48, [.int .u64 0, .int .u64 0, .int .u32 0, .int .u8 0, .int .u8 0, .int .u8 0, .int .u8 0, .nilFunc, .pointer none, .int .i32 0, .int .i32 0]⟩ := by kernel_rfl
end Go.Proofs.YtbknilpmpjjfpaaGreat
