/- The rows of the types, as far as the walks ask them. -/
import Derived.Test.YtmiboaogfjgkjaaGreatPkB
set_option linter.unusedSimpArgs false
namespace Go.Proofs.YtmiboaogfjgkjaaGreat
open Go.RowKit Am

@[go_sem] theorem ti2 : ti Tryz.prog 2 = some ⟨(.int .i64), 1, 8, [.int .i64 0]⟩ := by kernel_rfl
@[go_sem] theorem ti3 : ti Tryz.prog 3 = some ⟨(.int .i64), 1, 8, [.int .i64 0]⟩ := by kernel_rfl
@[go_sem] theorem ti4 : ti Tryz.prog 4 = some ⟨.bool, 1, 1, [.bool false]⟩ := by kernel_rfl
@[go_sem] theorem ti5 : ti Tryz.prog 5 = some ⟨(.int .u8), 1, 1, [.int .u8 0]⟩ := by kernel_rfl
@[go_sem] theorem ti6 : ti Tryz.prog 6 = some ⟨(.int .u8), 1, 1, [.int .u8 0]⟩ := by kernel_rfl
@[go_sem] theorem ti7 : ti Tryz.prog 7 = some ⟨(.struct [(0, 2), (1, 3), (2, 4), (3, 6)]), 4, 24, [.int .i64 0, .int .i64 0, .bool false, .int .u8 0]⟩ := by kernel_rfl
@[go_sem] theorem eqo7 : eqOk Tryz.prog 7 = some [(.int .i64), (.int .i64), .bool, (.int .u8)] := by kernel_rfl
@[go_sem] theorem ti8 : ti Tryz.prog 8 = some ⟨(.struct [(0, 2), (1, 3), (2, 4), (3, 6)]), 4, 24, [.int .i64 0, .int .i64 0, .bool false, .int .u8 0]⟩ := by kernel_rfl
@[go_sem] theorem eqo8 : eqOk Tryz.prog 8 = some [(.int .i64), (.int .i64), .bool, (.int .u8)] := by kernel_rfl
@[go_sem] theorem ti9 : ti Tryz.prog 9 = some ⟨.str, 1, 16, [.string ⟨#[]⟩]⟩ := by kernel_rfl
@[go_sem] theorem ti10 : ti Tryz.prog 10 = some ⟨.str, 1, 16, [.string ⟨#[]⟩]⟩ := by kernel_rfl
@[go_sem] theorem ti11 : ti Tryz.prog 11 = some ⟨.str, 1, 16, [.string ⟨#[]⟩]⟩ := by kernel_rfl
@[go_sem] theorem ti12 : ti Tryz.prog 12 = some ⟨(.int .u64), 1, 8, [.int .u64 0]⟩ := by kernel_rfl
@[go_sem] theorem ti13 : ti Tryz.prog 13 = some ⟨(.struct [(0, 9), (1, 12)]), 2, 24, [.string ⟨#[]⟩, .int .u64 0]⟩ := by kernel_rfl
@[go_sem] theorem ti14 : ti Tryz.prog 14 = some ⟨(.struct [(0, 9), (1, 12)]), 2, 24, [.string ⟨#[]⟩, .int .u64 0]⟩ := by kernel_rfl
@[go_sem] theorem ti18 : ti Tryz.prog 18 = some ⟨(.struct [(0, 17)]), 1, 8, [.pointer none]⟩ := by kernel_rfl
@[go_sem] theorem ti19 : ti Tryz.prog 19 = some ⟨(.struct [(0, 17)]), 1, 8, [.pointer none]⟩ := by kernel_rfl
@[go_sem] theorem ti21 : ti Tryz.prog 21 = some ⟨(.int .i32), 1, 4, [.int .i32 0]⟩ := by kernel_rfl
@[go_sem] theorem ti22 : ti Tryz.prog 22 = some ⟨(.slice 124), 1, 24, [.slice none 0 0]⟩ := by kernel_rfl
@[go_sem] theorem ti23 : ti Tryz.prog 23 = some ⟨(.struct [(0, 22)]), 1, 24, [.slice none 0 0]⟩ := by kernel_rfl
@[go_sem] theorem eqo23 : eqOk Tryz.prog 23 = some [(.slice 124)] := by kernel_rfl
@[go_sem] theorem ti24 : ti Tryz.prog 24 = some ⟨(.struct [(0, 22)]), 1, 24, [.slice none 0 0]⟩ := by kernel_rfl
@[go_sem] theorem eqo24 : eqOk Tryz.prog 24 = some [(.slice 124)] := by kernel_rfl
@[go_sem] theorem ti25 : ti Tryz.prog 25 = some ⟨(.slice 88), 1, 24, [.slice none 0 0]⟩ := by kernel_rfl
@[go_sem] theorem ti26 : ti Tryz.prog 26 = some ⟨(.struct [(0, 3), (1, 3), (2, 25)]), 3, 40, [.int .i64 0, .int .i64 0, .slice none 0 0]⟩ := by kernel_rfl
@[go_sem] theorem eqo26 : eqOk Tryz.prog 26 = some [(.int .i64), (.int .i64), (.slice 88)] := by kernel_rfl
@[go_sem] theorem ti27 : ti Tryz.prog 27 = some ⟨(.struct [(0, 3), (1, 3), (2, 25)]), 3, 40, [.int .i64 0, .int .i64 0, .slice none 0 0]⟩ := by kernel_rfl
@[go_sem] theorem eqo27 : eqOk Tryz.prog 27 = some [(.int .i64), (.int .i64), (.slice 88)] := by kernel_rfl
@[go_sem] theorem ti28 : ti Tryz.prog 28 = some ⟨(.slice 76), 1, 24, [.slice none 0 0]⟩ := by kernel_rfl
@[go_sem] theorem ti29 : ti Tryz.prog 29 = some ⟨(.slice 85), 1, 24, [.slice none 0 0]⟩ := by kernel_rfl
@[go_sem] theorem ti30 : ti Tryz.prog 30 = some ⟨(.struct [(0, 24), (1, 27), (4, 28), (5, 29), (6, 3), (7, 3), (8, 3)]), 9, 136, [.slice none 0 0, .int .i64 0, .int .i64 0, .slice none 0 0, .slice none 0 0, .slice none 0 0, .int .i64 0, .int .i64 0, .int .i64 0]⟩ := by kernel_rfl
@[go_sem] theorem ti31 : ti Tryz.prog 31 = some ⟨(.struct [(0, 24), (1, 27), (4, 28), (5, 29), (6, 3), (7, 3), (8, 3)]), 9, 136, [.slice none 0 0, .int .i64 0, .int .i64 0, .slice none 0 0, .slice none 0 0, .slice none 0 0, .int .i64 0, .int .i64 0, .int .i64 0]⟩ := by kernel_rfl
@[go_sem] theorem ti34 : ti Tryz.prog 34 = some ⟨(.slice 128), 1, 24, [.slice none 0 0]⟩ := by kernel_rfl
@[go_sem] theorem ti35 : ti Tryz.prog 35 = some ⟨(.struct [(0, 34)]), 1, 24, [.slice none 0 0]⟩ := by kernel_rfl
@[go_sem] theorem eqo35 : eqOk Tryz.prog 35 = some [(.slice 128)] := by kernel_rfl
@[go_sem] theorem ti36 : ti Tryz.prog 36 = some ⟨(.struct [(0, 34)]), 1, 24, [.slice none 0 0]⟩ := by kernel_rfl
@[go_sem] theorem eqo36 : eqOk Tryz.prog 36 = some [(.slice 128)] := by kernel_rfl
@[go_sem] theorem ti37 : ti Tryz.prog 37 = some ⟨(.slice 106), 1, 24, [.slice none 0 0]⟩ := by kernel_rfl
@[go_sem] theorem ti38 : ti Tryz.prog 38 = some ⟨(.struct [(0, 3), (1, 3), (2, 37)]), 3, 40, [.int .i64 0, .int .i64 0, .slice none 0 0]⟩ := by kernel_rfl
@[go_sem] theorem eqo38 : eqOk Tryz.prog 38 = some [(.int .i64), (.int .i64), (.slice 106)] := by kernel_rfl
@[go_sem] theorem ti39 : ti Tryz.prog 39 = some ⟨(.struct [(0, 3), (1, 3), (2, 37)]), 3, 40, [.int .i64 0, .int .i64 0, .slice none 0 0]⟩ := by kernel_rfl
@[go_sem] theorem eqo39 : eqOk Tryz.prog 39 = some [(.int .i64), (.int .i64), (.slice 106)] := by kernel_rfl
@[go_sem] theorem ti40 : ti Tryz.prog 40 = some ⟨(.slice 103), 1, 24, [.slice none 0 0]⟩ := by kernel_rfl
@[go_sem] theorem ti41 : ti Tryz.prog 41 = some ⟨(.slice 96), 1, 24, [.slice none 0 0]⟩ := by kernel_rfl
@[go_sem] theorem ti42 : ti Tryz.prog 42 = some ⟨(.struct [(0, 36), (1, 39), (4, 40), (5, 41), (6, 3), (7, 3), (8, 3)]), 9, 136, [.slice none 0 0, .int .i64 0, .int .i64 0, .slice none 0 0, .slice none 0 0, .slice none 0 0, .int .i64 0, .int .i64 0, .int .i64 0]⟩ := by kernel_rfl
@[go_sem] theorem ti43 : ti Tryz.prog 43 = some ⟨(.struct [(0, 36), (1, 39), (4, 40), (5, 41), (6, 3), (7, 3), (8, 3)]), 9, 136, [.slice none 0 0, .int .i64 0, .int .i64 0, .slice none 0 0, .slice none 0 0, .slice none 0 0, .int .i64 0, .int .i64 0, .int .i64 0]⟩ := by kernel_rfl
@[go_sem] theorem ti74 : ti Tryz.prog 74 = some ⟨(.slice 148), 1, 24, [.slice none 0 0]⟩ := by kernel_rfl
@[go_sem] theorem ti75 : ti Tryz.prog 75 = some ⟨(.struct [(0, 3), (1, 3), (2, 74)]), 3, 40, [.int .i64 0, .int .i64 0, .slice none 0 0]⟩ := by kernel_rfl
@[go_sem] theorem eqo75 : eqOk Tryz.prog 75 = some [(.int .i64), (.int .i64), (.slice 148)] := by kernel_rfl
@[go_sem] theorem ti76 : ti Tryz.prog 76 = some ⟨(.struct [(0, 3), (1, 3), (2, 74)]), 3, 40, [.int .i64 0, .int .i64 0, .slice none 0 0]⟩ := by kernel_rfl
@[go_sem] theorem eqo76 : eqOk Tryz.prog 76 = some [(.int .i64), (.int .i64), (.slice 148)] := by kernel_rfl
@[go_sem] theorem ti78 : ti Tryz.prog 78 = some ⟨(.slice 3), 1, 24, [.slice none 0 0]⟩ := by kernel_rfl
@[go_sem] theorem ti79 : ti Tryz.prog 79 = some ⟨(.slice 83), 1, 24, [.slice none 0 0]⟩ := by kernel_rfl
@[go_sem] theorem ti80 : ti Tryz.prog 80 = some ⟨(.slice 9), 1, 24, [.slice none 0 0]⟩ := by kernel_rfl
@[go_sem] theorem ti81 : ti Tryz.prog 81 = some ⟨(.slice 166), 1, 24, [.slice none 0 0]⟩ := by kernel_rfl
@[go_sem] theorem ti82 : ti Tryz.prog 82 = some ⟨(.struct [(0, 3), (1, 3), (2, 3), (3, 9), (4, 79), (5, 80), (6, 81)]), 7, 112, [.int .i64 0, .int .i64 0, .int .i64 0, .string ⟨#[]⟩, .slice none 0 0, .slice none 0 0, .slice none 0 0]⟩ := by kernel_rfl
@[go_sem] theorem eqo82 : eqOk Tryz.prog 82 = some [(.int .i64), (.int .i64), (.int .i64), .str, (.slice 83), (.slice 9), (.slice 166)] := by kernel_rfl
@[go_sem] theorem ti83 : ti Tryz.prog 83 = some ⟨(.struct [(0, 3), (1, 3), (2, 3), (3, 9), (4, 79), (5, 80), (6, 81)]), 7, 112, [.int .i64 0, .int .i64 0, .int .i64 0, .string ⟨#[]⟩, .slice none 0 0, .slice none 0 0, .slice none 0 0]⟩ := by kernel_rfl
@[go_sem] theorem eqo83 : eqOk Tryz.prog 83 = some [(.int .i64), (.int .i64), (.int .i64), .str, (.slice 83), (.slice 9), (.slice 166)] := by kernel_rfl
@[go_sem] theorem ti84 : ti Tryz.prog 84 = some ⟨(.struct [(0, 3), (1, 3), (2, 3), (3, 78), (4, 83), (11, 4)]), 12, 168, [.int .i64 0, .int .i64 0, .int .i64 0, .slice none 0 0, .int .i64 0, .int .i64 0, .int .i64 0, .string ⟨#[]⟩, .slice none 0 0, .slice none 0 0, .slice none 0 0, .bool false]⟩ := by kernel_rfl
@[go_sem] theorem ti85 : ti Tryz.prog 85 = some ⟨(.struct [(0, 3), (1, 3), (2, 3), (3, 78), (4, 83), (11, 4)]), 12, 168, [.int .i64 0, .int .i64 0, .int .i64 0, .slice none 0 0, .int .i64 0, .int .i64 0, .int .i64 0, .string ⟨#[]⟩, .slice none 0 0, .slice none 0 0, .slice none 0 0, .bool false]⟩ := by kernel_rfl
@[go_sem] theorem ti87 : ti Tryz.prog 87 = some ⟨(.struct [(0, 9), (1, 3)]), 2, 24, [.string ⟨#[]⟩, .int .i64 0]⟩ := by kernel_rfl
@[go_sem] theorem eqo87 : eqOk Tryz.prog 87 = some [.str, (.int .i64)] := by kernel_rfl
@[go_sem] theorem ti88 : ti Tryz.prog 88 = some ⟨(.struct [(0, 9), (1, 3)]), 2, 24, [.string ⟨#[]⟩, .int .i64 0]⟩ := by kernel_rfl
@[go_sem] theorem eqo88 : eqOk Tryz.prog 88 = some [.str, (.int .i64)] := by kernel_rfl
@[go_sem] theorem ti91 : ti Tryz.prog 91 = some ⟨(.slice 94), 1, 24, [.slice none 0 0]⟩ := by kernel_rfl
@[go_sem] theorem ti92 : ti Tryz.prog 92 = some ⟨(.slice 136), 1, 24, [.slice none 0 0]⟩ := by kernel_rfl
@[go_sem] theorem ti93 : ti Tryz.prog 93 = some ⟨(.struct [(0, 3), (1, 3), (2, 3), (3, 9), (4, 91), (5, 80), (6, 92)]), 7, 112, [.int .i64 0, .int .i64 0, .int .i64 0, .string ⟨#[]⟩, .slice none 0 0, .slice none 0 0, .slice none 0 0]⟩ := by kernel_rfl
@[go_sem] theorem eqo93 : eqOk Tryz.prog 93 = some [(.int .i64), (.int .i64), (.int .i64), .str, (.slice 94), (.slice 9), (.slice 136)] := by kernel_rfl
@[go_sem] theorem ti94 : ti Tryz.prog 94 = some ⟨(.struct [(0, 3), (1, 3), (2, 3), (3, 9), (4, 91), (5, 80), (6, 92)]), 7, 112, [.int .i64 0, .int .i64 0, .int .i64 0, .string ⟨#[]⟩, .slice none 0 0, .slice none 0 0, .slice none 0 0]⟩ := by kernel_rfl
@[go_sem] theorem eqo94 : eqOk Tryz.prog 94 = some [(.int .i64), (.int .i64), (.int .i64), .str, (.slice 94), (.slice 9), (.slice 136)] := by kernel_rfl
@[go_sem] theorem ti95 : ti Tryz.prog 95 = some ⟨(.struct [(0, 3), (1, 3), (2, 3), (3, 78), (4, 94), (11, 4)]), 12, 168, [.int .i64 0, .int .i64 0, .int .i64 0, .slice none 0 0, .int .i64 0, .int .i64 0, .int .i64 0, .string ⟨#[]⟩, .slice none 0 0, .slice none 0 0, .slice none 0 0, .bool false]⟩ := by kernel_rfl
@[go_sem] theorem ti96 : ti Tryz.prog 96 = some ⟨(.struct [(0, 3), (1, 3), (2, 3), (3, 78), (4, 94), (11, 4)]), 12, 168, [.int .i64 0, .int .i64 0, .int .i64 0, .slice none 0 0, .int .i64 0, .int .i64 0, .int .i64 0, .string ⟨#[]⟩, .slice none 0 0, .slice none 0 0, .slice none 0 0, .bool false]⟩ := by kernel_rfl
@[go_sem] theorem ti101 : ti Tryz.prog 101 = some ⟨(.slice 143), 1, 24, [.slice none 0 0]⟩ := by kernel_rfl
@[go_sem] theorem ti102 : ti Tryz.prog 102 = some ⟨(.struct [(0, 3), (1, 3), (2, 101)]), 3, 40, [.int .i64 0, .int .i64 0, .slice none 0 0]⟩ := by kernel_rfl
@[go_sem] theorem eqo102 : eqOk Tryz.prog 102 = some [(.int .i64), (.int .i64), (.slice 143)] := by kernel_rfl
@[go_sem] theorem ti103 : ti Tryz.prog 103 = some ⟨(.struct [(0, 3), (1, 3), (2, 101)]), 3, 40, [.int .i64 0, .int .i64 0, .slice none 0 0]⟩ := by kernel_rfl
@[go_sem] theorem eqo103 : eqOk Tryz.prog 103 = some [(.int .i64), (.int .i64), (.slice 143)] := by kernel_rfl
@[go_sem] theorem ti106 : ti Tryz.prog 106 = some ⟨(.struct [(0, 9), (1, 3)]), 2, 24, [.string ⟨#[]⟩, .int .i64 0]⟩ := by kernel_rfl
@[go_sem] theorem eqo106 : eqOk Tryz.prog 106 = some [.str, (.int .i64)] := by kernel_rfl
@[go_sem] theorem ti123 : ti Tryz.prog 123 = some ⟨(.struct [(0, 3), (1, 3), (2, 3), (3, 9), (4, 9), (5, 3)]), 6, 64, [.int .i64 0, .int .i64 0, .int .i64 0, .string ⟨#[]⟩, .string ⟨#[]⟩, .int .i64 0]⟩ := by kernel_rfl
@[go_sem] theorem eqo123 : eqOk Tryz.prog 123 = some [(.int .i64), (.int .i64), (.int .i64), .str, .str, (.int .i64)] := by kernel_rfl
@[go_sem] theorem ti124 : ti Tryz.prog 124 = some ⟨(.struct [(0, 3), (1, 3), (2, 3), (3, 9), (4, 9), (5, 3)]), 6, 64, [.int .i64 0, .int .i64 0, .int .i64 0, .string ⟨#[]⟩, .string ⟨#[]⟩, .int .i64 0]⟩ := by kernel_rfl
@[go_sem] theorem eqo124 : eqOk Tryz.prog 124 = some [(.int .i64), (.int .i64), (.int .i64), .str, .str, (.int .i64)] := by kernel_rfl
@[go_sem] theorem ti128 : ti Tryz.prog 128 = some ⟨(.struct [(0, 3), (1, 3), (2, 3), (3, 9), (4, 9), (5, 3)]), 6, 64, [.int .i64 0, .int .i64 0, .int .i64 0, .string ⟨#[]⟩, .string ⟨#[]⟩, .int .i64 0]⟩ := by kernel_rfl
@[go_sem] theorem eqo128 : eqOk Tryz.prog 128 = some [(.int .i64), (.int .i64), (.int .i64), .str, .str, (.int .i64)] := by kernel_rfl
@[go_sem] theorem ti134 : ti Tryz.prog 134 = some ⟨(.slice 162), 1, 24, [.slice none 0 0]⟩ := by kernel_rfl
@[go_sem] theorem ti135 : ti Tryz.prog 135 = some ⟨(.struct [(0, 78), (1, 134)]), 2, 48, [.slice none 0 0, .slice none 0 0]⟩ := by kernel_rfl
@[go_sem] theorem eqo135 : eqOk Tryz.prog 135 = some [(.slice 3), (.slice 162)] := by kernel_rfl
@[go_sem] theorem ti136 : ti Tryz.prog 136 = some ⟨(.struct [(0, 78), (1, 134)]), 2, 48, [.slice none 0 0, .slice none 0 0]⟩ := by kernel_rfl
@[go_sem] theorem eqo136 : eqOk Tryz.prog 136 = some [(.slice 3), (.slice 162)] := by kernel_rfl
@[go_sem] theorem ti142 : ti Tryz.prog 142 = some ⟨(.struct [(0, 3), (1, 3), (2, 3), (3, 9), (4, 94)]), 11, 152, [.int .i64 0, .int .i64 0, .int .i64 0, .string ⟨#[]⟩, .int .i64 0, .int .i64 0, .int .i64 0, .string ⟨#[]⟩, .slice none 0 0, .slice none 0 0, .slice none 0 0]⟩ := by kernel_rfl
@[go_sem] theorem eqo142 : eqOk Tryz.prog 142 = some [(.int .i64), (.int .i64), (.int .i64), .str, (.struct [(0, 3), (1, 3), (2, 3), (3, 9), (4, 91), (5, 80), (6, 92)])] := by kernel_rfl
@[go_sem] theorem ti143 : ti Tryz.prog 143 = some ⟨(.struct [(0, 3), (1, 3), (2, 3), (3, 9), (4, 94)]), 11, 152, [.int .i64 0, .int .i64 0, .int .i64 0, .string ⟨#[]⟩, .int .i64 0, .int .i64 0, .int .i64 0, .string ⟨#[]⟩, .slice none 0 0, .slice none 0 0, .slice none 0 0]⟩ := by kernel_rfl
@[go_sem] theorem eqo143 : eqOk Tryz.prog 143 = some [(.int .i64), (.int .i64), (.int .i64), .str, (.struct [(0, 3), (1, 3), (2, 3), (3, 9), (4, 91), (5, 80), (6, 92)])] := by kernel_rfl
@[go_sem] theorem ti144 : ti Tryz.prog 144 = some ⟨(.slice 5), 1, 24, [.slice none 0 0]⟩ := by kernel_rfl
@[go_sem] theorem ti147 : ti Tryz.prog 147 = some ⟨(.struct [(0, 3), (1, 3), (2, 3), (3, 9), (4, 83)]), 11, 152, [.int .i64 0, .int .i64 0, .int .i64 0, .string ⟨#[]⟩, .int .i64 0, .int .i64 0, .int .i64 0, .string ⟨#[]⟩, .slice none 0 0, .slice none 0 0, .slice none 0 0]⟩ := by kernel_rfl
@[go_sem] theorem eqo147 : eqOk Tryz.prog 147 = some [(.int .i64), (.int .i64), (.int .i64), .str, (.struct [(0, 3), (1, 3), (2, 3), (3, 9), (4, 79), (5, 80), (6, 81)])] := by kernel_rfl
@[go_sem] theorem ti148 : ti Tryz.prog 148 = some ⟨(.struct [(0, 3), (1, 3), (2, 3), (3, 9), (4, 83)]), 11, 152, [.int .i64 0, .int .i64 0, .int .i64 0, .string ⟨#[]⟩, .int .i64 0, .int .i64 0, .int .i64 0, .string ⟨#[]⟩, .slice none 0 0, .slice none 0 0, .slice none 0 0]⟩ := by kernel_rfl
@[go_sem] theorem eqo148 : eqOk Tryz.prog 148 = some [(.int .i64), (.int .i64), (.int .i64), .str, (.struct [(0, 3), (1, 3), (2, 3), (3, 9), (4, 79), (5, 80), (6, 81)])] := by kernel_rfl
@[go_sem] theorem ti161 : ti Tryz.prog 161 = some ⟨(.struct [(0, 3), (1, 3)]), 2, 16, [.int .i64 0, .int .i64 0]⟩ := by kernel_rfl
@[go_sem] theorem eqo161 : eqOk Tryz.prog 161 = some [(.int .i64), (.int .i64)] := by kernel_rfl
@[go_sem] theorem ti162 : ti Tryz.prog 162 = some ⟨(.struct [(0, 3), (1, 3)]), 2, 16, [.int .i64 0, .int .i64 0]⟩ := by kernel_rfl
@[go_sem] theorem eqo162 : eqOk Tryz.prog 162 = some [(.int .i64), (.int .i64)] := by kernel_rfl
@[go_sem] theorem ti164 : ti Tryz.prog 164 = some ⟨(.slice 175), 1, 24, [.slice none 0 0]⟩ := by kernel_rfl
@[go_sem] theorem ti165 : ti Tryz.prog 165 = some ⟨(.struct [(0, 78), (1, 164)]), 2, 48, [.slice none 0 0, .slice none 0 0]⟩ := by kernel_rfl
@[go_sem] theorem eqo165 : eqOk Tryz.prog 165 = some [(.slice 3), (.slice 175)] := by kernel_rfl
@[go_sem] theorem ti166 : ti Tryz.prog 166 = some ⟨(.struct [(0, 78), (1, 164)]), 2, 48, [.slice none 0 0, .slice none 0 0]⟩ := by kernel_rfl
@[go_sem] theorem eqo166 : eqOk Tryz.prog 166 = some [(.slice 3), (.slice 175)] := by kernel_rfl
@[go_sem] theorem ti175 : ti Tryz.prog 175 = some ⟨(.struct [(0, 3), (1, 3)]), 2, 16, [.int .i64 0, .int .i64 0]⟩ := by kernel_rfl
@[go_sem] theorem eqo175 : eqOk Tryz.prog 175 = some [(.int .i64), (.int .i64)] := by kernel_rfl
@[go_sem] theorem ti178 : ti Tryz.prog 178 = some ⟨(.struct [(0, 17), (1, 17), (2, 17), (3, 9)]), 4, 40, [.pointer none, .pointer none, .pointer none, .string ⟨#[]⟩]⟩ := by kernel_rfl
@[go_sem] theorem ti179 : ti Tryz.prog 179 = some ⟨(.struct [(0, 17), (1, 17), (2, 17), (3, 9)]), 4, 40, [.pointer none, .pointer none, .pointer none, .string ⟨#[]⟩]⟩ := by kernel_rfl
@[go_sem] theorem ti181 : ti Tryz.prog 181 = some ⟨(.struct [(0, 180)]), 0, 0, []⟩ := by kernel_rfl
@[go_sem] theorem ti182 : ti Tryz.prog 182 = some ⟨(.struct [(0, 180)]), 0, 0, []⟩ := by kernel_rfl
@[go_sem] theorem ti184 : ti Tryz.prog 184 = some ⟨(.int .u32), 1, 4, [.int .u32 0]⟩ := by kernel_rfl
@[go_sem] theorem ti185 : ti Tryz.prog 185 = some ⟨(.int .u8), 1, 1, [.int .u8 0]⟩ := by kernel_rfl
@[go_sem] theorem ti186 : ti Tryz.prog 186 = some ⟨(.int .u8), 1, 1, [.int .u8 0]⟩ := by kernel_rfl
@[go_sem] theorem ti189 : ti Tryz.prog 189 = some ⟨(.int .i32), 1, 4, [.int .i32 0]⟩ := by kernel_rfl
@[go_sem] theorem ti190 : ti Tryz.prog 190 = some ⟨(.int .i32), 1, 4, [.int .i32 0]⟩ := by kernel_rfl
@[go_sem] theorem ti191 : ti Tryz.prog 191 = some ⟨(.struct [(0, 12), (1, 12), (2, 184), (3, 185), (4, 5), (5, 5), (6, 186), (7, 187), (8, 188), (9, 189), (10, 190)]), 11, 48, [.int .u64 0, .int .u64 0, .int .u32 0, .int .u8 0, .int .u8 0, .int .u8 0, .int .u8 0, .nilFunc, .pointer none, .int .i32 0, .int .i32 0]⟩ := by kernel_rfl
@[go_sem] theorem ti192 : ti Tryz.prog 192 = some ⟨(.struct [(0, 12), (1, 12), (2, 184), (3, 185), (4, 5), (5, 5), (6, 186), (7, 187), (8, 188), (9, 189), (10, 190)]), 11, 48, [.int .u64 0, .int .u64 0, .int .u32 0, .int .u8 0, .int .u8 0, .int .u8 0, .int .u8 0, .nilFunc, .pointer none, .int .i32 0, .int .i32 0]⟩ := by kernel_rfl
end Go.Proofs.YtmiboaogfjgkjaaGreat
