/- The rows of the types, as far as the walks ask them. -/
import Derived.Test.YtmiboaogfjgkjaaPkC
set_option linter.unusedSimpArgs false
namespace Go.Proofs.Ytmiboaogfjgkjaa
open Go.RowKit Am
@[go_sem] theorem ti2 : ti Try.prog 2 = some ⟨(.int .i64), 1, 8, [.int .i64 0]⟩ := by kernel_rfl
@[go_sem] theorem ti3 : ti Try.prog 3 = some ⟨(.int .i64), 1, 8, [.int .i64 0]⟩ := by kernel_rfl
@[go_sem] theorem ti4 : ti Try.prog 4 = some ⟨.bool, 1, 1, [.bool false]⟩ := by kernel_rfl
@[go_sem] theorem ti5 : ti Try.prog 5 = some ⟨(.int .u8), 1, 1, [.int .u8 0]⟩ := by kernel_rfl
@[go_sem] theorem ti6 : ti Try.prog 6 = some ⟨(.int .u8), 1, 1, [.int .u8 0]⟩ := by kernel_rfl
@[go_sem] theorem ti7 : ti Try.prog 7 = some ⟨(.struct [(0, 2), (1, 3), (2, 4), (3, 6)]), 4, 24, [.int .i64 0, .int .i64 0, .bool false, .int .u8 0]⟩ := by kernel_rfl
@[go_sem] theorem eqo7 : eqOk Try.prog 7 = some [(.int .i64), (.int .i64), .bool, (.int .u8)] := by kernel_rfl
@[go_sem] theorem ti8 : ti Try.prog 8 = some ⟨(.struct [(0, 2), (1, 3), (2, 4), (3, 6)]), 4, 24, [.int .i64 0, .int .i64 0, .bool false, .int .u8 0]⟩ := by kernel_rfl
@[go_sem] theorem eqo8 : eqOk Try.prog 8 = some [(.int .i64), (.int .i64), .bool, (.int .u8)] := by kernel_rfl
@[go_sem] theorem ti9 : ti Try.prog 9 = some ⟨.str, 1, 16, [.string ⟨#[]⟩]⟩ := by kernel_rfl
@[go_sem] theorem ti10 : ti Try.prog 10 = some ⟨.str, 1, 16, [.string ⟨#[]⟩]⟩ := by kernel_rfl
@[go_sem] theorem ti11 : ti Try.prog 11 = some ⟨.str, 1, 16, [.string ⟨#[]⟩]⟩ := by kernel_rfl
@[go_sem] theorem ti12 : ti Try.prog 12 = some ⟨(.int .u64), 1, 8, [.int .u64 0]⟩ := by kernel_rfl
@[go_sem] theorem ti13 : ti Try.prog 13 = some ⟨(.struct [(0, 9), (1, 12)]), 2, 24, [.string ⟨#[]⟩, .int .u64 0]⟩ := by kernel_rfl
@[go_sem] theorem ti14 : ti Try.prog 14 = some ⟨(.struct [(0, 9), (1, 12)]), 2, 24, [.string ⟨#[]⟩, .int .u64 0]⟩ := by kernel_rfl
@[go_sem] theorem ti18 : ti Try.prog 18 = some ⟨(.struct [(0, 17)]), 1, 8, [.pointer none]⟩ := by kernel_rfl
@[go_sem] theorem ti19 : ti Try.prog 19 = some ⟨(.struct [(0, 17)]), 1, 8, [.pointer none]⟩ := by kernel_rfl
@[go_sem] theorem ti21 : ti Try.prog 21 = some ⟨(.int .i32), 1, 4, [.int .i32 0]⟩ := by kernel_rfl
@[go_sem] theorem ti22 : ti Try.prog 22 = some ⟨(.slice 202), 1, 24, [.slice none 0 0]⟩ := by kernel_rfl
@[go_sem] theorem ti23 : ti Try.prog 23 = some ⟨(.struct [(0, 22)]), 1, 24, [.slice none 0 0]⟩ := by kernel_rfl
@[go_sem] theorem eqo23 : eqOk Try.prog 23 = some [(.slice 202)] := by kernel_rfl
@[go_sem] theorem ti24 : ti Try.prog 24 = some ⟨(.struct [(0, 22)]), 1, 24, [.slice none 0 0]⟩ := by kernel_rfl
@[go_sem] theorem eqo24 : eqOk Try.prog 24 = some [(.slice 202)] := by kernel_rfl
@[go_sem] theorem ti25 : ti Try.prog 25 = some ⟨(.slice 214), 1, 24, [.slice none 0 0]⟩ := by kernel_rfl
@[go_sem] theorem ti26 : ti Try.prog 26 = some ⟨(.struct [(0, 3), (1, 3), (2, 25)]), 3, 40, [.int .i64 0, .int .i64 0, .slice none 0 0]⟩ := by kernel_rfl
@[go_sem] theorem eqo26 : eqOk Try.prog 26 = some [(.int .i64), (.int .i64), (.slice 214)] := by kernel_rfl
@[go_sem] theorem ti27 : ti Try.prog 27 = some ⟨(.struct [(0, 3), (1, 3), (2, 25)]), 3, 40, [.int .i64 0, .int .i64 0, .slice none 0 0]⟩ := by kernel_rfl
@[go_sem] theorem eqo27 : eqOk Try.prog 27 = some [(.int .i64), (.int .i64), (.slice 214)] := by kernel_rfl
@[go_sem] theorem ti28 : ti Try.prog 28 = some ⟨(.slice 190), 1, 24, [.slice none 0 0]⟩ := by kernel_rfl
@[go_sem] theorem ti29 : ti Try.prog 29 = some ⟨(.slice 193), 1, 24, [.slice none 0 0]⟩ := by kernel_rfl
@[go_sem] theorem ti30 : ti Try.prog 30 = some ⟨(.struct [(0, 24), (1, 27), (4, 28), (5, 29), (6, 3), (7, 3), (8, 3)]), 9, 136, [.slice none 0 0, .int .i64 0, .int .i64 0, .slice none 0 0, .slice none 0 0, .slice none 0 0, .int .i64 0, .int .i64 0, .int .i64 0]⟩ := by kernel_rfl
@[go_sem] theorem ti31 : ti Try.prog 31 = some ⟨(.struct [(0, 24), (1, 27), (4, 28), (5, 29), (6, 3), (7, 3), (8, 3)]), 9, 136, [.slice none 0 0, .int .i64 0, .int .i64 0, .slice none 0 0, .slice none 0 0, .slice none 0 0, .int .i64 0, .int .i64 0, .int .i64 0]⟩ := by kernel_rfl
@[go_sem] theorem ti34 : ti Try.prog 34 = some ⟨(.slice 146), 1, 24, [.slice none 0 0]⟩ := by kernel_rfl
@[go_sem] theorem ti35 : ti Try.prog 35 = some ⟨(.struct [(0, 34)]), 1, 24, [.slice none 0 0]⟩ := by kernel_rfl
@[go_sem] theorem eqo35 : eqOk Try.prog 35 = some [(.slice 146)] := by kernel_rfl
@[go_sem] theorem ti36 : ti Try.prog 36 = some ⟨(.struct [(0, 34)]), 1, 24, [.slice none 0 0]⟩ := by kernel_rfl
@[go_sem] theorem eqo36 : eqOk Try.prog 36 = some [(.slice 146)] := by kernel_rfl
@[go_sem] theorem ti37 : ti Try.prog 37 = some ⟨(.slice 216), 1, 24, [.slice none 0 0]⟩ := by kernel_rfl
@[go_sem] theorem ti38 : ti Try.prog 38 = some ⟨(.struct [(0, 3), (1, 3), (2, 37)]), 3, 40, [.int .i64 0, .int .i64 0, .slice none 0 0]⟩ := by kernel_rfl
@[go_sem] theorem eqo38 : eqOk Try.prog 38 = some [(.int .i64), (.int .i64), (.slice 216)] := by kernel_rfl
@[go_sem] theorem ti39 : ti Try.prog 39 = some ⟨(.struct [(0, 3), (1, 3), (2, 37)]), 3, 40, [.int .i64 0, .int .i64 0, .slice none 0 0]⟩ := by kernel_rfl
@[go_sem] theorem eqo39 : eqOk Try.prog 39 = some [(.int .i64), (.int .i64), (.slice 216)] := by kernel_rfl
@[go_sem] theorem ti40 : ti Try.prog 40 = some ⟨(.slice 196), 1, 24, [.slice none 0 0]⟩ := by kernel_rfl
@[go_sem] theorem ti41 : ti Try.prog 41 = some ⟨(.slice 122), 1, 24, [.slice none 0 0]⟩ := by kernel_rfl
@[go_sem] theorem ti42 : ti Try.prog 42 = some ⟨(.struct [(0, 36), (1, 39), (4, 40), (5, 41), (6, 3), (7, 3), (8, 3)]), 9, 136, [.slice none 0 0, .int .i64 0, .int .i64 0, .slice none 0 0, .slice none 0 0, .slice none 0 0, .int .i64 0, .int .i64 0, .int .i64 0]⟩ := by kernel_rfl
@[go_sem] theorem ti43 : ti Try.prog 43 = some ⟨(.struct [(0, 36), (1, 39), (4, 40), (5, 41), (6, 3), (7, 3), (8, 3)]), 9, 136, [.slice none 0 0, .int .i64 0, .int .i64 0, .slice none 0 0, .slice none 0 0, .slice none 0 0, .int .i64 0, .int .i64 0, .int .i64 0]⟩ := by kernel_rfl
@[go_sem] theorem ti49 : ti Try.prog 49 = some ⟨(.slice 101), 1, 24, [.slice none 0 0]⟩ := by kernel_rfl
@[go_sem] theorem ti50 : ti Try.prog 50 = some ⟨(.struct [(0, 49), (1, 28), (2, 3)]), 3, 56, [.slice none 0 0, .slice none 0 0, .int .i64 0]⟩ := by kernel_rfl
@[go_sem] theorem eqo50 : eqOk Try.prog 50 = some [(.slice 101), (.slice 190), (.int .i64)] := by kernel_rfl
@[go_sem] theorem ti51 : ti Try.prog 51 = some ⟨(.struct [(0, 49), (1, 28), (2, 3)]), 3, 56, [.slice none 0 0, .slice none 0 0, .int .i64 0]⟩ := by kernel_rfl
@[go_sem] theorem eqo51 : eqOk Try.prog 51 = some [(.slice 101), (.slice 190), (.int .i64)] := by kernel_rfl
@[go_sem] theorem ti54 : ti Try.prog 54 = some ⟨(.slice 139), 1, 24, [.slice none 0 0]⟩ := by kernel_rfl
@[go_sem] theorem ti57 : ti Try.prog 57 = some ⟨(.slice 110), 1, 24, [.slice none 0 0]⟩ := by kernel_rfl
@[go_sem] theorem ti58 : ti Try.prog 58 = some ⟨(.struct [(0, 57), (1, 40), (2, 3)]), 3, 56, [.slice none 0 0, .slice none 0 0, .int .i64 0]⟩ := by kernel_rfl
@[go_sem] theorem eqo58 : eqOk Try.prog 58 = some [(.slice 110), (.slice 196), (.int .i64)] := by kernel_rfl
@[go_sem] theorem ti59 : ti Try.prog 59 = some ⟨(.struct [(0, 57), (1, 40), (2, 3)]), 3, 56, [.slice none 0 0, .slice none 0 0, .int .i64 0]⟩ := by kernel_rfl
@[go_sem] theorem eqo59 : eqOk Try.prog 59 = some [(.slice 110), (.slice 196), (.int .i64)] := by kernel_rfl
@[go_sem] theorem ti68 : ti Try.prog 68 = some ⟨(.slice 3), 1, 24, [.slice none 0 0]⟩ := by kernel_rfl
@[go_sem] theorem ti73 : ti Try.prog 73 = some ⟨(.slice 149), 1, 24, [.slice none 0 0]⟩ := by kernel_rfl
@[go_sem] theorem ti74 : ti Try.prog 74 = some ⟨(.slice 208), 1, 24, [.slice none 0 0]⟩ := by kernel_rfl
@[go_sem] theorem ti75 : ti Try.prog 75 = some ⟨(.struct [(0, 3), (1, 74)]), 2, 32, [.int .i64 0, .slice none 0 0]⟩ := by kernel_rfl
@[go_sem] theorem eqo75 : eqOk Try.prog 75 = some [(.int .i64), (.slice 208)] := by kernel_rfl
@[go_sem] theorem ti76 : ti Try.prog 76 = some ⟨(.struct [(0, 3), (1, 74)]), 2, 32, [.int .i64 0, .slice none 0 0]⟩ := by kernel_rfl
@[go_sem] theorem eqo76 : eqOk Try.prog 76 = some [(.int .i64), (.slice 208)] := by kernel_rfl
@[go_sem] theorem ti79 : ti Try.prog 79 = some ⟨(.slice 151), 1, 24, [.slice none 0 0]⟩ := by kernel_rfl
@[go_sem] theorem ti82 : ti Try.prog 82 = some ⟨(.slice 153), 1, 24, [.slice none 0 0]⟩ := by kernel_rfl
@[go_sem] theorem ti83 : ti Try.prog 83 = some ⟨(.struct [(0, 3), (1, 82)]), 2, 32, [.int .i64 0, .slice none 0 0]⟩ := by kernel_rfl
@[go_sem] theorem eqo83 : eqOk Try.prog 83 = some [(.int .i64), (.slice 153)] := by kernel_rfl
@[go_sem] theorem ti84 : ti Try.prog 84 = some ⟨(.struct [(0, 3), (1, 82)]), 2, 32, [.int .i64 0, .slice none 0 0]⟩ := by kernel_rfl
@[go_sem] theorem eqo84 : eqOk Try.prog 84 = some [(.int .i64), (.slice 153)] := by kernel_rfl
@[go_sem] theorem ti98 : ti Try.prog 98 = some ⟨(.slice 9), 1, 24, [.slice none 0 0]⟩ := by kernel_rfl
@[go_sem] theorem ti99 : ti Try.prog 99 = some ⟨(.slice 224), 1, 24, [.slice none 0 0]⟩ := by kernel_rfl
@[go_sem] theorem ti100 : ti Try.prog 100 = some ⟨(.struct [(0, 3), (1, 3), (2, 3), (3, 9), (4, 49), (5, 98), (6, 99)]), 7, 112, [.int .i64 0, .int .i64 0, .int .i64 0, .string ⟨#[]⟩, .slice none 0 0, .slice none 0 0, .slice none 0 0]⟩ := by kernel_rfl
@[go_sem] theorem eqo100 : eqOk Try.prog 100 = some [(.int .i64), (.int .i64), (.int .i64), .str, (.slice 101), (.slice 9), (.slice 224)] := by kernel_rfl
@[go_sem] theorem ti101 : ti Try.prog 101 = some ⟨(.struct [(0, 3), (1, 3), (2, 3), (3, 9), (4, 49), (5, 98), (6, 99)]), 7, 112, [.int .i64 0, .int .i64 0, .int .i64 0, .string ⟨#[]⟩, .slice none 0 0, .slice none 0 0, .slice none 0 0]⟩ := by kernel_rfl
@[go_sem] theorem eqo101 : eqOk Try.prog 101 = some [(.int .i64), (.int .i64), (.int .i64), .str, (.slice 101), (.slice 9), (.slice 224)] := by kernel_rfl
@[go_sem] theorem ti103 : ti Try.prog 103 = some ⟨(.slice 175), 1, 24, [.slice none 0 0]⟩ := by kernel_rfl
@[go_sem] theorem ti104 : ti Try.prog 104 = some ⟨(.struct [(0, 3), (1, 3), (2, 103)]), 3, 40, [.int .i64 0, .int .i64 0, .slice none 0 0]⟩ := by kernel_rfl
@[go_sem] theorem eqo104 : eqOk Try.prog 104 = some [(.int .i64), (.int .i64), (.slice 175)] := by kernel_rfl
@[go_sem] theorem ti105 : ti Try.prog 105 = some ⟨(.struct [(0, 3), (1, 3), (2, 103)]), 3, 40, [.int .i64 0, .int .i64 0, .slice none 0 0]⟩ := by kernel_rfl
@[go_sem] theorem eqo105 : eqOk Try.prog 105 = some [(.int .i64), (.int .i64), (.slice 175)] := by kernel_rfl
@[go_sem] theorem ti108 : ti Try.prog 108 = some ⟨(.slice 132), 1, 24, [.slice none 0 0]⟩ := by kernel_rfl
@[go_sem] theorem ti109 : ti Try.prog 109 = some ⟨(.struct [(0, 3), (1, 3), (2, 3), (3, 9), (4, 57), (5, 98), (6, 108)]), 7, 112, [.int .i64 0, .int .i64 0, .int .i64 0, .string ⟨#[]⟩, .slice none 0 0, .slice none 0 0, .slice none 0 0]⟩ := by kernel_rfl
@[go_sem] theorem eqo109 : eqOk Try.prog 109 = some [(.int .i64), (.int .i64), (.int .i64), .str, (.slice 110), (.slice 9), (.slice 132)] := by kernel_rfl
@[go_sem] theorem ti110 : ti Try.prog 110 = some ⟨(.struct [(0, 3), (1, 3), (2, 3), (3, 9), (4, 57), (5, 98), (6, 108)]), 7, 112, [.int .i64 0, .int .i64 0, .int .i64 0, .string ⟨#[]⟩, .slice none 0 0, .slice none 0 0, .slice none 0 0]⟩ := by kernel_rfl
@[go_sem] theorem eqo110 : eqOk Try.prog 110 = some [(.int .i64), (.int .i64), (.int .i64), .str, (.slice 110), (.slice 9), (.slice 132)] := by kernel_rfl
@[go_sem] theorem ti121 : ti Try.prog 121 = some ⟨(.struct [(0, 3), (1, 3), (2, 3), (3, 68), (4, 110), (11, 4)]), 12, 168, [.int .i64 0, .int .i64 0, .int .i64 0, .slice none 0 0, .int .i64 0, .int .i64 0, .int .i64 0, .string ⟨#[]⟩, .slice none 0 0, .slice none 0 0, .slice none 0 0, .bool false]⟩ := by kernel_rfl
@[go_sem] theorem ti122 : ti Try.prog 122 = some ⟨(.struct [(0, 3), (1, 3), (2, 3), (3, 68), (4, 110), (11, 4)]), 12, 168, [.int .i64 0, .int .i64 0, .int .i64 0, .slice none 0 0, .int .i64 0, .int .i64 0, .int .i64 0, .string ⟨#[]⟩, .slice none 0 0, .slice none 0 0, .slice none 0 0, .bool false]⟩ := by kernel_rfl
@[go_sem] theorem ti131 : ti Try.prog 131 = some ⟨(.struct [(0, 68), (1, 54)]), 2, 48, [.slice none 0 0, .slice none 0 0]⟩ := by kernel_rfl
@[go_sem] theorem eqo131 : eqOk Try.prog 131 = some [(.slice 3), (.slice 139)] := by kernel_rfl
@[go_sem] theorem ti132 : ti Try.prog 132 = some ⟨(.struct [(0, 68), (1, 54)]), 2, 48, [.slice none 0 0, .slice none 0 0]⟩ := by kernel_rfl
@[go_sem] theorem eqo132 : eqOk Try.prog 132 = some [(.slice 3), (.slice 139)] := by kernel_rfl
@[go_sem] theorem ti138 : ti Try.prog 138 = some ⟨(.struct [(0, 3), (1, 3)]), 2, 16, [.int .i64 0, .int .i64 0]⟩ := by kernel_rfl
@[go_sem] theorem eqo138 : eqOk Try.prog 138 = some [(.int .i64), (.int .i64)] := by kernel_rfl
@[go_sem] theorem ti139 : ti Try.prog 139 = some ⟨(.struct [(0, 3), (1, 3)]), 2, 16, [.int .i64 0, .int .i64 0]⟩ := by kernel_rfl
@[go_sem] theorem eqo139 : eqOk Try.prog 139 = some [(.int .i64), (.int .i64)] := by kernel_rfl
@[go_sem] theorem ti145 : ti Try.prog 145 = some ⟨(.struct [(0, 3), (1, 3), (2, 3), (3, 9), (4, 9), (5, 3)]), 6, 64, [.int .i64 0, .int .i64 0, .int .i64 0, .string ⟨#[]⟩, .string ⟨#[]⟩, .int .i64 0]⟩ := by kernel_rfl
@[go_sem] theorem eqo145 : eqOk Try.prog 145 = some [(.int .i64), (.int .i64), (.int .i64), .str, .str, (.int .i64)] := by kernel_rfl
@[go_sem] theorem ti146 : ti Try.prog 146 = some ⟨(.struct [(0, 3), (1, 3), (2, 3), (3, 9), (4, 9), (5, 3)]), 6, 64, [.int .i64 0, .int .i64 0, .int .i64 0, .string ⟨#[]⟩, .string ⟨#[]⟩, .int .i64 0]⟩ := by kernel_rfl
@[go_sem] theorem eqo146 : eqOk Try.prog 146 = some [(.int .i64), (.int .i64), (.int .i64), .str, .str, (.int .i64)] := by kernel_rfl
@[go_sem] theorem ti148 : ti Try.prog 148 = some ⟨(.struct [(0, 3), (1, 4), (2, 9)]), 3, 32, [.int .i64 0, .bool false, .string ⟨#[]⟩]⟩ := by kernel_rfl
@[go_sem] theorem eqo148 : eqOk Try.prog 148 = some [(.int .i64), .bool, .str] := by kernel_rfl
@[go_sem] theorem ti149 : ti Try.prog 149 = some ⟨(.struct [(0, 3), (1, 4), (2, 9)]), 3, 32, [.int .i64 0, .bool false, .string ⟨#[]⟩]⟩ := by kernel_rfl
@[go_sem] theorem eqo149 : eqOk Try.prog 149 = some [(.int .i64), .bool, .str] := by kernel_rfl
@[go_sem] theorem ti151 : ti Try.prog 151 = some ⟨(.struct [(0, 3), (1, 4), (2, 9)]), 3, 32, [.int .i64 0, .bool false, .string ⟨#[]⟩]⟩ := by kernel_rfl
@[go_sem] theorem eqo151 : eqOk Try.prog 151 = some [(.int .i64), .bool, .str] := by kernel_rfl
@[go_sem] theorem ti152 : ti Try.prog 152 = some ⟨(.struct [(0, 3), (1, 151)]), 4, 40, [.int .i64 0, .int .i64 0, .bool false, .string ⟨#[]⟩]⟩ := by kernel_rfl
@[go_sem] theorem eqo152 : eqOk Try.prog 152 = some [(.int .i64), (.struct [(0, 3), (1, 4), (2, 9)])] := by kernel_rfl
@[go_sem] theorem ti153 : ti Try.prog 153 = some ⟨(.struct [(0, 3), (1, 151)]), 4, 40, [.int .i64 0, .int .i64 0, .bool false, .string ⟨#[]⟩]⟩ := by kernel_rfl
@[go_sem] theorem eqo153 : eqOk Try.prog 153 = some [(.int .i64), (.struct [(0, 3), (1, 4), (2, 9)])] := by kernel_rfl
@[go_sem] theorem ti174 : ti Try.prog 174 = some ⟨(.struct [(0, 3), (1, 3), (2, 3), (3, 3)]), 4, 32, [.int .i64 0, .int .i64 0, .int .i64 0, .int .i64 0]⟩ := by kernel_rfl
@[go_sem] theorem eqo174 : eqOk Try.prog 174 = some [(.int .i64), (.int .i64), (.int .i64), (.int .i64)] := by kernel_rfl
@[go_sem] theorem ti175 : ti Try.prog 175 = some ⟨(.struct [(0, 3), (1, 3), (2, 3), (3, 3)]), 4, 32, [.int .i64 0, .int .i64 0, .int .i64 0, .int .i64 0]⟩ := by kernel_rfl
@[go_sem] theorem eqo175 : eqOk Try.prog 175 = some [(.int .i64), (.int .i64), (.int .i64), (.int .i64)] := by kernel_rfl
@[go_sem] theorem ti188 : ti Try.prog 188 = some ⟨(.slice 241), 1, 24, [.slice none 0 0]⟩ := by kernel_rfl
@[go_sem] theorem ti189 : ti Try.prog 189 = some ⟨(.struct [(0, 3), (1, 3), (2, 188)]), 3, 40, [.int .i64 0, .int .i64 0, .slice none 0 0]⟩ := by kernel_rfl
@[go_sem] theorem eqo189 : eqOk Try.prog 189 = some [(.int .i64), (.int .i64), (.slice 241)] := by kernel_rfl
@[go_sem] theorem ti190 : ti Try.prog 190 = some ⟨(.struct [(0, 3), (1, 3), (2, 188)]), 3, 40, [.int .i64 0, .int .i64 0, .slice none 0 0]⟩ := by kernel_rfl
@[go_sem] theorem eqo190 : eqOk Try.prog 190 = some [(.int .i64), (.int .i64), (.slice 241)] := by kernel_rfl
@[go_sem] theorem ti192 : ti Try.prog 192 = some ⟨(.struct [(0, 3), (1, 3), (2, 3), (3, 68), (4, 101), (11, 4)]), 12, 168, [.int .i64 0, .int .i64 0, .int .i64 0, .slice none 0 0, .int .i64 0, .int .i64 0, .int .i64 0, .string ⟨#[]⟩, .slice none 0 0, .slice none 0 0, .slice none 0 0, .bool false]⟩ := by kernel_rfl
@[go_sem] theorem ti193 : ti Try.prog 193 = some ⟨(.struct [(0, 3), (1, 3), (2, 3), (3, 68), (4, 101), (11, 4)]), 12, 168, [.int .i64 0, .int .i64 0, .int .i64 0, .slice none 0 0, .int .i64 0, .int .i64 0, .int .i64 0, .string ⟨#[]⟩, .slice none 0 0, .slice none 0 0, .slice none 0 0, .bool false]⟩ := by kernel_rfl
@[go_sem] theorem ti194 : ti Try.prog 194 = some ⟨(.slice 234), 1, 24, [.slice none 0 0]⟩ := by kernel_rfl
@[go_sem] theorem ti195 : ti Try.prog 195 = some ⟨(.struct [(0, 3), (1, 3), (2, 194)]), 3, 40, [.int .i64 0, .int .i64 0, .slice none 0 0]⟩ := by kernel_rfl
@[go_sem] theorem eqo195 : eqOk Try.prog 195 = some [(.int .i64), (.int .i64), (.slice 234)] := by kernel_rfl
@[go_sem] theorem ti196 : ti Try.prog 196 = some ⟨(.struct [(0, 3), (1, 3), (2, 194)]), 3, 40, [.int .i64 0, .int .i64 0, .slice none 0 0]⟩ := by kernel_rfl
@[go_sem] theorem eqo196 : eqOk Try.prog 196 = some [(.int .i64), (.int .i64), (.slice 234)] := by kernel_rfl
@[go_sem] theorem ti202 : ti Try.prog 202 = some ⟨(.struct [(0, 3), (1, 3), (2, 3), (3, 9), (4, 9), (5, 3)]), 6, 64, [.int .i64 0, .int .i64 0, .int .i64 0, .string ⟨#[]⟩, .string ⟨#[]⟩, .int .i64 0]⟩ := by kernel_rfl
@[go_sem] theorem eqo202 : eqOk Try.prog 202 = some [(.int .i64), (.int .i64), (.int .i64), .str, .str, (.int .i64)] := by kernel_rfl
@[go_sem] theorem ti207 : ti Try.prog 207 = some ⟨(.struct [(0, 3), (1, 149)]), 4, 40, [.int .i64 0, .int .i64 0, .bool false, .string ⟨#[]⟩]⟩ := by kernel_rfl
@[go_sem] theorem eqo207 : eqOk Try.prog 207 = some [(.int .i64), (.struct [(0, 3), (1, 4), (2, 9)])] := by kernel_rfl
@[go_sem] theorem ti208 : ti Try.prog 208 = some ⟨(.struct [(0, 3), (1, 149)]), 4, 40, [.int .i64 0, .int .i64 0, .bool false, .string ⟨#[]⟩]⟩ := by kernel_rfl
@[go_sem] theorem eqo208 : eqOk Try.prog 208 = some [(.int .i64), (.struct [(0, 3), (1, 4), (2, 9)])] := by kernel_rfl
@[go_sem] theorem ti211 : ti Try.prog 211 = some ⟨(.slice 5), 1, 24, [.slice none 0 0]⟩ := by kernel_rfl
@[go_sem] theorem ti213 : ti Try.prog 213 = some ⟨(.struct [(0, 9), (1, 3)]), 2, 24, [.string ⟨#[]⟩, .int .i64 0]⟩ := by kernel_rfl
@[go_sem] theorem eqo213 : eqOk Try.prog 213 = some [.str, (.int .i64)] := by kernel_rfl
@[go_sem] theorem ti214 : ti Try.prog 214 = some ⟨(.struct [(0, 9), (1, 3)]), 2, 24, [.string ⟨#[]⟩, .int .i64 0]⟩ := by kernel_rfl
@[go_sem] theorem eqo214 : eqOk Try.prog 214 = some [.str, (.int .i64)] := by kernel_rfl
@[go_sem] theorem ti216 : ti Try.prog 216 = some ⟨(.struct [(0, 9), (1, 3)]), 2, 24, [.string ⟨#[]⟩, .int .i64 0]⟩ := by kernel_rfl
@[go_sem] theorem eqo216 : eqOk Try.prog 216 = some [.str, (.int .i64)] := by kernel_rfl
@[go_sem] theorem ti222 : ti Try.prog 222 = some ⟨(.slice 246), 1, 24, [.slice none 0 0]⟩ := by kernel_rfl
@[go_sem] theorem ti223 : ti Try.prog 223 = some ⟨(.struct [(0, 68), (1, 222)]), 2, 48, [.slice none 0 0, .slice none 0 0]⟩ := by kernel_rfl
@[go_sem] theorem eqo223 : eqOk Try.prog 223 = some [(.slice 3), (.slice 246)] := by kernel_rfl
@[go_sem] theorem ti224 : ti Try.prog 224 = some ⟨(.struct [(0, 68), (1, 222)]), 2, 48, [.slice none 0 0, .slice none 0 0]⟩ := by kernel_rfl
@[go_sem] theorem eqo224 : eqOk Try.prog 224 = some [(.slice 3), (.slice 246)] := by kernel_rfl
@[go_sem] theorem ti233 : ti Try.prog 233 = some ⟨(.struct [(0, 3), (1, 3), (2, 3), (3, 9), (4, 110)]), 11, 152, [.int .i64 0, .int .i64 0, .int .i64 0, .string ⟨#[]⟩, .int .i64 0, .int .i64 0, .int .i64 0, .string ⟨#[]⟩, .slice none 0 0, .slice none 0 0, .slice none 0 0]⟩ := by kernel_rfl
@[go_sem] theorem eqo233 : eqOk Try.prog 233 = some [(.int .i64), (.int .i64), (.int .i64), .str, (.struct [(0, 3), (1, 3), (2, 3), (3, 9), (4, 57), (5, 98), (6, 108)])] := by kernel_rfl
@[go_sem] theorem ti234 : ti Try.prog 234 = some ⟨(.struct [(0, 3), (1, 3), (2, 3), (3, 9), (4, 110)]), 11, 152, [.int .i64 0, .int .i64 0, .int .i64 0, .string ⟨#[]⟩, .int .i64 0, .int .i64 0, .int .i64 0, .string ⟨#[]⟩, .slice none 0 0, .slice none 0 0, .slice none 0 0]⟩ := by kernel_rfl
@[go_sem] theorem eqo234 : eqOk Try.prog 234 = some [(.int .i64), (.int .i64), (.int .i64), .str, (.struct [(0, 3), (1, 3), (2, 3), (3, 9), (4, 57), (5, 98), (6, 108)])] := by kernel_rfl
@[go_sem] theorem ti240 : ti Try.prog 240 = some ⟨(.struct [(0, 3), (1, 3), (2, 3), (3, 9), (4, 101)]), 11, 152, [.int .i64 0, .int .i64 0, .int .i64 0, .string ⟨#[]⟩, .int .i64 0, .int .i64 0, .int .i64 0, .string ⟨#[]⟩, .slice none 0 0, .slice none 0 0, .slice none 0 0]⟩ := by kernel_rfl
@[go_sem] theorem eqo240 : eqOk Try.prog 240 = some [(.int .i64), (.int .i64), (.int .i64), .str, (.struct [(0, 3), (1, 3), (2, 3), (3, 9), (4, 49), (5, 98), (6, 99)])] := by kernel_rfl
@[go_sem] theorem ti241 : ti Try.prog 241 = some ⟨(.struct [(0, 3), (1, 3), (2, 3), (3, 9), (4, 101)]), 11, 152, [.int .i64 0, .int .i64 0, .int .i64 0, .string ⟨#[]⟩, .int .i64 0, .int .i64 0, .int .i64 0, .string ⟨#[]⟩, .slice none 0 0, .slice none 0 0, .slice none 0 0]⟩ := by kernel_rfl
@[go_sem] theorem eqo241 : eqOk Try.prog 241 = some [(.int .i64), (.int .i64), (.int .i64), .str, (.struct [(0, 3), (1, 3), (2, 3), (3, 9), (4, 49), (5, 98), (6, 99)])] := by kernel_rfl
@[go_sem] theorem ti246 : ti Try.prog 246 = some ⟨(.struct [(0, 3), (1, 3)]), 2, 16, [.int .i64 0, .int .i64 0]⟩ := by kernel_rfl
@[go_sem] theorem eqo246 : eqOk Try.prog 246 = some [(.int .i64), (.int .i64)] := by kernel_rfl
@[go_sem] theorem ti250 : ti Try.prog 250 = some ⟨(.struct [(0, 17), (1, 17), (2, 17), (3, 9)]), 4, 40, [.pointer none, .pointer none, .pointer none, .string ⟨#[]⟩]⟩ := by kernel_rfl
@[go_sem] theorem ti251 : ti Try.prog 251 = some ⟨(.struct [(0, 17), (1, 17), (2, 17), (3, 9)]), 4, 40, [.pointer none, .pointer none, .pointer none, .string ⟨#[]⟩]⟩ := by kernel_rfl
@[go_sem] theorem ti253 : ti Try.prog 253 = some ⟨(.struct [(0, 252)]), 0, 0, []⟩ := by kernel_rfl
@[go_sem] theorem ti254 : ti Try.prog 254 = some ⟨(.struct [(0, 252)]), 0, 0, []⟩ := by kernel_rfl
@[go_sem] theorem ti256 : ti Try.prog 256 = some ⟨(.int .u32), 1, 4, [.int .u32 0]⟩ := by kernel_rfl
@[go_sem] theorem ti257 : ti Try.prog 257 = some ⟨(.int .u8), 1, 1, [.int .u8 0]⟩ := by kernel_rfl
@[go_sem] theorem ti258 : ti Try.prog 258 = some ⟨(.int .u8), 1, 1, [.int .u8 0]⟩ := by kernel_rfl
@[go_sem] theorem ti261 : ti Try.prog 261 = some ⟨(.int .i32), 1, 4, [.int .i32 0]⟩ := by kernel_rfl
@[go_sem] theorem ti262 : ti Try.prog 262 = some ⟨(.int .i32), 1, 4, [.int .i32 0]⟩ := by kernel_rfl
@[go_sem] theorem ti263 : ti Try.prog 263 = some ⟨(.struct [(0, 12), (1, 12), (2, 256), (3, 257), (4, 5), (5, 5), (6, 258), (7, 259), (8, 260), (9, 261), (10, 262)]), 11, 48, [.int .u64 0, .int .u64 0, .int .u32 0, .int .u8 0, .int .u8 0, .int .u8 0, .int .u8 0, .nilFunc, .pointer none, .int .i32 0, .int .i32 0]⟩ := by kernel_rfl
@[go_sem] theorem ti264 : ti Try.prog 264 = some ⟨(.struct [(0, 12), (1, 12), (2, 256), (3, 257), (4, 5), (5, 5), (6, 258), (7, 259), (8, 260), (9, 261), (10, 262)]), 11, 48, [.int .u64 0, .int .u64 0, .int .u32 0, .int .u8 0, .int .u8 0, .int .u8 0, .int .u8 0, .nilFunc, .pointer none, .int .i32 0, .int .i32 0]⟩ := by kernel_rfl
end Go.Proofs.Ytmiboaogfjgkjaa
