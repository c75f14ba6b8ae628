/- The rows of the types, as far as the walks ask them. -/
import Derived.Test.YtmiboaogfjgkjaaGreatDoorPkC
set_option linter.unusedSimpArgs false
namespace Go.Proofs.YtmiboaogfjgkjaaGreatDoor
open Go.RowKit Am
@[go_sem] theorem ti2 : ti Tryz.prog 2 = some ⟨(.int .i64), 1, 8, [.int .i64 0]⟩ := by kernel_rfl
@[go_sem] theorem ti3 : ti Tryz.prog 3 = some ⟨(.int .i64), 1, 8, [.int .i64 0]⟩ := by kernel_rfl
@[go_sem] theorem ti4 : ti Tryz.prog 4 = some ⟨.bool, 1, 1, [.bool false]⟩ := by kernel_rfl
@[go_sem] theorem ti5 : ti Tryz.prog 5 = some ⟨(.int .u8), 1, 1, [.int .u8 0]⟩ := by kernel_rfl
@[go_sem] theorem ti6 : ti Tryz.prog 6 = some ⟨(.int .u8), 1, 1, [.int .u8 0]⟩ := by kernel_rfl
@[go_sem] theorem ti7 : ti Tryz.prog 7 = some ⟨(.struct [(0, 2), (1, 3), (2, 4), (3, 6)]), 4, 24, [.int .i64 0, .int .i64 0, .bool false, .int .u8 0]⟩ := by kernel_rfl
@[go_sem] theorem eqo7 : eqOk Tryz.prog 7 = some [(.int .i64), (.int .i64), .bool, (.int .u8)] := by kernel_rfl
@[go_sem] theorem ti8 : ti Tryz.prog 8 = some ⟨(.struct [(0, 2), (1, 3), (2, 4), (3, 6)]), 4, 24, [.int .i64 0, .int .i64 0, .bool false, .int .u8 0]⟩ := by kernel_rfl
@[go_sem] theorem eqo8 : eqOk Tryz.prog 8 = some [(.int .i64), (.int .i64), .bool, (.int .u8)] := by kernel_rfl
@[go_sem] theorem ti9 : ti Tryz.prog 9 = some ⟨.str, 1, 16, [.string ⟨#[]⟩]⟩ := by kernel_rfl
@[go_sem] theorem ti10 : ti Tryz.prog 10 = some ⟨.str, 1, 16, [.string ⟨#[]⟩]⟩ := by kernel_rfl
@[go_sem] theorem ti11 : ti Tryz.prog 11 = some ⟨.str, 1, 16, [.string ⟨#[]⟩]⟩ := by kernel_rfl
@[go_sem] theorem ti12 : ti Tryz.prog 12 = some ⟨(.int .u64), 1, 8, [.int .u64 0]⟩ := by kernel_rfl
@[go_sem] theorem ti13 : ti Tryz.prog 13 = some ⟨(.struct [(0, 9), (1, 12)]), 2, 24, [.string ⟨#[]⟩, .int .u64 0]⟩ := by kernel_rfl
@[go_sem] theorem ti14 : ti Tryz.prog 14 = some ⟨(.struct [(0, 9), (1, 12)]), 2, 24, [.string ⟨#[]⟩, .int .u64 0]⟩ := by kernel_rfl
@[go_sem] theorem ti18 : ti Tryz.prog 18 = some ⟨(.struct [(0, 17)]), 1, 8, [.pointer none]⟩ := by kernel_rfl
@[go_sem] theorem ti19 : ti Tryz.prog 19 = some ⟨(.struct [(0, 17)]), 1, 8, [.pointer none]⟩ := by kernel_rfl
@[go_sem] theorem ti21 : ti Tryz.prog 21 = some ⟨(.int .i32), 1, 4, [.int .i32 0]⟩ := by kernel_rfl
@[go_sem] theorem ti22 : ti Tryz.prog 22 = some ⟨(.slice 74), 1, 24, [.slice none 0 0]⟩ := by kernel_rfl
@[go_sem] theorem ti23 : ti Tryz.prog 23 = some ⟨(.struct [(0, 22)]), 1, 24, [.slice none 0 0]⟩ := by kernel_rfl
@[go_sem] theorem eqo23 : eqOk Tryz.prog 23 = some [(.slice 74)] := by kernel_rfl
@[go_sem] theorem ti24 : ti Tryz.prog 24 = some ⟨(.struct [(0, 22)]), 1, 24, [.slice none 0 0]⟩ := by kernel_rfl
@[go_sem] theorem eqo24 : eqOk Tryz.prog 24 = some [(.slice 74)] := by kernel_rfl
@[go_sem] theorem ti25 : ti Tryz.prog 25 = some ⟨(.slice 78), 1, 24, [.slice none 0 0]⟩ := by kernel_rfl
@[go_sem] theorem ti26 : ti Tryz.prog 26 = some ⟨(.slice 82), 1, 24, [.slice none 0 0]⟩ := by kernel_rfl
@[go_sem] theorem ti27 : ti Tryz.prog 27 = some ⟨(.struct [(0, 25), (1, 26), (2, 3)]), 3, 56, [.slice none 0 0, .slice none 0 0, .int .i64 0]⟩ := by kernel_rfl
@[go_sem] theorem eqo27 : eqOk Tryz.prog 27 = some [(.slice 78), (.slice 82), (.int .i64)] := by kernel_rfl
@[go_sem] theorem ti28 : ti Tryz.prog 28 = some ⟨(.struct [(0, 25), (1, 26), (2, 3)]), 3, 56, [.slice none 0 0, .slice none 0 0, .int .i64 0]⟩ := by kernel_rfl
@[go_sem] theorem eqo28 : eqOk Tryz.prog 28 = some [(.slice 78), (.slice 82), (.int .i64)] := by kernel_rfl
@[go_sem] theorem ti31 : ti Tryz.prog 31 = some ⟨(.slice 54), 1, 24, [.slice none 0 0]⟩ := by kernel_rfl
@[go_sem] theorem ti33 : ti Tryz.prog 33 = some ⟨(.slice 57), 1, 24, [.slice none 0 0]⟩ := by kernel_rfl
@[go_sem] theorem ti34 : ti Tryz.prog 34 = some ⟨(.struct [(0, 33)]), 1, 24, [.slice none 0 0]⟩ := by kernel_rfl
@[go_sem] theorem eqo34 : eqOk Tryz.prog 34 = some [(.slice 57)] := by kernel_rfl
@[go_sem] theorem ti35 : ti Tryz.prog 35 = some ⟨(.struct [(0, 33)]), 1, 24, [.slice none 0 0]⟩ := by kernel_rfl
@[go_sem] theorem eqo35 : eqOk Tryz.prog 35 = some [(.slice 57)] := by kernel_rfl
@[go_sem] theorem ti37 : ti Tryz.prog 37 = some ⟨(.slice 61), 1, 24, [.slice none 0 0]⟩ := by kernel_rfl
@[go_sem] theorem ti38 : ti Tryz.prog 38 = some ⟨(.slice 89), 1, 24, [.slice none 0 0]⟩ := by kernel_rfl
@[go_sem] theorem ti39 : ti Tryz.prog 39 = some ⟨(.struct [(0, 37), (1, 38), (2, 3)]), 3, 56, [.slice none 0 0, .slice none 0 0, .int .i64 0]⟩ := by kernel_rfl
@[go_sem] theorem eqo39 : eqOk Tryz.prog 39 = some [(.slice 61), (.slice 89), (.int .i64)] := by kernel_rfl
@[go_sem] theorem ti40 : ti Tryz.prog 40 = some ⟨(.struct [(0, 37), (1, 38), (2, 3)]), 3, 56, [.slice none 0 0, .slice none 0 0, .int .i64 0]⟩ := by kernel_rfl
@[go_sem] theorem eqo40 : eqOk Tryz.prog 40 = some [(.slice 61), (.slice 89), (.int .i64)] := by kernel_rfl
@[go_sem] theorem ti53 : ti Tryz.prog 53 = some ⟨(.struct [(0, 3), (1, 4), (2, 9)]), 3, 32, [.int .i64 0, .bool false, .string ⟨#[]⟩]⟩ := by kernel_rfl
@[go_sem] theorem eqo53 : eqOk Tryz.prog 53 = some [(.int .i64), .bool, .str] := by kernel_rfl
@[go_sem] theorem ti54 : ti Tryz.prog 54 = some ⟨(.struct [(0, 3), (1, 4), (2, 9)]), 3, 32, [.int .i64 0, .bool false, .string ⟨#[]⟩]⟩ := by kernel_rfl
@[go_sem] theorem eqo54 : eqOk Tryz.prog 54 = some [(.int .i64), .bool, .str] := by kernel_rfl
@[go_sem] theorem ti56 : ti Tryz.prog 56 = some ⟨(.struct [(0, 3), (1, 3), (2, 3), (3, 9), (4, 9), (5, 3)]), 6, 64, [.int .i64 0, .int .i64 0, .int .i64 0, .string ⟨#[]⟩, .string ⟨#[]⟩, .int .i64 0]⟩ := by kernel_rfl
@[go_sem] theorem eqo56 : eqOk Tryz.prog 56 = some [(.int .i64), (.int .i64), (.int .i64), .str, .str, (.int .i64)] := by kernel_rfl
@[go_sem] theorem ti57 : ti Tryz.prog 57 = some ⟨(.struct [(0, 3), (1, 3), (2, 3), (3, 9), (4, 9), (5, 3)]), 6, 64, [.int .i64 0, .int .i64 0, .int .i64 0, .string ⟨#[]⟩, .string ⟨#[]⟩, .int .i64 0]⟩ := by kernel_rfl
@[go_sem] theorem eqo57 : eqOk Tryz.prog 57 = some [(.int .i64), (.int .i64), (.int .i64), .str, .str, (.int .i64)] := by kernel_rfl
@[go_sem] theorem ti58 : ti Tryz.prog 58 = some ⟨(.slice 9), 1, 24, [.slice none 0 0]⟩ := by kernel_rfl
@[go_sem] theorem ti59 : ti Tryz.prog 59 = some ⟨(.slice 109), 1, 24, [.slice none 0 0]⟩ := by kernel_rfl
@[go_sem] theorem ti60 : ti Tryz.prog 60 = some ⟨(.struct [(0, 3), (1, 3), (2, 3), (3, 9), (4, 37), (5, 58), (6, 59)]), 7, 112, [.int .i64 0, .int .i64 0, .int .i64 0, .string ⟨#[]⟩, .slice none 0 0, .slice none 0 0, .slice none 0 0]⟩ := by kernel_rfl
@[go_sem] theorem eqo60 : eqOk Tryz.prog 60 = some [(.int .i64), (.int .i64), (.int .i64), .str, (.slice 61), (.slice 9), (.slice 109)] := by kernel_rfl
@[go_sem] theorem ti61 : ti Tryz.prog 61 = some ⟨(.struct [(0, 3), (1, 3), (2, 3), (3, 9), (4, 37), (5, 58), (6, 59)]), 7, 112, [.int .i64 0, .int .i64 0, .int .i64 0, .string ⟨#[]⟩, .slice none 0 0, .slice none 0 0, .slice none 0 0]⟩ := by kernel_rfl
@[go_sem] theorem eqo61 : eqOk Tryz.prog 61 = some [(.int .i64), (.int .i64), (.int .i64), .str, (.slice 61), (.slice 9), (.slice 109)] := by kernel_rfl
@[go_sem] theorem ti74 : ti Tryz.prog 74 = some ⟨(.struct [(0, 3), (1, 3), (2, 3), (3, 9), (4, 9), (5, 3)]), 6, 64, [.int .i64 0, .int .i64 0, .int .i64 0, .string ⟨#[]⟩, .string ⟨#[]⟩, .int .i64 0]⟩ := by kernel_rfl
@[go_sem] theorem eqo74 : eqOk Tryz.prog 74 = some [(.int .i64), (.int .i64), (.int .i64), .str, .str, (.int .i64)] := by kernel_rfl
@[go_sem] theorem ti76 : ti Tryz.prog 76 = some ⟨(.slice 122), 1, 24, [.slice none 0 0]⟩ := by kernel_rfl
@[go_sem] theorem ti77 : ti Tryz.prog 77 = some ⟨(.struct [(0, 3), (1, 3), (2, 3), (3, 9), (4, 25), (5, 58), (6, 76)]), 7, 112, [.int .i64 0, .int .i64 0, .int .i64 0, .string ⟨#[]⟩, .slice none 0 0, .slice none 0 0, .slice none 0 0]⟩ := by kernel_rfl
@[go_sem] theorem eqo77 : eqOk Tryz.prog 77 = some [(.int .i64), (.int .i64), (.int .i64), .str, (.slice 78), (.slice 9), (.slice 122)] := by kernel_rfl
@[go_sem] theorem ti78 : ti Tryz.prog 78 = some ⟨(.struct [(0, 3), (1, 3), (2, 3), (3, 9), (4, 25), (5, 58), (6, 76)]), 7, 112, [.int .i64 0, .int .i64 0, .int .i64 0, .string ⟨#[]⟩, .slice none 0 0, .slice none 0 0, .slice none 0 0]⟩ := by kernel_rfl
@[go_sem] theorem eqo78 : eqOk Tryz.prog 78 = some [(.int .i64), (.int .i64), (.int .i64), .str, (.slice 78), (.slice 9), (.slice 122)] := by kernel_rfl
@[go_sem] theorem ti80 : ti Tryz.prog 80 = some ⟨(.slice 125), 1, 24, [.slice none 0 0]⟩ := by kernel_rfl
@[go_sem] theorem ti81 : ti Tryz.prog 81 = some ⟨(.struct [(0, 3), (1, 3), (2, 80)]), 3, 40, [.int .i64 0, .int .i64 0, .slice none 0 0]⟩ := by kernel_rfl
@[go_sem] theorem eqo81 : eqOk Tryz.prog 81 = some [(.int .i64), (.int .i64), (.slice 125)] := by kernel_rfl
@[go_sem] theorem ti82 : ti Tryz.prog 82 = some ⟨(.struct [(0, 3), (1, 3), (2, 80)]), 3, 40, [.int .i64 0, .int .i64 0, .slice none 0 0]⟩ := by kernel_rfl
@[go_sem] theorem eqo82 : eqOk Tryz.prog 82 = some [(.int .i64), (.int .i64), (.slice 125)] := by kernel_rfl
@[go_sem] theorem ti87 : ti Tryz.prog 87 = some ⟨(.slice 118), 1, 24, [.slice none 0 0]⟩ := by kernel_rfl
@[go_sem] theorem ti88 : ti Tryz.prog 88 = some ⟨(.struct [(0, 3), (1, 3), (2, 87)]), 3, 40, [.int .i64 0, .int .i64 0, .slice none 0 0]⟩ := by kernel_rfl
@[go_sem] theorem eqo88 : eqOk Tryz.prog 88 = some [(.int .i64), (.int .i64), (.slice 118)] := by kernel_rfl
@[go_sem] theorem ti89 : ti Tryz.prog 89 = some ⟨(.struct [(0, 3), (1, 3), (2, 87)]), 3, 40, [.int .i64 0, .int .i64 0, .slice none 0 0]⟩ := by kernel_rfl
@[go_sem] theorem eqo89 : eqOk Tryz.prog 89 = some [(.int .i64), (.int .i64), (.slice 118)] := by kernel_rfl
@[go_sem] theorem ti97 : ti Tryz.prog 97 = some ⟨(.slice 5), 1, 24, [.slice none 0 0]⟩ := by kernel_rfl
@[go_sem] theorem ti106 : ti Tryz.prog 106 = some ⟨(.slice 3), 1, 24, [.slice none 0 0]⟩ := by kernel_rfl
@[go_sem] theorem ti107 : ti Tryz.prog 107 = some ⟨(.slice 134), 1, 24, [.slice none 0 0]⟩ := by kernel_rfl
@[go_sem] theorem ti108 : ti Tryz.prog 108 = some ⟨(.struct [(0, 106), (1, 107)]), 2, 48, [.slice none 0 0, .slice none 0 0]⟩ := by kernel_rfl
@[go_sem] theorem eqo108 : eqOk Tryz.prog 108 = some [(.slice 3), (.slice 134)] := by kernel_rfl
@[go_sem] theorem ti109 : ti Tryz.prog 109 = some ⟨(.struct [(0, 106), (1, 107)]), 2, 48, [.slice none 0 0, .slice none 0 0]⟩ := by kernel_rfl
@[go_sem] theorem eqo109 : eqOk Tryz.prog 109 = some [(.slice 3), (.slice 134)] := by kernel_rfl
@[go_sem] theorem ti117 : ti Tryz.prog 117 = some ⟨(.struct [(0, 3), (1, 3), (2, 3), (3, 9), (4, 61)]), 11, 152, [.int .i64 0, .int .i64 0, .int .i64 0, .string ⟨#[]⟩, .int .i64 0, .int .i64 0, .int .i64 0, .string ⟨#[]⟩, .slice none 0 0, .slice none 0 0, .slice none 0 0]⟩ := by kernel_rfl
@[go_sem] theorem eqo117 : eqOk Tryz.prog 117 = some [(.int .i64), (.int .i64), (.int .i64), .str, (.struct [(0, 3), (1, 3), (2, 3), (3, 9), (4, 37), (5, 58), (6, 59)])] := by kernel_rfl
@[go_sem] theorem ti118 : ti Tryz.prog 118 = some ⟨(.struct [(0, 3), (1, 3), (2, 3), (3, 9), (4, 61)]), 11, 152, [.int .i64 0, .int .i64 0, .int .i64 0, .string ⟨#[]⟩, .int .i64 0, .int .i64 0, .int .i64 0, .string ⟨#[]⟩, .slice none 0 0, .slice none 0 0, .slice none 0 0]⟩ := by kernel_rfl
@[go_sem] theorem eqo118 : eqOk Tryz.prog 118 = some [(.int .i64), (.int .i64), (.int .i64), .str, (.struct [(0, 3), (1, 3), (2, 3), (3, 9), (4, 37), (5, 58), (6, 59)])] := by kernel_rfl
@[go_sem] theorem ti120 : ti Tryz.prog 120 = some ⟨(.slice 157), 1, 24, [.slice none 0 0]⟩ := by kernel_rfl
@[go_sem] theorem ti121 : ti Tryz.prog 121 = some ⟨(.struct [(0, 106), (1, 120)]), 2, 48, [.slice none 0 0, .slice none 0 0]⟩ := by kernel_rfl
@[go_sem] theorem eqo121 : eqOk Tryz.prog 121 = some [(.slice 3), (.slice 157)] := by kernel_rfl
@[go_sem] theorem ti122 : ti Tryz.prog 122 = some ⟨(.struct [(0, 106), (1, 120)]), 2, 48, [.slice none 0 0, .slice none 0 0]⟩ := by kernel_rfl
@[go_sem] theorem eqo122 : eqOk Tryz.prog 122 = some [(.slice 3), (.slice 157)] := by kernel_rfl
@[go_sem] theorem ti124 : ti Tryz.prog 124 = some ⟨(.struct [(0, 3), (1, 3), (2, 3), (3, 9), (4, 78)]), 11, 152, [.int .i64 0, .int .i64 0, .int .i64 0, .string ⟨#[]⟩, .int .i64 0, .int .i64 0, .int .i64 0, .string ⟨#[]⟩, .slice none 0 0, .slice none 0 0, .slice none 0 0]⟩ := by kernel_rfl
@[go_sem] theorem eqo124 : eqOk Tryz.prog 124 = some [(.int .i64), (.int .i64), (.int .i64), .str, (.struct [(0, 3), (1, 3), (2, 3), (3, 9), (4, 25), (5, 58), (6, 76)])] := by kernel_rfl
@[go_sem] theorem ti125 : ti Tryz.prog 125 = some ⟨(.struct [(0, 3), (1, 3), (2, 3), (3, 9), (4, 78)]), 11, 152, [.int .i64 0, .int .i64 0, .int .i64 0, .string ⟨#[]⟩, .int .i64 0, .int .i64 0, .int .i64 0, .string ⟨#[]⟩, .slice none 0 0, .slice none 0 0, .slice none 0 0]⟩ := by kernel_rfl
@[go_sem] theorem eqo125 : eqOk Tryz.prog 125 = some [(.int .i64), (.int .i64), (.int .i64), .str, (.struct [(0, 3), (1, 3), (2, 3), (3, 9), (4, 25), (5, 58), (6, 76)])] := by kernel_rfl
@[go_sem] theorem ti133 : ti Tryz.prog 133 = some ⟨(.struct [(0, 3), (1, 3)]), 2, 16, [.int .i64 0, .int .i64 0]⟩ := by kernel_rfl
@[go_sem] theorem eqo133 : eqOk Tryz.prog 133 = some [(.int .i64), (.int .i64)] := by kernel_rfl
@[go_sem] theorem ti134 : ti Tryz.prog 134 = some ⟨(.struct [(0, 3), (1, 3)]), 2, 16, [.int .i64 0, .int .i64 0]⟩ := by kernel_rfl
@[go_sem] theorem eqo134 : eqOk Tryz.prog 134 = some [(.int .i64), (.int .i64)] := by kernel_rfl
@[go_sem] theorem ti145 : ti Tryz.prog 145 = some ⟨(.struct [(0, 144), (1, 97)]), 2, 32, [.pointer none, .slice none 0 0]⟩ := by kernel_rfl
@[go_sem] theorem eqo145 : eqOk Tryz.prog 145 = some [.other, (.slice 5)] := by kernel_rfl
@[go_sem] theorem ti146 : ti Tryz.prog 146 = some ⟨(.struct [(0, 144), (1, 97)]), 2, 32, [.pointer none, .slice none 0 0]⟩ := by kernel_rfl
@[go_sem] theorem eqo146 : eqOk Tryz.prog 146 = some [.other, (.slice 5)] := by kernel_rfl
@[go_sem] theorem ti157 : ti Tryz.prog 157 = some ⟨(.struct [(0, 3), (1, 3)]), 2, 16, [.int .i64 0, .int .i64 0]⟩ := by kernel_rfl
@[go_sem] theorem eqo157 : eqOk Tryz.prog 157 = some [(.int .i64), (.int .i64)] := by kernel_rfl
@[go_sem] theorem ti162 : ti Tryz.prog 162 = some ⟨(.int .u64), 1, 8, [.int .u64 0]⟩ := by kernel_rfl
@[go_sem] theorem ti173 : ti Tryz.prog 173 = some ⟨(.int .u32), 1, 4, [.int .u32 0]⟩ := by kernel_rfl
@[go_sem] theorem ti175 : ti Tryz.prog 175 = some ⟨(.int .u64), 1, 8, [.int .u64 0]⟩ := by kernel_rfl
@[go_sem] theorem ti180 : ti Tryz.prog 180 = some ⟨(.struct [(0, 17), (1, 17), (2, 17), (3, 9)]), 4, 40, [.pointer none, .pointer none, .pointer none, .string ⟨#[]⟩]⟩ := by kernel_rfl
@[go_sem] theorem ti181 : ti Tryz.prog 181 = some ⟨(.struct [(0, 17), (1, 17), (2, 17), (3, 9)]), 4, 40, [.pointer none, .pointer none, .pointer none, .string ⟨#[]⟩]⟩ := by kernel_rfl
@[go_sem] theorem ti183 : ti Tryz.prog 183 = some ⟨(.struct [(0, 182)]), 0, 0, []⟩ := by kernel_rfl
@[go_sem] theorem ti184 : ti Tryz.prog 184 = some ⟨(.struct [(0, 182)]), 0, 0, []⟩ := by kernel_rfl
@[go_sem] theorem ti186 : ti Tryz.prog 186 = some ⟨(.int .u8), 1, 1, [.int .u8 0]⟩ := by kernel_rfl
@[go_sem] theorem ti187 : ti Tryz.prog 187 = some ⟨(.int .u8), 1, 1, [.int .u8 0]⟩ := by kernel_rfl
@[go_sem] theorem ti189 : ti Tryz.prog 189 = some ⟨(.int .i32), 1, 4, [.int .i32 0]⟩ := by kernel_rfl
@[go_sem] theorem ti190 : ti Tryz.prog 190 = some ⟨(.int .i32), 1, 4, [.int .i32 0]⟩ := by kernel_rfl
@[go_sem] theorem ti191 : ti Tryz.prog 191 = some ⟨(.struct [(0, 12), (1, 12), (2, 173), (3, 186), (4, 5), (5, 5), (6, 187), (7, 188), (8, 159), (9, 189), (10, 190)]), 11, 48, [.int .u64 0, .int .u64 0, .int .u32 0, .int .u8 0, .int .u8 0, .int .u8 0, .int .u8 0, .nilFunc, .pointer none, .int .i32 0, .int .i32 0]⟩ := by kernel_rfl
@[go_sem] theorem ti192 : ti Tryz.prog 192 = some ⟨(.struct [(0, 12), (1, 12), (2, 173), (3, 186), (4, 5), (5, 5), (6, 187), (7, 188), (8, 159), (9, 189), (10, 190)]), 11, 48, [.int .u64 0, .int .u64 0, .int .u32 0, .int .u8 0, .int .u8 0, .int .u8 0, .int .u8 0, .nilFunc, .pointer none, .int .i32 0, .int .i32 0]⟩ := by kernel_rfl
end Go.Proofs.YtmiboaogfjgkjaaGreatDoor
