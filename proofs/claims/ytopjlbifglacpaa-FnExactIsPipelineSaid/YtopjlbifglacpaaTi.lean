/- The rows of the types, as far as the walks ask them. -/
import Derived.Test.YtopjlbifglacpaaAmX
set_option linter.unusedSimpArgs false
namespace Go.Proofs.Ytopjlbifglacpaa
open Go.RowKit Am

@[go_sem] theorem ti2 : ti Try.prog 2 = some ⟨(.int .i64), 1, 8, [.int .i64 0]⟩ := by kernel_rfl
@[go_sem] theorem ti3 : ti Try.prog 3 = some ⟨(.int .i64), 1, 8, [.int .i64 0]⟩ := by kernel_rfl
@[go_sem] theorem ti4 : ti Try.prog 4 = some ⟨.bool, 1, 1, [.bool false]⟩ := by kernel_rfl
@[go_sem] theorem ti5 : ti Try.prog 5 = some ⟨(.int .u8), 1, 1, [.int .u8 0]⟩ := by kernel_rfl
@[go_sem] theorem ti6 : ti Try.prog 6 = some ⟨(.int .u8), 1, 1, [.int .u8 0]⟩ := by kernel_rfl
@[go_sem] theorem ti7 : ti Try.prog 7 = some ⟨(.struct [(0, 2), (1, 3), (2, 4), (3, 6)]), 4, 24, [.int .i64 0, .int .i64 0, .bool false, .int .u8 0]⟩ := by kernel_rfl
@[go_sem] theorem eqo7 : eqOk Try.prog 7 = some [(.int .i64), (.int .i64), .bool, (.int .u8)] := by kernel_rfl
@[go_sem] theorem ti8 : ti Try.prog 8 = some ⟨(.struct [(0, 2), (1, 3), (2, 4), (3, 6)]), 4, 24, [.int .i64 0, .int .i64 0, .bool false, .int .u8 0]⟩ := by kernel_rfl
@[go_sem] theorem eqo8 : eqOk Try.prog 8 = some [(.int .i64), (.int .i64), .bool, (.int .u8)] := by kernel_rfl
@[go_sem] theorem ti9 : ti Try.prog 9 = some ⟨.str, 1, 16, [.string ⟨#[]⟩]⟩ := by kernel_rfl
@[go_sem] theorem ti10 : ti Try.prog 10 = some ⟨.str, 1, 16, [.string ⟨#[]⟩]⟩ := by kernel_rfl
@[go_sem] theorem ti11 : ti Try.prog 11 = some ⟨.str, 1, 16, [.string ⟨#[]⟩]⟩ := by kernel_rfl
@[go_sem] theorem ti12 : ti Try.prog 12 = some ⟨(.int .u64), 1, 8, [.int .u64 0]⟩ := by kernel_rfl
@[go_sem] theorem ti13 : ti Try.prog 13 = some ⟨(.struct [(0, 9), (1, 12)]), 2, 24, [.string ⟨#[]⟩, .int .u64 0]⟩ := by kernel_rfl
@[go_sem] theorem ti14 : ti Try.prog 14 = some ⟨(.struct [(0, 9), (1, 12)]), 2, 24, [.string ⟨#[]⟩, .int .u64 0]⟩ := by kernel_rfl
@[go_sem] theorem ti18 : ti Try.prog 18 = some ⟨(.struct [(0, 17)]), 1, 8, [.pointer none]⟩ := by kernel_rfl
@[go_sem] theorem ti19 : ti Try.prog 19 = some ⟨(.struct [(0, 17)]), 1, 8, [.pointer none]⟩ := by kernel_rfl
@[go_sem] theorem ti21 : ti Try.prog 21 = some ⟨(.int .i32), 1, 4, [.int .i32 0]⟩ := by kernel_rfl
@[go_sem] theorem ti22 : ti Try.prog 22 = some ⟨(.slice 108), 1, 24, [.slice none 0 0]⟩ := by kernel_rfl
@[go_sem] theorem ti25 : ti Try.prog 25 = some ⟨(.slice 109), 1, 24, [.slice none 0 0]⟩ := by kernel_rfl
@[go_sem] theorem ti28 : ti Try.prog 28 = some ⟨(.slice 150), 1, 24, [.slice none 0 0]⟩ := by kernel_rfl
@[go_sem] theorem ti29 : ti Try.prog 29 = some ⟨(.struct [(0, 3), (1, 3), (2, 28)]), 3, 40, [.int .i64 0, .int .i64 0, .slice none 0 0]⟩ := by kernel_rfl
@[go_sem] theorem eqo29 : eqOk Try.prog 29 = some [(.int .i64), (.int .i64), (.slice 150)] := by kernel_rfl
@[go_sem] theorem ti30 : ti Try.prog 30 = some ⟨(.struct [(0, 3), (1, 3), (2, 28)]), 3, 40, [.int .i64 0, .int .i64 0, .slice none 0 0]⟩ := by kernel_rfl
@[go_sem] theorem eqo30 : eqOk Try.prog 30 = some [(.int .i64), (.int .i64), (.slice 150)] := by kernel_rfl
@[go_sem] theorem ti33 : ti Try.prog 33 = some ⟨(.slice 114), 1, 24, [.slice none 0 0]⟩ := by kernel_rfl
@[go_sem] theorem ti34 : ti Try.prog 34 = some ⟨(.struct [(0, 3), (1, 3), (2, 33)]), 3, 40, [.int .i64 0, .int .i64 0, .slice none 0 0]⟩ := by kernel_rfl
@[go_sem] theorem eqo34 : eqOk Try.prog 34 = some [(.int .i64), (.int .i64), (.slice 114)] := by kernel_rfl
@[go_sem] theorem ti35 : ti Try.prog 35 = some ⟨(.struct [(0, 3), (1, 3), (2, 33)]), 3, 40, [.int .i64 0, .int .i64 0, .slice none 0 0]⟩ := by kernel_rfl
@[go_sem] theorem eqo35 : eqOk Try.prog 35 = some [(.int .i64), (.int .i64), (.slice 114)] := by kernel_rfl
@[go_sem] theorem ti39 : ti Try.prog 39 = some ⟨(.slice 154), 1, 24, [.slice none 0 0]⟩ := by kernel_rfl
@[go_sem] theorem ti40 : ti Try.prog 40 = some ⟨(.struct [(0, 3), (1, 39)]), 2, 32, [.int .i64 0, .slice none 0 0]⟩ := by kernel_rfl
@[go_sem] theorem eqo40 : eqOk Try.prog 40 = some [(.int .i64), (.slice 154)] := by kernel_rfl
@[go_sem] theorem ti41 : ti Try.prog 41 = some ⟨(.struct [(0, 3), (1, 39)]), 2, 32, [.int .i64 0, .slice none 0 0]⟩ := by kernel_rfl
@[go_sem] theorem eqo41 : eqOk Try.prog 41 = some [(.int .i64), (.slice 154)] := by kernel_rfl
@[go_sem] theorem ti44 : ti Try.prog 44 = some ⟨(.slice 122), 1, 24, [.slice none 0 0]⟩ := by kernel_rfl
@[go_sem] theorem ti45 : ti Try.prog 45 = some ⟨(.struct [(0, 3), (1, 44)]), 2, 32, [.int .i64 0, .slice none 0 0]⟩ := by kernel_rfl
@[go_sem] theorem eqo45 : eqOk Try.prog 45 = some [(.int .i64), (.slice 122)] := by kernel_rfl
@[go_sem] theorem ti46 : ti Try.prog 46 = some ⟨(.struct [(0, 3), (1, 44)]), 2, 32, [.int .i64 0, .slice none 0 0]⟩ := by kernel_rfl
@[go_sem] theorem eqo46 : eqOk Try.prog 46 = some [(.int .i64), (.slice 122)] := by kernel_rfl
@[go_sem] theorem ti50 : ti Try.prog 50 = some ⟨(.slice 3), 1, 24, [.slice none 0 0]⟩ := by kernel_rfl
@[go_sem] theorem ti58 : ti Try.prog 58 = some ⟨(.slice 159), 1, 24, [.slice none 0 0]⟩ := by kernel_rfl
@[go_sem] theorem ti59 : ti Try.prog 59 = some ⟨(.struct [(0, 58)]), 1, 24, [.slice none 0 0]⟩ := by kernel_rfl
@[go_sem] theorem eqo59 : eqOk Try.prog 59 = some [(.slice 159)] := by kernel_rfl
@[go_sem] theorem ti60 : ti Try.prog 60 = some ⟨(.struct [(0, 58)]), 1, 24, [.slice none 0 0]⟩ := by kernel_rfl
@[go_sem] theorem eqo60 : eqOk Try.prog 60 = some [(.slice 159)] := by kernel_rfl
@[go_sem] theorem ti63 : ti Try.prog 63 = some ⟨(.slice 126), 1, 24, [.slice none 0 0]⟩ := by kernel_rfl
@[go_sem] theorem ti64 : ti Try.prog 64 = some ⟨(.struct [(0, 63)]), 1, 24, [.slice none 0 0]⟩ := by kernel_rfl
@[go_sem] theorem eqo64 : eqOk Try.prog 64 = some [(.slice 126)] := by kernel_rfl
@[go_sem] theorem ti65 : ti Try.prog 65 = some ⟨(.struct [(0, 63)]), 1, 24, [.slice none 0 0]⟩ := by kernel_rfl
@[go_sem] theorem eqo65 : eqOk Try.prog 65 = some [(.slice 126)] := by kernel_rfl
@[go_sem] theorem ti72 : ti Try.prog 72 = some ⟨(.slice 76), 1, 24, [.slice none 0 0]⟩ := by kernel_rfl
@[go_sem] theorem ti73 : ti Try.prog 73 = some ⟨(.slice 9), 1, 24, [.slice none 0 0]⟩ := by kernel_rfl
@[go_sem] theorem ti74 : ti Try.prog 74 = some ⟨(.slice 79), 1, 24, [.slice none 0 0]⟩ := by kernel_rfl
@[go_sem] theorem ti75 : ti Try.prog 75 = some ⟨(.struct [(0, 3), (1, 3), (2, 3), (3, 9), (4, 72), (5, 73), (6, 74)]), 7, 112, [.int .i64 0, .int .i64 0, .int .i64 0, .string ⟨#[]⟩, .slice none 0 0, .slice none 0 0, .slice none 0 0]⟩ := by kernel_rfl
@[go_sem] theorem eqo75 : eqOk Try.prog 75 = some [(.int .i64), (.int .i64), (.int .i64), .str, (.slice 76), (.slice 9), (.slice 79)] := by kernel_rfl
@[go_sem] theorem ti76 : ti Try.prog 76 = some ⟨(.struct [(0, 3), (1, 3), (2, 3), (3, 9), (4, 72), (5, 73), (6, 74)]), 7, 112, [.int .i64 0, .int .i64 0, .int .i64 0, .string ⟨#[]⟩, .slice none 0 0, .slice none 0 0, .slice none 0 0]⟩ := by kernel_rfl
@[go_sem] theorem eqo76 : eqOk Try.prog 76 = some [(.int .i64), (.int .i64), (.int .i64), .str, (.slice 76), (.slice 9), (.slice 79)] := by kernel_rfl
@[go_sem] theorem ti77 : ti Try.prog 77 = some ⟨(.slice 163), 1, 24, [.slice none 0 0]⟩ := by kernel_rfl
@[go_sem] theorem ti78 : ti Try.prog 78 = some ⟨(.struct [(0, 50), (1, 77)]), 2, 48, [.slice none 0 0, .slice none 0 0]⟩ := by kernel_rfl
@[go_sem] theorem eqo78 : eqOk Try.prog 78 = some [(.slice 3), (.slice 163)] := by kernel_rfl
@[go_sem] theorem ti79 : ti Try.prog 79 = some ⟨(.struct [(0, 50), (1, 77)]), 2, 48, [.slice none 0 0, .slice none 0 0]⟩ := by kernel_rfl
@[go_sem] theorem eqo79 : eqOk Try.prog 79 = some [(.slice 3), (.slice 163)] := by kernel_rfl
@[go_sem] theorem ti83 : ti Try.prog 83 = some ⟨(.slice 86), 1, 24, [.slice none 0 0]⟩ := by kernel_rfl
@[go_sem] theorem ti84 : ti Try.prog 84 = some ⟨(.slice 90), 1, 24, [.slice none 0 0]⟩ := by kernel_rfl
@[go_sem] theorem ti85 : ti Try.prog 85 = some ⟨(.struct [(0, 3), (1, 3), (2, 3), (3, 9), (4, 83), (5, 73), (6, 84)]), 7, 112, [.int .i64 0, .int .i64 0, .int .i64 0, .string ⟨#[]⟩, .slice none 0 0, .slice none 0 0, .slice none 0 0]⟩ := by kernel_rfl
@[go_sem] theorem eqo85 : eqOk Try.prog 85 = some [(.int .i64), (.int .i64), (.int .i64), .str, (.slice 86), (.slice 9), (.slice 90)] := by kernel_rfl
@[go_sem] theorem ti86 : ti Try.prog 86 = some ⟨(.struct [(0, 3), (1, 3), (2, 3), (3, 9), (4, 83), (5, 73), (6, 84)]), 7, 112, [.int .i64 0, .int .i64 0, .int .i64 0, .string ⟨#[]⟩, .slice none 0 0, .slice none 0 0, .slice none 0 0]⟩ := by kernel_rfl
@[go_sem] theorem eqo86 : eqOk Try.prog 86 = some [(.int .i64), (.int .i64), (.int .i64), .str, (.slice 86), (.slice 9), (.slice 90)] := by kernel_rfl
@[go_sem] theorem ti88 : ti Try.prog 88 = some ⟨(.slice 142), 1, 24, [.slice none 0 0]⟩ := by kernel_rfl
@[go_sem] theorem ti89 : ti Try.prog 89 = some ⟨(.struct [(0, 50), (1, 88)]), 2, 48, [.slice none 0 0, .slice none 0 0]⟩ := by kernel_rfl
@[go_sem] theorem eqo89 : eqOk Try.prog 89 = some [(.slice 3), (.slice 142)] := by kernel_rfl
@[go_sem] theorem ti90 : ti Try.prog 90 = some ⟨(.struct [(0, 50), (1, 88)]), 2, 48, [.slice none 0 0, .slice none 0 0]⟩ := by kernel_rfl
@[go_sem] theorem eqo90 : eqOk Try.prog 90 = some [(.slice 3), (.slice 142)] := by kernel_rfl
@[go_sem] theorem ti95 : ti Try.prog 95 = some ⟨(.slice 97), 1, 24, [.slice none 0 0]⟩ := by kernel_rfl
@[go_sem] theorem ti96 : ti Try.prog 96 = some ⟨(.struct [(0, 3), (1, 3), (2, 9), (3, 95)]), 4, 56, [.int .i64 0, .int .i64 0, .string ⟨#[]⟩, .slice none 0 0]⟩ := by kernel_rfl
@[go_sem] theorem eqo96 : eqOk Try.prog 96 = some [(.int .i64), (.int .i64), .str, (.slice 97)] := by kernel_rfl
@[go_sem] theorem ti97 : ti Try.prog 97 = some ⟨(.struct [(0, 3), (1, 3), (2, 9), (3, 95)]), 4, 56, [.int .i64 0, .int .i64 0, .string ⟨#[]⟩, .slice none 0 0]⟩ := by kernel_rfl
@[go_sem] theorem eqo97 : eqOk Try.prog 97 = some [(.int .i64), (.int .i64), .str, (.slice 97)] := by kernel_rfl
@[go_sem] theorem ti100 : ti Try.prog 100 = some ⟨(.slice 102), 1, 24, [.slice none 0 0]⟩ := by kernel_rfl
@[go_sem] theorem ti101 : ti Try.prog 101 = some ⟨(.struct [(0, 3), (1, 3), (2, 9), (3, 100)]), 4, 56, [.int .i64 0, .int .i64 0, .string ⟨#[]⟩, .slice none 0 0]⟩ := by kernel_rfl
@[go_sem] theorem eqo101 : eqOk Try.prog 101 = some [(.int .i64), (.int .i64), .str, (.slice 102)] := by kernel_rfl
@[go_sem] theorem ti102 : ti Try.prog 102 = some ⟨(.struct [(0, 3), (1, 3), (2, 9), (3, 100)]), 4, 56, [.int .i64 0, .int .i64 0, .string ⟨#[]⟩, .slice none 0 0]⟩ := by kernel_rfl
@[go_sem] theorem eqo102 : eqOk Try.prog 102 = some [(.int .i64), (.int .i64), .str, (.slice 102)] := by kernel_rfl
@[go_sem] theorem ti107 : ti Try.prog 107 = some ⟨(.struct [(0, 3), (1, 4), (2, 9)]), 3, 32, [.int .i64 0, .bool false, .string ⟨#[]⟩]⟩ := by kernel_rfl
@[go_sem] theorem eqo107 : eqOk Try.prog 107 = some [(.int .i64), .bool, .str] := by kernel_rfl
@[go_sem] theorem ti108 : ti Try.prog 108 = some ⟨(.struct [(0, 3), (1, 4), (2, 9)]), 3, 32, [.int .i64 0, .bool false, .string ⟨#[]⟩]⟩ := by kernel_rfl
@[go_sem] theorem eqo108 : eqOk Try.prog 108 = some [(.int .i64), .bool, .str] := by kernel_rfl
@[go_sem] theorem ti109 : ti Try.prog 109 = some ⟨(.struct [(0, 3), (1, 4), (2, 9)]), 3, 32, [.int .i64 0, .bool false, .string ⟨#[]⟩]⟩ := by kernel_rfl
@[go_sem] theorem eqo109 : eqOk Try.prog 109 = some [(.int .i64), .bool, .str] := by kernel_rfl
@[go_sem] theorem ti113 : ti Try.prog 113 = some ⟨(.struct [(0, 3), (1, 3), (2, 3), (3, 3)]), 4, 32, [.int .i64 0, .int .i64 0, .int .i64 0, .int .i64 0]⟩ := by kernel_rfl
@[go_sem] theorem eqo113 : eqOk Try.prog 113 = some [(.int .i64), (.int .i64), (.int .i64), (.int .i64)] := by kernel_rfl
@[go_sem] theorem ti114 : ti Try.prog 114 = some ⟨(.struct [(0, 3), (1, 3), (2, 3), (3, 3)]), 4, 32, [.int .i64 0, .int .i64 0, .int .i64 0, .int .i64 0]⟩ := by kernel_rfl
@[go_sem] theorem eqo114 : eqOk Try.prog 114 = some [(.int .i64), (.int .i64), (.int .i64), (.int .i64)] := by kernel_rfl
@[go_sem] theorem ti121 : ti Try.prog 121 = some ⟨(.struct [(0, 3), (1, 109)]), 4, 40, [.int .i64 0, .int .i64 0, .bool false, .string ⟨#[]⟩]⟩ := by kernel_rfl
@[go_sem] theorem eqo121 : eqOk Try.prog 121 = some [(.int .i64), (.struct [(0, 3), (1, 4), (2, 9)])] := by kernel_rfl
@[go_sem] theorem ti122 : ti Try.prog 122 = some ⟨(.struct [(0, 3), (1, 109)]), 4, 40, [.int .i64 0, .int .i64 0, .bool false, .string ⟨#[]⟩]⟩ := by kernel_rfl
@[go_sem] theorem eqo122 : eqOk Try.prog 122 = some [(.int .i64), (.struct [(0, 3), (1, 4), (2, 9)])] := by kernel_rfl
@[go_sem] theorem ti125 : ti Try.prog 125 = some ⟨(.struct [(0, 3), (1, 3), (2, 3), (3, 9), (4, 9), (5, 3)]), 6, 64, [.int .i64 0, .int .i64 0, .int .i64 0, .string ⟨#[]⟩, .string ⟨#[]⟩, .int .i64 0]⟩ := by kernel_rfl
@[go_sem] theorem eqo125 : eqOk Try.prog 125 = some [(.int .i64), (.int .i64), (.int .i64), .str, .str, (.int .i64)] := by kernel_rfl
@[go_sem] theorem ti126 : ti Try.prog 126 = some ⟨(.struct [(0, 3), (1, 3), (2, 3), (3, 9), (4, 9), (5, 3)]), 6, 64, [.int .i64 0, .int .i64 0, .int .i64 0, .string ⟨#[]⟩, .string ⟨#[]⟩, .int .i64 0]⟩ := by kernel_rfl
@[go_sem] theorem eqo126 : eqOk Try.prog 126 = some [(.int .i64), (.int .i64), (.int .i64), .str, .str, (.int .i64)] := by kernel_rfl
@[go_sem] theorem ti141 : ti Try.prog 141 = some ⟨(.struct [(0, 3), (1, 3)]), 2, 16, [.int .i64 0, .int .i64 0]⟩ := by kernel_rfl
@[go_sem] theorem eqo141 : eqOk Try.prog 141 = some [(.int .i64), (.int .i64)] := by kernel_rfl
@[go_sem] theorem ti142 : ti Try.prog 142 = some ⟨(.struct [(0, 3), (1, 3)]), 2, 16, [.int .i64 0, .int .i64 0]⟩ := by kernel_rfl
@[go_sem] theorem eqo142 : eqOk Try.prog 142 = some [(.int .i64), (.int .i64)] := by kernel_rfl
@[go_sem] theorem ti150 : ti Try.prog 150 = some ⟨(.struct [(0, 3), (1, 3), (2, 3), (3, 3)]), 4, 32, [.int .i64 0, .int .i64 0, .int .i64 0, .int .i64 0]⟩ := by kernel_rfl
@[go_sem] theorem eqo150 : eqOk Try.prog 150 = some [(.int .i64), (.int .i64), (.int .i64), (.int .i64)] := by kernel_rfl
@[go_sem] theorem ti153 : ti Try.prog 153 = some ⟨(.struct [(0, 3), (1, 108)]), 4, 40, [.int .i64 0, .int .i64 0, .bool false, .string ⟨#[]⟩]⟩ := by kernel_rfl
@[go_sem] theorem eqo153 : eqOk Try.prog 153 = some [(.int .i64), (.struct [(0, 3), (1, 4), (2, 9)])] := by kernel_rfl
@[go_sem] theorem ti154 : ti Try.prog 154 = some ⟨(.struct [(0, 3), (1, 108)]), 4, 40, [.int .i64 0, .int .i64 0, .bool false, .string ⟨#[]⟩]⟩ := by kernel_rfl
@[go_sem] theorem eqo154 : eqOk Try.prog 154 = some [(.int .i64), (.struct [(0, 3), (1, 4), (2, 9)])] := by kernel_rfl
@[go_sem] theorem ti157 : ti Try.prog 157 = some ⟨(.slice 5), 1, 24, [.slice none 0 0]⟩ := by kernel_rfl
@[go_sem] theorem ti159 : ti Try.prog 159 = some ⟨(.struct [(0, 3), (1, 3), (2, 3), (3, 9), (4, 9), (5, 3)]), 6, 64, [.int .i64 0, .int .i64 0, .int .i64 0, .string ⟨#[]⟩, .string ⟨#[]⟩, .int .i64 0]⟩ := by kernel_rfl
@[go_sem] theorem eqo159 : eqOk Try.prog 159 = some [(.int .i64), (.int .i64), (.int .i64), .str, .str, (.int .i64)] := by kernel_rfl
@[go_sem] theorem ti163 : ti Try.prog 163 = some ⟨(.struct [(0, 3), (1, 3)]), 2, 16, [.int .i64 0, .int .i64 0]⟩ := by kernel_rfl
@[go_sem] theorem eqo163 : eqOk Try.prog 163 = some [(.int .i64), (.int .i64)] := by kernel_rfl
@[go_sem] theorem ti173 : ti Try.prog 173 = some ⟨(.struct [(0, 17), (1, 17), (2, 17), (3, 9)]), 4, 40, [.pointer none, .pointer none, .pointer none, .string ⟨#[]⟩]⟩ := by kernel_rfl
@[go_sem] theorem ti174 : ti Try.prog 174 = some ⟨(.struct [(0, 17), (1, 17), (2, 17), (3, 9)]), 4, 40, [.pointer none, .pointer none, .pointer none, .string ⟨#[]⟩]⟩ := by kernel_rfl
@[go_sem] theorem ti176 : ti Try.prog 176 = some ⟨(.struct [(0, 175)]), 0, 0, []⟩ := by kernel_rfl
@[go_sem] theorem ti177 : ti Try.prog 177 = some ⟨(.struct [(0, 175)]), 0, 0, []⟩ := by kernel_rfl
@[go_sem] theorem ti179 : ti Try.prog 179 = some ⟨(.int .u32), 1, 4, [.int .u32 0]⟩ := by kernel_rfl
@[go_sem] theorem ti180 : ti Try.prog 180 = some ⟨(.int .u8), 1, 1, [.int .u8 0]⟩ := by kernel_rfl
@[go_sem] theorem ti181 : ti Try.prog 181 = some ⟨(.int .u8), 1, 1, [.int .u8 0]⟩ := by kernel_rfl
@[go_sem] theorem ti184 : ti Try.prog 184 = some ⟨(.int .i32), 1, 4, [.int .i32 0]⟩ := by kernel_rfl
@[go_sem] theorem ti185 : ti Try.prog 185 = some ⟨(.int .i32), 1, 4, [.int .i32 0]⟩ := by kernel_rfl
@[go_sem] theorem ti186 : ti Try.prog 186 = some ⟨(.struct [(0, 12), (1, 12), (2, 179), (3, 180), (4, 5), (5, 5), (6, 181), (7, 182), (8, 183), (9, 184), (10, 185)]), 11, 48, [.int .u64 0, .int .u64 0, .int .u32 0, .int .u8 0, .int .u8 0, .int .u8 0, .int .u8 0, .nilFunc, .pointer none, .int .i32 0, .int .i32 0]⟩ := by kernel_rfl
@[go_sem] theorem ti187 : ti Try.prog 187 = some ⟨(.struct [(0, 12), (1, 12), (2, 179), (3, 180), (4, 5), (5, 5), (6, 181), (7, 182), (8, 183), (9, 184), (10, 185)]), 11, 48, [.int .u64 0, .int .u64 0, .int .u32 0, .int .u8 0, .int .u8 0, .int .u8 0, .int .u8 0, .nilFunc, .pointer none, .int .i32 0, .int .i32 0]⟩ := by kernel_rfl
end Go.Proofs.Ytopjlbifglacpaa
