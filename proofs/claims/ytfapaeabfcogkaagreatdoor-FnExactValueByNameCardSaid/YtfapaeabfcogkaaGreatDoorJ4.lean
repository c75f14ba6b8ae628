import Derived.Test.YtfapaeabfcogkaaGreatDoorPkC
import Derived.Test.YtfapaeabfcogkaaGreatDoorPkD
set_option linter.unusedSimpArgs false
set_option linter.unusedVariables false
namespace Go.Proofs.YtfapaeabfcogkaaGreatDoor
open Go.RowKit Am
@[go_sem] theorem ti2:ti Tryz.prog 2=some ⟨(.int .i64),1,8,[.int .i64 0]⟩:=by kernel_rfl
@[go_sem] theorem ti3:ti Tryz.prog 3=some ⟨(.int .i64),1,8,[.int .i64 0]⟩:=by kernel_rfl
@[go_sem] theorem ti4:ti Tryz.prog 4=some ⟨.bool,1,1,[.bool false]⟩:=by kernel_rfl
@[go_sem] theorem ti5:ti Tryz.prog 5=some ⟨(.int .u8),1,1,[.int .u8 0]⟩:=by kernel_rfl
@[go_sem] theorem ti6:ti Tryz.prog 6=some ⟨(.int .u8),1,1,[.int .u8 0]⟩:=by kernel_rfl
@[go_sem] theorem ti7:ti Tryz.prog 7=some ⟨(.struct [(0,2),(1,3),(2,4),(3,6)]),4,24,[.int .i64 0,.int .i64 0,.bool false,.int .u8 0]⟩:=by kernel_rfl
@[go_sem] theorem Zxp:WU Tryz.prog 7=some [(.int .i64),(.int .i64),.bool,(.int .u8)]:=by kernel_rfl
@[go_sem] theorem ti8:ti Tryz.prog 8=some ⟨(.struct [(0,2),(1,3),(2,4),(3,6)]),4,24,[.int .i64 0,.int .i64 0,.bool false,.int .u8 0]⟩:=by kernel_rfl
@[go_sem] theorem Zxo:WU Tryz.prog 8=some [(.int .i64),(.int .i64),.bool,(.int .u8)]:=by kernel_rfl
@[go_sem] theorem ti9:ti Tryz.prog 9=some ⟨.str,1,16,[.string ⟨#[]⟩]⟩:=by kernel_rfl
@[go_sem] theorem Zxn:ti Tryz.prog 10=some ⟨.str,1,16,[.string ⟨#[]⟩]⟩:=by kernel_rfl
@[go_sem] theorem Zxm:ti Tryz.prog 11=some ⟨.str,1,16,[.string ⟨#[]⟩]⟩:=by kernel_rfl
@[go_sem] theorem Zxl:ti Tryz.prog 12=some ⟨(.int .u64),1,8,[.int .u64 0]⟩:=by kernel_rfl
@[go_sem] theorem Zxk:ti Tryz.prog 13=some ⟨(.struct [(0,9),(1,12)]),2,24,[.string ⟨#[]⟩,.int .u64 0]⟩:=by kernel_rfl
@[go_sem] theorem Zxj:ti Tryz.prog 14=some ⟨(.struct [(0,9),(1,12)]),2,24,[.string ⟨#[]⟩,.int .u64 0]⟩:=by kernel_rfl
@[go_sem] theorem Zxi:ti Tryz.prog 18=some ⟨(.struct [(0,17)]),1,8,[.pointer none]⟩:=by kernel_rfl
@[go_sem] theorem Zxh:ti Tryz.prog 19=some ⟨(.struct [(0,17)]),1,8,[.pointer none]⟩:=by kernel_rfl
@[go_sem] theorem Zxg:ti Tryz.prog 21=some ⟨(.int .i32),1,4,[.int .i32 0]⟩:=by kernel_rfl
@[go_sem] theorem Zxf:ti Tryz.prog 22=some ⟨(.slice 64),1,24,[.slice none 0 0]⟩:=by kernel_rfl
@[go_sem] theorem Zxe:ti Tryz.prog 23=some ⟨(.struct [(0,22)]),1,24,[.slice none 0 0]⟩:=by kernel_rfl
@[go_sem] theorem Zww:WU Tryz.prog 23=some [(.slice 64)]:=by kernel_rfl
@[go_sem] theorem Zxd:ti Tryz.prog 24=some ⟨(.struct [(0,22)]),1,24,[.slice none 0 0]⟩:=by kernel_rfl
@[go_sem] theorem Zwv:WU Tryz.prog 24=some [(.slice 64)]:=by kernel_rfl
@[go_sem] theorem Zxc:ti Tryz.prog 25=some ⟨(.slice 150),1,24,[.slice none 0 0]⟩:=by kernel_rfl
@[go_sem] theorem Zxb:ti Tryz.prog 26=some ⟨(.slice 154),1,24,[.slice none 0 0]⟩:=by kernel_rfl
@[go_sem] theorem Zxa:ti Tryz.prog 27=some ⟨(.struct [(0,25),(1,26),(2,3)]),3,56,[.slice none 0 0,.slice none 0 0,.int .i64 0]⟩:=by kernel_rfl
@[go_sem] theorem Zwu:WU Tryz.prog 27=some [(.slice 150),(.slice 154),(.int .i64)]:=by kernel_rfl
@[go_sem] theorem Zw9:ti Tryz.prog 28=some ⟨(.struct [(0,25),(1,26),(2,3)]),3,56,[.slice none 0 0,.slice none 0 0,.int .i64 0]⟩:=by kernel_rfl
@[go_sem] theorem Zwt:WU Tryz.prog 28=some [(.slice 150),(.slice 154),(.int .i64)]:=by kernel_rfl
@[go_sem] theorem Zw8:ti Tryz.prog 31=some ⟨(.slice 35),1,24,[.slice none 0 0]⟩:=by kernel_rfl
@[go_sem] theorem Zw7:ti Tryz.prog 32=some ⟨(.slice 9),1,24,[.slice none 0 0]⟩:=by kernel_rfl
@[go_sem] theorem Zw6:ti Tryz.prog 33=some ⟨(.slice 168),1,24,[.slice none 0 0]⟩:=by kernel_rfl
@[go_sem] theorem Zw5:ti Tryz.prog 34=some ⟨(.struct [(0,3),(1,3),(2,3),(3,9),(4,31),(5,32),(6,33)]),7,112,[.int .i64 0,.int .i64 0,.int .i64 0,.string ⟨#[]⟩,.slice none 0 0,.slice none 0 0,.slice none 0 0]⟩:=by kernel_rfl
@[go_sem] theorem Zws:WU Tryz.prog 34=some [(.int .i64),(.int .i64),(.int .i64),.str,(.slice 35),(.slice 9),(.slice 168)]:=by kernel_rfl
@[go_sem] theorem Zw4:ti Tryz.prog 35=some ⟨(.struct [(0,3),(1,3),(2,3),(3,9),(4,31),(5,32),(6,33)]),7,112,[.int .i64 0,.int .i64 0,.int .i64 0,.string ⟨#[]⟩,.slice none 0 0,.slice none 0 0,.slice none 0 0]⟩:=by kernel_rfl
@[go_sem] theorem Zwr:WU Tryz.prog 35=some [(.int .i64),(.int .i64),(.int .i64),.str,(.slice 35),(.slice 9),(.slice 168)]:=by kernel_rfl
@[go_sem] theorem Zw3:ti Tryz.prog 37=some ⟨(.slice 77),1,24,[.slice none 0 0]⟩:=by kernel_rfl
@[go_sem] theorem Zw2:ti Tryz.prog 38=some ⟨(.struct [(0,37)]),1,24,[.slice none 0 0]⟩:=by kernel_rfl
@[go_sem] theorem Zwq:WU Tryz.prog 38=some [(.slice 77)]:=by kernel_rfl
@[go_sem] theorem Zw1:ti Tryz.prog 39=some ⟨(.struct [(0,37)]),1,24,[.slice none 0 0]⟩:=by kernel_rfl
@[go_sem] theorem Zwp:WU Tryz.prog 39=some [(.slice 77)]:=by kernel_rfl
@[go_sem] theorem Zw0:ti Tryz.prog 41=some ⟨(.slice 163),1,24,[.slice none 0 0]⟩:=by kernel_rfl
@[go_sem] theorem ZwZ:ti Tryz.prog 42=some ⟨(.struct [(0,31),(1,41),(2,3)]),3,56,[.slice none 0 0,.slice none 0 0,.int .i64 0]⟩:=by kernel_rfl
@[go_sem] theorem Zwo:WU Tryz.prog 42=some [(.slice 35),(.slice 163),(.int .i64)]:=by kernel_rfl
@[go_sem] theorem ZwY:ti Tryz.prog 43=some ⟨(.struct [(0,31),(1,41),(2,3)]),3,56,[.slice none 0 0,.slice none 0 0,.int .i64 0]⟩:=by kernel_rfl
@[go_sem] theorem Zwn:WU Tryz.prog 43=some [(.slice 35),(.slice 163),(.int .i64)]:=by kernel_rfl
@[go_sem] theorem ZwX:ti Tryz.prog 52=some ⟨(.slice 3),1,24,[.slice none 0 0]⟩:=by kernel_rfl
@[go_sem] theorem ZwW:ti Tryz.prog 57=some ⟨(.slice 227),1,24,[.slice none 0 0]⟩:=by kernel_rfl
@[go_sem] theorem ZwV:ti Tryz.prog 58=some ⟨(.struct [(0,3),(1,3),(2,57)]),3,40,[.int .i64 0,.int .i64 0,.slice none 0 0]⟩:=by kernel_rfl
@[go_sem] theorem Zwm:WU Tryz.prog 58=some [(.int .i64),(.int .i64),(.slice 227)]:=by kernel_rfl
@[go_sem] theorem ZwU:ti Tryz.prog 59=some ⟨(.struct [(0,3),(1,3),(2,57)]),3,40,[.int .i64 0,.int .i64 0,.slice none 0 0]⟩:=by kernel_rfl
@[go_sem] theorem Zwl:WU Tryz.prog 59=some [(.int .i64),(.int .i64),(.slice 227)]:=by kernel_rfl
@[go_sem] theorem ZwT:ti Tryz.prog 60=some ⟨(.slice 184),1,24,[.slice none 0 0]⟩:=by kernel_rfl
@[go_sem] theorem ZwS:ti Tryz.prog 61=some ⟨(.struct [(0,24),(1,59),(4,26),(5,60),(6,3),(7,3),(8,3)]),9,136,[.slice none 0 0,.int .i64 0,.int .i64 0,.slice none 0 0,.slice none 0 0,.slice none 0 0,.int .i64 0,.int .i64 0,.int .i64 0]⟩:=by kernel_rfl
@[go_sem] theorem ZwR:ti Tryz.prog 62=some ⟨(.struct [(0,24),(1,59),(4,26),(5,60),(6,3),(7,3),(8,3)]),9,136,[.slice none 0 0,.int .i64 0,.int .i64 0,.slice none 0 0,.slice none 0 0,.slice none 0 0,.int .i64 0,.int .i64 0,.int .i64 0]⟩:=by kernel_rfl
@[go_sem] theorem ZwQ:ti Tryz.prog 63=some ⟨(.struct [(0,3),(1,3),(2,3),(3,9),(4,9),(5,3)]),6,64,[.int .i64 0,.int .i64 0,.int .i64 0,.string ⟨#[]⟩,.string ⟨#[]⟩,.int .i64 0]⟩:=by kernel_rfl
@[go_sem] theorem Zwk:WU Tryz.prog 63=some [(.int .i64),(.int .i64),(.int .i64),.str,.str,(.int .i64)]:=by kernel_rfl
@[go_sem] theorem ZwP:ti Tryz.prog 64=some ⟨(.struct [(0,3),(1,3),(2,3),(3,9),(4,9),(5,3)]),6,64,[.int .i64 0,.int .i64 0,.int .i64 0,.string ⟨#[]⟩,.string ⟨#[]⟩,.int .i64 0]⟩:=by kernel_rfl
@[go_sem] theorem Zwj:WU Tryz.prog 64=some [(.int .i64),(.int .i64),(.int .i64),.str,.str,(.int .i64)]:=by kernel_rfl
@[go_sem] theorem ZwO:ti Tryz.prog 65=some ⟨(.struct [(0,3),(1,3),(2,64)]),8,80,[.int .i64 0,.int .i64 0,.int .i64 0,.int .i64 0,.int .i64 0,.string ⟨#[]⟩,.string ⟨#[]⟩,.int .i64 0]⟩:=by kernel_rfl
@[go_sem] theorem Zwi:WU Tryz.prog 65=some [(.int .i64),(.int .i64),(.struct [(0,3),(1,3),(2,3),(3,9),(4,9),(5,3)])]:=by kernel_rfl
@[go_sem] theorem ZwN:ti Tryz.prog 66=some ⟨(.struct [(0,3),(1,3),(2,64)]),8,80,[.int .i64 0,.int .i64 0,.int .i64 0,.int .i64 0,.int .i64 0,.string ⟨#[]⟩,.string ⟨#[]⟩,.int .i64 0]⟩:=by kernel_rfl
@[go_sem] theorem Zwh:WU Tryz.prog 66=some [(.int .i64),(.int .i64),(.struct [(0,3),(1,3),(2,3),(3,9),(4,9),(5,3)])]:=by kernel_rfl
@[go_sem] theorem ZwM:ti Tryz.prog 70=some ⟨(.slice 232),1,24,[.slice none 0 0]⟩:=by kernel_rfl
@[go_sem] theorem ZwL:ti Tryz.prog 71=some ⟨(.struct [(0,3),(1,3),(2,70)]),3,40,[.int .i64 0,.int .i64 0,.slice none 0 0]⟩:=by kernel_rfl
@[go_sem] theorem Zwg:WU Tryz.prog 71=some [(.int .i64),(.int .i64),(.slice 232)]:=by kernel_rfl
@[go_sem] theorem ZwK:ti Tryz.prog 72=some ⟨(.struct [(0,3),(1,3),(2,70)]),3,40,[.int .i64 0,.int .i64 0,.slice none 0 0]⟩:=by kernel_rfl
@[go_sem] theorem Zwf:WU Tryz.prog 72=some [(.int .i64),(.int .i64),(.slice 232)]:=by kernel_rfl
@[go_sem] theorem ZwJ:ti Tryz.prog 73=some ⟨(.slice 194),1,24,[.slice none 0 0]⟩:=by kernel_rfl
@[go_sem] theorem ZwI:ti Tryz.prog 74=some ⟨(.struct [(0,39),(1,72),(4,41),(5,73),(6,3),(7,3),(8,3)]),9,136,[.slice none 0 0,.int .i64 0,.int .i64 0,.slice none 0 0,.slice none 0 0,.slice none 0 0,.int .i64 0,.int .i64 0,.int .i64 0]⟩:=by kernel_rfl
@[go_sem] theorem ZwH:ti Tryz.prog 75=some ⟨(.struct [(0,39),(1,72),(4,41),(5,73),(6,3),(7,3),(8,3)]),9,136,[.slice none 0 0,.int .i64 0,.int .i64 0,.slice none 0 0,.slice none 0 0,.slice none 0 0,.int .i64 0,.int .i64 0,.int .i64 0]⟩:=by kernel_rfl
@[go_sem] theorem ZwG:ti Tryz.prog 77=some ⟨(.struct [(0,3),(1,3),(2,3),(3,9),(4,9),(5,3)]),6,64,[.int .i64 0,.int .i64 0,.int .i64 0,.string ⟨#[]⟩,.string ⟨#[]⟩,.int .i64 0]⟩:=by kernel_rfl
@[go_sem] theorem Zwe:WU Tryz.prog 77=some [(.int .i64),(.int .i64),(.int .i64),.str,.str,(.int .i64)]:=by kernel_rfl
@[go_sem] theorem ZwF:ti Tryz.prog 78=some ⟨(.struct [(0,3),(1,3),(2,77)]),8,80,[.int .i64 0,.int .i64 0,.int .i64 0,.int .i64 0,.int .i64 0,.string ⟨#[]⟩,.string ⟨#[]⟩,.int .i64 0]⟩:=by kernel_rfl
@[go_sem] theorem Zwd:WU Tryz.prog 78=some [(.int .i64),(.int .i64),(.struct [(0,3),(1,3),(2,3),(3,9),(4,9),(5,3)])]:=by kernel_rfl
@[go_sem] theorem ZwE:ti Tryz.prog 79=some ⟨(.struct [(0,3),(1,3),(2,77)]),8,80,[.int .i64 0,.int .i64 0,.int .i64 0,.int .i64 0,.int .i64 0,.string ⟨#[]⟩,.string ⟨#[]⟩,.int .i64 0]⟩:=by kernel_rfl
@[go_sem] theorem Zwc:WU Tryz.prog 79=some [(.int .i64),(.int .i64),(.struct [(0,3),(1,3),(2,3),(3,9),(4,9),(5,3)])]:=by kernel_rfl
@[go_sem] theorem ZwD:ti Tryz.prog 90=some ⟨(.slice 112),1,24,[.slice none 0 0]⟩:=by kernel_rfl
@[go_sem] theorem Zv7:ti Tryz.prog 108=some ⟨(.slice 110),1,24,[.slice none 0 0]⟩:=by kernel_rfl
@[go_sem] theorem Zv6:ti Tryz.prog 109=some ⟨(.struct [(0,3),(1,3),(2,9),(3,108)]),4,56,[.int .i64 0,.int .i64 0,.string ⟨#[]⟩,.slice none 0 0]⟩:=by kernel_rfl
@[go_sem] theorem ZuG:WU Tryz.prog 109=some [(.int .i64),(.int .i64),.str,(.slice 110)]:=by kernel_rfl
@[go_sem] theorem Zv5:ti Tryz.prog 110=some ⟨(.struct [(0,3),(1,3),(2,9),(3,108)]),4,56,[.int .i64 0,.int .i64 0,.string ⟨#[]⟩,.slice none 0 0]⟩:=by kernel_rfl
@[go_sem] theorem ZuF:WU Tryz.prog 110=some [(.int .i64),(.int .i64),.str,(.slice 110)]:=by kernel_rfl
@[go_sem] theorem Zv4:ti Tryz.prog 111=some ⟨(.struct [(0,3),(1,9),(2,110),(6,35),(13,3)]),14,200,[.int .i64 0,.string ⟨#[]⟩,.int .i64 0,.int .i64 0,.string ⟨#[]⟩,.slice none 0 0,.int .i64 0,.int .i64 0,.int .i64 0,.string ⟨#[]⟩,.slice none 0 0,.slice none 0 0,.slice none 0 0,.int .i64 0]⟩:=by kernel_rfl
@[go_sem] theorem Zv3:ti Tryz.prog 112=some ⟨(.struct [(0,3),(1,9),(2,110),(6,35),(13,3)]),14,200,[.int .i64 0,.string ⟨#[]⟩,.int .i64 0,.int .i64 0,.string ⟨#[]⟩,.slice none 0 0,.int .i64 0,.int .i64 0,.int .i64 0,.string ⟨#[]⟩,.slice none 0 0,.slice none 0 0,.slice none 0 0,.int .i64 0]⟩:=by kernel_rfl
@[go_sem] theorem Zv2:ti Tryz.prog 135=some ⟨(.slice 4),1,24,[.slice none 0 0]⟩:=by kernel_rfl
@[go_sem] theorem Zv1:ti Tryz.prog 136=some ⟨(.slice 52),1,24,[.slice none 0 0]⟩:=by kernel_rfl
@[go_sem] theorem Zv0:ti Tryz.prog 137=some ⟨(.struct [(0,90),(1,135),(2,135),(3,135),(4,136)]),5,120,[.slice none 0 0,.slice none 0 0,.slice none 0 0,.slice none 0 0,.slice none 0 0]⟩:=by kernel_rfl
@[go_sem] theorem ZuE:WU Tryz.prog 137=some [(.slice 112),(.slice 4),(.slice 4),(.slice 4),(.slice 52)]:=by kernel_rfl
@[go_sem] theorem ZvZ:ti Tryz.prog 138=some ⟨(.struct [(0,90),(1,135),(2,135),(3,135),(4,136)]),5,120,[.slice none 0 0,.slice none 0 0,.slice none 0 0,.slice none 0 0,.slice none 0 0]⟩:=by kernel_rfl
@[go_sem] theorem ZuD:WU Tryz.prog 138=some [(.slice 112),(.slice 4),(.slice 4),(.slice 4),(.slice 52)]:=by kernel_rfl
@[go_sem] theorem ZvY:ti Tryz.prog 142=some ⟨(.struct [(0,75),(9,90),(10,141)]),11,168,[.slice none 0 0,.int .i64 0,.int .i64 0,.slice none 0 0,.slice none 0 0,.slice none 0 0,.int .i64 0,.int .i64 0,.int .i64 0,.slice none 0 0,.map none]⟩:=by kernel_rfl
@[go_sem] theorem ZvX:ti Tryz.prog 143=some ⟨(.struct [(0,75),(9,90),(10,141)]),11,168,[.slice none 0 0,.int .i64 0,.int .i64 0,.slice none 0 0,.slice none 0 0,.slice none 0 0,.int .i64 0,.int .i64 0,.int .i64 0,.slice none 0 0,.map none]⟩:=by kernel_rfl
@[go_sem] theorem ZvW:ti Tryz.prog 148=some ⟨(.slice 248),1,24,[.slice none 0 0]⟩:=by kernel_rfl
@[go_sem] theorem ZvV:ti Tryz.prog 149=some ⟨(.struct [(0,3),(1,3),(2,3),(3,9),(4,25),(5,32),(6,148)]),7,112,[.int .i64 0,.int .i64 0,.int .i64 0,.string ⟨#[]⟩,.slice none 0 0,.slice none 0 0,.slice none 0 0]⟩:=by kernel_rfl
@[go_sem] theorem ZuC:WU Tryz.prog 149=some [(.int .i64),(.int .i64),(.int .i64),.str,(.slice 150),(.slice 9),(.slice 248)]:=by kernel_rfl
@[go_sem] theorem ZvU:ti Tryz.prog 150=some ⟨(.struct [(0,3),(1,3),(2,3),(3,9),(4,25),(5,32),(6,148)]),7,112,[.int .i64 0,.int .i64 0,.int .i64 0,.string ⟨#[]⟩,.slice none 0 0,.slice none 0 0,.slice none 0 0]⟩:=by kernel_rfl
@[go_sem] theorem ZuB:WU Tryz.prog 150=some [(.int .i64),(.int .i64),(.int .i64),.str,(.slice 150),(.slice 9),(.slice 248)]:=by kernel_rfl
@[go_sem] theorem ZvT:ti Tryz.prog 152=some ⟨(.slice 251),1,24,[.slice none 0 0]⟩:=by kernel_rfl
@[go_sem] theorem ZvS:ti Tryz.prog 153=some ⟨(.struct [(0,3),(1,3),(2,152)]),3,40,[.int .i64 0,.int .i64 0,.slice none 0 0]⟩:=by kernel_rfl
@[go_sem] theorem ZuA:WU Tryz.prog 153=some [(.int .i64),(.int .i64),(.slice 251)]:=by kernel_rfl
@[go_sem] theorem ZvR:ti Tryz.prog 154=some ⟨(.struct [(0,3),(1,3),(2,152)]),3,40,[.int .i64 0,.int .i64 0,.slice none 0 0]⟩:=by kernel_rfl
@[go_sem] theorem Zuz:WU Tryz.prog 154=some [(.int .i64),(.int .i64),(.slice 251)]:=by kernel_rfl
@[go_sem] theorem ZvQ:ti Tryz.prog 161=some ⟨(.slice 219),1,24,[.slice none 0 0]⟩:=by kernel_rfl
@[go_sem] theorem ZvP:ti Tryz.prog 162=some ⟨(.struct [(0,3),(1,3),(2,161)]),3,40,[.int .i64 0,.int .i64 0,.slice none 0 0]⟩:=by kernel_rfl
@[go_sem] theorem Zuy:WU Tryz.prog 162=some [(.int .i64),(.int .i64),(.slice 219)]:=by kernel_rfl
@[go_sem] theorem ZvO:ti Tryz.prog 163=some ⟨(.struct [(0,3),(1,3),(2,161)]),3,40,[.int .i64 0,.int .i64 0,.slice none 0 0]⟩:=by kernel_rfl
@[go_sem] theorem Zux:WU Tryz.prog 163=some [(.int .i64),(.int .i64),(.slice 219)]:=by kernel_rfl
@[go_sem] theorem ZvN:ti Tryz.prog 166=some ⟨(.slice 221),1,24,[.slice none 0 0]⟩:=by kernel_rfl
@[go_sem] theorem ZvM:ti Tryz.prog 167=some ⟨(.struct [(0,52),(1,166)]),2,48,[.slice none 0 0,.slice none 0 0]⟩:=by kernel_rfl
@[go_sem] theorem Zuw:WU Tryz.prog 167=some [(.slice 3),(.slice 221)]:=by kernel_rfl
@[go_sem] theorem ZvL:ti Tryz.prog 168=some ⟨(.struct [(0,52),(1,166)]),2,48,[.slice none 0 0,.slice none 0 0]⟩:=by kernel_rfl
@[go_sem] theorem Zuv:WU Tryz.prog 168=some [(.slice 3),(.slice 221)]:=by kernel_rfl
@[go_sem] theorem ZvK:ti Tryz.prog 183=some ⟨(.struct [(0,3),(1,3),(2,3),(3,52),(4,150),(11,4)]),12,168,[.int .i64 0,.int .i64 0,.int .i64 0,.slice none 0 0,.int .i64 0,.int .i64 0,.int .i64 0,.string ⟨#[]⟩,.slice none 0 0,.slice none 0 0,.slice none 0 0,.bool false]⟩:=by kernel_rfl
@[go_sem] theorem ZvJ:ti Tryz.prog 184=some ⟨(.struct [(0,3),(1,3),(2,3),(3,52),(4,150),(11,4)]),12,168,[.int .i64 0,.int .i64 0,.int .i64 0,.slice none 0 0,.int .i64 0,.int .i64 0,.int .i64 0,.string ⟨#[]⟩,.slice none 0 0,.slice none 0 0,.slice none 0 0,.bool false]⟩:=by kernel_rfl
@[go_sem] theorem ZvI:ti Tryz.prog 193=some ⟨(.struct [(0,3),(1,3),(2,3),(3,52),(4,35),(11,4)]),12,168,[.int .i64 0,.int .i64 0,.int .i64 0,.slice none 0 0,.int .i64 0,.int .i64 0,.int .i64 0,.string ⟨#[]⟩,.slice none 0 0,.slice none 0 0,.slice none 0 0,.bool false]⟩:=by kernel_rfl
@[go_sem] theorem ZvH:ti Tryz.prog 194=some ⟨(.struct [(0,3),(1,3),(2,3),(3,52),(4,35),(11,4)]),12,168,[.int .i64 0,.int .i64 0,.int .i64 0,.slice none 0 0,.int .i64 0,.int .i64 0,.int .i64 0,.string ⟨#[]⟩,.slice none 0 0,.slice none 0 0,.slice none 0 0,.bool false]⟩:=by kernel_rfl
@[go_sem] theorem ZvG:ti Tryz.prog 217=some ⟨(.slice 5),1,24,[.slice none 0 0]⟩:=by kernel_rfl
@[go_sem] theorem ZvF:ti Tryz.prog 218=some ⟨(.struct [(0,3),(1,3),(2,3),(3,9),(4,35)]),11,152,[.int .i64 0,.int .i64 0,.int .i64 0,.string ⟨#[]⟩,.int .i64 0,.int .i64 0,.int .i64 0,.string ⟨#[]⟩,.slice none 0 0,.slice none 0 0,.slice none 0 0]⟩:=by kernel_rfl
@[go_sem] theorem Zuu:WU Tryz.prog 218=some [(.int .i64),(.int .i64),(.int .i64),.str,(.struct [(0,3),(1,3),(2,3),(3,9),(4,31),(5,32),(6,33)])]:=by kernel_rfl
@[go_sem] theorem ZvE:ti Tryz.prog 219=some ⟨(.struct [(0,3),(1,3),(2,3),(3,9),(4,35)]),11,152,[.int .i64 0,.int .i64 0,.int .i64 0,.string ⟨#[]⟩,.int .i64 0,.int .i64 0,.int .i64 0,.string ⟨#[]⟩,.slice none 0 0,.slice none 0 0,.slice none 0 0]⟩:=by kernel_rfl
@[go_sem] theorem Zut:WU Tryz.prog 219=some [(.int .i64),(.int .i64),(.int .i64),.str,(.struct [(0,3),(1,3),(2,3),(3,9),(4,31),(5,32),(6,33)])]:=by kernel_rfl
@[go_sem] theorem ZvD:ti Tryz.prog 220=some ⟨(.struct [(0,3),(1,3)]),2,16,[.int .i64 0,.int .i64 0]⟩:=by kernel_rfl
@[go_sem] theorem Zus:WU Tryz.prog 220=some [(.int .i64),(.int .i64)]:=by kernel_rfl
@[go_sem] theorem ZvC:ti Tryz.prog 221=some ⟨(.struct [(0,3),(1,3)]),2,16,[.int .i64 0,.int .i64 0]⟩:=by kernel_rfl
@[go_sem] theorem Zur:WU Tryz.prog 221=some [(.int .i64),(.int .i64)]:=by kernel_rfl
@[go_sem] theorem ZvB:ti Tryz.prog 226=some ⟨(.struct [(0,9),(1,3)]),2,24,[.string ⟨#[]⟩,.int .i64 0]⟩:=by kernel_rfl
@[go_sem] theorem Zuq:WU Tryz.prog 226=some [.str,(.int .i64)]:=by kernel_rfl
@[go_sem] theorem ZvA:ti Tryz.prog 227=some ⟨(.struct [(0,9),(1,3)]),2,24,[.string ⟨#[]⟩,.int .i64 0]⟩:=by kernel_rfl
@[go_sem] theorem Zup:WU Tryz.prog 227=some [.str,(.int .i64)]:=by kernel_rfl
@[go_sem] theorem Zvz:ti Tryz.prog 232=some ⟨(.struct [(0,9),(1,3)]),2,24,[.string ⟨#[]⟩,.int .i64 0]⟩:=by kernel_rfl
@[go_sem] theorem Zuo:WU Tryz.prog 232=some [.str,(.int .i64)]:=by kernel_rfl
@[go_sem] theorem Zvy:ti Tryz.prog 237=some ⟨(.struct [(0,235),(1,236)]),2,16,[.nilFunc,.nilFunc]⟩:=by kernel_rfl
@[go_sem] theorem Zun:WU Tryz.prog 237=some [.other,.other]:=by kernel_rfl
@[go_sem] theorem Zvx:ti Tryz.prog 238=some ⟨(.struct [(0,235),(1,236)]),2,16,[.nilFunc,.nilFunc]⟩:=by kernel_rfl
@[go_sem] theorem Zum:WU Tryz.prog 238=some [.other,.other]:=by kernel_rfl
@[go_sem] theorem Zvw:ti Tryz.prog 246=some ⟨(.slice 316),1,24,[.slice none 0 0]⟩:=by kernel_rfl
@[go_sem] theorem Zvv:ti Tryz.prog 247=some ⟨(.struct [(0,52),(1,246)]),2,48,[.slice none 0 0,.slice none 0 0]⟩:=by kernel_rfl
@[go_sem] theorem Zul:WU Tryz.prog 247=some [(.slice 3),(.slice 316)]:=by kernel_rfl
@[go_sem] theorem Zvu:ti Tryz.prog 248=some ⟨(.struct [(0,52),(1,246)]),2,48,[.slice none 0 0,.slice none 0 0]⟩:=by kernel_rfl
@[go_sem] theorem Zuk:WU Tryz.prog 248=some [(.slice 3),(.slice 316)]:=by kernel_rfl
@[go_sem] theorem Zvt:ti Tryz.prog 250=some ⟨(.struct [(0,3),(1,3),(2,3),(3,9),(4,150)]),11,152,[.int .i64 0,.int .i64 0,.int .i64 0,.string ⟨#[]⟩,.int .i64 0,.int .i64 0,.int .i64 0,.string ⟨#[]⟩,.slice none 0 0,.slice none 0 0,.slice none 0 0]⟩:=by kernel_rfl
@[go_sem] theorem Zuj:WU Tryz.prog 250=some [(.int .i64),(.int .i64),(.int .i64),.str,(.struct [(0,3),(1,3),(2,3),(3,9),(4,25),(5,32),(6,148)])]:=by kernel_rfl
@[go_sem] theorem Zvs:ti Tryz.prog 251=some ⟨(.struct [(0,3),(1,3),(2,3),(3,9),(4,150)]),11,152,[.int .i64 0,.int .i64 0,.int .i64 0,.string ⟨#[]⟩,.int .i64 0,.int .i64 0,.int .i64 0,.string ⟨#[]⟩,.slice none 0 0,.slice none 0 0,.slice none 0 0]⟩:=by kernel_rfl
@[go_sem] theorem Zui:WU Tryz.prog 251=some [(.int .i64),(.int .i64),(.int .i64),.str,(.struct [(0,3),(1,3),(2,3),(3,9),(4,25),(5,32),(6,148)])]:=by kernel_rfl
@[go_sem] theorem Zvr:ti Tryz.prog 252=some ⟨(.slice 271),1,24,[.slice none 0 0]⟩:=by kernel_rfl
@[go_sem] theorem Zvq:ti Tryz.prog 256=some ⟨(.struct [(0,252),(1,3),(2,3),(3,3)]),4,48,[.slice none 0 0,.int .i64 0,.int .i64 0,.int .i64 0]⟩:=by kernel_rfl
@[go_sem] theorem Zuh:WU Tryz.prog 256=some [(.slice 271),(.int .i64),(.int .i64),(.int .i64)]:=by kernel_rfl
@[go_sem] theorem Zvp:ti Tryz.prog 257=some ⟨(.struct [(0,252),(1,3),(2,3),(3,3)]),4,48,[.slice none 0 0,.int .i64 0,.int .i64 0,.int .i64 0]⟩:=by kernel_rfl
@[go_sem] theorem Zug:WU Tryz.prog 257=some [(.slice 271),(.int .i64),(.int .i64),(.int .i64)]:=by kernel_rfl
@[go_sem] theorem Zvo:ti Tryz.prog 267=some ⟨(.struct [(0,252),(1,3),(2,3)]),3,40,[.slice none 0 0,.int .i64 0,.int .i64 0]⟩:=by kernel_rfl
@[go_sem] theorem Zuf:WU Tryz.prog 267=some [(.slice 271),(.int .i64),(.int .i64)]:=by kernel_rfl
@[go_sem] theorem Zvn:ti Tryz.prog 268=some ⟨(.struct [(0,252),(1,3),(2,3)]),3,40,[.slice none 0 0,.int .i64 0,.int .i64 0]⟩:=by kernel_rfl
@[go_sem] theorem Zue:WU Tryz.prog 268=some [(.slice 271),(.int .i64),(.int .i64)]:=by kernel_rfl
@[go_sem] theorem Zvm:ti Tryz.prog 270=some ⟨(.struct [(0,3),(1,3),(2,3),(3,9)]),4,40,[.int .i64 0,.int .i64 0,.int .i64 0,.string ⟨#[]⟩]⟩:=by kernel_rfl
@[go_sem] theorem Zud:WU Tryz.prog 270=some [(.int .i64),(.int .i64),(.int .i64),.str]:=by kernel_rfl
@[go_sem] theorem Zvl:ti Tryz.prog 271=some ⟨(.struct [(0,3),(1,3),(2,3),(3,9)]),4,40,[.int .i64 0,.int .i64 0,.int .i64 0,.string ⟨#[]⟩]⟩:=by kernel_rfl
@[go_sem] theorem Zuc:WU Tryz.prog 271=some [(.int .i64),(.int .i64),(.int .i64),.str]:=by kernel_rfl
@[go_sem] theorem Zvk:ti Tryz.prog 277=some ⟨(.int .u64),1,8,[.int .u64 0]⟩:=by kernel_rfl
@[go_sem] theorem Zvj:ti Tryz.prog 298=some ⟨(.int .i64),1,8,[.int .i64 0]⟩:=by kernel_rfl
@[go_sem] theorem Zvi:ti Tryz.prog 306=some ⟨(.int .u32),1,4,[.int .u32 0]⟩:=by kernel_rfl
@[go_sem] theorem Zvh:ti Tryz.prog 308=some ⟨(.int .u64),1,8,[.int .u64 0]⟩:=by kernel_rfl
@[go_sem] theorem Zvg:ti Tryz.prog 316=some ⟨(.struct [(0,3),(1,3)]),2,16,[.int .i64 0,.int .i64 0]⟩:=by kernel_rfl
@[go_sem] theorem Zub:WU Tryz.prog 316=some [(.int .i64),(.int .i64)]:=by kernel_rfl
@[go_sem] theorem Zvf:ti Tryz.prog 325=some ⟨(.int .u64),1,8,[.int .u64 0]⟩:=by kernel_rfl
@[go_sem] theorem Zve:ti Tryz.prog 345=some ⟨(.int .i64),1,8,[.int .i64 0]⟩:=by kernel_rfl
@[go_sem] theorem Zvd:ti Tryz.prog 358=some ⟨(.struct [(0,5),(1,5)]),2,2,[.int .u8 0,.int .u8 0]⟩:=by kernel_rfl
@[go_sem] theorem Zua:WU Tryz.prog 358=some [(.int .u8),(.int .u8)]:=by kernel_rfl
@[go_sem] theorem Zvc:ti Tryz.prog 359=some ⟨(.struct [(0,5),(1,5)]),2,2,[.int .u8 0,.int .u8 0]⟩:=by kernel_rfl
@[go_sem] theorem Zt9:WU Tryz.prog 359=some [(.int .u8),(.int .u8)]:=by kernel_rfl
@[go_sem] theorem Zvb:ti Tryz.prog 366=some ⟨(.struct [(0,9),(1,9),(2,322)]),3,48,[.string ⟨#[]⟩,.string ⟨#[]⟩,.nilIface]⟩:=by kernel_rfl
@[go_sem] theorem Zva:ti Tryz.prog 367=some ⟨(.struct [(0,9),(1,9),(2,322)]),3,48,[.string ⟨#[]⟩,.string ⟨#[]⟩,.nilIface]⟩:=by kernel_rfl
@[go_sem] theorem Zu9:ti Tryz.prog 377=some ⟨(.struct [(0,9)]),1,16,[.string ⟨#[]⟩]⟩:=by kernel_rfl
@[go_sem] theorem Zt8:WU Tryz.prog 377=some [.str]:=by kernel_rfl
@[go_sem] theorem Zu8:ti Tryz.prog 378=some ⟨(.struct [(0,9)]),1,16,[.string ⟨#[]⟩]⟩:=by kernel_rfl
@[go_sem] theorem Zt7:WU Tryz.prog 378=some [.str]:=by kernel_rfl
@[go_sem] theorem Zu7:ti Tryz.prog 386=some ⟨(.struct [(0,17),(1,17),(2,17),(3,9)]),4,40,[.pointer none,.pointer none,.pointer none,.string ⟨#[]⟩]⟩:=by kernel_rfl
@[go_sem] theorem Zu6:ti Tryz.prog 387=some ⟨(.struct [(0,17),(1,17),(2,17),(3,9)]),4,40,[.pointer none,.pointer none,.pointer none,.string ⟨#[]⟩]⟩:=by kernel_rfl
@[go_sem] theorem Zu5:ti Tryz.prog 389=some ⟨(.struct [(0,388)]),0,0,[]⟩:=by kernel_rfl
@[go_sem] theorem Zu4:ti Tryz.prog 390=some ⟨(.struct [(0,388)]),0,0,[]⟩:=by kernel_rfl
@[go_sem] theorem Zu3:ti Tryz.prog 392=some ⟨(.int .u8),1,1,[.int .u8 0]⟩:=by kernel_rfl
@[go_sem] theorem Zu2:ti Tryz.prog 393=some ⟨(.int .u8),1,1,[.int .u8 0]⟩:=by kernel_rfl
@[go_sem] theorem Zu1:ti Tryz.prog 395=some ⟨(.int .i32),1,4,[.int .i32 0]⟩:=by kernel_rfl
@[go_sem] theorem Zu0:ti Tryz.prog 396=some ⟨(.int .i32),1,4,[.int .i32 0]⟩:=by kernel_rfl
@[go_sem] theorem ZuZ:ti Tryz.prog 397=some ⟨(.struct [(0,12),(1,12),(2,306),(3,392),(4,5),(5,5),(6,393),(7,394),(8,375),(9,395),(10,396)]),11,48,[.int .u64 0,.int .u64 0,.int .u32 0,.int .u8 0,.int .u8 0,.int .u8 0,.int .u8 0,.nilFunc,.pointer none,.int .i32 0,.int .i32 0]⟩:=by kernel_rfl
@[go_sem] theorem ZuY:ti Tryz.prog 398=some ⟨(.struct [(0,12),(1,12),(2,306),(3,392),(4,5),(5,5),(6,393),(7,394),(8,375),(9,395),(10,396)]),11,48,[.int .u64 0,.int .u64 0,.int .u32 0,.int .u8 0,.int .u8 0,.int .u8 0,.int .u8 0,.nilFunc,.pointer none,.int .i32 0,.int .i32 0]⟩:=by kernel_rfl
@[go_sem] theorem ZuX:ti Tryz.prog 399=some ⟨(.struct [(0,9),(1,322)]),2,32,[.string ⟨#[]⟩,.nilIface]⟩:=by kernel_rfl
@[go_sem] theorem ZuW:ti Tryz.prog 400=some ⟨(.struct [(0,9),(1,322)]),2,32,[.string ⟨#[]⟩,.nilIface]⟩:=by kernel_rfl
@[go_sem] theorem ZuV:ti Tryz.prog 401=some ⟨(.slice 322),1,24,[.slice none 0 0]⟩:=by kernel_rfl
@[go_sem] theorem ZuU:ti Tryz.prog 402=some ⟨(.struct [(0,9),(1,401)]),2,40,[.string ⟨#[]⟩,.slice none 0 0]⟩:=by kernel_rfl
@[go_sem] theorem Zt6:WU Tryz.prog 402=some [.str,(.slice 322)]:=by kernel_rfl
@[go_sem] theorem ZuT:ti Tryz.prog 403=some ⟨(.struct [(0,9),(1,401)]),2,40,[.string ⟨#[]⟩,.slice none 0 0]⟩:=by kernel_rfl
@[go_sem] theorem Zt5:WU Tryz.prog 403=some [.str,(.slice 322)]:=by kernel_rfl
end Go.Proofs.YtfapaeabfcogkaaGreatDoor
namespace Go.Proofs.YtfapaeabfcogkaaGreatDoor
open Go.RowKit Am
namespace Am
section
variable {P:Program} {ops:Array Oper} {σ σ' σ0:St} {K:St→Prop} {o:Oper} {rest:List Oper} {g:Eff} {B As:List (List Nat)} {i:Nat} {es:List (Nat×Eff)} {f:Nat} {xs:List Operand}
theorem Zm4:ZkR P ops o rest σ K (some (f,xs))=Zhs P ops o rest σ K f (XE σ xs) ((XE σ xs).bind (WO σ)):=rfl
theorem Zm5:ZkR P ops o rest σ K none=Zhq P ops o rest σ K (Jz P σ o):=rfl
theorem ZlG:Zhq P ops o rest σ K (some g)=(g.side∧Z9 P ops rest (σ.app g) K):=rfl
theorem ZlH:Zhq P ops o rest σ K none=HBy P σ o fun g=>Z9 P ops rest (σ.app g) K:=rfl
theorem ZlI:Zhr P ops rest σ K (some g)=(g.side∧Z9 P ops rest (σ.app g) K):=rfl
theorem ZlJ:Zhr P ops rest σ K none=False:=rfl
theorem ZmU:Zoe P ops σ0 K B As o rest i es σ (some (f,xs))=ZlA P ops σ0 K B As o rest i es σ f (XE σ xs) ((XE σ xs).bind (WO σ)):=rfl
theorem ZmV:Zoe P ops σ0 K B As o rest i es σ none=Zhn P ops σ0 K B As rest i es (Jz P σ o):=rfl
section
variable {b want:Bool}
@[congr] theorem ZoT {v v':Option Bool} (hs:σ=σ') (hv:v=v'):Vp P ops o rest σ K want v=Vp P ops o rest σ' K want v':=by rw [hs,hv]
theorem Zm6:Vp P ops o rest σ K true (some true)=ZkR P ops o rest σ K (Xg o.op):=by simp [Vp]
theorem Zm9:Vp P ops o rest σ K false (some false)=ZkR P ops o rest σ K (Xg o.op):=by simp [Vp]
theorem Zm7:Vp P ops o rest σ K true (some false)=Z9 P ops rest (σ.kill o.dst) K:=by simp [Vp]
theorem Zm8:Vp P ops o rest σ K false (some true)=Z9 P ops rest (σ.kill o.dst) K:=by simp [Vp]
end
theorem Zlw:Zhn P ops σ0 K B As rest i es (some g)=(g.side∧Zeh P ops σ0 K B As rest (i+1) ((i,g)::es)):=rfl
theorem Zlx:Zhn P ops σ0 K B As rest i es none=False:=rfl
theorem Zjy {want b:Bool}:ZiB P ops σ0 K B As o rest i es σ want (some b)=if b=want then Zoe P ops σ0 K B As o rest i es σ (Xg o.op) else Zeh P ops σ0 K B As rest (i+1) ((i,⟨True,match o.dst with | some d=>[(d,.dead)]| none=>[],[],[]⟩)::es):=rfl
theorem Zjz {want:Bool}:ZiB P ops σ0 K B As o rest i es σ want none=False:=rfl
end
end Am
attribute [go_sem] ZpJ ZnV Ztd Zne ZnD Zjg Zmy ZlU St.ZtW ZqI Zbb Jv Jw Zm4 Zm5 ZlK ZlL ZlI ZlJ ZlG ZlH Zm6 Zm9 Zm7 Zm8 ZjH Xg Jz Qx Wf opd Zkz Zix Zd7 KE yld St.kill St.app lookup_cons ZhT inB Ztn Zjd ZtX ZtY ZcI ZsP Zr8 Zwx Zr4 Zq7 ZsT ZsS Zr3 ZrL ZnZ Zk5 Zr2 St.ren Zf7 Vg Zc0 frV frL frC ZfU ZlR ZfV ZlS ZjG WO Zhx ZiQ Zkx XE num bI bSh bS Zfb inV QE Vr Zge Zg8 ZcH ptD L.flat KB W7 ZkG Zgo Zgp ZmU ZmV Zly Zlz Zlw Zlx Zjy Zjz view ZaR ZbN TD.agg Zc2 Zgm parts Zju eqC ZpZ Zr6 Zpp VQ ZjZ base St.closed okV okC setAt Zjc ZnI cle Zdu Zpg vle Zqu ZqB ZqD iC uC sC bC lC Zgg KR Zof ZlN ZrK
theorem mixed:Tryz.prog.follows .mixedOrders=true:=by kernel_rfl
@[go_sem] theorem ZtU {n:Int} (h: -9223372036854775808≤n∧n≤9223372036854775807):IntKind.i64.wrap n=n:=IntWalk.i64_in n h
@[go_sem] theorem Zsk {n:Int} (h:0≤n∧n≤255):IntKind.u8.wrap n=n:=IntWalk.u8_in n h
@[go_sem] theorem Zsj {n:Int} (h:0≤n∧n≤18446744073709551615):IntKind.u64.wrap n=n:=IntWalk.u64_in n h
@[go_sem] theorem Zsy {α:Type} {p:α→Prop} {xs:List α} {n:Nat} {a:α} (h:∀z∈xs,p z) (ha:p a):(∀z∈xs.set n a,p z)↔True:=⟨fun _=>trivial,fun _ z hz=>(List.mem_or_eq_of_mem_set hz).elim (h z) fun e=>e▸ha⟩
@[go_sem] theorem Zr0 {α:Type} {p:α→Prop} {xs:List α} {n:Nat} (h:∀z∈xs,p z):(∀z∈xs.take n,p z)↔True:=⟨fun _=>trivial,fun _ z hz=>h z (List.mem_of_mem_take hz)⟩
@[go_sem] theorem take_len {α β:Type} (f:α→β) (xs:List α):(xs.map f).take xs.length=xs.map f:=List.take_of_length_le (by simp)
@[go_sem] theorem Zsb {α:Type} {p:α→Prop} {xs:List α} {n:Nat} (h:∀z∈xs,p z):(∀z∈xs.drop n,p z)↔True:=⟨fun _=>trivial,fun _ z hz=>h z (List.mem_of_mem_drop hz)⟩
@[go_sem] theorem ZtZ {α:Type} {p:α→Prop} {xs:List α} {b:α} (h:∀z∈xs,p z) (hb:p b):(∀z,z∈xs∨z=b→p z)↔True:=⟨fun _=>trivial,fun _ z hz=>hz.elim (h z) fun e=>e▸hb⟩
@[go_sem] theorem ZsV {α:Type} {p:α→Prop} {xs ys:List α} (h:∀z∈xs,p z) (hb:∀z∈ys,p z):(∀z,z∈xs∨z∈ys→p z)↔True:=⟨fun _=>trivial,fun _ z hz=>hz.elim (h z) (hb z)⟩
@[go_sem] theorem Zti (xs:List Int):(∀e∈xs.map iC,e.length=1)↔True:=by
 refine ⟨fun _=>trivial,fun _ e he=> ?_⟩
 obtain ⟨x,_,rfl⟩:=List.mem_map.1 he
 rfl
@[go_sem] theorem Zsn (xs:List Int):(∀e∈xs.map uC,e.length=1)↔True:=by
 refine ⟨fun _=>trivial,fun _ e he=> ?_⟩
 obtain ⟨x,_,rfl⟩:=List.mem_map.1 he
 rfl
@[go_sem] theorem ZrW (xs:List Int):W7 (xs.map uC)=true:=by
 refine List.all_eq_true.2 fun e he=> ?_
 obtain ⟨x,_,rfl⟩:=List.mem_map.1 he
 rfl
@[go_sem] theorem ZsE (xs:List ByteArray):(∀e∈xs.map sC,e.length=1)↔True:=by
 refine ⟨fun _=>trivial,fun _ e he=> ?_⟩
 obtain ⟨x,_,rfl⟩:=List.mem_map.1 he
 rfl
@[go_sem] theorem ZtM (xs:List Bool):(∀e∈xs.map bC,e.length=1)↔True:=by
 refine ⟨fun _=>trivial,fun _ e he=> ?_⟩
 obtain ⟨x,_,rfl⟩:=List.mem_map.1 he
 rfl
@[go_sem] theorem Ztc {α:Type} (c:α→List L) (xs:List (List α)):(∀e∈xs.map (lC c),e.length=1)↔True:=by
 refine ⟨fun _=>trivial,fun _ e he=> ?_⟩
 obtain ⟨x,_,rfl⟩:=List.mem_map.1 he
 rfl
@[go_sem] theorem Zr7 (xs:List Int):W7 (xs.map iC)=true:=by
 refine List.all_eq_true.2 fun e he=> ?_
 obtain ⟨x,_,rfl⟩:=List.mem_map.1 he
 rfl
@[go_sem] theorem Zr1 (xs:List ByteArray):W7 (xs.map sC)=true:=by
 refine List.all_eq_true.2 fun e he=> ?_
 obtain ⟨x,_,rfl⟩:=List.mem_map.1 he
 rfl
@[go_sem] theorem Zse (xs:List Bool):W7 (xs.map bC)=true:=by
 refine List.all_eq_true.2 fun e he=> ?_
 obtain ⟨x,_,rfl⟩:=List.mem_map.1 he
 rfl
end Go.Proofs.YtfapaeabfcogkaaGreatDoor
namespace Go.Proofs.YtfapaeabfcogkaaGreatDoor
open Go.RowKit Am
structure Zj where
 id:Int
 version:Int
 kind:Int
 name:ByteArray
 code:ByteArray
 n:Int
def Zj.c (x:Zj):List L:=[.int .i64 x.id,.int .i64 x.version,.int .i64 x.kind,.str x.name,.str x.code,.int .i64 x.n]
@[go_sem] theorem Zj.XW (x:Zj):x.c=[.int .i64 x.id,.int .i64 x.version,.int .i64 x.kind,.str x.name,.str x.code,.int .i64 x.n]:=rfl
@[go_sem] theorem Zj.lens (xs:List Zj):(∀e∈xs.map Zj.c,e.length=6)↔True:=by simp [Zj.XW]
@[go_sem] theorem Zj.Zn1 (xs:List Zj):W7 (xs.map Zj.c)=true:=by simp [W7,KB,L.flat,Zj.XW]
@[go_sem] theorem Zj.Zkk (xs:List Zj):xs.all (KB∘Zj.c)=true:=by simp [KB,L.flat,Zj.XW]
structure Ze where
 cells:List Zj
def Ze.c (x:Ze):List L:=[.sl (x.cells.map Zj.c)]
@[go_sem] theorem Ze.XW (x:Ze):x.c=[.sl (x.cells.map Zj.c)]:=rfl
@[go_sem] theorem Ze.lens (xs:List Ze):(∀e∈xs.map Ze.c,e.length=1)↔True:=by simp [Ze.XW]
structure Zc where
 cell:Int
 row:Int
def Zc.c (x:Zc):List L:=[.int .i64 x.cell,.int .i64 x.row]
@[go_sem] theorem Zc.XW (x:Zc):x.c=[.int .i64 x.cell,.int .i64 x.row]:=rfl
@[go_sem] theorem Zc.lens (xs:List Zc):(∀e∈xs.map Zc.c,e.length=2)↔True:=by simp [Zc.XW]
@[go_sem] theorem Zc.Zn1 (xs:List Zc):W7 (xs.map Zc.c)=true:=by simp [W7,KB,L.flat,Zc.XW]
@[go_sem] theorem Zc.Zkk (xs:List Zc):xs.all (KB∘Zc.c)=true:=by simp [KB,L.flat,Zc.XW]
structure Zq where
 cells:List Int
 from_:List Zc
def Zq.c (x:Zq):List L:=[.sl (x.cells.map iC),.sl (x.from_.map Zc.c)]
@[go_sem] theorem Zq.XW (x:Zq):x.c=[.sl (x.cells.map iC),.sl (x.from_.map Zc.c)]:=rfl
@[go_sem] theorem Zq.lens (xs:List Zq):(∀e∈xs.map Zq.c,e.length=2)↔True:=by simp [Zq.XW]
structure Za where
 kind:Int
 n:Int
 step:Int
 text:ByteArray
 list:List Za
 columns:List ByteArray
 rows:List Zq
mutual
def Za.c:Za→List L
 | ⟨kind,n,step,text,list,columns,rows⟩=>[.int .i64 kind,.int .i64 n,.int .i64 step,.str text,.sl (Za.cs list),.sl (columns.map sC),.sl (rows.map Zq.c)]
def Za.cs:List Za→List (List L)
 | []=>[]
 | x::xs=>Za.c x::Za.cs xs
end
theorem Za.Ziw:∀xs:List Za,Za.cs xs=xs.map Za.c
 | []=>rfl
 | x::xs=>by rw [Za.cs,Za.Ziw xs];rfl
@[go_sem] theorem Za.XW (x:Za):x.c=[.int .i64 x.kind,.int .i64 x.n,.int .i64 x.step,.str x.text,.sl (x.list.map Za.c),.sl (x.columns.map sC),.sl (x.rows.map Zq.c)]:=by
 cases x;simp only [Za.c,Za.Ziw]
@[go_sem] theorem Za.lens (xs:List Za):(∀e∈xs.map Za.c,e.length=7)↔True:=by simp [Za.XW]
structure Zo where
 kind:Int
 n:Int
 time:Int
 text:ByteArray
 result:Za
def Zo.c (x:Zo):List L:=[.int .i64 x.kind,.int .i64 x.n,.int .i64 x.time,.str x.text,.int .i64 x.result.kind,.int .i64 x.result.n,.int .i64 x.result.step,.str x.result.text,.sl (x.result.list.map Za.c),.sl (x.result.columns.map sC),.sl (x.result.rows.map Zq.c)]
@[go_sem] theorem Zo.XW (x:Zo):x.c=[.int .i64 x.kind,.int .i64 x.n,.int .i64 x.time,.str x.text,.int .i64 x.result.kind,.int .i64 x.result.n,.int .i64 x.result.step,.str x.result.text,.sl (x.result.list.map Za.c),.sl (x.result.columns.map sC),.sl (x.result.rows.map Zq.c)]:=rfl
@[go_sem] theorem Zo.lens (xs:List Zo):(∀e∈xs.map Zo.c,e.length=11)↔True:=by simp [Zo.XW]
structure Zn where
 cell:Int
 version:Int
 reads:List Zo
def Zn.c (x:Zn):List L:=[.int .i64 x.cell,.int .i64 x.version,.sl (x.reads.map Zo.c)]
@[go_sem] theorem Zn.XW (x:Zn):x.c=[.int .i64 x.cell,.int .i64 x.version,.sl (x.reads.map Zo.c)]:=rfl
@[go_sem] theorem Zn.lens (xs:List Zn):(∀e∈xs.map Zn.c,e.length=3)↔True:=by simp [Zn.XW]
structure Qf where
 values:List Za
 tapes:List Zn
 steps:Int
def Qf.c (x:Qf):List L:=[.sl (x.values.map Za.c),.sl (x.tapes.map Zn.c),.int .i64 x.steps]
@[go_sem] theorem Qf.XW (x:Qf):x.c=[.sl (x.values.map Za.c),.sl (x.tapes.map Zn.c),.int .i64 x.steps]:=rfl
@[go_sem] theorem Qf.lens (xs:List Qf):(∀e∈xs.map Qf.c,e.length=3)↔True:=by simp [Qf.XW]
structure Zi where
 kind:Int
 n:Int
 at_:Int
 text:ByteArray
def Zi.c (x:Zi):List L:=[.int .i64 x.kind,.int .i64 x.n,.int .i64 x.at_,.str x.text]
@[go_sem] theorem Zi.XW (x:Zi):x.c=[.int .i64 x.kind,.int .i64 x.n,.int .i64 x.at_,.str x.text]:=rfl
@[go_sem] theorem Zi.lens (xs:List Zi):(∀e∈xs.map Zi.c,e.length=4)↔True:=by simp [Zi.XW]
@[go_sem] theorem Zi.Zn1 (xs:List Zi):W7 (xs.map Zi.c)=true:=by simp [W7,KB,L.flat,Zi.XW]
@[go_sem] theorem Zi.Zkk (xs:List Zi):xs.all (KB∘Zi.c)=true:=by simp [KB,L.flat,Zi.XW]
structure Zd where
 toks:List Zi
 i:Int
 end_:Int
 bad:Int
def Zd.c (x:Zd):List L:=[.sl (x.toks.map Zi.c),.int .i64 x.i,.int .i64 x.end_,.int .i64 x.bad]
@[go_sem] theorem Zd.XW (x:Zd):x.c=[.sl (x.toks.map Zi.c),.int .i64 x.i,.int .i64 x.end_,.int .i64 x.bad]:=rfl
@[go_sem] theorem Zd.lens (xs:List Zd):(∀e∈xs.map Zd.c,e.length=4)↔True:=by simp [Zd.XW]
structure Zb where
 kind:Int
 n:Int
 text:ByteArray
 args:List Zb
mutual
def Zb.c:Zb→List L
 | ⟨kind,n,text,args⟩=>[.int .i64 kind,.int .i64 n,.str text,.sl (Zb.cs args)]
def Zb.cs:List Zb→List (List L)
 | []=>[]
 | x::xs=>Zb.c x::Zb.cs xs
end
theorem Zb.Ziw:∀xs:List Zb,Zb.cs xs=xs.map Zb.c
 | []=>rfl
 | x::xs=>by rw [Zb.cs,Zb.Ziw xs];rfl
@[go_sem] theorem Zb.XW (x:Zb):x.c=[.int .i64 x.kind,.int .i64 x.n,.str x.text,.sl (x.args.map Zb.c)]:=by
 cases x;simp only [Zb.c,Zb.Ziw]
@[go_sem] theorem Zb.lens (xs:List Zb):(∀e∈xs.map Zb.c,e.length=4)↔True:=by simp [Zb.XW]
structure ZB where
 kind:Int
 name:ByteArray
 expr:Zb
 value:Za
 at_:Int
def ZB.c (x:ZB):List L:=[.int .i64 x.kind,.str x.name,.int .i64 x.expr.kind,.int .i64 x.expr.n,.str x.expr.text,.sl (x.expr.args.map Zb.c),.int .i64 x.value.kind,.int .i64 x.value.n,.int .i64 x.value.step,.str x.value.text,.sl (x.value.list.map Za.c),.sl (x.value.columns.map sC),.sl (x.value.rows.map Zq.c),.int .i64 x.at_]
@[go_sem] theorem ZB.XW (x:ZB):x.c=[.int .i64 x.kind,.str x.name,.int .i64 x.expr.kind,.int .i64 x.expr.n,.str x.expr.text,.sl (x.expr.args.map Zb.c),.int .i64 x.value.kind,.int .i64 x.value.n,.int .i64 x.value.step,.str x.value.text,.sl (x.value.list.map Za.c),.sl (x.value.columns.map sC),.sl (x.value.rows.map Zq.c),.int .i64 x.at_]:=rfl
@[go_sem] theorem ZB.lens (xs:List ZB):(∀e∈xs.map ZB.c,e.length=14)↔True:=by simp [ZB.XW]
structure Zf where
 list:List Zi
 at_:Int
 bad:Int
def Zf.c (x:Zf):List L:=[.sl (x.list.map Zi.c),.int .i64 x.at_,.int .i64 x.bad]
@[go_sem] theorem Zf.XW (x:Zf):x.c=[.sl (x.list.map Zi.c),.int .i64 x.at_,.int .i64 x.bad]:=rfl
@[go_sem] theorem Zf.lens (xs:List Zf):(∀e∈xs.map Zf.c,e.length=3)↔True:=by simp [Zf.XW]
structure YY where
 name:ByteArray
 n:Int
def YY.c (x:YY):List L:=[.str x.name,.int .i64 x.n]
@[go_sem] theorem YY.XW (x:YY):x.c=[.str x.name,.int .i64 x.n]:=rfl
@[go_sem] theorem YY.lens (xs:List YY):(∀e∈xs.map YY.c,e.length=2)↔True:=by simp [YY.XW]
@[go_sem] theorem YY.Zn1 (xs:List YY):W7 (xs.map YY.c)=true:=by simp [W7,KB,L.flat,YY.XW]
@[go_sem] theorem YY.Zkk (xs:List YY):xs.all (KB∘YY.c)=true:=by simp [KB,L.flat,YY.XW]
structure V7 where
 clock:Int
 seed:Int
 files:List YY
def V7.c (x:V7):List L:=[.int .i64 x.clock,.int .i64 x.seed,.sl (x.files.map YY.c)]
@[go_sem] theorem V7.XW (x:V7):x.c=[.int .i64 x.clock,.int .i64 x.seed,.sl (x.files.map YY.c)]:=rfl
@[go_sem] theorem V7.lens (xs:List V7):(∀e∈xs.map V7.c,e.length=3)↔True:=by simp [V7.XW]
structure Wp where
 cell:Int
 version:Int
 stamp:Int
 inputs:List Int
 value:Za
 has:Bool
def Wp.c (x:Wp):List L:=[.int .i64 x.cell,.int .i64 x.version,.int .i64 x.stamp,.sl (x.inputs.map iC),.int .i64 x.value.kind,.int .i64 x.value.n,.int .i64 x.value.step,.str x.value.text,.sl (x.value.list.map Za.c),.sl (x.value.columns.map sC),.sl (x.value.rows.map Zq.c),.bool x.has]
@[go_sem] theorem Wp.XW (x:Wp):x.c=[.int .i64 x.cell,.int .i64 x.version,.int .i64 x.stamp,.sl (x.inputs.map iC),.int .i64 x.value.kind,.int .i64 x.value.n,.int .i64 x.value.step,.str x.value.text,.sl (x.value.list.map Za.c),.sl (x.value.columns.map sC),.sl (x.value.rows.map Zq.c),.bool x.has]:=rfl
@[go_sem] theorem Wp.lens (xs:List Wp):(∀e∈xs.map Wp.c,e.length=12)↔True:=by simp [Wp.XW]
structure WM where
 notebook:Ze
 world:V7
 tapes:List Zn
 entries:List Wp
 next:Int
 limit:Int
 work:Int
def WM.c (x:WM):List L:=[.sl (x.notebook.cells.map Zj.c),.int .i64 x.world.clock,.int .i64 x.world.seed,.sl (x.world.files.map YY.c),.sl (x.tapes.map Zn.c),.sl (x.entries.map Wp.c),.int .i64 x.next,.int .i64 x.limit,.int .i64 x.work]
@[go_sem] theorem WM.XW (x:WM):x.c=[.sl (x.notebook.cells.map Zj.c),.int .i64 x.world.clock,.int .i64 x.world.seed,.sl (x.world.files.map YY.c),.sl (x.tapes.map Zn.c),.sl (x.entries.map Wp.c),.int .i64 x.next,.int .i64 x.limit,.int .i64 x.work]:=rfl
@[go_sem] theorem WM.lens (xs:List WM):(∀e∈xs.map WM.c,e.length=9)↔True:=by simp [WM.XW]
structure Ur where
 kind:Int
 at_:Int
 cell:Zj
def Ur.c (x:Ur):List L:=[.int .i64 x.kind,.int .i64 x.at_,.int .i64 x.cell.id,.int .i64 x.cell.version,.int .i64 x.cell.kind,.str x.cell.name,.str x.cell.code,.int .i64 x.cell.n]
@[go_sem] theorem Ur.XW (x:Ur):x.c=[.int .i64 x.kind,.int .i64 x.at_,.int .i64 x.cell.id,.int .i64 x.cell.version,.int .i64 x.cell.kind,.str x.cell.name,.str x.cell.code,.int .i64 x.cell.n]:=rfl
@[go_sem] theorem Ur.lens (xs:List Ur):(∀e∈xs.map Ur.c,e.length=8)↔True:=by simp [Ur.XW]
@[go_sem] theorem Ur.Zn1 (xs:List Ur):W7 (xs.map Ur.c)=true:=by simp [W7,KB,L.flat,Ur.XW]
@[go_sem] theorem Ur.Zkk (xs:List Ur):xs.all (KB∘Ur.c)=true:=by simp [KB,L.flat,Ur.XW]
structure WI where
 parts:List ZB
 fixed:List Bool
 fresh:List Bool
 known:List Bool
 inputs:List (List Int)
def WI.c (x:WI):List L:=[.sl (x.parts.map ZB.c),.sl (x.fixed.map bC),.sl (x.fresh.map bC),.sl (x.known.map bC),.sl (x.inputs.map (lC iC))]
@[go_sem] theorem WI.XW (x:WI):x.c=[.sl (x.parts.map ZB.c),.sl (x.fixed.map bC),.sl (x.fresh.map bC),.sl (x.known.map bC),.sl (x.inputs.map (lC iC))]:=rfl
@[go_sem] theorem WI.lens (xs:List WI):(∀e∈xs.map WI.c,e.length=5)↔True:=by simp [WI.XW]
end Go.Proofs.YtfapaeabfcogkaaGreatDoor
namespace Go.Proofs.YtfapaeabfcogkaaGreatDoor.Am
open Go.RowKit
section
variable {P:Program} {ops:Array Oper} {post:List Oper} {σ:St} {K:St→Prop}
def Zsg (P:Program) (f:Nat) (dv:DV) (k:Int) (X:DV→Int→Prop):Prop:=∃d' k',Zqp P f dv k d' k'∧X d' k'
@[congr] theorem ZqE {f:Nat} {d d':DV} {k k':Int} {X:DV→Int→Prop} (h:d=d') (hk:k=k'):Zsg P f d k X=Zsg P f d' k' X:=by rw [h,hk]
theorem Zqf {f:Nat} {d d0 d':DV} {k k0 k':Int} {X:DV→Int→Prop} (h:Zqp P f d k d' k') (hd:d0=d) (hk:k0=k) (hx:X d' k'):Zsg P f d0 k0 X:=⟨d',k',hd▸hk▸h,hx⟩
theorem Znk {d f:Nat} {x:V} {k:Int} {dv:DV} {τs:List Nat} {p:Prop}:wOp P ops post σ K d f x k (some (dv,τs,p))=(p∧τs.Nodup∧d<σ.nt∧Zsg P f dv k fun d' k'=>ZtF σ τs (Zk7 x d')∧Z9 P ops post (ZiR σ d k' (Zk7 x d')) K):=rfl
theorem ZlV {d f:Nat} {x:V} {k:Int}:Znm P ops post σ K d f (some [x,.one (.l (.int .i64 k))])=wOp P ops post σ K d f x k (wrV σ x):=rfl
theorem ZkT {d f:Nat} {xs:Array Operand} {ts:Array TypeId} {ty:Nat} {pos:String} {af:Array Edge}:Znl P ops σ K (⟨some d,.call { callee:=.value (.func f),args:=xs,argTypes:=ts},ty,pos,af,none⟩::post)=Znm P ops post σ K d f (XE σ xs.toList):=rfl
end
def wr? {α:Type} (f:α→Int→α) (cn:α→Nat) (k:Int) (x:α):Option (α×Int):=if 0≤k∧k+cn x≤1099511627776 then some (f x k,k+cn x) else none
theorem Ke {α:Type} {f:α→Int→α} {cn:α→Nat} {k:Int} {x:α} {y:α×Int} (h:wr? f cn k x=some y):y.1=f x k∧y.2=k+cn x∧0≤k∧k+cn x≤1099511627776:=by
 unfold wr? at h
 split at h
 ·obtain rfl:=Option.some.inj h;exact ⟨rfl,rfl,by assumption⟩
 ·cases h
theorem ZoW {α:Type} {f:α→Int→α} {cn:α→Nat} {k:Int} {x:α} (h:0≤k) (h1:k+cn x≤1099511627776):wr? f cn k x=some (f x k,k+cn x):=by unfold wr?;rw [if_pos ⟨h,h1⟩]
def hd? (k:Int) (c:Nat):Option Int:=if 0≤k∧k+c≤1099511627776 then some (k+c) else none
theorem ZpL {k:Int} {c:Nat} {z:Int} (h:hd? k c=some z):z=k+c∧0≤k∧k+c≤1099511627776:=by
 unfold hd? at h
 split at h
 ·obtain rfl:=Option.some.inj h;exact ⟨rfl,by assumption⟩
 ·cases h
theorem Ztk {k:Int} {c:Nat} (h:0≤k) (h1:k+c≤1099511627776):hd? k c=some (k+c):=by unfold hd?;rw [if_pos ⟨h,h1⟩]
def ZjF {α:Type} (τs:List Nat):List (Nat×α)→Prop
 | []=>True
 | p::ps=>p.1∈τs∧ZjF τs ps
theorem Zm2 {α:Type} (τs:List Nat):ZjF (α:=α) τs []=True:=rfl
theorem Zgr {α:Type} (τs:List Nat) (p:Nat×α) (ps:List (Nat×α)):ZjF τs (p::ps)=(p.1∈τs∧ZjF τs ps):=rfl
theorem ZiJ {α:Type} (τs:List Nat):∀ps:List (Nat×α),ZjF τs ps↔∀p∈ps,p.1∈τs
 | []=>by simp [ZjF]
 | p::ps=>by rw [Zgr,ZiJ τs ps];simp
def ZuK (σ:St) (m:List (Nat×List (List L))) (τ:Nat):Prop:=∃A es,σ.ar.lookup τ=some (some A)∧m.lookup τ=some es∧A.es.length=es.length
def Zql (p:Nat→Prop):List Nat→Prop
 | []=>True
 | x::xs=>p x∧Zql p xs
theorem Zok (p:Nat→Prop):Zql p []=True:=rfl
theorem ZiK (p:Nat→Prop) (x:Nat) (xs:List Nat):Zql p (x::xs)=(p x∧Zql p xs):=rfl
theorem ZkM (p:Nat→Prop):∀xs:List Nat,Zql p xs↔∀x∈xs,p x
 | []=>by simp [Zql]
 | x::xs=>by rw [ZiK,ZkM p xs];simp
theorem Zqb (σ:St) (τs:List Nat) (m:List (Nat×List (List L))):ZtF σ τs m=(Zql (ZuK σ m) τs∧ZjF τs m):=by
 rw [ZkM,ZiJ];rfl
attribute [go_sem] Znk ZlV ZkT wrV wrL wrC Zk7 ZlO mkV mkC St.wrote ZiR Zqb Zok ZiK Zm2 Zgr ZuK
end Go.Proofs.YtfapaeabfcogkaaGreatDoor.Am
namespace Go.Proofs.YtfapaeabfcogkaaGreatDoor
open Go.RowKit Am
theorem JJ {α:Type} {cn:α→Nat} {f:α→Nat} {C:Nat}:∀(xs:List α),(∀x∈xs,cn x≤C*(1+f x))→cnS cn xs≤C*(xs.length+(xs.map f).sum)
 | [],_=>by simp [cnS]
 | x::xs,h=>by
  have h1:=h x (List.mem_cons_self ..)
  have h2:=JJ xs fun y hy=>h y (List.mem_cons_of_mem _ hy)
  simp only [cnS,List.length_cons,List.map_cons,List.sum_cons]
  rw [show xs.length+1+(f x+(xs.map f).sum)=(1+f x)+(xs.length+(xs.map f).sum) from by omega,Nat.mul_add]
  omega
end Go.Proofs.YtfapaeabfcogkaaGreatDoor
namespace Go.Proofs.YtfapaeabfcogkaaGreatDoor
open Go.RowKit Am
def Zj.d (x:Zj):D:=.agg [D.int x.id,D.int x.version,D.int x.kind,D.str x.name,D.str x.code,D.int x.n]
def Zj.mark (x:Zj) (k:Int):Zj:=⟨k,k+1,k+1+1,Jc (k+1+1+1),Jc (k+1+1+1+1),k+1+1+1+1+1⟩
def Zj.cn (x:Zj):Nat:=6
def Zj.ZS (xs:List Zj) (k:Int):List Zj:=mkL Zj.mark Zj.cn xs k
def Zj.cnL (xs:List Zj):Nat:=cnS Zj.cn xs
theorem Zj.Zz (xs:List Zj) (k:Int):Zj.ZS xs k=mkL Zj.mark Zj.cn xs k:=rfl
theorem Zj.ZJ (xs:List Zj):Zj.cnL xs=cnS Zj.cn xs:=rfl
theorem Zj.Vh (x:Zj) (k:Int):x.mark k=⟨k,k+1,k+1+1,Jc (k+1+1+1),Jc (k+1+1+1+1),k+1+1+1+1+1⟩:=rfl
theorem Zj.Ka (x:Zj):x.cn=6:=rfl
def Ze.d (x:Ze):D:=.agg [D.sl (x.cells.map Zj.d)]
def Ze.XF (x:Ze) (k:Int):Ze:=⟨Zj.ZS x.cells (k)⟩
def Ze.cnV (x:Ze):Nat:=Zj.cnL x.cells
theorem Ze.ZaD {k:Int} {x:Ze} {y:Ze×Int} (h:wr? Ze.XF Ze.cnV k x=some y):y.1.cells.length=x.cells.length:=by
 rw [(Ke h).1]
 simp only [Ze.XF,Zj.Zz,ZG,and_self]
def ZeL (_:ByteArray) (k:Int):ByteArray:=Jc k
def ZgM (_:ByteArray):Nat:=1
def QA (xs:List ByteArray) (k:Int):List ByteArray:=mkL ZeL ZgM xs k
def Z7 (xs:List ByteArray):Nat:=cnS ZgM xs
theorem QZ (xs:List ByteArray) (k:Int):QA xs k=mkL ZeL ZgM xs k:=rfl
theorem XI (xs:List ByteArray):Z7 xs=cnS ZgM xs:=rfl
def Ze9 (_:Int) (k:Int):Int:=k
def Zg6 (_:Int):Nat:=1
def XU (xs:List Int) (k:Int):List Int:=mkL Ze9 Zg6 xs k
def Qq (xs:List Int):Nat:=cnS Zg6 xs
theorem XG (xs:List Int) (k:Int):XU xs k=mkL Ze9 Zg6 xs k:=rfl
theorem XK (xs:List Int):Qq xs=cnS Zg6 xs:=rfl
def Zc.d (x:Zc):D:=.agg [D.int x.cell,D.int x.row]
def Zc.mark (x:Zc) (k:Int):Zc:=⟨k,k+1⟩
def Zc.cn (x:Zc):Nat:=2
def Zc.ZS (xs:List Zc) (k:Int):List Zc:=mkL Zc.mark Zc.cn xs k
def Zc.cnL (xs:List Zc):Nat:=cnS Zc.cn xs
theorem Zc.Zz (xs:List Zc) (k:Int):Zc.ZS xs k=mkL Zc.mark Zc.cn xs k:=rfl
theorem Zc.ZJ (xs:List Zc):Zc.cnL xs=cnS Zc.cn xs:=rfl
theorem Zc.Vh (x:Zc) (k:Int):x.mark k=⟨k,k+1⟩:=rfl
theorem Zc.Ka (x:Zc):x.cn=2:=rfl
def Zq.d (x:Zq):D:=.agg [D.sl (x.cells.map D.int),D.sl (x.from_.map Zc.d)]
def Zq.mark (x:Zq) (k:Int):Zq:=⟨XU x.cells (k),Zc.ZS x.from_ (k+((Qq x.cells:Nat):Int))⟩
def Zq.cn (x:Zq):Nat:=Qq x.cells+Zc.cnL x.from_
def Zq.ZS (xs:List Zq) (k:Int):List Zq:=mkL Zq.mark Zq.cn xs k
def Zq.cnL (xs:List Zq):Nat:=cnS Zq.cn xs
theorem Zq.Zz (xs:List Zq) (k:Int):Zq.ZS xs k=mkL Zq.mark Zq.cn xs k:=rfl
theorem Zq.ZJ (xs:List Zq):Zq.cnL xs=cnS Zq.cn xs:=rfl
theorem Zq.Vh (x:Zq) (k:Int):x.mark k=⟨XU x.cells (k),Zc.ZS x.from_ (k+((Qq x.cells:Nat):Int))⟩:=rfl
theorem Zq.Ka (x:Zq):x.cn=Qq x.cells+Zc.cnL x.from_:=rfl
mutual
def Za.d:Za→D
 | ⟨kind,n,step,text,list,columns,rows⟩=>.agg [D.int kind,D.int n,D.int step,D.str text,D.sl (Za.ds list),D.sl (columns.map D.str),D.sl (rows.map Zq.d)]
def Za.ds:List Za→List D
 | []=>[]
 | x::xs=>Za.d x::Za.ds xs
end
theorem Za.ZoN:∀xs:List Za,Za.ds xs=xs.map Za.d
 | []=>rfl
 | x::xs=>by rw [Za.ds,Za.ZoN xs];rfl
theorem Za.Zng (x:Za):x.d= .agg [D.int x.kind,D.int x.n,D.int x.step,D.str x.text,D.sl (x.list.map Za.d),D.sl (x.columns.map D.str),D.sl (x.rows.map Zq.d)]:=by
 cases x;simp only [Za.d,Za.ZoN]
mutual
def Za.cn:Za→Nat
 | ⟨kind,n,step,text,list,columns,rows⟩=>4+Za.cnL list+Z7 columns+Zq.cnL rows
def Za.cnL:List Za→Nat
 | []=>0
 | x::xs=>Za.cn x+Za.cnL xs
end
mutual
def Za.mark:Za→Int→Za
 | ⟨kind,n,step,text,list,columns,rows⟩,k=>⟨k,k+1,k+1+1,Jc (k+1+1+1),Za.ZS list (k+1+1+1+1),QA columns (k+1+1+1+1+((Za.cnL list:Nat):Int)),Zq.ZS rows (k+1+1+1+1+((Za.cnL list:Nat):Int)+((Z7 columns:Nat):Int))⟩
def Za.ZS:List Za→Int→List Za
 | [],_=>[]
 | x::xs,k=>Za.mark x k::Za.ZS xs (k+(Za.cn x:Nat))
end
theorem Za.ZJ:∀xs:List Za,Za.cnL xs=cnS Za.cn xs
 | []=>by simp only [Za.cnL,cnS]
 | x::xs=>by simp only [Za.cnL,cnS,Za.ZJ xs]
theorem Za.Zz:∀(xs:List Za) (k:Int),Za.ZS xs k=mkL Za.mark Za.cn xs k
 | [],_=>by simp only [Za.ZS,mkL]
 | x::xs,k=>by simp only [Za.ZS,mkL,Za.Zz xs]
theorem Za.Vh (x:Za) (k:Int):x.mark k=⟨k,k+1,k+1+1,Jc (k+1+1+1),Za.ZS x.list (k+1+1+1+1),QA x.columns (k+1+1+1+1+((Za.cnL x.list:Nat):Int)),Zq.ZS x.rows (k+1+1+1+1+((Za.cnL x.list:Nat):Int)+((Z7 x.columns:Nat):Int))⟩:=by cases x;simp only [Za.mark]
theorem Za.Ka (x:Za):x.cn=4+Za.cnL x.list+Z7 x.columns+Zq.cnL x.rows:=by cases x;simp only [Za.cn]
def Za.XF (x:Za) (k:Int):Za:=⟨x.kind,x.n,x.step,x.text,Za.ZS x.list (k),QA x.columns (k+((Za.cnL x.list:Nat):Int)),Zq.ZS x.rows (k+((Za.cnL x.list:Nat):Int)+((Z7 x.columns:Nat):Int))⟩
def Za.cnV (x:Za):Nat:=Za.cnL x.list+Z7 x.columns+Zq.cnL x.rows
theorem Za.ZaD {k:Int} {x:Za} {y:Za×Int} (h:wr? Za.XF Za.cnV k x=some y):y.1.list.length=x.list.length∧y.1.columns.length=x.columns.length∧y.1.rows.length=x.rows.length:=by
 rw [(Ke h).1]
 simp only [Za.XF,Zq.Zz,Za.Zz,QZ,ZG,and_self]
def Zo.d (x:Zo):D:=.agg [D.int x.kind,D.int x.n,D.int x.time,D.str x.text,Za.d x.result]
def Zo.mark (x:Zo) (k:Int):Zo:=⟨k,k+1,k+1+1,Jc (k+1+1+1),⟨k+1+1+1+1,k+1+1+1+1+1,k+1+1+1+1+1+1,Jc (k+1+1+1+1+1+1+1),Za.ZS x.result.list (k+1+1+1+1+1+1+1+1),QA x.result.columns (k+1+1+1+1+1+1+1+1+((Za.cnL x.result.list:Nat):Int)),Zq.ZS x.result.rows (k+1+1+1+1+1+1+1+1+((Za.cnL x.result.list:Nat):Int)+((Z7 x.result.columns:Nat):Int))⟩⟩
def Zo.cn (x:Zo):Nat:=8+Za.cnL x.result.list+Z7 x.result.columns+Zq.cnL x.result.rows
def Zo.ZS (xs:List Zo) (k:Int):List Zo:=mkL Zo.mark Zo.cn xs k
def Zo.cnL (xs:List Zo):Nat:=cnS Zo.cn xs
theorem Zo.Zz (xs:List Zo) (k:Int):Zo.ZS xs k=mkL Zo.mark Zo.cn xs k:=rfl
theorem Zo.ZJ (xs:List Zo):Zo.cnL xs=cnS Zo.cn xs:=rfl
theorem Zo.Vh (x:Zo) (k:Int):x.mark k=⟨k,k+1,k+1+1,Jc (k+1+1+1),⟨k+1+1+1+1,k+1+1+1+1+1,k+1+1+1+1+1+1,Jc (k+1+1+1+1+1+1+1),Za.ZS x.result.list (k+1+1+1+1+1+1+1+1),QA x.result.columns (k+1+1+1+1+1+1+1+1+((Za.cnL x.result.list:Nat):Int)),Zq.ZS x.result.rows (k+1+1+1+1+1+1+1+1+((Za.cnL x.result.list:Nat):Int)+((Z7 x.result.columns:Nat):Int))⟩⟩:=rfl
theorem Zo.Ka (x:Zo):x.cn=8+Za.cnL x.result.list+Z7 x.result.columns+Zq.cnL x.result.rows:=rfl
def Zn.d (x:Zn):D:=.agg [D.int x.cell,D.int x.version,D.sl (x.reads.map Zo.d)]
def Zn.mark (x:Zn) (k:Int):Zn:=⟨k,k+1,Zo.ZS x.reads (k+1+1)⟩
def Zn.cn (x:Zn):Nat:=2+Zo.cnL x.reads
def Zn.ZS (xs:List Zn) (k:Int):List Zn:=mkL Zn.mark Zn.cn xs k
def Zn.cnL (xs:List Zn):Nat:=cnS Zn.cn xs
theorem Zn.Zz (xs:List Zn) (k:Int):Zn.ZS xs k=mkL Zn.mark Zn.cn xs k:=rfl
theorem Zn.ZJ (xs:List Zn):Zn.cnL xs=cnS Zn.cn xs:=rfl
theorem Zn.Vh (x:Zn) (k:Int):x.mark k=⟨k,k+1,Zo.ZS x.reads (k+1+1)⟩:=rfl
theorem Zn.Ka (x:Zn):x.cn=2+Zo.cnL x.reads:=rfl
def Qf.d (x:Qf):D:=.agg [D.sl (x.values.map Za.d),D.sl (x.tapes.map Zn.d),D.int x.steps]
def Qf.XF (x:Qf) (k:Int):Qf:=⟨Za.ZS x.values (k),Zn.ZS x.tapes (k+((Za.cnL x.values:Nat):Int)),x.steps⟩
def Qf.cnV (x:Qf):Nat:=Za.cnL x.values+Zn.cnL x.tapes
theorem Qf.ZaD {k:Int} {x:Qf} {y:Qf×Int} (h:wr? Qf.XF Qf.cnV k x=some y):y.1.values.length=x.values.length∧y.1.tapes.length=x.tapes.length:=by
 rw [(Ke h).1]
 simp only [Qf.XF,Zn.Zz,Za.Zz,ZG,and_self]
end Go.Proofs.YtfapaeabfcogkaaGreatDoor
