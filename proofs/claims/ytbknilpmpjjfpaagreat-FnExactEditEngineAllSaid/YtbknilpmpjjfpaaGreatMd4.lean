/- Functions that mirror the program's own, one each. Written by a program of mine. -/
import Derived.Test.YtbknilpmpjjfpaaGreatSx
import Derived.Test.YtbknilpmpjjfpaaGreatMd1
import Derived.Test.YtbknilpmpjjfpaaGreatMd2
import Derived.Test.YtbknilpmpjjfpaaGreatMd3
set_option linter.unusedSimpArgs false
set_option linter.unusedVariables false
namespace Go.Proofs.YtbknilpmpjjfpaaGreat
open Go.RowKit Am
def s_EditEngineAll_u1 (k : Nat) (a1 : List TEdit) : Nat → (List TCell) → Int → Int → (List TFile) → (List TTape) → (List TEntry) → Int → Int → Int → (List Int) → Int → Option ((List TCell) × Int × Int × (List TFile) × (List TTape) × (List TEntry) × Int × Int × Int × (List Int))
  | 0, _, _, _, _, _, _, _, _, _, _, _ => none
  | n_ + 1, x12, x13, x14, x15, x16, x17, x18, x19, x20, x21, x22 =>
    if (decide (x22 < (a1.length : Int))) then
      (at? a1 x22).bind fun x23 =>
      (s_EditEngine k (TEngine.mk (TNotebook.mk x12) (TWorld.mk x13 x14 x15) x16 x17 x18 x19 x20) x23).bind fun x24 =>
      (app? 8 x21 [x24.2]).bind fun x25 =>
      s_EditEngineAll_u1 k a1 n_ x24.1.notebook.cells x24.1.world.clock x24.1.world.seed x24.1.world.files x24.1.tapes x24.1.entries x24.1.next x24.1.limit x24.1.work x25 (IntKind.i64.wrap (x22 + 1))
    else
      some (x12, x13, x14, x15, x16, x17, x18, x19, x20, x21)
def s_EditEngineAll (k : Nat) (a0 : TEngine) (a1 : List TEdit) : Option (TEngine × (List Int)) :=
  (s_l28Copy k a0).bind fun x1 =>
  (s_EditEngineAll_u1 k a1 k x1.notebook.cells x1.world.clock x1.world.seed x1.world.files x1.tapes x1.entries x1.next x1.limit x1.work ([] : List Int) 0).bind fun (x2, x3, x4, x5, x6, x7, x8, x9, x10, x11) =>
  some ((TEngine.mk (TNotebook.mk x2) (TWorld.mk x3 x4 x5) x6 x7 x8 x9 x10), x11)
def i_EditEngineAll_u1 (k : Nat) (a1 : List TEdit) : Nat → (List TCell) → Int → Int → (List TFile) → (List TTape) → (List TEntry) → Int → Int → Int → (List Int) → Int → Option ((List TCell) × Int × Int × (List TFile) × (List TTape) × (List TEntry) × Int × Int × Int × (List Int))
  | 0, _, _, _, _, _, _, _, _, _, _, _ => none
  | n_ + 1, x12, x13, x14, x15, x16, x17, x18, x19, x20, x21, x22 =>
    if (decide (x22 < (a1.length : Int))) then
      (at? a1 x22).bind fun x23 =>
      (i_EditEngine k (TEngine.mk (TNotebook.mk x12) (TWorld.mk x13 x14 x15) x16 x17 x18 x19 x20) x23).bind fun x24 =>
      (app? 8 x21 [x24.2]).bind fun x25 =>
      i_EditEngineAll_u1 k a1 n_ x24.1.notebook.cells x24.1.world.clock x24.1.world.seed x24.1.world.files x24.1.tapes x24.1.entries x24.1.next x24.1.limit x24.1.work x25 (IntKind.i64.wrap (x22 + 1))
    else
      some (x12, x13, x14, x15, x16, x17, x18, x19, x20, x21)
def i_EditEngineAll (k : Nat) (a0 : TEngine) (a1 : List TEdit) : Option (TEngine × (List Int)) :=
  (i_copyEngine k a0).bind fun x1 =>
  (i_EditEngineAll_u1 k a1 k x1.notebook.cells x1.world.clock x1.world.seed x1.world.files x1.tapes x1.entries x1.next x1.limit x1.work ([] : List Int) 0).bind fun (x2, x3, x4, x5, x6, x7, x8, x9, x10, x11) =>
  some ((TEngine.mk (TNotebook.mk x2) (TWorld.mk x3 x4 x5) x6 x7 x8 x9 x10), x11)
end Go.Proofs.YtbknilpmpjjfpaaGreat
