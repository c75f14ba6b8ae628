/- Places of cells and entries. -/
import Derived.Test.YtbknilpmpjjfpaaGreatPkC
import Derived.Test.YtbknilpmpjjfpaaGreatLs
import Derived.Test.YtbknilpmpjjfpaaGreatMd0
import Derived.Test.YtbknilpmpjjfpaaGreatMd2
import Derived.Test.YtbknilpmpjjfpaaGreatEq2
set_option linter.unusedSimpArgs false
set_option linter.unusedVariables false
namespace Go.Proofs.YtbknilpmpjjfpaaGreat
open Go.RowKit Am
def cix (nb : TNotebook) (id : Int) : Int := find1 (fun x : TCell => decide (x.id = id)) nb.cells
theorem s_CellIndex_eq (nb : TNotebook) (id : Int) (hl : nb.cells.length ≤ 4294967296) {k : Nat} (hk : nb.cells.length < k) : s_CellIndex k nb id = some (cix nb id) := by
  unfold s_CellIndex cix find1
  rw [find_loop nb.cells (fun x => decide (x.id = id)) (s_CellIndex_u1 nb id) (fun i => some (.inr (i : Int))) (some (.inl ()))
    (fun n i h hp => by rw [s_CellIndex_u1, if_pos (lt_yes h), at_in h, Option.bind_some, if_neg (by simpa using hp), wS i (by omega)])
    (fun n i h hp => by rw [s_CellIndex_u1, if_pos (lt_yes h), at_in h, Option.bind_some, if_pos hp])
    (fun n => by rw [s_CellIndex_u1, if_neg (lt_no (Nat.le_refl _))]) hk]
  split <;> rfl
theorem i_CellIndex_eq (nb : TNotebook) (id : Int) (hl : nb.cells.length ≤ 4294967296) {k : Nat} (hk : nb.cells.length < k) : i_CellIndex k nb id = some (cix nb id) := by
  rw [i_CellIndex_eqv]; exact s_CellIndex_eq nb id hl hk
theorem nb_len (nb : TNotebook) : nb.cells.length ≤ nb.bk := by rw [TNotebook.bk_eq]; have := bkS_len (f := TCell.bk) (xs := nb.cells); omega
end Go.Proofs.YtbknilpmpjjfpaaGreat
