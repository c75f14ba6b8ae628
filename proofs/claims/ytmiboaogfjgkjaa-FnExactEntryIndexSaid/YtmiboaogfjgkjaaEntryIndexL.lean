/- EntryIndex: the program's and the reference's answer alike. -/
import Derived.Test.YtmiboaogfjgkjaaPkC
import Derived.Test.YtmiboaogfjgkjaaLs
import Derived.Test.YtmiboaogfjgkjaaMd2
import Derived.Test.YtmiboaogfjgkjaaEq2
set_option linter.unusedSimpArgs false
set_option linter.unusedVariables false
namespace Go.Proofs.Ytmiboaogfjgkjaa
open Go.RowKit Am

/-- The place of the entry of this cell. -/
def eix (e : TEngine) (id : Int) : Int := find1 (fun x : TEntry => decide (x.cell = id)) e.entries
theorem s_EntryIndex_eq (e : TEngine) (id : Int) (hl : e.entries.length ≤ 4294967296) {k : Nat} (hk : e.entries.length < k) : s_EntryIndex k e id = some (eix e id) := by
  unfold s_EntryIndex eix find1
  rw [find_loop e.entries (fun x => decide (x.cell = id)) (s_EntryIndex_u1 e id) (fun i => some (.inr (i : Int))) (some (.inl ()))
    (fun n i h hp => by rw [s_EntryIndex_u1, if_pos (lt_yes h), at_in h, Option.bind_some, if_neg (by simpa using hp), wS i (by omega)])
    (fun n i h hp => by rw [s_EntryIndex_u1, if_pos (lt_yes h), at_in h, Option.bind_some, if_pos hp])
    (fun n => by rw [s_EntryIndex_u1, if_neg (lt_no (Nat.le_refl _))]) hk]
  split <;> rfl
theorem en_len (e : TEngine) : e.entries.length ≤ e.bk := by rw [TEngine.bk_eq]; have := bkS_len (f := TEntry.bk) (xs := e.entries); omega
theorem EntryIndex_agree (e : TEngine) (_h : DOkL e.c) (b : e.bk ≤ 1048576) (id : Int) (_hi : DOk (.int .i64 id)) : ∃ v, Ev fun k => s_EntryIndex k e id = some v ∧ i_EntryIndex k e id = some v := by
  have := en_len e
  refine ⟨eix e id, (Ev.ge (e.entries.length + 1)).mono fun k hk => ?_⟩
  rw [i_EntryIndex_eqv, s_EntryIndex_eq e id (by omega) (by omega)]
  exact ⟨rfl, rfl⟩
end Go.Proofs.Ytmiboaogfjgkjaa
