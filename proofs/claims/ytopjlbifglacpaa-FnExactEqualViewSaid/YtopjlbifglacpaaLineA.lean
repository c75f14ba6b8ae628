/- The size count of a line and of a slice of lines. -/
import Derived.Test.YtopjlbifglacpaaBase
namespace Go.Proofs.Ytopjlbifglacpaa
open Go.RowKit

structure Line where
  cell : Int
  fresh : Bool
  text : ByteArray
def Line.d (l : Line) : D := .agg [.int l.cell, .bool l.fresh, .str l.text]

theorem Line.rep {w : World} {l : Line} {cs : List Value} {F : List Nat} (h : Rep w l.d cs F) :
    cs = [.int .i64 l.cell, .bool l.fresh, .string l.text] ∧ F = [] ∧ I64 l.cell ∧ l.text.size ≤ 9223372036854775807 := by
  simp only [Line.d, Rep, RepL] at h
  obtain ⟨_, _, _, _, rfl, rfl, ⟨rfl, rfl, h1⟩, _, _, _, _, rfl, rfl, ⟨rfl, rfl⟩, _, _, _, _, rfl, rfl, ⟨rfl, rfl, h2⟩, rfl, rfl⟩ := h
  exact ⟨rfl, rfl, h1, h2⟩

theorem szLine_yes (a : Int) (b : Bool) (s : ByteArray) (left : Int) (w : World) (h0 : (s.size : Int) ≤ left) (h1 : left ≤ 1048576) :
    Calls Try.prog 59 #[.agg #[.int .i64 a, .bool b, .string s], .int .i64 left] w fun e w' =>
      e = .returned (.int .i64 (left - s.size)) ∧ Below w.heap.size w w' := by
  go_enter Try.func59, Try.ntmps59
  go_wp2
  go_ret
  exact ⟨rfl, (Below.refl _ _).alloc (Nat.le_refl _) _⟩
theorem szLine_no (a : Int) (b : Bool) (s : ByteArray) (left : Int) (w : World) (h0 : left < (s.size : Int)) (h1 : 0 ≤ left) (h2 : s.size ≤ 9223372036854775807) :
    Calls Try.prog 59 #[.agg #[.int .i64 a, .bool b, .string s], .int .i64 left] w fun e w' =>
      e = .returned (.int .i64 (-1)) ∧ Below w.heap.size w w' := by
  go_enter Try.func59, Try.ntmps59
  go_wp2
  go_ret
  exact ⟨rfl, (Below.refl _ _).alloc (Nat.le_refl _) _⟩
end Go.Proofs.Ytopjlbifglacpaa
