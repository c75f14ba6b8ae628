/- EditEngineAll: the program's and the reference's answer alike. -/
import Derived.Test.YtbknilpmpjjfpaaGreatEditEngineL
import Derived.Test.YtbknilpmpjjfpaaGreatMd4
set_option linter.unusedSimpArgs false
set_option linter.unusedVariables false
namespace Go.Proofs.YtbknilpmpjjfpaaGreat
open Go.RowKit Am
def editsE (e : TEngine) (xs : List TEdit) : TEngine × List Int := xs.foldl (fun s x => ((editE s.1 x).1, s.2 ++ [(editE s.1 x).2])) (e, [])
theorem editsE_succ (e : TEngine) (xs : List TEdit) {i : Nat} (h : i < xs.length) : editsE e (xs.take (i + 1)) = ((editE (editsE e (xs.take i)).1 xs[i]).1, (editsE e (xs.take i)).2 ++ [(editE (editsE e (xs.take i)).1 xs[i]).2]) := by
  unfold editsE
  rw [List.take_succ_eq_append_getElem h, List.foldl_append]
  rfl
theorem editsE_bk (e : TEngine) (hn : e.notebook.bk ≤ 1048576) (xs : List TEdit) (hx : ∀ x ∈ xs, x.bk ≤ 1048576) : ∀ i, i ≤ xs.length → (editsE e (xs.take i)).1.notebook.bk ≤ 1048576 ∧ restB (editsE e (xs.take i)).1 ≤ restB e ∧ (editsE e (xs.take i)).2.length = i
  | 0, _ => ⟨hn, Nat.le_refl _, rfl⟩
  | i + 1, h => by
    obtain ⟨h1, h2, h3⟩ := editsE_bk e hn xs hx i (by omega)
    obtain ⟨q1, q2⟩ := editE_bk _ h1 xs[i] (hx _ (List.getElem_mem (by omega)))
    rw [editsE_succ e xs (by omega)]
    exact ⟨q1, Nat.le_trans q2 h2, by simp [h3]⟩
theorem EditEngineAll_agree (e : TEngine) (_h : DOkL e.c) (b : e.bk ≤ 1048576) (xs : List TEdit) (_hx : DOk (.sl (xs.map TEdit.c))) (bx : bkS TEdit.bk xs ≤ 1048576) :
    ∃ v : TEngine × List Int, v.1.bk ≤ 1073741824 ∧ bkS (fun _ => 0) v.2 ≤ 1073741824 ∧ Ev fun k => s_EditEngineAll k e xs = some v ∧ i_EditEngineAll k e xs = some v := by
  have hb := rest_eq e
  have hl := bkS_len (f := TEdit.bk) (xs := xs)
  have hxb : ∀ x ∈ xs, x.bk ≤ 1048576 := fun x hx => by have := bkS_get (f := TEdit.bk) hx; omega
  have hB := editsE_bk e (by omega) xs hxb
  have hs := s_engineCopy e (by omega)
  have hi := i_engineCopy e (by omega)
  have hev : Ev fun k => ∀ i ∈ List.range xs.length, ∀ h : i < xs.length, s_EditEngine k (editsE e (xs.take i)).1 xs[i] = some (editE (editsE e (xs.take i)).1 xs[i]) ∧ i_EditEngine k (editsE e (xs.take i)).1 xs[i] = some (editE (editsE e (xs.take i)).1 xs[i]) :=
    Ev.all _ fun i hi => by
      have hil : i < xs.length := by simpa using hi
      obtain ⟨h1, h2, _⟩ := hB i (by omega)
      exact (EditEngine_eq _ h1 (by omega) xs[i] (hxb _ (List.getElem_mem hil))).mono fun k hk _ => hk
  obtain ⟨f1, f2, f3⟩ := hB xs.length (Nat.le_refl _)
  rw [List.take_length] at f1 f2 f3
  have f4 := rest_eq (editsE e xs).1
  refine ⟨editsE e xs, by omega, by rw [bkS_0]; omega, ((hs.and hi).and (hev.and (Ev.ge (xs.length + 1)))).mono ?_⟩
  rintro k ⟨⟨h1, h2⟩, h3, hk⟩
  have loopS := loopE (fun n (s : TEngine × List Int) i => s_EditEngineAll_u1 k xs n s.1.notebook.cells s.1.world.clock s.1.world.seed s.1.world.files s.1.tapes s.1.entries s.1.next s.1.limit s.1.work s.2 i) (fun i => editsE e (xs.take i))
    (some ((editsE e xs).1.notebook.cells, (editsE e xs).1.world.clock, (editsE e xs).1.world.seed, (editsE e xs).1.world.files, (editsE e xs).1.tapes, (editsE e xs).1.entries, (editsE e xs).1.next, (editsE e xs).1.limit, (editsE e xs).1.work, (editsE e xs).2)) xs.length
    (fun n i hi => by
      try simp only
      have hx := (h3 i (by simpa using hi) hi).1
      obtain ⟨_, _, hc⟩ := hB i (by omega)
      rw [s_EditEngineAll_u1, if_pos (lt_yes hi), at_in hi, Option.bind_some, show (TEngine.mk (TNotebook.mk (editsE e (xs.take i)).1.notebook.cells) (TWorld.mk (editsE e (xs.take i)).1.world.clock (editsE e (xs.take i)).1.world.seed (editsE e (xs.take i)).1.world.files) (editsE e (xs.take i)).1.tapes (editsE e (xs.take i)).1.entries (editsE e (xs.take i)).1.next (editsE e (xs.take i)).1.limit (editsE e (xs.take i)).1.work) = (editsE e (xs.take i)).1 from rfl, hx, Option.bind_some, app_big (by simp; omega) (by omega), Option.bind_some, wS i (by omega), editsE_succ e xs hi])
    (fun n => by
      try simp only
      rw [s_EditEngineAll_u1, if_neg (lt_no (Nat.le_refl _)), List.take_length]) (k := k) (by omega)
  have loopI := loopE (fun n (s : TEngine × List Int) i => i_EditEngineAll_u1 k xs n s.1.notebook.cells s.1.world.clock s.1.world.seed s.1.world.files s.1.tapes s.1.entries s.1.next s.1.limit s.1.work s.2 i) (fun i => editsE e (xs.take i))
    (some ((editsE e xs).1.notebook.cells, (editsE e xs).1.world.clock, (editsE e xs).1.world.seed, (editsE e xs).1.world.files, (editsE e xs).1.tapes, (editsE e xs).1.entries, (editsE e xs).1.next, (editsE e xs).1.limit, (editsE e xs).1.work, (editsE e xs).2)) xs.length
    (fun n i hi => by
      try simp only
      have hx := (h3 i (by simpa using hi) hi).2
      obtain ⟨_, _, hc⟩ := hB i (by omega)
      rw [i_EditEngineAll_u1, if_pos (lt_yes hi), at_in hi, Option.bind_some, show (TEngine.mk (TNotebook.mk (editsE e (xs.take i)).1.notebook.cells) (TWorld.mk (editsE e (xs.take i)).1.world.clock (editsE e (xs.take i)).1.world.seed (editsE e (xs.take i)).1.world.files) (editsE e (xs.take i)).1.tapes (editsE e (xs.take i)).1.entries (editsE e (xs.take i)).1.next (editsE e (xs.take i)).1.limit (editsE e (xs.take i)).1.work) = (editsE e (xs.take i)).1 from rfl, hx, Option.bind_some, app_big (by simp; omega) (by omega), Option.bind_some, wS i (by omega), editsE_succ e xs hi])
    (fun n => by
      try simp only
      rw [i_EditEngineAll_u1, if_neg (lt_no (Nat.le_refl _)), List.take_length]) (k := k) (by omega)
  simp only [List.take_zero] at loopS loopI
  unfold s_EditEngineAll i_EditEngineAll
  rw [h1, h2]
  simp only [Option.bind_some]
  have e0 : editsE e [] = (e, []) := rfl
  rw [e0] at loopS loopI
  rw [loopS, loopI]
  exact ⟨rfl, rfl⟩
end Go.Proofs.YtbknilpmpjjfpaaGreat
