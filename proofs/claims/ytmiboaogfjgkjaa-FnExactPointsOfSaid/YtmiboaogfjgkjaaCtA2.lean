/- Contracts of the program's functions: where the mirrored function answers, the program's function returns this answer. Written by a program of mine. -/
import Derived.Test.YtmiboaogfjgkjaaWn
import Derived.Test.YtmiboaogfjgkjaaMdA2
import Derived.Test.YtmiboaogfjgkjaaCtA1
set_option linter.unusedSimpArgs false
set_option linter.unusedVariables false
namespace Go.Proofs.Ytmiboaogfjgkjaa
open Go.RowKit Am
set_option maxHeartbeats 4000000
set_option maxRecDepth 100000
theorem w_szRow_ctr (a0 : TRow) (a1 : Int) (r : Int) (hM : w_szRow a0 a1 = some r) : Ctr Try.prog 159 [.agg (TRow.c a0), .one (.int .i64 a1)] true [.one (.int .i64 r)] := by
  unfold w_szRow at hM
  refine walkM Try.func159 Try.ntmps159 Try.results159 fun N w0 hbad F => ?_
  refine AW_sr fun K h => ?_; simp [go_sem, F]; refine h _ ?_; obtain ⟨x1, e1, hM⟩ := bind_some hM; refine AW_sr fun K h => ?_; simp [go_sem, F]; refine by_c false (w_szIntS_ctr a0.cells a1 x1 e1) ?_; simp [go_sem, F]; refine h _ ?_; refine AW_seq fun K2 hK2 => ?_; refine AW_sr fun K h => ?_; simp [go_sem, F]; refine h _ ?_; refine AW_if hM (fun h3 hM => ?_) (fun h3 hM => ?_)
  · have g := h3; (try simp at g); have F := And.intro F (And.intro h3 (And.intro g (lT h3))); refine AW_sr fun K h => ?_; simp [go_sem, F]; refine h _ ?_; obtain rfl := si hM; refine AW_ret ?_; simp [go_sem, F]
  · have g := h3; (try simp at g); have F := And.intro F (And.intro h3 (And.intro g (lF h3))); refine AW_skip ?_; refine hK2 _ ?_; obtain ⟨x2, e4, hM⟩ := bind_some hM; refine AW_sr fun K h => ?_; simp [go_sem, F]; refine by_c false (w_szOriginS_ctr a0.from_ x1 x2 e4) ?_; simp [go_sem, F]; refine h _ ?_; refine AW_seq fun K5 hK5 => ?_; refine AW_sr fun K h => ?_; simp [go_sem, F]; refine h _ ?_; refine AW_if hM (fun h6 hM => ?_) (fun h6 hM => ?_)
    · have g := h6; (try simp at g); have F := And.intro F (And.intro h6 (And.intro g (lT h6))); refine AW_sr fun K h => ?_; simp [go_sem, F]; refine h _ ?_; obtain rfl := si hM; refine AW_ret ?_; simp [go_sem, F]
    · have g := h6; (try simp at g); have F := And.intro F (And.intro h6 (And.intro g (lF h6))); refine AW_skip ?_; refine hK5 _ ?_; refine AW_sr fun K h => ?_; simp [go_sem, F]; refine h _ ?_; obtain rfl := si hM; refine AW_ret ?_; simp [go_sem, F]
theorem w_szRowS_ctr (k : Nat) (a0 : List TRow) (a1 : Int) (r : Int) (hM : w_szRowS k a0 a1 = some r) : Ctr Try.prog 111 [.one (.sl (a0.map TRow.c)), .one (.int .i64 a1)] true [.one (.int .i64 r)] := by
  unfold w_szRowS at hM
  refine walkM Try.func111 Try.ntmps111 Try.results111 fun N w0 hbad F => ?_
  refine AW_sr fun K h => ?_; simp [go_sem, F]; refine h _ ?_; refine AW_sr fun K h => ?_; simp [go_sem, F]; refine h _ ?_; refine AW_seq fun K1 hK1 => ?_; refine AW_sr fun K h => ?_; simp [go_sem, F]; refine h _ ?_; refine AW_if hM (fun h2 hM => ?_) (fun h2 hM => ?_)
  · have g := h2; (try simp at g); have F := And.intro F (And.intro h2 (And.intro g (lT h2))); refine AW_sr fun K h => ?_; simp [go_sem, F]; refine h _ ?_; obtain rfl := si hM; refine AW_ret ?_; simp [go_sem, F]
  · have g := h2; (try simp at g); have F := And.intro F (And.intro h2 (And.intro g (lF h2))); refine AW_skip ?_; refine hK1 _ ?_; obtain ⟨e3, hU5, hR4⟩ := bind_some hM; clear hM; refine AW_mid (ι := Int) (fun i => ⟨27, [(1, .one (.l (.int .i64 i)))], [], []⟩) (fun i => (.inl i) = e3) ?_ ?_
    · intro K6 hK6; have hM := hU5; clear hU5; refine AW_sr fun K h => ?_; simp [go_sem, F]; refine h _ ?_; refine AW_block ?_; refine AW_lp (ι := Int × Int) (fun i => ⟨27, [(0, .one (.l (.sl (a0.map TRow.c)))), (1, .one (.l (.int .i64 i.1))), (5, .one (.l (.int .i64 i.2)))], [], []⟩) (fun n i => w_szRowS_u1 a0 n i.1 i.2 = some e3) k ((IntKind.i64.wrap (a1 - (a0.length : Int))), 0) hM (by simp [w_szRowS_u1]) ?_
      intro KL7 n ⟨x2, x3⟩ hL7 hM F; have hM : w_szRowS_u1 a0 (n + 1) x2 x3 = some e3 := hM; rw [w_szRowS_u1] at hM; refine AW_seq fun K8 hK8 => ?_; refine AW_sr fun K h => ?_; simp [go_sem, F]; refine h _ ?_; refine AW_if hM (fun h9 hM => ?_) (fun h9 hM => ?_)
      · have g := h9; (try simp at g); have F := And.intro F (And.intro h9 (And.intro g (lT h9))); refine AW_skip ?_; refine hK8 _ ?_; refine AW_seq fun K10 hK10 => ?_; refine AW_block ?_; obtain ⟨x4, e11, hM⟩ := bind_some hM; have F := And.intro F (at_f e11); obtain ⟨x5, e12, hM⟩ := bind_some hM; refine AW_sr fun K h => ?_; simp [go_sem, F]; refine by_c false (w_szRow_ctr x4 x2 x5 e12) ?_; simp [go_sem, F]
        refine h _ ?_; refine AW_sr fun K h => ?_; simp [go_sem, F]; refine h _ ?_; refine AW_if hM (fun h13 hM => ?_) (fun h13 hM => ?_)
        · have g := h13; (try simp at g); have F := And.intro F (And.intro h13 (And.intro g (lT h13))); refine AW_sr fun K h => ?_; simp [go_sem, F]; refine h _ ?_; obtain rfl := si hM; have hM := hR4; dsimp only at hM; obtain rfl := si hM; refine AW_ret ?_; simp [go_sem, F]
        · have g := h13; (try simp at g); have F := And.intro F (And.intro h13 (And.intro g (lF h13))); refine AW_skip ?_; refine hK10 _ ?_; refine AW_region ?_; simp [go_sem, F]; exact fin hL7 (x5, (IntKind.i64.wrap (x3 + 1))) hM
      · have g := h9; (try simp at g); have F := And.intro F (And.intro h9 (And.intro g (lF h9))); refine AW_exit ?_; obtain rfl := si hM; exact fin hK6 x2 rfl
    · rintro x1 rfl; have hM := hR4; dsimp only at hM; refine AW_sr fun K h => ?_; simp [go_sem, F]; refine h _ ?_; obtain rfl := si hM; refine AW_ret ?_; simp [go_sem, F]
theorem w_szValue_all : ∀ (k : Nat), (∀ (a0 : TValue) (a1 : Int) (r : Int) (hM : w_szValue k a0 a1 = some r), Ctr Try.prog 55 [.agg (TValue.c a0), .one (.int .i64 a1)] true [.one (.int .i64 r)]) ∧
    (∀ (a0 : List TValue) (a1 : Int) (r : Int) (hM : w_szValueS k a0 a1 = some r), Ctr Try.prog 75 [.one (.sl (a0.map TValue.c)), .one (.int .i64 a1)] true [.one (.int .i64 r)]) := by
  intro k
  induction k with
  | zero => exact ⟨by intro a0 a1 r hM; simp [w_szValue] at hM, by intro a0 a1 r hM; simp [w_szValueS] at hM⟩
  | succ k ih =>
    obtain ⟨ih_w_szValue, ih_w_szValueS⟩ := ih
    refine ⟨?_, ?_⟩
    · intro a0 a1 r hM
      rw [w_szValue] at hM
      refine walkM Try.func55 Try.ntmps55 Try.results55 fun N w0 hbad F => ?_
      refine AW_sr fun K h => ?_; simp [go_sem, F]; refine h _ ?_; refine AW_sr fun K h => ?_; simp [go_sem, F]; refine h _ ?_; refine AW_seq fun K1 hK1 => ?_; refine AW_sr fun K h => ?_; simp [go_sem, F]; refine h _ ?_; refine AW_if hM (fun h2 hM => ?_) (fun h2 hM => ?_)
      · have g := h2; (try simp at g); have F := And.intro F (And.intro h2 (And.intro g (lT h2))); refine AW_sr fun K h => ?_; simp [go_sem, F]; refine h _ ?_; obtain rfl := si hM; refine AW_ret ?_; simp [go_sem, F]
      · have g := h2; (try simp at g); have F := And.intro F (And.intro h2 (And.intro g (lF h2))); refine AW_skip ?_; refine hK1 _ ?_; obtain ⟨x1, e3, hM⟩ := bind_some hM; refine AW_sr fun K h => ?_; simp [go_sem, F]; refine by_c false (ih_w_szValueS a0.list (IntKind.i64.wrap (a1 - (a0.text.size : Int))) x1 e3) ?_; simp [go_sem, F]; refine h _ ?_; refine AW_seq fun K4 hK4 => ?_; refine AW_sr fun K h => ?_
        simp [go_sem, F]; refine h _ ?_; refine AW_if hM (fun h5 hM => ?_) (fun h5 hM => ?_)
        · have g := h5; (try simp at g); have F := And.intro F (And.intro h5 (And.intro g (lT h5))); refine AW_sr fun K h => ?_; simp [go_sem, F]; refine h _ ?_; obtain rfl := si hM; refine AW_ret ?_; simp [go_sem, F]
        · have g := h5; (try simp at g); have F := And.intro F (And.intro h5 (And.intro g (lF h5))); refine AW_skip ?_; refine hK4 _ ?_; obtain ⟨x2, e6, hM⟩ := bind_some hM; refine AW_sr fun K h => ?_; simp [go_sem, F]; refine by_c false (w_szStringS_ctr k a0.columns x1 x2 e6) ?_; simp [go_sem, F]; refine h _ ?_; refine AW_seq fun K7 hK7 => ?_; refine AW_sr fun K h => ?_; simp [go_sem, F]; refine h _ ?_
          refine AW_if hM (fun h8 hM => ?_) (fun h8 hM => ?_)
          · have g := h8; (try simp at g); have F := And.intro F (And.intro h8 (And.intro g (lT h8))); refine AW_sr fun K h => ?_; simp [go_sem, F]; refine h _ ?_; obtain rfl := si hM; refine AW_ret ?_; simp [go_sem, F]
          · have g := h8; (try simp at g); have F := And.intro F (And.intro h8 (And.intro g (lF h8))); refine AW_skip ?_; refine hK7 _ ?_; obtain ⟨x3, e9, hM⟩ := bind_some hM; refine AW_sr fun K h => ?_; simp [go_sem, F]; refine by_c false (w_szRowS_ctr k a0.rows x2 x3 e9) ?_; simp [go_sem, F]; refine h _ ?_; refine AW_seq fun K10 hK10 => ?_; refine AW_sr fun K h => ?_; simp [go_sem, F]; refine h _ ?_
            refine AW_if hM (fun h11 hM => ?_) (fun h11 hM => ?_)
            · have g := h11; (try simp at g); have F := And.intro F (And.intro h11 (And.intro g (lT h11))); refine AW_sr fun K h => ?_; simp [go_sem, F]; refine h _ ?_; obtain rfl := si hM; refine AW_ret ?_; simp [go_sem, F]
            · have g := h11; (try simp at g); have F := And.intro F (And.intro h11 (And.intro g (lF h11))); refine AW_skip ?_; refine hK10 _ ?_; refine AW_sr fun K h => ?_; simp [go_sem, F]; refine h _ ?_; obtain rfl := si hM; refine AW_ret ?_; simp [go_sem, F]
    · intro a0 a1 r hM
      rw [w_szValueS] at hM
      refine walkM Try.func75 Try.ntmps75 Try.results75 fun N w0 hbad F => ?_
      refine AW_sr fun K h => ?_; simp [go_sem, F]; refine h _ ?_; refine AW_sr fun K h => ?_; simp [go_sem, F]; refine h _ ?_; refine AW_seq fun K1 hK1 => ?_; refine AW_sr fun K h => ?_; simp [go_sem, F]; refine h _ ?_; refine AW_if hM (fun h2 hM => ?_) (fun h2 hM => ?_)
      · have g := h2; (try simp at g); have F := And.intro F (And.intro h2 (And.intro g (lT h2))); refine AW_sr fun K h => ?_; simp [go_sem, F]; refine h _ ?_; obtain rfl := si hM; refine AW_ret ?_; simp [go_sem, F]
      · have g := h2; (try simp at g); have F := And.intro F (And.intro h2 (And.intro g (lF h2))); refine AW_skip ?_; refine hK1 _ ?_; obtain ⟨e3, hU5, hR4⟩ := bind_some hM; clear hM; refine AW_mid (ι := Int) (fun i => ⟨27, [(1, .one (.l (.int .i64 i)))], [], []⟩) (fun i => (.inl i) = e3) ?_ ?_
        · intro K6 hK6; have hM := hU5; clear hU5; refine AW_sr fun K h => ?_; simp [go_sem, F]; refine h _ ?_; refine AW_block ?_; refine AW_lp (ι := Int × Int) (fun i => ⟨27, [(0, .one (.l (.sl (a0.map TValue.c)))), (1, .one (.l (.int .i64 i.1))), (5, .one (.l (.int .i64 i.2)))], [], []⟩) (fun n i => w_szValueS_u1 (w_szValue k) a0 n i.1 i.2 = some e3) k ((IntKind.i64.wrap (a1 - (a0.length : Int))), 0) hM (by simp [w_szValueS_u1]) ?_
          intro KL7 n ⟨x2, x3⟩ hL7 hM F; have hM : w_szValueS_u1 (w_szValue k) a0 (n + 1) x2 x3 = some e3 := hM; rw [w_szValueS_u1] at hM; refine AW_seq fun K8 hK8 => ?_; refine AW_sr fun K h => ?_; simp [go_sem, F]; refine h _ ?_; refine AW_if hM (fun h9 hM => ?_) (fun h9 hM => ?_)
          · have g := h9; (try simp at g); have F := And.intro F (And.intro h9 (And.intro g (lT h9))); refine AW_skip ?_; refine hK8 _ ?_; refine AW_seq fun K10 hK10 => ?_; refine AW_block ?_; obtain ⟨x4, e11, hM⟩ := bind_some hM; have F := And.intro F (at_f e11); obtain ⟨x5, e12, hM⟩ := bind_some hM; refine AW_sr fun K h => ?_; simp [go_sem, F]; refine by_c false (ih_w_szValue x4 x2 x5 e12) ?_; simp [go_sem, F]
            refine h _ ?_; refine AW_sr fun K h => ?_; simp [go_sem, F]; refine h _ ?_; refine AW_if hM (fun h13 hM => ?_) (fun h13 hM => ?_)
            · have g := h13; (try simp at g); have F := And.intro F (And.intro h13 (And.intro g (lT h13))); refine AW_sr fun K h => ?_; simp [go_sem, F]; refine h _ ?_; obtain rfl := si hM; have hM := hR4; dsimp only at hM; obtain rfl := si hM; refine AW_ret ?_; simp [go_sem, F]
            · have g := h13; (try simp at g); have F := And.intro F (And.intro h13 (And.intro g (lF h13))); refine AW_skip ?_; refine hK10 _ ?_; refine AW_region ?_; simp [go_sem, F]; exact fin hL7 (x5, (IntKind.i64.wrap (x3 + 1))) hM
          · have g := h9; (try simp at g); have F := And.intro F (And.intro h9 (And.intro g (lF h9))); refine AW_exit ?_; obtain rfl := si hM; exact fin hK6 x2 rfl
        · rintro x1 rfl; have hM := hR4; dsimp only at hM; refine AW_sr fun K h => ?_; simp [go_sem, F]; refine h _ ?_; obtain rfl := si hM; refine AW_ret ?_; simp [go_sem, F]
theorem w_szValue_ctr (k : Nat) : ∀ (a0 : TValue) (a1 : Int) (r : Int) (hM : w_szValue k a0 a1 = some r), Ctr Try.prog 55 [.agg (TValue.c a0), .one (.int .i64 a1)] true [.one (.int .i64 r)] := (w_szValue_all k).1
theorem w_toStringS_ctr (k : Nat) (a0 : List ByteArray) (r : List ByteArray) (hM : w_toStringS k a0 = some r) : Ctr Try.prog 117 [.one (.sl (a0.map sC))] true [.one (.sl (r.map sC))] := by
  unfold w_toStringS at hM
  refine walkM Try.func117 Try.ntmps117 Try.results117 fun N w0 hbad F => ?_
  refine AW_sr fun K h => ?_; simp [go_sem, F]; refine h _ ?_; obtain ⟨x1, e1, hM⟩ := bind_some hM; obtain ⟨c2, s3⟩ := mk_spec e1; replace c2 := c2.symm; subst c2; (try simp at s3); have F := And.intro F s3; refine AW_sr fun K h => ?_; simp [go_sem, F]; refine h _ ?_; obtain ⟨e6, hU8, hR7⟩ := bind_some hM; clear hM; refine AW_mid (ι := List ByteArray) (fun i => ⟨22, [(3, .one (.own 448 i.length))], [], [(448, some ⟨true, i.map sC⟩)]⟩) (fun i => i = e6) ?_ ?_
  · intro K9 hK9; have hM := hU8; clear hU8; refine AW_sr fun K h => ?_; simp [go_sem, F]; refine h _ ?_; refine AW_block ?_; refine AW_lp (ι := (List ByteArray) × Int) (fun i => ⟨22, [(0, .one (.l (.sl (a0.map sC)))), (3, .one (.own 448 i.1.length)), (4, .one (.l (.int .i64 i.2)))], [], [(448, some ⟨true, i.1.map sC⟩)]⟩) (fun n i => w_toStringS_u1 a0 n i.1 i.2 = some e6) k ((List.replicate ((a0.length : Int).toNat) (⟨#[]⟩ : ByteArray)), 0) hM (by simp [w_toStringS_u1]) ?_
    intro KL10 n ⟨x3, x4⟩ hL10 hM F; have hM : w_toStringS_u1 a0 (n + 1) x3 x4 = some e6 := hM; rw [w_toStringS_u1] at hM; refine AW_seq fun K11 hK11 => ?_; refine AW_sr fun K h => ?_; simp [go_sem, F]; refine h _ ?_; refine AW_if hM (fun h12 hM => ?_) (fun h12 hM => ?_)
    · have g := h12; (try simp at g); have F := And.intro F (And.intro h12 (And.intro g (lT h12))); refine AW_skip ?_; refine hK11 _ ?_; refine AW_seq fun K13 hK13 => ?_; refine AW_block ?_; obtain ⟨x5, e14, hM⟩ := bind_some hM; have F := And.intro F (at_f e14); obtain ⟨x6, e15, hM⟩ := bind_some hM; have F := And.intro F (at_f e15); have F := And.intro F (at_l e15); refine AW_region ?_; simp [go_sem, F]
      refine hK13 _ ?_; refine AW_region ?_; simp [go_sem, F]; exact fin hL10 ((x3.set x4.toNat x5), (IntKind.i64.wrap (x4 + 1))) hM
    · have g := h12; (try simp at g); have F := And.intro F (And.intro h12 (And.intro g (lF h12))); refine AW_exit ?_; obtain rfl := si hM; exact fin hK9 x3 rfl
  · rintro x2 rfl; have hM := hR7; (try dsimp only at hM); refine AW_sr fun K h => ?_; simp [go_sem, F]; refine h _ ?_; obtain rfl := si hM; refine AW_ret ?_; simp [go_sem, F]
theorem w_toIntS_ctr (k : Nat) (a0 : List Int) (r : List Int) (hM : w_toIntS k a0 = some r) : Ctr Try.prog 175 [.one (.sl (a0.map iC))] true [.one (.sl (r.map iC))] := by
  unfold w_toIntS at hM
  refine walkM Try.func175 Try.ntmps175 Try.results175 fun N w0 hbad F => ?_
  refine AW_sr fun K h => ?_; simp [go_sem, F]; refine h _ ?_; obtain ⟨x1, e1, hM⟩ := bind_some hM; obtain ⟨c2, s3⟩ := mk_spec e1; replace c2 := c2.symm; subst c2; (try simp at s3); have F := And.intro F s3; refine AW_sr fun K h => ?_; simp [go_sem, F]; refine h _ ?_; obtain ⟨e6, hU8, hR7⟩ := bind_some hM; clear hM; refine AW_mid (ι := List Int) (fun i => ⟨22, [(3, .one (.own 448 i.length))], [], [(448, some ⟨true, i.map iC⟩)]⟩) (fun i => i = e6) ?_ ?_
  · intro K9 hK9; have hM := hU8; clear hU8; refine AW_sr fun K h => ?_; simp [go_sem, F]; refine h _ ?_; refine AW_block ?_; refine AW_lp (ι := (List Int) × Int) (fun i => ⟨22, [(0, .one (.l (.sl (a0.map iC)))), (3, .one (.own 448 i.1.length)), (4, .one (.l (.int .i64 i.2)))], [], [(448, some ⟨true, i.1.map iC⟩)]⟩) (fun n i => w_toIntS_u1 a0 n i.1 i.2 = some e6) k ((List.replicate ((a0.length : Int).toNat) 0), 0) hM (by simp [w_toIntS_u1]) ?_
    intro KL10 n ⟨x3, x4⟩ hL10 hM F; have hM : w_toIntS_u1 a0 (n + 1) x3 x4 = some e6 := hM; rw [w_toIntS_u1] at hM; refine AW_seq fun K11 hK11 => ?_; refine AW_sr fun K h => ?_; simp [go_sem, F]; refine h _ ?_; refine AW_if hM (fun h12 hM => ?_) (fun h12 hM => ?_)
    · have g := h12; (try simp at g); have F := And.intro F (And.intro h12 (And.intro g (lT h12))); refine AW_skip ?_; refine hK11 _ ?_; refine AW_seq fun K13 hK13 => ?_; refine AW_block ?_; obtain ⟨x5, e14, hM⟩ := bind_some hM; have F := And.intro F (at_f e14); obtain ⟨x6, e15, hM⟩ := bind_some hM; have F := And.intro F (at_f e15); have F := And.intro F (at_l e15); refine AW_region ?_; simp [go_sem, F]
      refine hK13 _ ?_; refine AW_region ?_; simp [go_sem, F]; exact fin hL10 ((x3.set x4.toNat x5), (IntKind.i64.wrap (x4 + 1))) hM
    · have g := h12; (try simp at g); have F := And.intro F (And.intro h12 (And.intro g (lF h12))); refine AW_exit ?_; obtain rfl := si hM; exact fin hK9 x3 rfl
  · rintro x2 rfl; have hM := hR7; (try dsimp only at hM); refine AW_sr fun K h => ?_; simp [go_sem, F]; refine h _ ?_; obtain rfl := si hM; refine AW_ret ?_; simp [go_sem, F]
theorem w_toOrigin_ctr (a0 : TOrigin) (r : TOrigin) (hM : w_toOrigin a0 = some r) : Ctr Try.prog 196 [.agg (TOrigin.c a0)] true [.agg (TOrigin.c r)] := by
  unfold w_toOrigin at hM
  refine walkM Try.func196 Try.ntmps196 Try.results196 fun N w0 hbad F => ?_
  refine AW_sr fun K h => ?_; simp [go_sem, F]; refine h _ ?_; refine AW_sr fun K h => ?_; simp [go_sem, F]; refine h _ ?_; refine AW_sr fun K h => ?_; simp [go_sem, F]; refine h _ ?_; refine AW_sr fun K h => ?_; simp [go_sem, F]; refine h _ ?_; refine AW_sr fun K h => ?_; simp [go_sem, F]; refine h _ ?_; obtain rfl := si hM; refine AW_ret ?_; simp [go_sem, F]
theorem w_toOriginS_ctr (k : Nat) (a0 : List TOrigin) (r : List TOrigin) (hM : w_toOriginS k a0 = some r) : Ctr Try.prog 185 [.one (.sl (a0.map TOrigin.c))] true [.one (.sl (r.map TOrigin.c))] := by
  unfold w_toOriginS at hM
  refine walkM Try.func185 Try.ntmps185 Try.results185 fun N w0 hbad F => ?_
  refine AW_sr fun K h => ?_; simp [go_sem, F]; refine h _ ?_; obtain ⟨x1, e1, hM⟩ := bind_some hM; obtain ⟨c2, s3⟩ := mk_spec e1; replace c2 := c2.symm; subst c2; (try simp at s3); have F := And.intro F s3; refine AW_sr fun K h => ?_; simp [go_sem, F]; refine h _ ?_; obtain ⟨e6, hU8, hR7⟩ := bind_some hM; clear hM; refine AW_mid (ι := List TOrigin) (fun i => ⟨23, [(3, .one (.own 448 i.length))], [], [(448, some ⟨true, i.map TOrigin.c⟩)]⟩) (fun i => i = e6) ?_ ?_
  · intro K9 hK9; have hM := hU8; clear hU8; refine AW_sr fun K h => ?_; simp [go_sem, F]; refine h _ ?_; refine AW_block ?_; refine AW_lp (ι := (List TOrigin) × Int) (fun i => ⟨23, [(0, .one (.l (.sl (a0.map TOrigin.c)))), (3, .one (.own 448 i.1.length)), (4, .one (.l (.int .i64 i.2)))], [], [(448, some ⟨true, i.1.map TOrigin.c⟩)]⟩) (fun n i => w_toOriginS_u1 a0 n i.1 i.2 = some e6) k ((List.replicate ((a0.length : Int).toNat) (TOrigin.mk 0 0)), 0) hM (by simp [w_toOriginS_u1]) ?_
    intro KL10 n ⟨x3, x4⟩ hL10 hM F; have hM : w_toOriginS_u1 a0 (n + 1) x3 x4 = some e6 := hM; rw [w_toOriginS_u1] at hM; refine AW_seq fun K11 hK11 => ?_; refine AW_sr fun K h => ?_; simp [go_sem, F]; refine h _ ?_; refine AW_if hM (fun h12 hM => ?_) (fun h12 hM => ?_)
    · have g := h12; (try simp at g); have F := And.intro F (And.intro h12 (And.intro g (lT h12))); refine AW_skip ?_; refine hK11 _ ?_; refine AW_seq fun K13 hK13 => ?_; refine AW_block ?_; obtain ⟨x5, e14, hM⟩ := bind_some hM; have F := And.intro F (at_f e14); obtain ⟨x6, e15, hM⟩ := bind_some hM; obtain ⟨x7, e16, hM⟩ := bind_some hM; have F := And.intro F (at_f e16); have F := And.intro F (at_l e16)
      refine AW_region ?_; simp [go_sem, F]; refine by_c false (w_toOrigin_ctr x5 x6 e15) ?_; simp [go_sem, F]; refine hK13 _ ?_; refine AW_region ?_; simp [go_sem, F]; exact fin hL10 ((x3.set x4.toNat x6), (IntKind.i64.wrap (x4 + 1))) hM
    · have g := h12; (try simp at g); have F := And.intro F (And.intro h12 (And.intro g (lF h12))); refine AW_exit ?_; obtain rfl := si hM; exact fin hK9 x3 rfl
  · rintro x2 rfl; have hM := hR7; (try dsimp only at hM); refine AW_sr fun K h => ?_; simp [go_sem, F]; refine h _ ?_; obtain rfl := si hM; refine AW_ret ?_; simp [go_sem, F]
theorem w_toRow_ctr (k : Nat) (a0 : TRow) (r : TRow) (hM : w_toRow k a0 = some r) : Ctr Try.prog 164 [.agg (TRow.c a0)] true [.agg (TRow.c r)] := by
  unfold w_toRow at hM
  refine walkM Try.func164 Try.ntmps164 Try.results164 fun N w0 hbad F => ?_
  refine AW_sr fun K h => ?_; simp [go_sem, F]; refine h _ ?_; refine AW_sr fun K h => ?_; simp [go_sem, F]; refine h _ ?_; obtain ⟨x1, e1, hM⟩ := bind_some hM; refine AW_sr fun K h => ?_; simp [go_sem, F]; refine by_c false (w_toIntS_ctr k a0.cells x1 e1) ?_; simp [go_sem, F]; refine h _ ?_; obtain ⟨x2, e2, hM⟩ := bind_some hM; refine AW_sr fun K h => ?_; simp [go_sem, F]; refine by_c false (w_toOriginS_ctr k a0.from_ x2 e2) ?_
  simp [go_sem, F]; refine h _ ?_; refine AW_sr fun K h => ?_; simp [go_sem, F]; refine h _ ?_; obtain rfl := si hM; refine AW_ret ?_; simp [go_sem, F]
end Go.Proofs.Ytmiboaogfjgkjaa
