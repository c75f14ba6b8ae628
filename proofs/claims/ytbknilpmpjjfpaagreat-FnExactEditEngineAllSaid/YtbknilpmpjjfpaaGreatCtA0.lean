/- Contracts of the program's functions: where the mirrored function answers, the program's function returns this answer. Written by a program of mine. -/
import Derived.Test.YtbknilpmpjjfpaaGreatWn
import Derived.Test.YtbknilpmpjjfpaaGreatMdA0
set_option linter.unusedSimpArgs false
set_option linter.unusedVariables false
namespace Go.Proofs.YtbknilpmpjjfpaaGreat
open Go.RowKit Am
set_option maxHeartbeats 4000000
set_option maxRecDepth 100000
theorem w_szCell_ctr (a0 : TCell) (a1 : Int) (r : Int) (hM : w_szCell a0 a1 = some r) : Ctr Tryz.prog 27 [.agg (TCell.c a0), .one (.int .i64 a1)] true [.one (.int .i64 r)] := by
  unfold w_szCell at hM
  refine walkM Tryz.func27 Tryz.ntmps27 Tryz.results27 fun N w0 hbad F => ?_
  refine AW_sr fun K h => ?_; simp [go_sem, F]; refine h _ ?_; refine AW_sr fun K h => ?_; simp [go_sem, F]; refine h _ ?_; refine AW_seq fun K1 hK1 => ?_; refine AW_sr fun K h => ?_; simp [go_sem, F]; refine h _ ?_; refine AW_if hM (fun h2 hM => ?_) (fun h2 hM => ?_)
  · have g := h2; (try simp at g); have F := And.intro F (And.intro h2 (And.intro g (lT h2))); refine AW_sr fun K h => ?_; simp [go_sem, F]; refine h _ ?_; obtain rfl := si hM; refine AW_ret ?_; simp [go_sem, F]
  · have g := h2; (try simp at g); have F := And.intro F (And.intro h2 (And.intro g (lF h2))); refine AW_skip ?_; refine hK1 _ ?_; refine AW_sr fun K h => ?_; simp [go_sem, F]; refine h _ ?_; refine AW_seq fun K3 hK3 => ?_; refine AW_sr fun K h => ?_; simp [go_sem, F]; refine h _ ?_; refine AW_if hM (fun h4 hM => ?_) (fun h4 hM => ?_)
    · have g := h4; (try simp at g); have F := And.intro F (And.intro h4 (And.intro g (lT h4))); refine AW_sr fun K h => ?_; simp [go_sem, F]; refine h _ ?_; obtain rfl := si hM; refine AW_ret ?_; simp [go_sem, F]
    · have g := h4; (try simp at g); have F := And.intro F (And.intro h4 (And.intro g (lF h4))); refine AW_skip ?_; refine hK3 _ ?_; refine AW_sr fun K h => ?_; simp [go_sem, F]; refine h _ ?_; obtain rfl := si hM; refine AW_ret ?_; simp [go_sem, F]
theorem w_szCellS_ctr (k : Nat) (a0 : List TCell) (a1 : Int) (r : Int) (hM : w_szCellS k a0 a1 = some r) : Ctr Tryz.prog 54 [.one (.sl (a0.map TCell.c)), .one (.int .i64 a1)] true [.one (.int .i64 r)] := by
  unfold w_szCellS at hM
  refine walkM Tryz.func54 Tryz.ntmps54 Tryz.results54 fun N w0 hbad F => ?_
  refine AW_sr fun K h => ?_; simp [go_sem, F]; refine h _ ?_; refine AW_sr fun K h => ?_; simp [go_sem, F]; refine h _ ?_; refine AW_seq fun K1 hK1 => ?_; refine AW_sr fun K h => ?_; simp [go_sem, F]; refine h _ ?_; refine AW_if hM (fun h2 hM => ?_) (fun h2 hM => ?_)
  · have g := h2; (try simp at g); have F := And.intro F (And.intro h2 (And.intro g (lT h2))); refine AW_sr fun K h => ?_; simp [go_sem, F]; refine h _ ?_; obtain rfl := si hM; refine AW_ret ?_; simp [go_sem, F]
  · have g := h2; (try simp at g); have F := And.intro F (And.intro h2 (And.intro g (lF h2))); refine AW_skip ?_; refine hK1 _ ?_; obtain ⟨e3, hU5, hR4⟩ := bind_some hM; clear hM; refine AW_mid (ι := Int) (fun i => ⟨27, [(1, .one (.l (.int .i64 i)))], [], []⟩) (fun i => (.inl i) = e3) ?_ ?_
    · intro K6 hK6; have hM := hU5; clear hU5; refine AW_sr fun K h => ?_; simp [go_sem, F]; refine h _ ?_; refine AW_block ?_; refine AW_lp (ι := Int × Int) (fun i => ⟨27, [(0, .one (.l (.sl (a0.map TCell.c)))), (1, .one (.l (.int .i64 i.1))), (5, .one (.l (.int .i64 i.2)))], [], []⟩) (fun n i => w_szCellS_u1 a0 n i.1 i.2 = some e3) k ((IntKind.i64.wrap (a1 - (a0.length : Int))), 0) hM (by simp [w_szCellS_u1]) ?_
      intro KL7 n ⟨x2, x3⟩ hL7 hM F; have hM : w_szCellS_u1 a0 (n + 1) x2 x3 = some e3 := hM; rw [w_szCellS_u1] at hM; refine AW_seq fun K8 hK8 => ?_; refine AW_sr fun K h => ?_; simp [go_sem, F]; refine h _ ?_; refine AW_if hM (fun h9 hM => ?_) (fun h9 hM => ?_)
      · have g := h9; (try simp at g); have F := And.intro F (And.intro h9 (And.intro g (lT h9))); refine AW_skip ?_; refine hK8 _ ?_; refine AW_seq fun K10 hK10 => ?_; refine AW_block ?_; obtain ⟨x4, e11, hM⟩ := bind_some hM; have F := And.intro F (at_f e11); obtain ⟨x5, e12, hM⟩ := bind_some hM; refine AW_sr fun K h => ?_; simp [go_sem, F]; refine by_c false (w_szCell_ctr x4 x2 x5 e12) ?_; simp [go_sem, F]
        refine h _ ?_; refine AW_sr fun K h => ?_; simp [go_sem, F]; refine h _ ?_; refine AW_if hM (fun h13 hM => ?_) (fun h13 hM => ?_)
        · have g := h13; (try simp at g); have F := And.intro F (And.intro h13 (And.intro g (lT h13))); refine AW_sr fun K h => ?_; simp [go_sem, F]; refine h _ ?_; obtain rfl := si hM; have hM := hR4; dsimp only at hM; obtain rfl := si hM; refine AW_ret ?_; simp [go_sem, F]
        · have g := h13; (try simp at g); have F := And.intro F (And.intro h13 (And.intro g (lF h13))); refine AW_skip ?_; refine hK10 _ ?_; refine AW_region ?_; simp [go_sem, F]; exact fin hL7 (x5, (IntKind.i64.wrap (x3 + 1))) hM
      · have g := h9; (try simp at g); have F := And.intro F (And.intro h9 (And.intro g (lF h9))); refine AW_exit ?_; obtain rfl := si hM; exact fin hK6 x2 rfl
    · rintro x1 rfl; have hM := hR4; dsimp only at hM; refine AW_sr fun K h => ?_; simp [go_sem, F]; refine h _ ?_; obtain rfl := si hM; refine AW_ret ?_; simp [go_sem, F]
theorem w_szNotebook_ctr (k : Nat) (a0 : TNotebook) (a1 : Int) (r : Int) (hM : w_szNotebook k a0 a1 = some r) : Ctr Tryz.prog 23 [.agg (TNotebook.c a0), .one (.int .i64 a1)] true [.one (.int .i64 r)] := by
  unfold w_szNotebook at hM
  refine walkM Tryz.func23 Tryz.ntmps23 Tryz.results23 fun N w0 hbad F => ?_
  refine AW_sr fun K h => ?_; simp [go_sem, F]; refine h _ ?_; obtain ⟨x1, e1, hM⟩ := bind_some hM; refine AW_sr fun K h => ?_; simp [go_sem, F]; refine by_c false (w_szCellS_ctr k a0.cells a1 x1 e1) ?_; simp [go_sem, F]; refine h _ ?_; refine AW_seq fun K2 hK2 => ?_; refine AW_sr fun K h => ?_; simp [go_sem, F]; refine h _ ?_; refine AW_if hM (fun h3 hM => ?_) (fun h3 hM => ?_)
  · have g := h3; (try simp at g); have F := And.intro F (And.intro h3 (And.intro g (lT h3))); refine AW_sr fun K h => ?_; simp [go_sem, F]; refine h _ ?_; obtain rfl := si hM; refine AW_ret ?_; simp [go_sem, F]
  · have g := h3; (try simp at g); have F := And.intro F (And.intro h3 (And.intro g (lF h3))); refine AW_skip ?_; refine hK2 _ ?_; refine AW_sr fun K h => ?_; simp [go_sem, F]; refine h _ ?_; obtain rfl := si hM; refine AW_ret ?_; simp [go_sem, F]
theorem w_szFile_ctr (a0 : TFile) (a1 : Int) (r : Int) (hM : w_szFile a0 a1 = some r) : Ctr Tryz.prog 96 [.agg (TFile.c a0), .one (.int .i64 a1)] true [.one (.int .i64 r)] := by
  unfold w_szFile at hM
  refine walkM Tryz.func96 Tryz.ntmps96 Tryz.results96 fun N w0 hbad F => ?_
  refine AW_sr fun K h => ?_; simp [go_sem, F]; refine h _ ?_; refine AW_sr fun K h => ?_; simp [go_sem, F]; refine h _ ?_; refine AW_seq fun K1 hK1 => ?_; refine AW_sr fun K h => ?_; simp [go_sem, F]; refine h _ ?_; refine AW_if hM (fun h2 hM => ?_) (fun h2 hM => ?_)
  · have g := h2; (try simp at g); have F := And.intro F (And.intro h2 (And.intro g (lT h2))); refine AW_sr fun K h => ?_; simp [go_sem, F]; refine h _ ?_; obtain rfl := si hM; refine AW_ret ?_; simp [go_sem, F]
  · have g := h2; (try simp at g); have F := And.intro F (And.intro h2 (And.intro g (lF h2))); refine AW_skip ?_; refine hK1 _ ?_; refine AW_sr fun K h => ?_; simp [go_sem, F]; refine h _ ?_; obtain rfl := si hM; refine AW_ret ?_; simp [go_sem, F]
theorem w_szFileS_ctr (k : Nat) (a0 : List TFile) (a1 : Int) (r : Int) (hM : w_szFileS k a0 a1 = some r) : Ctr Tryz.prog 55 [.one (.sl (a0.map TFile.c)), .one (.int .i64 a1)] true [.one (.int .i64 r)] := by
  unfold w_szFileS at hM
  refine walkM Tryz.func55 Tryz.ntmps55 Tryz.results55 fun N w0 hbad F => ?_
  refine AW_sr fun K h => ?_; simp [go_sem, F]; refine h _ ?_; refine AW_sr fun K h => ?_; simp [go_sem, F]; refine h _ ?_; refine AW_seq fun K1 hK1 => ?_; refine AW_sr fun K h => ?_; simp [go_sem, F]; refine h _ ?_; refine AW_if hM (fun h2 hM => ?_) (fun h2 hM => ?_)
  · have g := h2; (try simp at g); have F := And.intro F (And.intro h2 (And.intro g (lT h2))); refine AW_sr fun K h => ?_; simp [go_sem, F]; refine h _ ?_; obtain rfl := si hM; refine AW_ret ?_; simp [go_sem, F]
  · have g := h2; (try simp at g); have F := And.intro F (And.intro h2 (And.intro g (lF h2))); refine AW_skip ?_; refine hK1 _ ?_; obtain ⟨e3, hU5, hR4⟩ := bind_some hM; clear hM; refine AW_mid (ι := Int) (fun i => ⟨27, [(1, .one (.l (.int .i64 i)))], [], []⟩) (fun i => (.inl i) = e3) ?_ ?_
    · intro K6 hK6; have hM := hU5; clear hU5; refine AW_sr fun K h => ?_; simp [go_sem, F]; refine h _ ?_; refine AW_block ?_; refine AW_lp (ι := Int × Int) (fun i => ⟨27, [(0, .one (.l (.sl (a0.map TFile.c)))), (1, .one (.l (.int .i64 i.1))), (5, .one (.l (.int .i64 i.2)))], [], []⟩) (fun n i => w_szFileS_u1 a0 n i.1 i.2 = some e3) k ((IntKind.i64.wrap (a1 - (a0.length : Int))), 0) hM (by simp [w_szFileS_u1]) ?_
      intro KL7 n ⟨x2, x3⟩ hL7 hM F; have hM : w_szFileS_u1 a0 (n + 1) x2 x3 = some e3 := hM; rw [w_szFileS_u1] at hM; refine AW_seq fun K8 hK8 => ?_; refine AW_sr fun K h => ?_; simp [go_sem, F]; refine h _ ?_; refine AW_if hM (fun h9 hM => ?_) (fun h9 hM => ?_)
      · have g := h9; (try simp at g); have F := And.intro F (And.intro h9 (And.intro g (lT h9))); refine AW_skip ?_; refine hK8 _ ?_; refine AW_seq fun K10 hK10 => ?_; refine AW_block ?_; obtain ⟨x4, e11, hM⟩ := bind_some hM; have F := And.intro F (at_f e11); obtain ⟨x5, e12, hM⟩ := bind_some hM; refine AW_sr fun K h => ?_; simp [go_sem, F]; refine by_c false (w_szFile_ctr x4 x2 x5 e12) ?_; simp [go_sem, F]
        refine h _ ?_; refine AW_sr fun K h => ?_; simp [go_sem, F]; refine h _ ?_; refine AW_if hM (fun h13 hM => ?_) (fun h13 hM => ?_)
        · have g := h13; (try simp at g); have F := And.intro F (And.intro h13 (And.intro g (lT h13))); refine AW_sr fun K h => ?_; simp [go_sem, F]; refine h _ ?_; obtain rfl := si hM; have hM := hR4; dsimp only at hM; obtain rfl := si hM; refine AW_ret ?_; simp [go_sem, F]
        · have g := h13; (try simp at g); have F := And.intro F (And.intro h13 (And.intro g (lF h13))); refine AW_skip ?_; refine hK10 _ ?_; refine AW_region ?_; simp [go_sem, F]; exact fin hL7 (x5, (IntKind.i64.wrap (x3 + 1))) hM
      · have g := h9; (try simp at g); have F := And.intro F (And.intro h9 (And.intro g (lF h9))); refine AW_exit ?_; obtain rfl := si hM; exact fin hK6 x2 rfl
    · rintro x1 rfl; have hM := hR4; dsimp only at hM; refine AW_sr fun K h => ?_; simp [go_sem, F]; refine h _ ?_; obtain rfl := si hM; refine AW_ret ?_; simp [go_sem, F]
theorem w_szWorld_ctr (k : Nat) (a0 : TWorld) (a1 : Int) (r : Int) (hM : w_szWorld k a0 a1 = some r) : Ctr Tryz.prog 24 [.agg (TWorld.c a0), .one (.int .i64 a1)] true [.one (.int .i64 r)] := by
  unfold w_szWorld at hM
  refine walkM Tryz.func24 Tryz.ntmps24 Tryz.results24 fun N w0 hbad F => ?_
  refine AW_sr fun K h => ?_; simp [go_sem, F]; refine h _ ?_; obtain ⟨x1, e1, hM⟩ := bind_some hM; refine AW_sr fun K h => ?_; simp [go_sem, F]; refine by_c false (w_szFileS_ctr k a0.files a1 x1 e1) ?_; simp [go_sem, F]; refine h _ ?_; refine AW_seq fun K2 hK2 => ?_; refine AW_sr fun K h => ?_; simp [go_sem, F]; refine h _ ?_; refine AW_if hM (fun h3 hM => ?_) (fun h3 hM => ?_)
  · have g := h3; (try simp at g); have F := And.intro F (And.intro h3 (And.intro g (lT h3))); refine AW_sr fun K h => ?_; simp [go_sem, F]; refine h _ ?_; obtain rfl := si hM; refine AW_ret ?_; simp [go_sem, F]
  · have g := h3; (try simp at g); have F := And.intro F (And.intro h3 (And.intro g (lF h3))); refine AW_skip ?_; refine hK2 _ ?_; refine AW_sr fun K h => ?_; simp [go_sem, F]; refine h _ ?_; obtain rfl := si hM; refine AW_ret ?_; simp [go_sem, F]
theorem w_szStringS_ctr (k : Nat) (a0 : List ByteArray) (a1 : Int) (r : Int) (hM : w_szStringS k a0 a1 = some r) : Ctr Tryz.prog 123 [.one (.sl (a0.map sC)), .one (.int .i64 a1)] true [.one (.int .i64 r)] := by
  unfold w_szStringS at hM
  refine walkM Tryz.func123 Tryz.ntmps123 Tryz.results123 fun N w0 hbad F => ?_
  refine AW_sr fun K h => ?_; simp [go_sem, F]; refine h _ ?_; refine AW_sr fun K h => ?_; simp [go_sem, F]; refine h _ ?_; refine AW_seq fun K1 hK1 => ?_; refine AW_sr fun K h => ?_; simp [go_sem, F]; refine h _ ?_; refine AW_if hM (fun h2 hM => ?_) (fun h2 hM => ?_)
  · have g := h2; (try simp at g); have F := And.intro F (And.intro h2 (And.intro g (lT h2))); refine AW_sr fun K h => ?_; simp [go_sem, F]; refine h _ ?_; obtain rfl := si hM; refine AW_ret ?_; simp [go_sem, F]
  · have g := h2; (try simp at g); have F := And.intro F (And.intro h2 (And.intro g (lF h2))); refine AW_skip ?_; refine hK1 _ ?_; obtain ⟨e3, hU5, hR4⟩ := bind_some hM; clear hM; refine AW_mid (ι := Int) (fun i => ⟨28, [(1, .one (.l (.int .i64 i)))], [], []⟩) (fun i => (.inl i) = e3) ?_ ?_
    · intro K6 hK6; have hM := hU5; clear hU5; refine AW_sr fun K h => ?_; simp [go_sem, F]; refine h _ ?_; refine AW_block ?_; refine AW_lp (ι := Int × Int) (fun i => ⟨28, [(0, .one (.l (.sl (a0.map sC)))), (1, .one (.l (.int .i64 i.1))), (5, .one (.l (.int .i64 i.2)))], [], []⟩) (fun n i => w_szStringS_u1 a0 n i.1 i.2 = some e3) k ((IntKind.i64.wrap (a1 - (a0.length : Int))), 0) hM (by simp [w_szStringS_u1]) ?_
      intro KL7 n ⟨x2, x3⟩ hL7 hM F; have hM : w_szStringS_u1 a0 (n + 1) x2 x3 = some e3 := hM; rw [w_szStringS_u1] at hM; refine AW_seq fun K8 hK8 => ?_; refine AW_sr fun K h => ?_; simp [go_sem, F]; refine h _ ?_; refine AW_if hM (fun h9 hM => ?_) (fun h9 hM => ?_)
      · have g := h9; (try simp at g); have F := And.intro F (And.intro h9 (And.intro g (lT h9))); refine AW_skip ?_; refine hK8 _ ?_; refine AW_seq fun K10 hK10 => ?_; refine AW_block ?_; obtain ⟨x4, e11, hM⟩ := bind_some hM; have F := And.intro F (at_f e11); refine AW_sr fun K h => ?_; simp [go_sem, F]; refine h _ ?_; refine AW_sr fun K h => ?_; simp [go_sem, F]; refine h _ ?_; refine AW_if hM (fun h12 hM => ?_) (fun h12 hM => ?_)
        · have g := h12; (try simp at g); have F := And.intro F (And.intro h12 (And.intro g (lT h12))); refine AW_sr fun K h => ?_; simp [go_sem, F]; refine h _ ?_; obtain rfl := si hM; have hM := hR4; dsimp only at hM; obtain rfl := si hM; refine AW_ret ?_; simp [go_sem, F]
        · have g := h12; (try simp at g); have F := And.intro F (And.intro h12 (And.intro g (lF h12))); refine AW_skip ?_; refine hK10 _ ?_; refine AW_region ?_; simp [go_sem, F]; exact fin hL7 ((IntKind.i64.wrap (x2 - (x4.size : Int))), (IntKind.i64.wrap (x3 + 1))) hM
      · have g := h9; (try simp at g); have F := And.intro F (And.intro h9 (And.intro g (lF h9))); refine AW_exit ?_; obtain rfl := si hM; exact fin hK6 x2 rfl
    · rintro x1 rfl; have hM := hR4; dsimp only at hM; refine AW_sr fun K h => ?_; simp [go_sem, F]; refine h _ ?_; obtain rfl := si hM; refine AW_ret ?_; simp [go_sem, F]
theorem w_szIntS_ctr (a0 : List Int) (a1 : Int) (r : Int) (hM : w_szIntS a0 a1 = some r) : Ctr Tryz.prog 98 [.one (.sl (a0.map iC)), .one (.int .i64 a1)] true [.one (.int .i64 r)] := by
  unfold w_szIntS at hM
  refine walkM Tryz.func98 Tryz.ntmps98 Tryz.results98 fun N w0 hbad F => ?_
  refine AW_sr fun K h => ?_; simp [go_sem, F]; refine h _ ?_; refine AW_sr fun K h => ?_; simp [go_sem, F]; refine h _ ?_; refine AW_seq fun K1 hK1 => ?_; refine AW_sr fun K h => ?_; simp [go_sem, F]; refine h _ ?_; refine AW_if hM (fun h2 hM => ?_) (fun h2 hM => ?_)
  · have g := h2; (try simp at g); have F := And.intro F (And.intro h2 (And.intro g (lT h2))); refine AW_sr fun K h => ?_; simp [go_sem, F]; refine h _ ?_; obtain rfl := si hM; refine AW_ret ?_; simp [go_sem, F]
  · have g := h2; (try simp at g); have F := And.intro F (And.intro h2 (And.intro g (lF h2))); refine AW_skip ?_; refine hK1 _ ?_; refine AW_sr fun K h => ?_; simp [go_sem, F]; refine h _ ?_; obtain rfl := si hM; refine AW_ret ?_; simp [go_sem, F]
theorem w_szOriginS_ctr (a0 : List TOrigin) (a1 : Int) (r : Int) (hM : w_szOriginS a0 a1 = some r) : Ctr Tryz.prog 145 [.one (.sl (a0.map TOrigin.c)), .one (.int .i64 a1)] true [.one (.int .i64 r)] := by
  unfold w_szOriginS at hM
  refine walkM Tryz.func145 Tryz.ntmps145 Tryz.results145 fun N w0 hbad F => ?_
  refine AW_sr fun K h => ?_; simp [go_sem, F]; refine h _ ?_; refine AW_sr fun K h => ?_; simp [go_sem, F]; refine h _ ?_; refine AW_seq fun K1 hK1 => ?_; refine AW_sr fun K h => ?_; simp [go_sem, F]; refine h _ ?_; refine AW_if hM (fun h2 hM => ?_) (fun h2 hM => ?_)
  · have g := h2; (try simp at g); have F := And.intro F (And.intro h2 (And.intro g (lT h2))); refine AW_sr fun K h => ?_; simp [go_sem, F]; refine h _ ?_; obtain rfl := si hM; refine AW_ret ?_; simp [go_sem, F]
  · have g := h2; (try simp at g); have F := And.intro F (And.intro h2 (And.intro g (lF h2))); refine AW_skip ?_; refine hK1 _ ?_; refine AW_sr fun K h => ?_; simp [go_sem, F]; refine h _ ?_; obtain rfl := si hM; refine AW_ret ?_; simp [go_sem, F]
theorem w_szRow_ctr (a0 : TRow) (a1 : Int) (r : Int) (hM : w_szRow a0 a1 = some r) : Ctr Tryz.prog 138 [.agg (TRow.c a0), .one (.int .i64 a1)] true [.one (.int .i64 r)] := by
  unfold w_szRow at hM
  refine walkM Tryz.func138 Tryz.ntmps138 Tryz.results138 fun N w0 hbad F => ?_
  refine AW_sr fun K h => ?_; simp [go_sem, F]; refine h _ ?_; obtain ⟨x1, e1, hM⟩ := bind_some hM; refine AW_sr fun K h => ?_; simp [go_sem, F]; refine by_c false (w_szIntS_ctr a0.cells a1 x1 e1) ?_; simp [go_sem, F]; refine h _ ?_; refine AW_seq fun K2 hK2 => ?_; refine AW_sr fun K h => ?_; simp [go_sem, F]; refine h _ ?_; refine AW_if hM (fun h3 hM => ?_) (fun h3 hM => ?_)
  · have g := h3; (try simp at g); have F := And.intro F (And.intro h3 (And.intro g (lT h3))); refine AW_sr fun K h => ?_; simp [go_sem, F]; refine h _ ?_; obtain rfl := si hM; refine AW_ret ?_; simp [go_sem, F]
  · have g := h3; (try simp at g); have F := And.intro F (And.intro h3 (And.intro g (lF h3))); refine AW_skip ?_; refine hK2 _ ?_; obtain ⟨x2, e4, hM⟩ := bind_some hM; refine AW_sr fun K h => ?_; simp [go_sem, F]; refine by_c false (w_szOriginS_ctr a0.from_ x1 x2 e4) ?_; simp [go_sem, F]; refine h _ ?_; refine AW_seq fun K5 hK5 => ?_; refine AW_sr fun K h => ?_; simp [go_sem, F]; refine h _ ?_; refine AW_if hM (fun h6 hM => ?_) (fun h6 hM => ?_)
    · have g := h6; (try simp at g); have F := And.intro F (And.intro h6 (And.intro g (lT h6))); refine AW_sr fun K h => ?_; simp [go_sem, F]; refine h _ ?_; obtain rfl := si hM; refine AW_ret ?_; simp [go_sem, F]
    · have g := h6; (try simp at g); have F := And.intro F (And.intro h6 (And.intro g (lF h6))); refine AW_skip ?_; refine hK5 _ ?_; refine AW_sr fun K h => ?_; simp [go_sem, F]; refine h _ ?_; obtain rfl := si hM; refine AW_ret ?_; simp [go_sem, F]
theorem w_szRowS_ctr (k : Nat) (a0 : List TRow) (a1 : Int) (r : Int) (hM : w_szRowS k a0 a1 = some r) : Ctr Tryz.prog 124 [.one (.sl (a0.map TRow.c)), .one (.int .i64 a1)] true [.one (.int .i64 r)] := by
  unfold w_szRowS at hM
  refine walkM Tryz.func124 Tryz.ntmps124 Tryz.results124 fun N w0 hbad F => ?_
  refine AW_sr fun K h => ?_; simp [go_sem, F]; refine h _ ?_; refine AW_sr fun K h => ?_; simp [go_sem, F]; refine h _ ?_; refine AW_seq fun K1 hK1 => ?_; refine AW_sr fun K h => ?_; simp [go_sem, F]; refine h _ ?_; refine AW_if hM (fun h2 hM => ?_) (fun h2 hM => ?_)
  · have g := h2; (try simp at g); have F := And.intro F (And.intro h2 (And.intro g (lT h2))); refine AW_sr fun K h => ?_; simp [go_sem, F]; refine h _ ?_; obtain rfl := si hM; refine AW_ret ?_; simp [go_sem, F]
  · have g := h2; (try simp at g); have F := And.intro F (And.intro h2 (And.intro g (lF h2))); refine AW_skip ?_; refine hK1 _ ?_; obtain ⟨e3, hU5, hR4⟩ := bind_some hM; clear hM; refine AW_mid (ι := Int) (fun i => ⟨27, [(1, .one (.l (.int .i64 i)))], [], []⟩) (fun i => (.inl i) = e3) ?_ ?_
    · intro K6 hK6; have hM := hU5; clear hU5; refine AW_sr fun K h => ?_; simp [go_sem, F]; refine h _ ?_; refine AW_block ?_; refine AW_lp (ι := Int × Int) (fun i => ⟨27, [(0, .one (.l (.sl (a0.map TRow.c)))), (1, .one (.l (.int .i64 i.1))), (5, .one (.l (.int .i64 i.2)))], [], []⟩) (fun n i => w_szRowS_u1 a0 n i.1 i.2 = some e3) k ((IntKind.i64.wrap (a1 - (a0.length : Int))), 0) hM (by simp [w_szRowS_u1]) ?_
      intro KL7 n ⟨x2, x3⟩ hL7 hM F; have hM : w_szRowS_u1 a0 (n + 1) x2 x3 = some e3 := hM; rw [w_szRowS_u1] at hM; refine AW_seq fun K8 hK8 => ?_; refine AW_sr fun K h => ?_; simp [go_sem, F]; refine h _ ?_; refine AW_if hM (fun h9 hM => ?_) (fun h9 hM => ?_)
      · have g := h9; (try simp at g); have F := And.intro F (And.intro h9 (And.intro g (lT h9))); refine AW_skip ?_; refine hK8 _ ?_; refine AW_seq fun K10 hK10 => ?_; refine AW_block ?_; obtain ⟨x4, e11, hM⟩ := bind_some hM; have F := And.intro F (at_f e11); obtain ⟨x5, e12, hM⟩ := bind_some hM; refine AW_sr fun K h => ?_; simp [go_sem, F]; refine by_c false (w_szRow_ctr x4 x2 x5 e12) ?_; simp [go_sem, F]
        refine h _ ?_; refine AW_sr fun K h => ?_; simp [go_sem, F]; refine h _ ?_; refine AW_if hM (fun h13 hM => ?_) (fun h13 hM => ?_)
        · have g := h13; (try simp at g); have F := And.intro F (And.intro h13 (And.intro g (lT h13))); refine AW_sr fun K h => ?_; simp [go_sem, F]; refine h _ ?_; obtain rfl := si hM; have hM := hR4; dsimp only at hM; obtain rfl := si hM; refine AW_ret ?_; simp [go_sem, F]
        · have g := h13; (try simp at g); have F := And.intro F (And.intro h13 (And.intro g (lF h13))); refine AW_skip ?_; refine hK10 _ ?_; refine AW_region ?_; simp [go_sem, F]; exact fin hL7 (x5, (IntKind.i64.wrap (x3 + 1))) hM
      · have g := h9; (try simp at g); have F := And.intro F (And.intro h9 (And.intro g (lF h9))); refine AW_exit ?_; obtain rfl := si hM; exact fin hK6 x2 rfl
    · rintro x1 rfl; have hM := hR4; dsimp only at hM; refine AW_sr fun K h => ?_; simp [go_sem, F]; refine h _ ?_; obtain rfl := si hM; refine AW_ret ?_; simp [go_sem, F]
theorem w_szValueS_all : ∀ (k : Nat), (∀ (a0 : List TValue) (a1 : Int) (r : Int) (hM : w_szValueS k a0 a1 = some r), Ctr Tryz.prog 122 [.one (.sl (a0.map TValue.c)), .one (.int .i64 a1)] true [.one (.int .i64 r)]) ∧
    (∀ (a0 : TValue) (a1 : Int) (r : Int) (hM : w_szValue k a0 a1 = some r), Ctr Tryz.prog 99 [.agg (TValue.c a0), .one (.int .i64 a1)] true [.one (.int .i64 r)]) := by
  intro k
  induction k with
  | zero => exact ⟨by intro a0 a1 r hM; simp [w_szValueS] at hM, by intro a0 a1 r hM; simp [w_szValue] at hM⟩
  | succ k ih =>
    obtain ⟨ih_w_szValueS, ih_w_szValue⟩ := ih
    refine ⟨?_, ?_⟩
    · intro a0 a1 r hM
      rw [w_szValueS] at hM
      refine walkM Tryz.func122 Tryz.ntmps122 Tryz.results122 fun N w0 hbad F => ?_
      refine AW_sr fun K h => ?_; simp [go_sem, F]; refine h _ ?_; refine AW_sr fun K h => ?_; simp [go_sem, F]; refine h _ ?_; refine AW_seq fun K1 hK1 => ?_; refine AW_sr fun K h => ?_; simp [go_sem, F]; refine h _ ?_; refine AW_if hM (fun h2 hM => ?_) (fun h2 hM => ?_)
      · have g := h2; (try simp at g); have F := And.intro F (And.intro h2 (And.intro g (lT h2))); refine AW_sr fun K h => ?_; simp [go_sem, F]; refine h _ ?_; obtain rfl := si hM; refine AW_ret ?_; simp [go_sem, F]
      · have g := h2; (try simp at g); have F := And.intro F (And.intro h2 (And.intro g (lF h2))); refine AW_skip ?_; refine hK1 _ ?_; obtain ⟨e3, hU5, hR4⟩ := bind_some hM; clear hM; refine AW_mid (ι := Int) (fun i => ⟨27, [(1, .one (.l (.int .i64 i)))], [], []⟩) (fun i => (.inl i) = e3) ?_ ?_
        · intro K6 hK6; have hM := hU5; clear hU5; refine AW_sr fun K h => ?_; simp [go_sem, F]; refine h _ ?_; refine AW_block ?_; refine AW_lp (ι := Int × Int) (fun i => ⟨27, [(0, .one (.l (.sl (a0.map TValue.c)))), (1, .one (.l (.int .i64 i.1))), (5, .one (.l (.int .i64 i.2)))], [], []⟩) (fun n i => w_szValueS_u1 (w_szValue k) a0 n i.1 i.2 = some e3) k ((IntKind.i64.wrap (a1 - (a0.length : Int))), 0) hM (by simp [w_szValueS_u1]) ?_
          intro KL7 n ⟨x2, x3⟩ hL7 hM F; have hM : w_szValueS_u1 (w_szValue k) a0 (n + 1) x2 x3 = some e3 := hM; rw [w_szValueS_u1] at hM; refine AW_seq fun K8 hK8 => ?_; refine AW_sr fun K h => ?_; simp [go_sem, F]; refine h _ ?_; refine AW_if hM (fun h9 hM => ?_) (fun h9 hM => ?_)
          · have g := h9; (try simp at g); have F := And.intro F (And.intro h9 (And.intro g (lT h9))); refine AW_skip ?_; refine hK8 _ ?_; refine AW_seq fun K10 hK10 => ?_; refine AW_block ?_; obtain ⟨x4, e11, hM⟩ := bind_some hM; have F := And.intro F (at_f e11); obtain ⟨x5, e12, hM⟩ := bind_some hM; refine AW_sr fun K h => ?_; simp [go_sem, F]; refine by_c false (ih_w_szValue x4 x2 x5 e12) ?_; simp [go_sem, F]
            refine h _ ?_; refine AW_sr fun K h => ?_; simp [go_sem, F]; refine h _ ?_; refine AW_if hM (fun h13 hM => ?_) (fun h13 hM => ?_)
            · have g := h13; (try simp at g); have F := And.intro F (And.intro h13 (And.intro g (lT h13))); refine AW_sr fun K h => ?_; simp [go_sem, F]; refine h _ ?_; obtain rfl := si hM; have hM := hR4; dsimp only at hM; obtain rfl := si hM; refine AW_ret ?_; simp [go_sem, F]
            · have g := h13; (try simp at g); have F := And.intro F (And.intro h13 (And.intro g (lF h13))); refine AW_skip ?_; refine hK10 _ ?_; refine AW_region ?_; simp [go_sem, F]; exact fin hL7 (x5, (IntKind.i64.wrap (x3 + 1))) hM
          · have g := h9; (try simp at g); have F := And.intro F (And.intro h9 (And.intro g (lF h9))); refine AW_exit ?_; obtain rfl := si hM; exact fin hK6 x2 rfl
        · rintro x1 rfl; have hM := hR4; dsimp only at hM; refine AW_sr fun K h => ?_; simp [go_sem, F]; refine h _ ?_; obtain rfl := si hM; refine AW_ret ?_; simp [go_sem, F]
    · intro a0 a1 r hM
      rw [w_szValue] at hM
      refine walkM Tryz.func99 Tryz.ntmps99 Tryz.results99 fun N w0 hbad F => ?_
      refine AW_sr fun K h => ?_; simp [go_sem, F]; refine h _ ?_; refine AW_sr fun K h => ?_; simp [go_sem, F]; refine h _ ?_; refine AW_seq fun K1 hK1 => ?_; refine AW_sr fun K h => ?_; simp [go_sem, F]; refine h _ ?_; refine AW_if hM (fun h2 hM => ?_) (fun h2 hM => ?_)
      · have g := h2; (try simp at g); have F := And.intro F (And.intro h2 (And.intro g (lT h2))); refine AW_sr fun K h => ?_; simp [go_sem, F]; refine h _ ?_; obtain rfl := si hM; refine AW_ret ?_; simp [go_sem, F]
      · have g := h2; (try simp at g); have F := And.intro F (And.intro h2 (And.intro g (lF h2))); refine AW_skip ?_; refine hK1 _ ?_; obtain ⟨x1, e3, hM⟩ := bind_some hM; refine AW_sr fun K h => ?_; simp [go_sem, F]; refine by_c false (ih_w_szValueS a0.list (IntKind.i64.wrap (a1 - (a0.text.size : Int))) x1 e3) ?_; simp [go_sem, F]; refine h _ ?_; refine AW_seq fun K4 hK4 => ?_; refine AW_sr fun K h => ?_
        simp [go_sem, F]; refine h _ ?_; refine AW_if hM (fun h5 hM => ?_) (fun h5 hM => ?_)
        · have g := h5; (try simp at g); have F := And.intro F (And.intro h5 (And.intro g (lT h5))); refine AW_sr fun K h => ?_; simp [go_sem, F]; refine h _ ?_; obtain rfl := si hM; refine AW_ret ?_; simp [go_sem, F]
        · have g := h5; (try simp at g); have F := And.intro F (And.intro h5 (And.intro g (lF h5))); refine AW_skip ?_; refine hK4 _ ?_; obtain ⟨x2, e6, hM⟩ := bind_some hM; refine AW_sr fun K h => ?_; simp [go_sem, F]; refine by_c false (w_szStringS_ctr k a0.columns x1 x2 e6) ?_; simp [go_sem, F]; refine h _ ?_; refine AW_seq fun K7 hK7 => ?_; refine AW_sr fun K h => ?_; simp [go_sem, F]; refine h _ ?_
          refine AW_if hM (fun h8 hM => ?_) (fun h8 hM => ?_)
          · have g := h8; (try simp at g); have F := And.intro F (And.intro h8 (And.intro g (lT h8))); refine AW_sr fun K h => ?_; simp [go_sem, F]; refine h _ ?_; obtain rfl := si hM; refine AW_ret ?_; simp [go_sem, F]
          · have g := h8; (try simp at g); have F := And.intro F (And.intro h8 (And.intro g (lF h8))); refine AW_skip ?_; refine hK7 _ ?_; obtain ⟨x3, e9, hM⟩ := bind_some hM; refine AW_sr fun K h => ?_; simp [go_sem, F]; refine by_c false (w_szRowS_ctr k a0.rows x2 x3 e9) ?_; simp [go_sem, F]; refine h _ ?_; refine AW_seq fun K10 hK10 => ?_; refine AW_sr fun K h => ?_; simp [go_sem, F]; refine h _ ?_
            refine AW_if hM (fun h11 hM => ?_) (fun h11 hM => ?_)
            · have g := h11; (try simp at g); have F := And.intro F (And.intro h11 (And.intro g (lT h11))); refine AW_sr fun K h => ?_; simp [go_sem, F]; refine h _ ?_; obtain rfl := si hM; refine AW_ret ?_; simp [go_sem, F]
            · have g := h11; (try simp at g); have F := And.intro F (And.intro h11 (And.intro g (lF h11))); refine AW_skip ?_; refine hK10 _ ?_; refine AW_sr fun K h => ?_; simp [go_sem, F]; refine h _ ?_; obtain rfl := si hM; refine AW_ret ?_; simp [go_sem, F]
theorem w_szValue_ctr (k : Nat) : ∀ (a0 : TValue) (a1 : Int) (r : Int) (hM : w_szValue k a0 a1 = some r), Ctr Tryz.prog 99 [.agg (TValue.c a0), .one (.int .i64 a1)] true [.one (.int .i64 r)] := (w_szValueS_all k).2
theorem w_szRead_ctr (k : Nat) (a0 : TRead) (a1 : Int) (r : Int) (hM : w_szRead k a0 a1 = some r) : Ctr Tryz.prog 121 [.agg (TRead.c a0), .one (.int .i64 a1)] true [.one (.int .i64 r)] := by
  unfold w_szRead at hM
  refine walkM Tryz.func121 Tryz.ntmps121 Tryz.results121 fun N w0 hbad F => ?_
  refine AW_sr fun K h => ?_; simp [go_sem, F]; refine h _ ?_; refine AW_sr fun K h => ?_; simp [go_sem, F]; refine h _ ?_; refine AW_seq fun K1 hK1 => ?_; refine AW_sr fun K h => ?_; simp [go_sem, F]; refine h _ ?_; refine AW_if hM (fun h2 hM => ?_) (fun h2 hM => ?_)
  · have g := h2; (try simp at g); have F := And.intro F (And.intro h2 (And.intro g (lT h2))); refine AW_sr fun K h => ?_; simp [go_sem, F]; refine h _ ?_; obtain rfl := si hM; refine AW_ret ?_; simp [go_sem, F]
  · have g := h2; (try simp at g); have F := And.intro F (And.intro h2 (And.intro g (lF h2))); refine AW_skip ?_; refine hK1 _ ?_; obtain ⟨x1, e3, hM⟩ := bind_some hM; refine AW_sr fun K h => ?_; simp [go_sem, F]; refine by_c false (w_szValue_ctr k a0.result (IntKind.i64.wrap (a1 - (a0.text.size : Int))) x1 e3) ?_; simp [go_sem, F]; refine h _ ?_; refine AW_seq fun K4 hK4 => ?_; refine AW_sr fun K h => ?_
    simp [go_sem, F]; refine h _ ?_; refine AW_if hM (fun h5 hM => ?_) (fun h5 hM => ?_)
    · have g := h5; (try simp at g); have F := And.intro F (And.intro h5 (And.intro g (lT h5))); refine AW_sr fun K h => ?_; simp [go_sem, F]; refine h _ ?_; obtain rfl := si hM; refine AW_ret ?_; simp [go_sem, F]
    · have g := h5; (try simp at g); have F := And.intro F (And.intro h5 (And.intro g (lF h5))); refine AW_skip ?_; refine hK4 _ ?_; refine AW_sr fun K h => ?_; simp [go_sem, F]; refine h _ ?_; obtain rfl := si hM; refine AW_ret ?_; simp [go_sem, F]
end Go.Proofs.YtbknilpmpjjfpaaGreat
