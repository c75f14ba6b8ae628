/- Contracts of the program's functions: where the mirrored function answers, the program's function returns this answer. Written by a program of mine. -/
import Derived.Test.YtbknilpmpjjfpaaWn
import Derived.Test.YtbknilpmpjjfpaaMd9
import Derived.Test.YtbknilpmpjjfpaaCt8
set_option linter.unusedSimpArgs false
set_option linter.unusedVariables false
namespace Go.Proofs.Ytbknilpmpjjfpaa
open Go.RowKit Am
set_option maxHeartbeats 4000000
set_option maxRecDepth 100000
theorem s_OriginsOf_ctr (k : Nat) (a0 : TValue) (r : List TOrigin) (hM : s_OriginsOf k a0 = some r) : Ctr Try.prog 27 [.agg (TValue.c a0)] false [.one (.sl (r.map TOrigin.c))] := by
  unfold s_OriginsOf at hM
  refine walkM Try.func27 Try.ntmps27 Try.results27 fun N w0 hbad F => ?_
  refine AW_sr fun K h => ?_; simp [go_sem, F]; refine h _ ?_; refine AW_sr fun K h => ?_; simp [go_sem, F]; refine h _ ?_; obtain ⟨e1, hU3, hR2⟩ := bind_some hM; clear hM; refine AW_mid (ι := List TOrigin) (fun i => ⟨22, [(3, .one (.l (.sl (i.map TOrigin.c))))], [], []⟩) (fun i => i = e1) ?_ ?_
  · intro K4 hK4; have hM := hU3; clear hU3; refine AW_sr fun K h => ?_; simp [go_sem, F]; refine h _ ?_; refine AW_block ?_; refine AW_lp (ι := (List TOrigin) × Int) (fun i => ⟨22, [(1, .one (.box 1 0)), (3, .one (.l (.sl (i.1.map TOrigin.c)))), (4, .one (.l (.int .i64 i.2)))], [(1, [.l (.int .i64 a0.kind), .l (.int .i64 a0.n), .l (.int .i64 a0.step), .l (.str a0.text), .l (.sl (a0.list.map TValue.c)), .l (.sl (a0.columns.map sC)), .l (.sl (a0.rows.map TRow.c))])], []⟩) (fun n i => s_OriginsOf_u1 k a0 n i.1 i.2 = some e1) k (([] : List TOrigin), 0) hM (by simp [s_OriginsOf_u1]) ?_
    intro KL5 n ⟨x2, x3⟩ hL5 hM F; have hM : s_OriginsOf_u1 k a0 (n + 1) x2 x3 = some e1 := hM; rw [s_OriginsOf_u1] at hM; refine AW_seq fun K6 hK6 => ?_; refine AW_sr fun K h => ?_; simp [go_sem, F]; refine h _ ?_; refine AW_if hM (fun h7 hM => ?_) (fun h7 hM => ?_)
    · have g := h7; (try simp at g); have F := And.intro F (And.intro h7 (And.intro g (lT h7))); refine AW_skip ?_; refine hK6 _ ?_; refine AW_seq fun K8 hK8 => ?_; refine AW_block ?_; obtain ⟨x4, e9, hM⟩ := bind_some hM; have F := And.intro F (at_f e9); obtain ⟨x5, e10, hM⟩ := bind_some hM; refine AW_region ?_; simp [go_sem, F]; refine by_c false (s_UnionOrigins_ctr k x2 x4.from_ x5 e10) ?_; simp [go_sem, F]
      refine hK8 _ ?_; refine AW_region ?_; simp [go_sem, F]; exact fin hL5 (x5, (IntKind.i64.wrap (x3 + 1))) hM
    · have g := h7; (try simp at g); have F := And.intro F (And.intro h7 (And.intro g (lF h7))); refine AW_exit ?_; obtain rfl := si hM; exact fin hK4 x2 rfl
  · rintro x1 rfl; have hM := hR2; (try dsimp only at hM); refine AW_sr fun K h => ?_; simp [go_sem, F]; refine h _ ?_; obtain rfl := si hM; refine AW_ret ?_; simp [go_sem, F]
end Go.Proofs.Ytbknilpmpjjfpaa
