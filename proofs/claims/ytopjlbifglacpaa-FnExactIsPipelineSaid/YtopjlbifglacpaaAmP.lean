/- Every operation that makes or writes memory, in one law. -/
import Derived.Test.YtopjlbifglacpaaAmO
set_option linter.unusedSimpArgs false
set_option linter.unusedVariables false
namespace Go.Proofs.Ytopjlbifglacpaa.Am
open Go.RowKit

section
variable {e : Env} {σ : St} {w : World} {N : Nat → Prop} {w0 : Bs} {a : Act} {P : Program}

/-- What an operation of a state leaves: a value in its slot, or nothing. -/
def Does (P : Program) (N : Nat → Prop) (w0 : Bs) (o : Oper) (a : Act) (w : World) (σ' : St) : Prop :=
  ∃ w' e', (∃ u, (execOp a.eval o).run P w = .ok (.value u) w' ∧ SimE N w0 e' σ' (a.put o.dst u) w') ∨ ((execOp a.eval o).run P w = .ok .skip w' ∧ SimE N w0 e' σ' (a.put o.dst undef) w')

theorem exec_of' {ρ : Operand → Value} {o : Oper} {s : Sem Value} {u : Value} {w' : World} (h : execOp ρ o = (do pure (.value (← s)) : Sem Next)) (hr : s.run P w = .ok u w') : (execOp ρ o).run P w = .ok (.value u) w' := by
  rw [h, Sem.run_bind, hr]; rfl

theorem store_sound (h : SimE N w0 e σ a w) {t : Nat} {p v : Operand} {f : Eff} (hv : memOp P σ none (.store t p v) = some f) (hs : f.side) :
    ∃ w' e', (Instr.storeAt t (a.eval p) (a.eval v)).run P w = .ok () w' ∧ SimE N w0 e' (σ.app f) a w' := by
  simp only [memOp] at hv
  split at hv
  · rename_i i x _ hi hx
    split at hv
    · rename_i new hnew
      have hr := (opd_rel h hx).cellsL hnew
      split at hv
      · rename_i hsz
        have hlen : (a.eval v).cells.size = i.size := by rw [← hsz, ← hr.len]; simp
        have sv : ∀ (ad : Addr) w', (storeCells ad (a.eval v).cells.toList).run P w = .ok () w' → (storeVar t ad (a.eval v)).run P w = .ok () w' := by
          intro ad w' hst
          simp [storeVar, sizeOf_of hi, hlen, hst]
        split at hv
        · rename_i k off hp
          obtain ⟨_, he⟩ := opd_rel h hp
          split at hv
          · rename_i cs hk
            split at hv
            · rename_i hle
              obtain rfl := Option.some.inj hv
              obtain ⟨w', k1, k2⟩ := h.setBox (P := P) hk hr hle
              exact ⟨w', e, by simp [Instr.storeAt, Instr.sureAddr, he, sv _ _ k1], k2⟩
            · cases hv
          · cases hv
        · rename_i τ n j W off hp
          obtain ⟨A', hA', h1, _⟩ := opd_rel h hp
          split at hv
          · rename_i A ls fr τs q hA hab
            split at hv
            · rename_i el hel
              split at hv
              · rename_i hc
                obtain ⟨c1, c2, c3, c4, c5⟩ := hc
                obtain rfl := Option.some.inj hv
                rw [hA] at hA'
                obtain rfl := Option.some.inj hA'
                obtain ⟨b, b1, b2⟩ := (h1 A rfl).2 hs.1
                obtain ⟨w', e', k1, k2⟩ := h.setElt (P := P) hA hel b1 hr hab hs.2 c3 c5 (fun _ => c4) (by rw [c1]; exact c2)
                rw [c1] at k1
                exact ⟨w', e', by simp [Instr.storeAt, Instr.sureAddr, b2, sv _ _ k1], k2⟩
              · cases hv
            · cases hv
          · cases hv
        · cases hv
      · cases hv
    · cases hv
  · cases hv

theorem append_sound (h : SimE N w0 e σ a w) {d : Nat} {xs : Array Operand} {ts : Array Nat} {f : Eff} (hv : memOp P σ (some d) (.call { callee := .builtin .append, args := xs, argTypes := ts }) = some f) (hs : f.side) (ty : Nat) :
    ∃ u w' e', (Builtin.append_ ts ty (xs.map a.eval)).run P w = .ok u w' ∧ SimE N w0 e' (σ.app f) (a.put (some d) u) w' := by
  simp only [memOp] at hv
  split at hv
  · rename_i d' s x t t' hd' hxs hts
    obtain rfl := Option.some.inj hd'
    have hxs' : xs = #[s, x] := by rw [← Array.toList_inj]; exact hxs
    have hts' : ts = #[t, t'] := by rw [← Array.toList_inj]; exact hts
    subst hxs' hts'
    split at hv
    · rename_i hc
      obtain ⟨rfl, hd⟩ := hc
      split at hv
      · rename_i et _ _ _ sv xv hi hsv hxv
        have ht := ti_slice hi
        split at hv
        · rename_i ei ys fr τs q hei hsrc
          split at hv
          · rename_i hz
            have rx := opd_rel h hxv
            have rs := opd_rel h hsv
            split at hv
            · split at hv
              · rename_i hn
                obtain rfl := Option.some.inj hv
                obtain ⟨s1, s0, s2, s3, s4⟩ := hs
                have hn' : σ.ar.lookup (64 * d) = none := by simpa using hn
                have src := srcV_sound h rx hsrc s1 s2
                have hτ : 64 * d ∉ τs := fun hm => by obtain ⟨B, hB, _⟩ := src.lv _ hm; rw [hn'] at hB; cases hB
                have hsv' : a.eval s = .slice none 0 0 := rs
                obtain ⟨v', w', e', k1, k2⟩ := h.appendTo (P := P) (ty := ty) hd (A0 := ⟨true, []⟩) (.inr ⟨hn', hsv', rfl⟩) src hτ s0 ht hei rfl hz (by simpa using s2) (by simpa using s3) (by simpa using s4)
                refine ⟨v', w', e', by simpa using k1, ?_⟩
                simp only [List.length_nil, Nat.zero_add, List.nil_append, Bool.true_and] at k2
                exact k2
              · cases hv
            · rename_i τ n
              split at hv
              · rename_i A hA
                split at hv
                · rename_i hτ
                  obtain ⟨hτ, hdp⟩ := hτ
                  obtain rfl := Option.some.inj hv
                  obtain ⟨s1, rfl, s3, s4, s5, s6⟩ := hs
                  have src := srcV_sound h rx hsrc s1 s4
                  obtain ⟨A', hA', h1, _⟩ := rs
                  rw [hA] at hA'
                  obtain rfl := Option.some.inj hA'
                  have hsv' := (h1 A rfl).2 rfl
                  obtain ⟨v', w', e', k1, k2⟩ := h.appendTo (P := P) (ty := ty) hd (A0 := A) (.inl ⟨hA, hsv'⟩) src hτ hdp ht hei rfl hz (fun z hz' => by rcases List.mem_append.1 hz' with q | q; exact s3 z q; exact s4 z q) s5 s6
                  exact ⟨v', w', e', by simpa using k1, k2⟩
                · cases hv
              · cases hv
            · cases hv
          · cases hv
        · cases hv
      · cases hv
    · cases hv
  · cases hv

theorem memOp_sound (h : SimE N w0 e σ a w) {o : Oper} {f : Eff} (hv : memOp P σ o.dst o.op = some f) (hs : f.side) : Does P N w0 o a w (σ.app f) := by
  have hv0 := hv
  unfold memOp at hv
  split at hv
  · rename_i t x ho
    split at hv
    · rename_i d v hd hx
      split at hv
      · rename_i cs hcs hn
        split at hv
        · rename_i hlt
          obtain rfl := Option.some.inj hv
          have hr := (opd_rel h hx).cellsL hcs
          have hh := h.newBox hlt hn (us := (a.eval x).cells) hr t
          rw [← hd] at hh
          exact ⟨_, _, .inl ⟨_, by simp [execOp, ho, Instr.box, newVar, newRow], hh⟩⟩
        · cases hv
      · cases hv
    · cases hv
  · rename_i t ho
    split at hv
    · rename_i d i hd hi
      split at hv
      · rename_i cs hcs hn
        split at hv
        · rename_i hlt
          obtain rfl := Option.some.inj hv
          obtain ⟨z, z1, z2⟩ := zero_of hi w
          have hh := h.newBox hlt hn (us := z.cells) (by rw [z2]; exact constL_rel hcs) t
          rw [← hd] at hh
          exact ⟨_, _, .inl ⟨_, by simp [execOp, ho, Instr.alloc, newVar, newRow, z1], hh⟩⟩
        · cases hv
      · cases hv
    · cases hv
  · rename_i t p v ho
    have hd : o.dst = none := by
      rw [ho] at hv0
      simp only [memOp] at hv0
      split at hv0
      · rename_i h1 _ _; exact h1
      · cases hv0
    rw [ho, hd] at hv0
    obtain ⟨w', e', k1, k2⟩ := store_sound h hv0 hs
    exact ⟨w', e', .inr ⟨by simp [execOp, ho, k1], by rw [hd]; exact k2⟩⟩
  · rename_i t len ps ho
    obtain ⟨d, hd⟩ : ∃ d, o.dst = some d := by
      rw [ho] at hv0
      simp only [memOp] at hv0
      split at hv0
      · rename_i h1 _ _; exact ⟨_, h1⟩
      · cases hv0
    rw [ho, hd] at hv0
    obtain ⟨u, w', e', k1, k2⟩ := buildSlice_sound h hv0 hs
    exact ⟨w', e', .inl ⟨u, exec_of' (by simp only [execOp, ho]) k1, by rw [hd]; exact k2⟩⟩
  · rename_i t l c ho
    obtain ⟨d, hd⟩ : ∃ d, o.dst = some d := by
      rw [ho] at hv0
      simp only [memOp] at hv0
      split at hv0
      · rename_i h1 _ _ _; exact ⟨_, h1⟩
      · cases hv0
    rw [ho, hd] at hv0
    obtain ⟨u, w', e', k1, k2⟩ := makeSlice_sound h hv0 hs
    exact ⟨w', e', .inl ⟨u, exec_of' (by simp only [execOp, ho]) k1, by rw [hd]; exact k2⟩⟩
  · rename_i xs ts ho
    obtain ⟨d, hd⟩ : ∃ d, o.dst = some d := by
      rw [ho] at hv0
      simp only [memOp] at hv0
      split at hv0
      · rename_i h1 _ _; exact ⟨_, h1⟩
      · cases hv0
    rw [ho, hd] at hv0
    obtain ⟨u, w', e', k1, k2⟩ := append_sound h hv0 hs o.type
    refine ⟨w', e', .inl ⟨u, ?_, by rw [hd]; exact k2⟩⟩
    simp [execOp, ho, resolve, invoke, builtin, k1]
  · cases hv
end

end Go.Proofs.Ytopjlbifglacpaa.Am
