/- IsPipeline: the program's and the reference's answer alike. -/
import Derived.Test.YtopjlbifglacpaaLg
import Derived.Test.YtopjlbifglacpaaLs
set_option linter.unusedSimpArgs false
set_option linter.unusedVariables false
namespace Go.Proofs.Ytopjlbifglacpaa
open Go.RowKit Am

mutual
/-- How many nodes; how deep. -/
def TExpr.cnt : TExpr → Nat
  | ⟨_, _, _, args⟩ => 1 + TExpr.cnts args
def TExpr.cnts : List TExpr → Nat
  | [] => 0
  | x :: xs => TExpr.cnt x + TExpr.cnts xs
end
theorem TExpr.cnts_eq : ∀ xs : List TExpr, TExpr.cnts xs = sumBk TExpr.cnt xs
  | [] => rfl
  | x :: xs => by rw [TExpr.cnts, TExpr.cnts_eq xs]; rfl
theorem TExpr.cnt_eq (x : TExpr) : x.cnt = 1 + sumBk TExpr.cnt x.args := by cases x; simp only [TExpr.cnt, TExpr.cnts_eq]
mutual
def TExpr.nest : TExpr → Nat
  | ⟨_, _, _, args⟩ => TExpr.nests 0 args + 1
def TExpr.nests : Nat → List TExpr → Nat
  | n, [] => n
  | n, x :: xs => TExpr.nests (max n (TExpr.nest x)) xs
end
theorem TExpr.nest_eq (x : TExpr) : x.nest = TExpr.nests 0 x.args + 1 := by cases x; simp only [TExpr.nest]

theorem TExpr.cnt_bk : ∀ x : TExpr, x.cnt ≤ x.bk + 1 := by
  refine TExpr.ind fun x ih => ?_
  rw [TExpr.cnt_eq, TExpr.bk_eq]
  have : ∀ xs : List TExpr, (∀ y ∈ xs, y.cnt ≤ y.bk + 1) → sumBk TExpr.cnt xs ≤ bkS TExpr.bk xs := by
    intro xs
    induction xs with
    | nil => intro _; simp [sumBk]
    | cons y ys ih2 =>
      intro h
      have h1 := h y (by simp)
      have h2 := ih2 fun z hz => h z (by simp [hz])
      simp only [sumBk, bkS, List.map_cons, List.sum_cons, List.length_cons] at h2 ⊢
      omega
  have := this x.args ih
  omega
theorem TExpr.nest_cnt : ∀ x : TExpr, x.nest ≤ x.cnt := by
  refine TExpr.ind fun x ih => ?_
  rw [TExpr.cnt_eq, TExpr.nest_eq]
  have : ∀ (xs : List TExpr) (n m : Nat), (∀ y ∈ xs, y.nest ≤ y.cnt) → n ≤ m → TExpr.nests n xs ≤ m + sumBk TExpr.cnt xs := by
    intro xs
    induction xs with
    | nil => intro n m _ h; simpa [TExpr.nests, sumBk] using h
    | cons y ys ih2 =>
      intro n m h hn
      have h1 := h y (by simp)
      have h2 := ih2 (max n y.nest) (m + y.cnt) (fun z hz => h z (by simp [hz])) (by omega)
      simp only [TExpr.nests, sumBk, List.map_cons, List.sum_cons] at h2 ⊢
      omega
  have := this x.args 0 0 ih (by omega)
  omega
theorem TExpr.len_bk (x : TExpr) : x.args.length ≤ x.bk := by rw [TExpr.bk_eq]; have := bkS_len (f := TExpr.bk) (xs := x.args); omega
theorem TExpr.text_bk (x : TExpr) : x.text.size ≤ x.bk := by rw [TExpr.bk_eq]; omega
theorem TExpr.arg_bk {x y : TExpr} (h : y ∈ x.args) : y.bk ≤ x.bk := by rw [TExpr.bk_eq x]; have := bkS_get (f := TExpr.bk) h; omega

/-- The nodes left of a number. -/
theorem s_l10Left_eq : ∀ x : TExpr, x.bk ≤ 1048576 → Ev fun k => ∀ l : Int, 0 ≤ l → l ≤ 1048576 → s_l10Left k x l = some (szR x.cnt l) := by
  refine TExpr.ind fun x ih hb => ?_
  refine ((Ev.all x.args fun y hy => ih y hy (by have := TExpr.arg_bk hy; omega)).and (Ev.ge (x.args.length + 2))).pred ?_
  rintro k ⟨hx, hk⟩ l l0 l1
  have hlen := x.len_bk
  rw [s_l10Left, w64 (by omega) (by omega)]
  have key : ∀ (m n i : Nat) (c : Int), i + m = x.args.length → m < n → -1 ≤ c → c ≤ 1048576 → s_l10Left_u1 (s_l10Left k) x n c (i : Int) = some (if 0 ≤ c then szR (sumBk TExpr.cnt (x.args.drop i)) c else -1) := by
    intro m
    induction m with
    | zero =>
      intro n i c hi hn c0 c1
      obtain ⟨n, rfl⟩ : ∃ j, n = j + 1 := ⟨n - 1, by omega⟩
      rw [s_l10Left_u1, if_neg (lt_no (by omega)), List.drop_of_length_le (by omega)]
      by_cases h : 0 ≤ c
      · simp [sumBk, szR, h]
      · rw [if_neg h]; simp; omega
    | succ m ih2 =>
      intro n i c hi hn c0 c1
      obtain ⟨n, rfl⟩ : ∃ j, n = j + 1 := ⟨n - 1, by omega⟩
      have hil : i < x.args.length := by omega
      rw [s_l10Left_u1, if_pos (lt_yes hil), Option.bind_some]
      by_cases h : 0 ≤ c
      · rw [if_pos (by simpa using h), at_in hil, Option.bind_some, hx _ (List.getElem_mem hil) c h c1, Option.bind_some, wS i (by omega), if_pos h, List.drop_eq_getElem_cons hil]
        have e : sumBk TExpr.cnt (x.args[i] :: x.args.drop (i + 1)) = x.args[i].cnt + sumBk TExpr.cnt (x.args.drop (i + 1)) := by unfold sumBk; rw [List.map_cons, List.sum_cons]
        rw [e]
        rcases szR_cut (b := x.args[i].cnt) (left := c) c1 with ⟨z, e1, g1, q1, p1, r1⟩ | ⟨e1, q1⟩
        · rw [e1, ih2 n (i + 1) z (by omega) (by omega) (by omega) r1, if_pos p1, q1]
          unfold szR
          by_cases h2 : (sumBk TExpr.cnt (x.args.drop (i + 1)) : Int) ≤ c - x.args[i].cnt
          · rw [if_pos h2, if_pos (by omega)]; congr 1; omega
          · rw [if_neg h2, if_neg (by omega)]
        · rw [e1, ih2 n (i + 1) (-1) (by omega) (by omega) (by omega) (by omega), if_neg (by omega)]
          unfold szR
          rw [if_neg (by omega)]
      · rw [if_neg (by simpa using h), if_neg h]; congr 1; omega
  have := key x.args.length k 0 (l - 1) (by omega) (by omega) (by omega) (by omega)
  rw [show ((0 : Nat) : Int) = 0 from rfl] at this
  rw [this, Option.bind_some, x.cnt_eq, List.drop_zero]
  congr 1
  unfold szR
  by_cases h : 0 ≤ l - 1
  · rw [if_pos h]
    by_cases h2 : (sumBk TExpr.cnt x.args : Int) ≤ l - 1
    · rw [if_pos h2, if_pos (by omega)]; omega
    · rw [if_neg h2, if_neg (by omega)]
  · rw [if_neg h, if_neg (by omega)]

theorem i_NodeCount_eq : ∀ x : TExpr, x.bk ≤ 1048576 → Ev fun k => i_NodeCount k x = some (x.cnt : Int) := by
  refine TExpr.ind fun x ih hb => ?_
  refine ((Ev.all x.args fun y hy => ih y hy (by have := TExpr.arg_bk hy; omega)).and (Ev.ge (x.args.length + 2))).pred ?_
  rintro k ⟨hx, hk⟩
  have hlen := x.len_bk
  have hc := x.cnt_bk
  have he := x.cnt_eq
  rw [i_NodeCount]
  have key : ∀ (m n i : Nat) (c : Nat), i + m = x.args.length → m < n → c + sumBk TExpr.cnt (x.args.drop i) ≤ 1048577 → i_NodeCount_u1 (i_NodeCount k) x n (c : Int) (i : Int) = some ((c + sumBk TExpr.cnt (x.args.drop i) : Nat) : Int) := by
    intro m
    induction m with
    | zero =>
      intro n i c hi hn hc
      obtain ⟨n, rfl⟩ : ∃ j, n = j + 1 := ⟨n - 1, by omega⟩
      rw [i_NodeCount_u1, if_neg (lt_no (by omega)), List.drop_of_length_le (by omega)]
      simp [sumBk]
    | succ m ih2 =>
      intro n i c hi hn hc
      obtain ⟨n, rfl⟩ : ∃ j, n = j + 1 := ⟨n - 1, by omega⟩
      have hil : i < x.args.length := by omega
      have e : sumBk TExpr.cnt (x.args.drop i) = x.args[i].cnt + sumBk TExpr.cnt (x.args.drop (i + 1)) := by rw [List.drop_eq_getElem_cons hil]; unfold sumBk; rw [List.map_cons, List.sum_cons]
      rw [i_NodeCount_u1, if_pos (lt_yes hil), at_in hil, Option.bind_some, hx _ (List.getElem_mem hil), Option.bind_some, wS i (by omega), w64 (by omega) (by omega)]
      rw [show (c : Int) + (x.args[i].cnt : Int) = ((c + x.args[i].cnt : Nat) : Int) by omega, ih2 n (i + 1) _ (by omega) (by omega) (by omega)]
      congr 2; omega
  have := key x.args.length k 0 1 (by omega) (by omega) (by rw [List.drop_zero]; omega)
  rw [show ((0 : Nat) : Int) = 0 from rfl, show ((1 : Nat) : Int) = 1 from rfl] at this
  rw [this, Option.bind_some, List.drop_zero, he]

theorem nesting (x : TExpr) (hb : x.bk ≤ 1048576) : Ev fun k => s_NestingOf k x = some (x.nest : Int) ∧ i_NestingOf k x = some (x.nest : Int) := by
  revert hb
  refine TExpr.ind (p := fun x => x.bk ≤ 1048576 → Ev fun k => s_NestingOf k x = some (x.nest : Int) ∧ i_NestingOf k x = some (x.nest : Int)) (fun x ih hb => ?_) x
  refine ((Ev.all x.args fun y hy => ih y hy (by have := TExpr.arg_bk hy; omega)).and (Ev.ge (x.args.length + 2))).pred ?_
  rintro k ⟨hx, hk⟩
  have hlen := x.len_bk
  have hc := x.cnt_bk
  have hn := x.nest_cnt
  have he := x.nest_eq
  have key : ∀ (m n i : Nat) (c : Nat), i + m = x.args.length → m < n → s_NestingOf_u1 (s_NestingOf k) x n (c : Int) (i : Int) = some ((TExpr.nests c (x.args.drop i) : Nat) : Int) ∧ i_NestingOf_u1 (i_NestingOf k) x n (c : Int) (i : Int) = some ((TExpr.nests c (x.args.drop i) : Nat) : Int) := by
    intro m
    induction m with
    | zero =>
      intro n i c hi hn
      obtain ⟨n, rfl⟩ : ∃ j, n = j + 1 := ⟨n - 1, by omega⟩
      rw [s_NestingOf_u1, i_NestingOf_u1, if_neg (lt_no (by omega)), if_neg (lt_no (by omega)), List.drop_of_length_le (by omega)]
      simp [TExpr.nests]
    | succ m ih2 =>
      intro n i c hi hn
      obtain ⟨n, rfl⟩ : ∃ j, n = j + 1 := ⟨n - 1, by omega⟩
      have hil : i < x.args.length := by omega
      obtain ⟨h1, h2⟩ := hx _ (List.getElem_mem hil)
      have hm : s_l1Max (c : Int) (x.args[i].nest : Int) = some ((max c x.args[i].nest : Nat) : Int) := by
        unfold s_l1Max
        by_cases h : (x.args[i].nest : Int) < c
        · rw [if_pos (by simpa using h)]; congr 1; omega
        · rw [if_neg (by simpa using h)]; congr 1; omega
      have hi2 : (if (x.args[i].nest : Int) > (c : Int) then (x.args[i].nest : Int) else (c : Int)) = ((max c x.args[i].nest : Nat) : Int) := by split <;> omega
      rw [s_NestingOf_u1, i_NestingOf_u1, if_pos (lt_yes hil), if_pos (lt_yes hil), at_in hil, Option.bind_some, Option.bind_some, h1, h2, Option.bind_some, Option.bind_some, hm, Option.bind_some, hi2, wS i (by omega), List.drop_eq_getElem_cons hil]
      simp only [TExpr.nests]
      exact ih2 n (i + 1) _ (by omega) (by omega)
  obtain ⟨k1, k2⟩ := key x.args.length k 0 0 (by omega) (by omega)
  rw [show ((0 : Nat) : Int) = 0 from rfl, List.drop_zero] at k1 k2
  have hw : IntKind.i64.wrap ((TExpr.nests 0 x.args : Nat) + 1 : Int) = (x.nest : Int) := by rw [w64 (by omega) (by omega)]; omega
  constructor
  · rw [s_NestingOf, k1, Option.bind_some, hw]
  · rw [i_NestingOf, k2, Option.bind_some, hw]

-- texts
def badText (c : UInt8) : Bool := decide ((c.toNat : Int) < 32) || (decide (126 < (c.toNat : Int)) || decide ((c.toNat : Int) = 34))
theorem size_list (s : ByteArray) : s.data.toList.length = s.size := by simp
theorem validText (s : ByteArray) (hs : (s.size : Int) ≤ 9223372036854775807) {k : Nat} (hk : s.size < k) : s_IsValidText k s = some (!(s.data.toList.any badText) && decide ((s.size : Int) ≤ 20)) ∧ i_IsValidText k s = some (!(s.data.toList.any badText) && decide ((s.size : Int) ≤ 20)) := by
  have hT : ∀ x ∈ s.data.toList, (fun c : UInt8 => (if (decide ((c.toNat : Int) < 32)) = true then some true else if (decide (126 < (c.toNat : Int))) = true then some true else some (decide ((c.toNat : Int) = 34)) : Option Bool)) x = some (badText x) := by
    intro x _
    unfold badText
    simp only
    cases decide ((x.toNat : Int) < 32) <;> cases decide (126 < (x.toNat : Int)) <;> simp
  constructor
  · unfold s_IsValidText
    rw [any_loop0 s.data.toList badText _ false () (s_IsValidText_u1 s) hT (fun n i => by rw [s_IsValidText_u1, size_list]; simp only [Option.bind_assoc]) (by rw [size_list]; exact hs) (by rw [size_list]; exact hk)]
    cases s.data.toList.any badText <;> simp
  · unfold i_IsValidText
    rw [any_loop0 s.data.toList badText _ false () (i_IsValidText_u1 s) hT (fun n i => by rw [i_IsValidText_u1, size_list]; simp only [Option.bind_assoc]) (by rw [size_list]; exact hs) (by rw [size_list]; exact hk)]
    cases s.data.toList.any badText <;> simp

-- names
def lett (c : UInt8) : Bool := decide (97 ≤ (c.toNat : Int)) && decide ((c.toNat : Int) ≤ 122)
def digi (c : UInt8) : Bool := decide (48 ≤ (c.toNat : Int)) && decide ((c.toNat : Int) ≤ 57)
def badAt (i : Nat) (c : UInt8) : Bool := !lett c && (decide (i = 0) || !digi c)
theorem l1In_eq (a lo hi : Int) : s_l1In a lo hi = some (decide (lo ≤ a) && decide (a ≤ hi)) := by
  unfold s_l1In
  cases decide (lo ≤ a) <;> simp
theorem within_eq (a lo hi : Int) : i_within a lo hi = some (decide (lo ≤ a) && decide (a ≤ hi)) := by
  unfold i_within
  cases decide (lo ≤ a) <;> simp
theorem shape_eq (s : ByteArray) (hs : (s.size : Int) ≤ 9223372036854775807) {k : Nat} (hk : s.size < k) : s_l2Shape k s = some (!(anyI badAt 0 s.data.toList) && decide (0 < (s.size : Int))) := by
  unfold s_l2Shape
  rw [any_loopI0 s.data.toList badAt (fun i c => (if (decide (97 ≤ (c.toNat : Int))) = true then some (decide ((c.toNat : Int) ≤ 122)) else some false : Option Bool).bind fun x2 => (if (decide (48 ≤ (c.toNat : Int))) = true then some (decide ((c.toNat : Int) ≤ 57)) else some false : Option Bool).bind fun x4 =>
      (if (!x2) = true then if (decide (i = 0)) = true then some true else some (!x4) else some false : Option Bool)) false () (s_l2Shape_u1 s) (fun j hj => ?_) (fun n i => ?_) (by rw [size_list]; exact hs) (by rw [size_list]; exact hk)]
  · cases anyI badAt 0 s.data.toList <;> simp
  · unfold badAt lett digi
    cases decide (97 ≤ ((s.data.toList[j]).toNat : Int)) <;> cases decide (((s.data.toList[j]).toNat : Int) ≤ 122) <;> cases decide (48 ≤ ((s.data.toList[j]).toNat : Int)) <;> by_cases h0 : j = 0 <;> simp [h0]
  · rw [s_l2Shape_u1, size_list]
    cases at? s.data.toList i with
    | none => rfl
    | some c => simp only [Option.bind_some, Option.bind_assoc]
theorem word_eq (s : ByteArray) (hs : (s.size : Int) ≤ 9223372036854775807) {k : Nat} (hk : s.size < k) : i_isWord k s = some (!(anyI badAt 0 s.data.toList) && (decide (1 ≤ (s.size : Int)) && decide ((s.size : Int) ≤ 8))) := by
  unfold i_isWord
  rw [any_loopI0 s.data.toList badAt (fun i c => (if (decide (97 ≤ (c.toNat : Int))) = true then some (decide ((c.toNat : Int) ≤ 122)) else some false : Option Bool).bind fun x2 =>
      (if (!x2) = true then if (decide (i = 0)) = true then some true else (if (decide ((c.toNat : Int) < 48)) = true then some true else some (decide (57 < (c.toNat : Int)))) else some false : Option Bool)) false () (i_isWord_u1 s) (fun j hj => ?_) (fun n i => ?_) (by rw [size_list]; exact hs) (by rw [size_list]; exact hk)]
  · rw [within_eq]
    cases anyI badAt 0 s.data.toList <;> simp
  · unfold badAt lett digi
    obtain ⟨c, hc⟩ : ∃ c, c = s.data.toList[j] := ⟨_, rfl⟩
    rw [← hc]
    by_cases h0 : j = 0
    · cases decide (97 ≤ (c.toNat : Int)) <;> cases decide ((c.toNat : Int) ≤ 122) <;> simp [h0]
    · by_cases h1 : (c.toNat : Int) < 48
      · have h2 : ¬ (48 ≤ (c.toNat : Int)) := by omega
        cases decide (97 ≤ (c.toNat : Int)) <;> cases decide ((c.toNat : Int) ≤ 122) <;> simp [h0, h1, h2]
      · have h2 : 48 ≤ (c.toNat : Int) := by omega
        by_cases h3 : (c.toNat : Int) ≤ 57
        · have h4 : ¬ (57 < (c.toNat : Int)) := by omega
          cases decide (97 ≤ (c.toNat : Int)) <;> cases decide ((c.toNat : Int) ≤ 122) <;> simp [h0, h1, h2, h3, h4]
        · have h4 : 57 < (c.toNat : Int) := by omega
          cases decide (97 ≤ (c.toNat : Int)) <;> cases decide ((c.toNat : Int) ≤ 122) <;> simp [h0, h1, h2, h3, h4]
  · rw [i_isWord_u1, size_list]
    cases at? s.data.toList i with
    | none => rfl
    | some c => simp only [Option.bind_some, Option.bind_assoc]
def resWords : List ByteArray := (s_l2Reserved).getD []
theorem resWords_eq : s_l2Reserved = some resWords := rfl
theorem argCount_eq (a : ByteArray) : s_ArgumentCount a = i_ArgumentCount a := by unfold s_ArgumentCount i_ArgumentCount; rfl
theorem s_reserved (a : ByteArray) {k : Nat} (hk : 24 < k) : s_IsReserved k a = some (resWords.any fun x => decide (x = a)) := by
  unfold s_IsReserved
  rw [resWords_eq, Option.bind_some]
  unfold s_l1Has
  rw [any_loop0 resWords (fun x => decide (x = a)) (fun x => some (decide (x = a))) true () (s_l1Has_u1 resWords a) (fun _ _ => rfl) (fun n i => by rw [s_l1Has_u1]; rfl) (by decide) (show resWords.length < k from hk)]
  cases resWords.any fun x => decide (x = a) <;> rfl
theorem i_reserved (a : ByteArray) : i_IsReserved a = some (resWords.any fun x => decide (x = a)) := by
  by_cases h : a ∈ resWords
  · have hb : (resWords.any fun x => decide (x = a)) = true := List.any_eq_true.2 ⟨a, h, by simp⟩
    rw [hb]
    simp only [resWords, s_l2Reserved, Option.getD_some, List.mem_cons, List.not_mem_nil, or_false] at h
    rcases h with rfl | rfl | rfl | rfl | rfl | rfl | rfl | rfl | rfl | rfl | rfl | rfl | rfl | rfl | rfl | rfl | rfl | rfl | rfl | rfl | rfl | rfl | rfl | rfl <;> rfl
  · have hb : (resWords.any fun x => decide (x = a)) = false := by
      rw [List.any_eq_false]; intro x hx; simp; rintro rfl; exact h hx
    rw [hb]
    simp only [resWords, s_l2Reserved, Option.getD_some, List.mem_cons, List.not_mem_nil, or_false, not_or] at h
    obtain ⟨h1, h2, h3, h4, h5, h6, h7, h8, h9, h10, h11, h12, h13, h14, h15, h16, h17, h18, h19, h20, h21, h22, h23, h24⟩ := h
    unfold i_IsReserved i_ArgumentCount
    simp [h1, h2, h3, h4, h5, h6, h7, h8, h9, h10, h11, h12, h13, h14, h15, h16, h17, h18, h19, h20, h21, h22, h23, h24]
theorem argCount_some (a : ByteArray) : ∃ z, i_ArgumentCount a = some z := by
  by_cases h : a ∈ resWords
  · simp only [resWords, s_l2Reserved, Option.getD_some, List.mem_cons, List.not_mem_nil, or_false] at h
    rcases h with rfl | rfl | rfl | rfl | rfl | rfl | rfl | rfl | rfl | rfl | rfl | rfl | rfl | rfl | rfl | rfl | rfl | rfl | rfl | rfl | rfl | rfl | rfl | rfl <;> exact ⟨_, rfl⟩
  · simp only [resWords, s_l2Reserved, Option.getD_some, List.mem_cons, List.not_mem_nil, or_false, not_or] at h
    obtain ⟨h1, h2, h3, h4, h5, h6, h7, h8, h9, h10, h11, h12, h13, h14, h15, h16, h17, h18, h19, h20, h21, h22, h23, h24⟩ := h
    unfold i_ArgumentCount
    simp [h1, h2, h3, h4, h5, h6, h7, h8, h9, h10, h11, h12, h13, h14, h15, h16, h17, h18, h19, h20, h21, h22, h23, h24]
def nameOk (s : ByteArray) : Bool := !(anyI badAt 0 s.data.toList) && decide (0 < (s.size : Int)) && decide ((s.size : Int) ≤ 8) && !(resWords.any fun x => decide (x = s))
theorem validName (s : ByteArray) (hs : (s.size : Int) ≤ 9223372036854775807) {k : Nat} (hk : s.size < k) (hk2 : 24 < k) : s_IsValidName k s = some (nameOk s) ∧ i_IsValidName k s = some (nameOk s) := by
  constructor
  · unfold s_IsValidName nameOk
    rw [shape_eq s hs hk, s_reserved s hk2]
    cases anyI badAt 0 s.data.toList <;> cases decide (0 < (s.size : Int)) <;> cases decide ((s.size : Int) ≤ 8) <;> simp
  · unfold i_IsValidName nameOk
    rw [word_eq s hs hk, i_reserved s]
    have e : decide (1 ≤ (s.size : Int)) = decide (0 < (s.size : Int)) := by rw [decide_eq_decide]; omega
    rw [e]
    cases anyI badAt 0 s.data.toList <;> cases decide (0 < (s.size : Int)) <;> cases decide ((s.size : Int) ≤ 8) <;> simp

theorem node_eq (x : TExpr) (hs : (x.text.size : Int) ≤ 9223372036854775807) {k : Nat} (hk : x.text.size < k) (hk2 : 24 < k) : ∃ b, s_l10Node k x = some b ∧ i_isNode k x = some b ∧ ∀ j, x.text.size < j → 24 < j → s_l10Node j x = some b ∧ i_isNode j x = some b := by
  have key : ∃ b, ∀ j, x.text.size < j → 24 < j → s_l10Node j x = some b ∧ i_isNode j x = some b := by
    have hac : ∃ z, s_ArgumentCount x.text = some z ∧ i_ArgumentCount x.text = some z := by
      rw [argCount_eq]
      obtain ⟨z, hz⟩ := argCount_some x.text
      exact ⟨z, hz, hz⟩
    obtain ⟨z, z1, z2⟩ := hac
    obtain ⟨tx, ht⟩ : ∃ tx, tx = (!(x.text.data.toList.any badText) && decide ((x.text.size : Int) ≤ 20)) := ⟨_, rfl⟩
    obtain ⟨nx, hn⟩ : ∃ nx, nx = nameOk x.text := ⟨_, rfl⟩
    refine ⟨if x.kind = 1 then decide ((x.args.length : Int) = 0) && decide (x.text = ⟨#[]⟩) && (decide (0 ≤ x.n) && decide (x.n ≤ 1000000000)) else if x.kind = 2 then decide ((x.args.length : Int) = 0) && decide (x.n = 0) && tx
      else if x.kind = 3 then decide ((x.args.length : Int) = 0) && decide (x.n = 0) && nx else if x.kind = 4 then decide (x.n = 0) && decide (x.text = ⟨#[]⟩) && decide ((x.args.length : Int) ≤ 8)
      else if x.kind = 5 then decide (x.n = 0) && decide ((x.args.length : Int) = z) else if x.kind = 6 then decide (x.text = ⟨#[]⟩) && decide ((x.args.length : Int) = 2) && (decide (1 ≤ x.n) && decide (x.n ≤ 5))
      else if x.kind = 7 then decide (x.n = 0) && decide ((x.args.length : Int) = 2) && nx else if x.kind = 9 then decide (x.n = 0) && decide ((x.args.length : Int) = 2) && nx else if x.kind = 8 then decide (x.n = 0) && decide (x.text = ⟨#[]⟩) && decide ((x.args.length : Int) = 3) else false, fun j hj hj2 => ?_⟩
    obtain ⟨t1, t2⟩ := validText x.text hs hj
    obtain ⟨n1, n2⟩ := validName x.text hs hj hj2
    rw [← ht] at t1 t2
    rw [← hn] at n1 n2
    unfold s_l10Node i_isNode
    rw [t1, t2, n1, n2, z1, z2]
    simp only [l1In_eq, within_eq, Option.bind_some]
    by_cases k1 : x.kind = 1
    · simp only [k1, decide_true, if_true, if_pos]
      cases decide ((x.args.length : Int) = 0) <;> cases decide (x.text = (⟨#[]⟩ : ByteArray)) <;> cases decide (0 ≤ x.n) <;> cases decide (x.n ≤ 1000000000) <;> simp
    by_cases k2 : x.kind = 2
    · simp only [k2]
      cases decide ((x.args.length : Int) = 0) <;> cases decide (x.n = 0) <;> cases tx <;> simp
    by_cases k3 : x.kind = 3
    · simp only [k3]
      cases decide ((x.args.length : Int) = 0) <;> cases decide (x.n = 0) <;> cases nx <;> simp
    by_cases k4 : x.kind = 4
    · simp only [k4]
      cases decide (x.n = 0) <;> cases decide (x.text = (⟨#[]⟩ : ByteArray)) <;> simp
    by_cases k5 : x.kind = 5
    · simp only [k5]
      cases decide (x.n = 0) <;> simp
    by_cases k6 : x.kind = 6
    · simp only [k6]
      cases decide ((x.args.length : Int) = 2) <;> cases decide (x.text = (⟨#[]⟩ : ByteArray)) <;> cases decide (1 ≤ x.n) <;> cases decide (x.n ≤ 5) <;> simp
    by_cases k7 : x.kind = 7
    · simp only [k7]
      cases decide ((x.args.length : Int) = 2) <;> cases decide (x.n = 0) <;> cases nx <;> simp
    by_cases k9 : x.kind = 9
    · simp only [k9]
      cases decide ((x.args.length : Int) = 2) <;> cases decide (x.n = 0) <;> cases nx <;> simp
    by_cases k8 : x.kind = 8
    · simp only [k8]
      cases decide (x.n = 0) <;> cases decide (x.text = (⟨#[]⟩ : ByteArray)) <;> simp
    simp [k1, k2, k3, k4, k5, k6, k7, k8, k9]
  obtain ⟨b, hb⟩ := key
  exact ⟨b, (hb k hk hk2).1, (hb k hk hk2).2, hb⟩

theorem TExpr.txt_ok {x : TExpr} (h : x.bk ≤ 1048576) : (x.text.size : Int) ≤ 9223372036854775807 := by have := x.text_bk; omega
theorem nodes (x : TExpr) (hb : x.bk ≤ 1048576) : ∃ b, Ev fun k => s_l10All k x = some b ∧ i_areNodes k x = some b := by
  revert hb
  refine TExpr.ind (p := fun x => x.bk ≤ 1048576 → ∃ b, Ev fun k => s_l10All k x = some b ∧ i_areNodes k x = some b) (fun x ih hb => ?_) x
  obtain ⟨f, hf⟩ := choose_mem (p := fun y b => Ev fun k => s_l10All k y = some b ∧ i_areNodes k y = some b) x.args fun y hy => ih y hy (by have := TExpr.arg_bk hy; omega)
  obtain ⟨b, _, _, hn⟩ := node_eq x (TExpr.txt_ok hb) (k := x.text.size + 25) (by omega) (by omega)
  have hlen := x.len_bk
  refine ⟨!(x.args.any fun y => !f y) && b, ?_⟩
  refine ((Ev.all x.args hf).and ((Ev.ge (x.args.length + 2)).and (Ev.ge (x.text.size + 25)))).pred ?_
  rintro k ⟨hx, hk, hk2⟩
  obtain ⟨n1, n2⟩ := hn k (by omega) (by omega)
  constructor
  · rw [s_l10All, any_loop0 x.args (fun y => !f y) (fun y => (s_l10All k y).bind fun z => some (!z)) false () (s_l10All_u1 (s_l10All k) x) (fun y hy => by (try simp only); rw [(hx y hy).1]; rfl)
      (fun n i => by rw [s_l10All_u1]; simp only [Option.bind_assoc, Option.bind_some]) (by omega) (by omega)]
    cases x.args.any fun y => !f y <;> simp [n1]
  · rw [i_areNodes, any_loop0 x.args (fun y => !f y) (fun y => (i_areNodes k y).bind fun z => some (!z)) false () (i_areNodes_u1 (i_areNodes k) x) (fun y hy => by (try simp only); rw [(hx y hy).2]; rfl)
      (fun n i => by rw [i_areNodes_u1]; simp only [Option.bind_assoc, Option.bind_some]) (by omega) (by omega)]
    cases x.args.any fun y => !f y <;> simp [n2]
def badArg (f : TExpr → Bool) (w : Int) (j : Nat) (y : TExpr) : Bool := if (j : Int) < w then !decide (y.kind = 1) && !decide (y.kind = 2) else !f y
theorem pipes (x : TExpr) (hb : x.bk ≤ 1048576) : ∃ b, Ev fun k => s_l36Pipe k x = some b ∧ i_isPipe k x = some b := by
  revert hb
  refine TExpr.ind (p := fun x => x.bk ≤ 1048576 → ∃ b, Ev fun k => s_l36Pipe k x = some b ∧ i_isPipe k x = some b) (fun x ih hb => ?_) x
  obtain ⟨f, hf⟩ := choose_mem (p := fun y b => Ev fun k => s_l36Pipe k y = some b ∧ i_isPipe k y = some b) x.args fun y hy => ih y hy (by have := TExpr.arg_bk hy; omega)
  have hlen := x.len_bk
  have loops : ∀ (c : Int) (k : Nat), (∀ y ∈ x.args, s_l36Pipe k y = some (f y) ∧ i_isPipe k y = some (f y)) → x.args.length < k →
      s_l36Pipe_u1 (s_l36Pipe k) x c k 0 = some (if anyI (badArg f (IntKind.i64.wrap ((x.args.length : Int) - c))) 0 x.args = true then .inr false else .inl ()) ∧
      i_isPipe_u1 (i_isPipe k) x c k 0 = some (if anyI (badArg f (IntKind.i64.wrap ((x.args.length : Int) - c))) 0 x.args = true then .inr false else .inl ()) := by
    intro c k hx hk
    obtain ⟨w, hw⟩ : ∃ w, w = IntKind.i64.wrap ((x.args.length : Int) - c) := ⟨_, rfl⟩
    rw [← hw]
    constructor
    · refine any_loopI0 x.args (badArg f w) (fun i y => if (decide (i < w)) = true then (if (!decide (y.kind = 1)) = true then if (!decide (y.kind = 2)) = true then some true else some false else some false : Option Bool) else (s_l36Pipe k y).bind fun z => some (!z)) false () _ (fun j hj => ?_) (fun n i => ?_) (by omega) hk
      · unfold badArg
        (try simp only)
        rw [(hx _ (List.getElem_mem hj)).1]
        by_cases h : (j : Int) < w
        · rw [if_pos (by simpa using h), if_pos h]
          cases decide (x.args[j].kind = 1) <;> cases decide (x.args[j].kind = 2) <;> simp
        · rw [if_neg (by simpa using h), if_neg h]; rfl
      · rw [s_l36Pipe_u1, ← hw]
    · refine any_loopI0 x.args (badArg f w) (fun i y => if (decide (w ≤ i)) = true then (i_isPipe k y).bind fun z => some (!z) else (if (!decide (y.kind = 1)) = true then some (!decide (y.kind = 2)) else some false : Option Bool)) false () _ (fun j hj => ?_) (fun n i => ?_) (by omega) hk
      · unfold badArg
        (try simp only)
        rw [(hx _ (List.getElem_mem hj)).2]
        by_cases h : (j : Int) < w
        · rw [if_neg (by simp; omega), if_pos h]
          cases decide (x.args[j].kind = 1) <;> cases decide (x.args[j].kind = 2) <;> simp
        · rw [if_pos (by simp; omega), if_neg h]; rfl
      · rw [i_isPipe_u1, ← hw]
        by_cases h1 : i < (x.args.length : Int)
        · rw [if_pos (show (decide (i < (x.args.length : Int))) = true by simpa using h1), if_pos (show (decide (i < (x.args.length : Int))) = true by simpa using h1)]
          cases at? x.args i with
          | none => rfl
          | some y =>
            simp only [Option.bind_some]
            by_cases h2 : w ≤ i
            · rw [if_pos (show (decide (w ≤ i)) = true by simpa using h2), if_pos (show (decide (w ≤ i)) = true by simpa using h2)]
              cases i_isPipe k y with
              | none => rfl
              | some z => cases z <;> rfl
            · rw [if_neg (show ¬ (decide (w ≤ i)) = true by simpa using h2), if_neg (show ¬ (decide (w ≤ i)) = true by simpa using h2)]
              cases decide (y.kind = 1) <;> cases decide (y.kind = 2) <;> rfl
        · rw [if_neg (show ¬ (decide (i < (x.args.length : Int))) = true by simpa using h1), if_neg (show ¬ (decide (i < (x.args.length : Int))) = true by simpa using h1)]
  have htab : ∃ c : Int, s_l36Tables x.text = some c ∧ ((c = 0 ∧ ∀ k, ¬ x.kind = 3 → i_isPipe (k + 1) x = some false) ∨ (c ≠ 0 ∧ ∀ k, ¬ x.kind = 3 → i_isPipe (k + 1) x = if (!decide (x.kind = 5)) = true then some false else (i_isPipe_u1 (i_isPipe k) x c k 0).bind fun | .inl _ => some true | .inr z => some z)) := by
    by_cases e1 : x.text = ⟨#[119, 104, 101, 114, 101]⟩
    · exact ⟨1, by unfold s_l36Tables; simp [e1], .inr ⟨by omega, fun k h3 => by rw [i_isPipe, if_neg (by simpa using h3)]; simp [e1]; rfl⟩⟩
    by_cases e2 : x.text = ⟨#[107, 101, 101, 112]⟩
    · exact ⟨1, by unfold s_l36Tables; simp [e2], .inr ⟨by omega, fun k h3 => by rw [i_isPipe, if_neg (by simpa using h3)]; simp [e2]; rfl⟩⟩
    by_cases e3 : x.text = ⟨#[97, 100, 100]⟩
    · exact ⟨1, by unfold s_l36Tables; simp [e3], .inr ⟨by omega, fun k h3 => by rw [i_isPipe, if_neg (by simpa using h3)]; simp [e3]; rfl⟩⟩
    by_cases e4 : x.text = ⟨#[103, 114, 111, 117, 112]⟩
    · exact ⟨1, by unfold s_l36Tables; simp [e4], .inr ⟨by omega, fun k h3 => by rw [i_isPipe, if_neg (by simpa using h3)]; simp [e4]; rfl⟩⟩
    by_cases e5 : x.text = ⟨#[106, 111, 105, 110]⟩
    · exact ⟨2, by unfold s_l36Tables; simp [e5], .inr ⟨by omega, fun k h3 => by rw [i_isPipe, if_neg (by simpa using h3)]; simp [e5]; rfl⟩⟩
    exact ⟨0, by unfold s_l36Tables; simp [e1, e2, e3, e4, e5], .inl ⟨rfl, fun k h3 => by rw [i_isPipe, if_neg (by simpa using h3)]; simp [e1, e2, e3, e4, e5]⟩⟩
  obtain ⟨c, hc, hcase⟩ := htab
  by_cases h3 : x.kind = 3
  · refine ⟨true, (Ev.ge 0).pred fun k _ => ⟨by rw [s_l36Pipe, if_pos (by simpa using h3)], by rw [i_isPipe, if_pos (by simpa using h3)]⟩⟩
  by_cases h5 : x.kind = 5
  · rcases hcase with ⟨hc0, hi⟩ | ⟨hc0, hi⟩
    · refine ⟨false, (Ev.ge 0).pred fun k _ => ⟨?_, hi k h3⟩⟩
      rw [s_l36Pipe, if_neg (by simpa using h3), hc]
      simp [h5, hc0]
    · refine ⟨!(anyI (badArg f (IntKind.i64.wrap ((x.args.length : Int) - c))) 0 x.args), ((Ev.all x.args hf).and (Ev.ge (x.args.length + 2))).pred ?_⟩
      rintro k ⟨hx, hk⟩
      obtain ⟨l1, l2⟩ := loops c k hx (by omega)
      constructor
      · rw [s_l36Pipe, if_neg (by simpa using h3), hc]
        simp only [Option.bind_some, h5, decide_true, Bool.not_true]
        rw [if_neg (by simp), Option.bind_some, if_neg (by simpa using hc0), l1]
        cases anyI (badArg f (IntKind.i64.wrap ((x.args.length : Int) - c))) 0 x.args <;> rfl
      · rw [hi k h3, if_neg (by simpa using h5), l2]
        cases anyI (badArg f (IntKind.i64.wrap ((x.args.length : Int) - c))) 0 x.args <;> rfl
  · refine ⟨false, (Ev.ge 0).pred fun k _ => ⟨?_, ?_⟩⟩
    · rw [s_l36Pipe, if_neg (by simpa using h3), hc]
      simp [h5]
    · rcases hcase with ⟨hc0, hi⟩ | ⟨hc0, hi⟩
      · exact hi k h3
      · rw [hi k h3, if_pos (by simpa using h5)]
theorem IsPipeline_agree (x : TExpr) (_hx : DOkL x.c) (hb : x.bk ≤ 1048576) : ∃ v, Ev fun k => s_IsPipeline k x = some v ∧ i_IsPipeline k x = some v := by
  obtain ⟨p, hp⟩ := pipes x hb
  obtain ⟨q, hq⟩ := nodes x hb
  have hc := x.cnt_bk
  have hn := x.nest_cnt
  refine ⟨decide (x.cnt ≤ 40) && decide (x.nest ≤ 8) && q && p, ?_⟩
  refine (hp.and (hq.and ((nesting x hb).and ((s_l10Left_eq x hb).and (i_NodeCount_eq x hb))))).mono ?_
  rintro k ⟨⟨p1, p2⟩, ⟨q1, q2⟩, ⟨n1, n2⟩, l, c⟩
  constructor
  · unfold s_IsPipeline s_IsValidExpr
    rw [l 40 (by omega) (by omega), n1, q1, p1]
    by_cases h : x.cnt ≤ 40
    · have e : szR x.cnt 40 = 40 - x.cnt := by unfold szR; rw [if_pos (by omega)]
      rw [e]
      simp only [Option.bind_some]
      rw [if_pos (by simp; omega)]
      by_cases h8 : x.nest ≤ 8
      · rw [if_pos (by simp; omega)]
        cases q <;> simp [h, h8]
      · rw [if_neg (by simp; omega)]
        simp [h8]
    · have e : szR x.cnt 40 = -1 := by unfold szR; rw [if_neg (by omega)]
      rw [e]
      simp [h]
  · unfold i_IsPipeline i_IsValidExpr
    rw [c, n2, q2, p2]
    simp only [Option.bind_some]
    by_cases h : x.cnt ≤ 40
    · rw [if_pos (by simp; omega)]
      by_cases h8 : x.nest ≤ 8
      · rw [if_pos (by simp; omega)]
        cases q <;> simp [h, h8]
      · rw [if_neg (by simp; omega)]
        simp [h8]
    · rw [if_neg (by simp; omega)]
      simp [h]
end Go.Proofs.Ytopjlbifglacpaa
