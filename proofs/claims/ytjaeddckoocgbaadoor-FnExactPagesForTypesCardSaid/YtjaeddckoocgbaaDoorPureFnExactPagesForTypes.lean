/- The program's PagesForTypes returns what the reference's PagesForTypes returns: the plain statement, over numbers and lists, for all arguments; each number of its Go kind, each string and slice within the reader's bounds. -/
import Derived.Test.YtjaeddckoocgbaaDoorPFnExactPagesForTypesx1
namespace Go.Proofs.YtjaeddckoocgbaaDoor.Pure
open Go.RowKit Go.Proofs.YtjaeddckoocgbaaDoor.PFnExactPagesForTypes Go.Proofs.YtjaeddckoocgbaaDoorW.PrintWords Go.Proofs.YtjaeddckoocgbaaDoorW.PrintLast
set_option linter.unusedVariables false
set_option linter.unusedSimpArgs false

theorem w64 {x : Int} (h0 : -9223372036854775808 ≤ x) (h1 : x ≤ 9223372036854775807) : wrap64 x = x := by unfold wrap64; omega
theorem td {a b : Int} (h : 0 ≤ a) : Int.tdiv a b = a / b := Int.tdiv_eq_ediv_of_nonneg h
theorem tm {a b : Int} (h : 0 ≤ a) : Int.tmod a b = a % b := Int.tmod_eq_emod_of_nonneg h
theorem wf64 {n : Int} (h : (Lit.int .i64 n).wf = true) : -9223372036854775808 ≤ n ∧ n ≤ 9223372036854775807 := by
  simp [Lit.wf, IntKind.min, IntKind.max, IntKind.signed, IntKind.bits] at h
  omega
theorem in_spec (a b c : Int) : spec_l1In.f a b c = some (decide (b ≤ a ∧ a ≤ c)) := by
  unfold spec_l1In.f; by_cases h : b ≤ a <;> simp [h]
theorem in_impl (a b c : Int) : impl_within.f a b c = some (decide (b ≤ a ∧ a ≤ c)) := by
  unfold impl_within.f; by_cases h : b ≤ a <;> simp [h]
theorem ba_append (a b : List UInt8) : ((⟨a.toArray⟩ : ByteArray) ++ (⟨b.toArray⟩ : ByteArray)) = ⟨(a ++ b).toArray⟩ := by
  simp [ByteArray.mk_append_mk]
theorem ba_size (a : List UInt8) : (⟨a.toArray⟩ : ByteArray).size = a.length := by simp [ByteArray.size]
theorem dec_len (k : Nat) : ∀ n : Nat, n < 10 ^ (k + 1) → (Lib.decDigits n).length ≤ k + 1 := by
  induction k with
  | zero =>
    intro n h
    rw [Lib.decDigits_one (by simpa using h)]
    simp
  | succ k ih =>
    intro n h
    by_cases h2 : n < 10
    · rw [Lib.decDigits_one h2]; simp
    · have h3 : n / 10 < 10 ^ (k + 1) := by
        rw [Nat.pow_succ] at h
        omega
      have := ih (n / 10) h3
      rw [Lib.decDigits, dif_neg h2]
      simp
      omega
theorem dec_le (n : Nat) (h : n ≤ 1000000000000000000) : (Lib.decDigits n).length ≤ 21 := by
  have := dec_len 18 n (by omega)
  omega
theorem dec_pos (n : Nat) : 1 ≤ (Lib.decDigits n).length := by
  rw [Lib.decDigits]
  split <;> simp
theorem itoa_nat {n : Nat} (h1 : n ≤ 9999) : strconv_Itoa.f (n : Int) = some ⟨(Lib.decDigits n).toArray⟩ := by
  unfold strconv_Itoa.f
  rw [if_pos (by omega), if_pos (by omega), Lib.itoa_nonneg]
/-- How often the digit d is in the number n. -/
def cntN (d n : Nat) : Nat := (Lib.decDigits n).count (UInt8.ofNat (48 + d))
theorem cntN_le (d n : Nat) (h : n ≤ 1000000000000000000) : cntN d n ≤ 21 := by
  have h1 : cntN d n ≤ (Lib.decDigits n).length := List.count_le_length
  have h2 := dec_le n h
  omega
theorem u8_eq {a d : Nat} (ha : a < 10) (hd : d < 10) : (UInt8.ofNat (48 + a) == UInt8.ofNat (48 + d)) = decide (a = d) := by
  have h : ∀ a : Nat, a < 10 → ∀ d : Nat, d < 10 → (UInt8.ofNat (48 + a) == UInt8.ofNat (48 + d)) = decide (a = d) := by decide +kernel
  exact h a ha d hd
theorem cnt_small {d n : Nat} (hd : d < 10) (hn : n < 10) : cntN d n = if n = d then 1 else 0 := by
  unfold cntN
  rw [Lib.decDigits_one hn, List.count_singleton, u8_eq hn hd]
  by_cases h : n = d <;> simp [h]
theorem cnt_big {d n : Nat} (hd : d < 10) (hn : ¬ n < 10) : cntN d n = cntN d (n / 10) + if n % 10 = d then 1 else 0 := by
  unfold cntN
  have e : Lib.decDigits n = Lib.decDigits (n / 10) ++ [UInt8.ofNat (48 + n % 10)] := by rw [Lib.decDigits, dif_neg hn]
  rw [e, List.count_append, List.count_singleton, u8_eq (by omega) hd]
  by_cases h : n % 10 = d <;> simp [h]
theorem used_impl {d n : Nat} (hd : d < 10) (hn : n ≤ 9999) : impl_used.f (n : Int) (d : Int) = some ((cntN d n : Nat) : Int) := by
  unfold impl_used.f
  rw [itoa_nat hn, itoa_nat (by omega), Lib.decDigits_one hd]
  simp only [Option.bind_some]
  have e : strings_Count.f ⟨(Lib.decDigits n).toArray⟩ ⟨[UInt8.ofNat (48 + d)].toArray⟩ = some ((cntN d n : Nat) : Int) := by
    unfold strings_Count.f cntN Lib.countByte
    rfl
  rw [e]
  rfl
theorem count_loop {d : Nat} (hd : d < 10) (k : Nat) : ∀ (n acc : Nat), 1 ≤ n → n < 10 ^ (k + 1) → n ≤ 1000000000 → acc + k ≤ 1000 → ∀ j, k + 1 < j →
    spec_bpCount.l0 j (n : Int) (d : Int) (acc : Int) = some ((acc + cntN d n : Nat) : Int) := by
  induction k with
  | zero =>
    intro n acc h0 h1 h2 h3 j hj
    obtain ⟨j, rfl⟩ : ∃ m, j = m + 2 := ⟨j - 2, by omega⟩
    have hn : n < 10 := by simpa using h1
    have e1 : wrap64 (Int.tdiv (n : Int) 10) = 0 := by rw [td (by omega), w64 (by omega) (by omega)]; omega
    have e2 : Int.tmod (n : Int) 10 = (n : Int) := by rw [tm (by omega)]; omega
    rw [spec_bpCount.l0, if_pos (by omega), e1, e2, cnt_small hd hn]
    by_cases h : n = d
    · subst h
      rw [if_pos rfl, if_pos rfl, spec_bpCount.l0, if_neg (by omega), w64 (by omega) (by omega)]
      rfl
    · rw [if_neg (by omega), if_neg h, spec_bpCount.l0, if_neg (by omega)]
      rfl
  | succ k ih =>
    intro n acc h0 h1 h2 h3 j hj
    by_cases hn : n < 10
    · obtain ⟨j, rfl⟩ : ∃ m, j = m + 2 := ⟨j - 2, by omega⟩
      have e1 : wrap64 (Int.tdiv (n : Int) 10) = 0 := by rw [td (by omega), w64 (by omega) (by omega)]; omega
      have e2 : Int.tmod (n : Int) 10 = (n : Int) := by rw [tm (by omega)]; omega
      rw [spec_bpCount.l0, if_pos (by omega), e1, e2, cnt_small hd hn]
      by_cases h : n = d
      · subst h
        rw [if_pos rfl, if_pos rfl, spec_bpCount.l0, if_neg (by omega), w64 (by omega) (by omega)]
        rfl
      · rw [if_neg (by omega), if_neg h, spec_bpCount.l0, if_neg (by omega)]
        rfl
    · obtain ⟨j, rfl⟩ : ∃ m, j = m + 1 := ⟨j - 1, by omega⟩
      have e1 : wrap64 (Int.tdiv (n : Int) 10) = ((n / 10 : Nat) : Int) := by rw [td (by omega), w64 (by omega) (by omega)]; omega
      have e2 : Int.tmod (n : Int) 10 = ((n % 10 : Nat) : Int) := by rw [tm (by omega)]; omega
      have h4 : n / 10 < 10 ^ (k + 1) := by
        rw [Nat.pow_succ] at h1
        omega
      rw [spec_bpCount.l0, if_pos (by omega), e1, e2, cnt_big hd hn]
      by_cases h : n % 10 = d
      · have e3 : wrap64 ((acc : Int) + 1) = ((acc + 1 : Nat) : Int) := by rw [w64 (by omega) (by omega)]; omega
        rw [if_pos (by omega), if_pos h, e3, ih (n / 10) (acc + 1) (by omega) h4 (by omega) (by omega) j (by omega)]
        congr 2
        omega
      · rw [if_neg (by omega), if_neg h, ih (n / 10) acc (by omega) h4 (by omega) (by omega) j (by omega)]
        congr 2
theorem count_spec {d n : Nat} (hd : d < 10) (h0 : 1 ≤ n) (hn : n ≤ 9999) (k : Nat) (hk : 5 ≤ k) : spec_bpCount.f k (n : Int) (d : Int) = some ((cntN d n : Nat) : Int) := by
  have g := count_loop hd 3 n 0 h0 (by omega) (by omega) (by omega) k (by omega)
  unfold spec_bpCount.f
  rw [show (0 : Int) = ((0 : Nat) : Int) from rfl, g]
  congr 2
  omega
/-- How often the digit d is in all numbers up to n. -/
def sumN (d : Nat) : Nat → Nat
  | 0 => 0
  | n + 1 => sumN d n + cntN d (n + 1)
theorem sumN_bd (d n : Nat) (h : n ≤ 9999) : sumN d n ≤ 21 * n := by
  induction n with
  | zero => simp [sumN]
  | succ n ih =>
    have h1 := ih (by omega)
    have h2 := cntN_le d (n + 1) (by omega)
    simp only [sumN]
    omega
/-- What the program finds: so many pages need at most so many types, and one page more needs more of them. -/
theorem types_loop {d many : Nat} (hd : d < 10) (hm : many ≤ 2000) (m : Nat) : ∀ x : Nat, x + m = 2000 → sumN d x ≤ many →
    ∃ P : Nat, x ≤ P ∧ P ≤ 2000 ∧ sumN d P ≤ many ∧ (P < 2000 → many < sumN d (P + 1)) ∧ ∀ k, m + 6 ≤ k →
      spec_PagesForTypes.l0 k (d : Int) ((many - sumN d x : Nat) : Int) (x : Int) = some ((P : Int), decide ((P : Int) > 0)) ∧
      impl_PagesForTypes.l0 k (d : Int) (x : Int) ((many - sumN d x : Nat) : Int) = some ((P : Int), decide ((P : Int) > 0)) := by
  induction m with
  | zero =>
    intro x h hs
    refine ⟨x, by omega, by omega, hs, fun h => by omega, fun k hk => ?_⟩
    obtain ⟨k, rfl⟩ : ∃ m, k = m + 1 := ⟨k - 1, by omega⟩
    rw [spec_PagesForTypes.l0, impl_PagesForTypes.l0, if_neg (show ¬ (x : Int) < 2000 by omega), if_neg (show ¬ (x : Int) < 2000 by omega)]
    exact ⟨rfl, rfl⟩
  | succ m ih =>
    intro x h hs
    have e2 : wrap64 ((x : Int) + 1) = ((x + 1 : Nat) : Int) := by rw [w64 (by omega) (by omega)]; omega
    by_cases c : sumN d (x + 1) ≤ many
    · obtain ⟨P, h1, h2, h3, h4, h5⟩ := ih (x + 1) (by omega) c
      have c2 : cntN d (x + 1) ≤ many - sumN d x := by simp only [sumN] at c; omega
      have e1 : wrap64 (((many - sumN d x : Nat) : Int) - ((cntN d (x + 1) : Nat) : Int)) = ((many - sumN d (x + 1) : Nat) : Int) := by
        simp only [sumN] at c ⊢
        rw [w64 (by omega) (by omega)]; omega
      refine ⟨P, by omega, h2, h3, h4, fun k hk => ?_⟩
      obtain ⟨k, rfl⟩ : ∃ m, k = m + 1 := ⟨k - 1, by omega⟩
      have g := h5 k (by omega)
      refine ⟨?_, ?_⟩
      · rw [spec_PagesForTypes.l0, if_pos (by omega), e2, count_spec hd (by omega) (by omega) k (by omega)]
        simp only [Option.bind_some]
        rw [if_pos (by omega), e1]
        exact g.1
      · rw [impl_PagesForTypes.l0, if_pos (by omega), e2, used_impl hd (by omega)]
        simp only [Option.bind_some]
        rw [if_pos (by omega), e1]
        exact g.2
    · have c2 : ¬ cntN d (x + 1) ≤ many - sumN d x := by simp only [sumN] at c; omega
      refine ⟨x, by omega, by omega, hs, fun _ => by omega, fun k hk => ?_⟩
      obtain ⟨k, rfl⟩ : ∃ m, k = m + 1 := ⟨k - 1, by omega⟩
      refine ⟨?_, ?_⟩
      · rw [spec_PagesForTypes.l0, if_pos (by omega), e2, count_spec hd (by omega) (by omega) k (by omega)]
        simp only [Option.bind_some]
        rw [if_neg (by omega)]
      · rw [impl_PagesForTypes.l0, if_pos (by omega), e2, used_impl hd (by omega)]
        simp only [Option.bind_some]
        rw [if_neg (by omega)]
theorem types_both {d many : Nat} (hd : d < 10) (hm : many ≤ 2000) :
    ∃ P : Nat, P ≤ 2000 ∧ sumN d P ≤ many ∧ (P < 2000 → many < sumN d (P + 1)) ∧ ∀ k, 2007 ≤ k →
      spec_PagesForTypes.f k (d : Int) (many : Int) = some ((P : Int), decide ((P : Int) > 0)) ∧ impl_PagesForTypes.f k (d : Int) (many : Int) = some ((P : Int), decide ((P : Int) > 0)) := by
  obtain ⟨P, h1, h2, h3, h4, h5⟩ := types_loop hd hm 2000 0 (by omega) (by simp [sumN])
  have b1 : 0 ≤ (d : Int) ∧ (d : Int) ≤ 9 := by omega
  have b2 : 0 ≤ (many : Int) ∧ (many : Int) ≤ 2000 := by omega
  refine ⟨P, h2, h3, h4, fun k hk => ?_⟩
  obtain ⟨k, rfl⟩ : ∃ m, k = m + 1 := ⟨k - 1, by omega⟩
  have g := h5 k (by omega)
  simp only [sumN, Nat.sub_zero] at g
  unfold spec_PagesForTypes.f impl_PagesForTypes.f impl_isDigit.f
  simp only [in_spec, in_impl, decide_eq_true b1, decide_eq_true b2, Option.bind_some, if_true, Bool.not_true]
  rw [spec_PagesForTypes.j0, impl_PagesForTypes.j0, if_neg (by decide), if_neg (by decide)]
  exact g

/-- YOURS: ∀ (a0 : Int) (a1 : Int), (Lit.int .i64 a0).wf = true → (Lit.int .i64 a1).wf = true → ∃ k, laws_FnExactPagesForTypes.f k a0 a1 = some true
What it reaches (each with k first where it has rounds; `.mono`: more rounds tell the same; `.l0`, ..: its loops, with `.mono_l`): spec_l1In.f, spec_bpCount.f, spec_PagesForTypes.f, impl_within.f, impl_isDigit.f, strconv_Itoa.f, strings_Count.f, impl_used.f, impl_PagesForTypes.f, laws_FnExactPagesForTypes.f -/
theorem FnExactPagesForTypes : laws_FnExactPagesForTypes.Pure := by
  intro a0 a1 _ _
  by_cases h : (0 ≤ a0 ∧ a0 ≤ 9) ∧ 0 ≤ a1 ∧ a1 ≤ 2000
  · obtain ⟨d, rfl⟩ := Int.eq_ofNat_of_zero_le (show 0 ≤ a0 by omega)
    obtain ⟨m, rfl⟩ := Int.eq_ofNat_of_zero_le (show 0 ≤ a1 by omega)
    obtain ⟨P, _, _, _, g⟩ := types_both (d := d) (many := m) (by omega) (by omega)
    refine ⟨2007, ?_⟩
    unfold laws_FnExactPagesForTypes.f
    rw [(g 2007 (by omega)).1, (g 2007 (by omega)).2]
    simp
  · refine ⟨1, ?_⟩
    unfold laws_FnExactPagesForTypes.f spec_PagesForTypes.f impl_PagesForTypes.f impl_isDigit.f
    simp only [in_spec, in_impl]
    by_cases hb : 0 ≤ a0 ∧ a0 ≤ 9
    · have hc : ¬ (0 ≤ a1 ∧ a1 ≤ 2000) := fun hc => h ⟨hb, hc⟩
      simp only [decide_eq_true hb, decide_eq_false hc, Option.bind_some, if_true, Bool.not_false, impl_PagesForTypes.j0, spec_PagesForTypes.j0]
      simp
    · simp only [decide_eq_false hb, Option.bind_some, impl_PagesForTypes.j0, spec_PagesForTypes.j0]
      simp

end Go.Proofs.YtjaeddckoocgbaaDoor.Pure
