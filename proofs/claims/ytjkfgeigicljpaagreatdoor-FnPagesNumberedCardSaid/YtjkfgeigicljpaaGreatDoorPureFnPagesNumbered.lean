/- The law FnPagesNumbered answers true: the plain statement, over numbers and lists, for all arguments; each byte of its Go kind, each slice within the reader's bounds. -/
import Derived.Test.YtjkfgeigicljpaaGreatDoorPFnPagesNumberedx21
namespace Go.Proofs.YtjkfgeigicljpaaGreatDoor.Pure
open Go.RowKit Go.Proofs.YtjkfgeigicljpaaGreatDoor.PFnPagesNumbered Go.Proofs.YtjkfgeigicljpaaGreatDoorW.PrintWords Go.Proofs.YtjkfgeigicljpaaGreatDoorW.PrintLast
set_option linter.unusedVariables false
set_option linter.unusedSimpArgs false

theorem w64 {x : Int} (h0 : -9223372036854775808 ≤ x) (h1 : x ≤ 9223372036854775807) : wrap64 x = x := by unfold wrap64; omega
theorem td {a b : Int} (h : 0 ≤ a) : Int.tdiv a b = a / b := Int.tdiv_eq_ediv_of_nonneg h
theorem tm {a b : Int} (h : 0 ≤ a) : Int.tmod a b = a % b := Int.tmod_eq_emod_of_nonneg h
theorem in_spec (a b c : Int) : spec_l1In.f a b c = some (decide (b ≤ a ∧ a ≤ c)) := by
  unfold spec_l1In.f; by_cases h : b ≤ a <;> simp [h]
theorem in_impl (a b c : Int) : impl_within.f a b c = some (decide (b ≤ a ∧ a ≤ c)) := by
  unfold impl_within.f; by_cases h : b ≤ a <;> simp [h]
theorem book_spec (a : Int) : spec_bpBook.f a = some (decide (1 ≤ a ∧ a ≤ 2000)) := by simp [spec_bpBook.f, in_spec]
theorem book_impl (a : Int) : impl_isBook.f a = some (decide (1 ≤ a ∧ a ≤ 2000)) := by simp [impl_isBook.f, in_impl]
theorem ba_append (a b : List UInt8) : ((⟨a.toArray⟩ : ByteArray) ++ (⟨b.toArray⟩ : ByteArray)) = ⟨(a ++ b).toArray⟩ := by
  simp [ByteArray.mk_append_mk]
theorem ba_size (a : List UInt8) : (⟨a.toArray⟩ : ByteArray).size = a.length := by simp [ByteArray.size]
theorem dec_len (k : Nat) : ∀ n : Nat, n < 10 ^ (k + 1) → (Lib.decDigits n).length ≤ k + 1 := by
  induction k with
  | zero =>
    intro n h
    rw [Lib.decDigits_one (by simpa using h)]
    simp
  | succ k ih =>
    intro n h
    by_cases h2 : n < 10
    · rw [Lib.decDigits_one h2]; simp
    · have h3 : n / 10 < 10 ^ (k + 1) := by
        rw [Nat.pow_succ] at h
        omega
      have := ih (n / 10) h3
      rw [Lib.decDigits, dif_neg h2]
      simp
      omega
theorem dec_le (n : Nat) (h : n ≤ 1000000000000000000) : (Lib.decDigits n).length ≤ 21 := by
  have := dec_len 18 n (by omega)
  omega
theorem dec_pos (n : Nat) : 1 ≤ (Lib.decDigits n).length := by
  rw [Lib.decDigits]
  split <;> simp
theorem itoa_nat {n : Nat} (h1 : n ≤ 9999) : strconv_Itoa.f (n : Int) = some ⟨(Lib.decDigits n).toArray⟩ := by
  unfold strconv_Itoa.f
  rw [if_pos (by omega), if_pos (by omega), Lib.itoa_nonneg]
/-- How often the digit d is in the number n. -/
def cntN (d n : Nat) : Nat := (Lib.decDigits n).count (UInt8.ofNat (48 + d))
theorem cntN_le (d n : Nat) (h : n ≤ 1000000000000000000) : cntN d n ≤ 21 := by
  have h1 : cntN d n ≤ (Lib.decDigits n).length := List.count_le_length
  have h2 := dec_le n h
  omega
theorem u8_eq {a d : Nat} (ha : a < 10) (hd : d < 10) : (UInt8.ofNat (48 + a) == UInt8.ofNat (48 + d)) = decide (a = d) := by
  have h : ∀ a : Nat, a < 10 → ∀ d : Nat, d < 10 → (UInt8.ofNat (48 + a) == UInt8.ofNat (48 + d)) = decide (a = d) := by decide +kernel
  exact h a ha d hd
theorem cnt_small {d n : Nat} (hd : d < 10) (hn : n < 10) : cntN d n = if n = d then 1 else 0 := by
  unfold cntN
  rw [Lib.decDigits_one hn, List.count_singleton, u8_eq hn hd]
  by_cases h : n = d <;> simp [h]
theorem cnt_big {d n : Nat} (hd : d < 10) (hn : ¬ n < 10) : cntN d n = cntN d (n / 10) + if n % 10 = d then 1 else 0 := by
  unfold cntN
  have e : Lib.decDigits n = Lib.decDigits (n / 10) ++ [UInt8.ofNat (48 + n % 10)] := by rw [Lib.decDigits, dif_neg hn]
  rw [e, List.count_append, List.count_singleton, u8_eq (by omega) hd]
  by_cases h : n % 10 = d <;> simp [h]
theorem used_impl {d n : Nat} (hd : d < 10) (hn : n ≤ 9999) : impl_used.f (n : Int) (d : Int) = some ((cntN d n : Nat) : Int) := by
  unfold impl_used.f
  rw [itoa_nat hn, itoa_nat (by omega), Lib.decDigits_one hd]
  simp only [Option.bind_some]
  have e : strings_Count.f ⟨(Lib.decDigits n).toArray⟩ ⟨[UInt8.ofNat (48 + d)].toArray⟩ = some ((cntN d n : Nat) : Int) := by
    unfold strings_Count.f cntN Lib.countByte
    rfl
  rw [e]
  rfl
theorem count_loop {d : Nat} (hd : d < 10) (k : Nat) : ∀ (n acc : Nat), 1 ≤ n → n < 10 ^ (k + 1) → n ≤ 1000000000 → acc + k ≤ 1000 → ∀ j, k + 1 < j →
    spec_bpCount.l0 j (n : Int) (d : Int) (acc : Int) = some ((acc + cntN d n : Nat) : Int) := by
  induction k with
  | zero =>
    intro n acc h0 h1 h2 h3 j hj
    obtain ⟨j, rfl⟩ : ∃ m, j = m + 2 := ⟨j - 2, by omega⟩
    have hn : n < 10 := by simpa using h1
    have e1 : wrap64 (Int.tdiv (n : Int) 10) = 0 := by rw [td (by omega), w64 (by omega) (by omega)]; omega
    have e2 : Int.tmod (n : Int) 10 = (n : Int) := by rw [tm (by omega)]; omega
    rw [spec_bpCount.l0, if_pos (by omega), e1, e2, cnt_small hd hn]
    by_cases h : n = d
    · subst h
      rw [if_pos rfl, if_pos rfl, spec_bpCount.l0, if_neg (by omega), w64 (by omega) (by omega)]
      rfl
    · rw [if_neg (by omega), if_neg h, spec_bpCount.l0, if_neg (by omega)]
      rfl
  | succ k ih =>
    intro n acc h0 h1 h2 h3 j hj
    by_cases hn : n < 10
    · obtain ⟨j, rfl⟩ : ∃ m, j = m + 2 := ⟨j - 2, by omega⟩
      have e1 : wrap64 (Int.tdiv (n : Int) 10) = 0 := by rw [td (by omega), w64 (by omega) (by omega)]; omega
      have e2 : Int.tmod (n : Int) 10 = (n : Int) := by rw [tm (by omega)]; omega
      rw [spec_bpCount.l0, if_pos (by omega), e1, e2, cnt_small hd hn]
      by_cases h : n = d
      · subst h
        rw [if_pos rfl, if_pos rfl, spec_bpCount.l0, if_neg (by omega), w64 (by omega) (by omega)]
        rfl
      · rw [if_neg (by omega), if_neg h, spec_bpCount.l0, if_neg (by omega)]
        rfl
    · obtain ⟨j, rfl⟩ : ∃ m, j = m + 1 := ⟨j - 1, by omega⟩
      have e1 : wrap64 (Int.tdiv (n : Int) 10) = ((n / 10 : Nat) : Int) := by rw [td (by omega), w64 (by omega) (by omega)]; omega
      have e2 : Int.tmod (n : Int) 10 = ((n % 10 : Nat) : Int) := by rw [tm (by omega)]; omega
      have h4 : n / 10 < 10 ^ (k + 1) := by
        rw [Nat.pow_succ] at h1
        omega
      rw [spec_bpCount.l0, if_pos (by omega), e1, e2, cnt_big hd hn]
      by_cases h : n % 10 = d
      · have e3 : wrap64 ((acc : Int) + 1) = ((acc + 1 : Nat) : Int) := by rw [w64 (by omega) (by omega)]; omega
        rw [if_pos (by omega), if_pos h, e3, ih (n / 10) (acc + 1) (by omega) h4 (by omega) (by omega) j (by omega)]
        congr 2
        omega
      · rw [if_neg (by omega), if_neg h, ih (n / 10) acc (by omega) h4 (by omega) (by omega) j (by omega)]
        congr 2
theorem count_spec {d n : Nat} (hd : d < 10) (h0 : 1 ≤ n) (hn : n ≤ 9999) (k : Nat) (hk : 5 ≤ k) : spec_bpCount.f k (n : Int) (d : Int) = some ((cntN d n : Nat) : Int) := by
  have g := count_loop hd 3 n 0 h0 (by omega) (by omega) (by omega) k (by omega)
  unfold spec_bpCount.f
  rw [show (0 : Int) = ((0 : Nat) : Int) from rfl, g]
  congr 2
  omega
/-- How often the digit d is in all numbers up to n. -/
def sumN (d : Nat) : Nat → Nat
  | 0 => 0
  | n + 1 => sumN d n + cntN d (n + 1)
theorem sumN_bd (d n : Nat) (h : n ≤ 9999) : sumN d n ≤ 21 * n := by
  induction n with
  | zero => simp [sumN]
  | succ n ih =>
    have h1 := ih (by omega)
    have h2 := cntN_le d (n + 1) (by omega)
    simp only [sumN]
    omega
theorem countd_loop {d : Nat} (hd : d < 10) (p : Nat) (hp : p ≤ 2000) (m : Nat) : ∀ x : Nat, x + m = p → ∀ k, m + 6 ≤ k →
    spec_CountDigit.l0 k (p : Int) (d : Int) (sumN d x : Int) ((x + 1 : Nat) : Int) = some ((sumN d p : Int), true) ∧ impl_CountDigit.l0 k (p : Int) (d : Int) (sumN d x : Int) ((x + 1 : Nat) : Int) = some ((sumN d p : Int), true) := by
  induction m with
  | zero =>
    intro x h k hk
    obtain ⟨k, rfl⟩ : ∃ m, k = m + 1 := ⟨k - 1, by omega⟩
    obtain rfl : x = p := by omega
    rw [spec_CountDigit.l0, impl_CountDigit.l0, if_neg (show ¬ ((x + 1 : Nat) : Int) ≤ (x : Int) by omega), if_neg (show ¬ ((x + 1 : Nat) : Int) ≤ (x : Int) by omega)]
    exact ⟨rfl, rfl⟩
  | succ m ih =>
    intro x h k hk
    obtain ⟨k, rfl⟩ : ∃ m, k = m + 1 := ⟨k - 1, by omega⟩
    have g := ih (x + 1) (by omega) k (by omega)
    have hb := sumN_bd d x (by omega)
    have hl := cntN_le d (x + 1) (by omega)
    have e1 : wrap64 ((sumN d x : Int) + ((cntN d (x + 1) : Nat) : Int)) = ((sumN d (x + 1) : Nat) : Int) := by
      rw [w64 (by omega) (by omega)]; simp only [sumN]; omega
    have e2 : wrap64 (((x + 1 : Nat) : Int) + 1) = ((x + 1 + 1 : Nat) : Int) := by rw [w64 (by omega) (by omega)]; omega
    refine ⟨?_, ?_⟩
    · rw [spec_CountDigit.l0, if_pos (by omega), count_spec hd (by omega) (by omega) k (by omega)]
      simp only [Option.bind_some]
      rw [e1, e2]
      exact g.1
    · rw [impl_CountDigit.l0, if_pos (by omega), used_impl hd (by omega)]
      simp only [Option.bind_some]
      rw [e1, e2]
      exact g.2
theorem digit_bd {d : Nat} (hd : d < 10) : 0 ≤ (d : Int) ∧ (d : Int) ≤ 9 := by omega
theorem countd_spec {d p : Nat} (hd : d < 10) (h0 : 1 ≤ p) (h1 : p ≤ 2000) (k : Nat) (hk : 2007 ≤ k) : spec_CountDigit.f k (p : Int) (d : Int) = some ((sumN d p : Int), true) := by
  have hb : 1 ≤ (p : Int) ∧ (p : Int) ≤ 2000 := by omega
  unfold spec_CountDigit.f spec_bpDigit.f
  rw [book_spec, in_spec, decide_eq_true hb, decide_eq_true (digit_bd hd)]
  simp only [Option.bind_some, if_true]
  exact (countd_loop hd p h1 p 0 (by omega) k (by omega)).1
theorem countd_impl {d p : Nat} (hd : d < 10) (h0 : 1 ≤ p) (h1 : p ≤ 2000) (k : Nat) (hk : 2007 ≤ k) : impl_CountDigit.f k (p : Int) (d : Int) = some ((sumN d p : Int), true) := by
  have hb : 1 ≤ (p : Int) ∧ (p : Int) ≤ 2000 := by omega
  obtain ⟨k, rfl⟩ : ∃ m, k = m + 1 := ⟨k - 1, by omega⟩
  unfold impl_CountDigit.f impl_isDigit.f
  rw [book_impl, in_impl, decide_eq_true hb, decide_eq_true (digit_bd hd)]
  simp only [Option.bind_some, if_true, Bool.not_true]
  rw [impl_CountDigit.j0, if_neg (by decide)]
  exact (countd_loop hd p h1 p 0 (by omega) k (by omega)).2
/-- How many numbers up to n have the digit d. -/
def withN (d : Nat) : Nat → Nat
  | 0 => 0
  | n + 1 => withN d n + min 1 (cntN d (n + 1))
theorem withN_bd (d n : Nat) : withN d n ≤ n := by
  induction n with
  | zero => simp [withN]
  | succ n ih => simp only [withN]; omega
theorem least1 (n : Nat) : spec_l1Least.f 1 (n : Int) = some ((min 1 n : Nat) : Int) := by
  unfold spec_l1Least.f
  by_cases h : (1 : Int) < (n : Int)
  · rw [if_pos h]; congr 1; omega
  · rw [if_neg h]; congr 1; omega
theorem mn1 (n : Nat) : mn 1 (n : Int) = ((min 1 n : Nat) : Int) := by
  unfold mn
  by_cases h : (n : Int) < 1
  · rw [if_pos h]; omega
  · rw [if_neg h]; omega
theorem pw_loop {d : Nat} (hd : d < 10) (p : Nat) (hp : p ≤ 2000) (m : Nat) : ∀ x : Nat, x + m = p → ∀ k, m + 6 ≤ k →
    spec_PagesWithDigit.l0 k (p : Int) (d : Int) (withN d x : Int) ((x + 1 : Nat) : Int) = some ((withN d p : Int), true) ∧ impl_PagesWithDigit.l0 k (p : Int) (d : Int) (withN d x : Int) ((x + 1 : Nat) : Int) = some ((withN d p : Int), true) := by
  induction m with
  | zero =>
    intro x h k hk
    obtain ⟨k, rfl⟩ : ∃ m, k = m + 1 := ⟨k - 1, by omega⟩
    obtain rfl : x = p := by omega
    rw [spec_PagesWithDigit.l0, impl_PagesWithDigit.l0, if_neg (show ¬ ((x + 1 : Nat) : Int) ≤ (x : Int) by omega), if_neg (show ¬ ((x + 1 : Nat) : Int) ≤ (x : Int) by omega)]
    exact ⟨rfl, rfl⟩
  | succ m ih =>
    intro x h k hk
    obtain ⟨k, rfl⟩ : ∃ m, k = m + 1 := ⟨k - 1, by omega⟩
    have g := ih (x + 1) (by omega) k (by omega)
    have hb := withN_bd d x
    have e1 : wrap64 ((withN d x : Int) + ((min 1 (cntN d (x + 1)) : Nat) : Int)) = ((withN d (x + 1) : Nat) : Int) := by
      rw [w64 (by omega) (by omega)]; simp only [withN]; omega
    have e2 : wrap64 (((x + 1 : Nat) : Int) + 1) = ((x + 1 + 1 : Nat) : Int) := by rw [w64 (by omega) (by omega)]; omega
    refine ⟨?_, ?_⟩
    · rw [spec_PagesWithDigit.l0, if_pos (by omega), count_spec hd (by omega) (by omega) k (by omega)]
      simp only [Option.bind_some]
      rw [least1]
      simp only [Option.bind_some]
      rw [e1, e2]
      exact g.1
    · rw [impl_PagesWithDigit.l0, if_pos (by omega), used_impl hd (by omega)]
      simp only [Option.bind_some]
      rw [mn1, e1, e2]
      exact g.2
theorem dig_bd {d : Nat} (hd : d < 10) : 0 ≤ (d : Int) ∧ (d : Int) ≤ 9 := by omega
theorem pw_spec {d p : Nat} (hd : d < 10) (h0 : 1 ≤ p) (h1 : p ≤ 2000) (k : Nat) (hk : 2007 ≤ k) : spec_PagesWithDigit.f k (p : Int) (d : Int) = some ((withN d p : Int), true) := by
  have hb : 1 ≤ (p : Int) ∧ (p : Int) ≤ 2000 := by omega
  unfold spec_PagesWithDigit.f spec_bpDigit.f
  rw [book_spec, in_spec, decide_eq_true hb, decide_eq_true (dig_bd hd)]
  simp only [Option.bind_some, if_true]
  exact (pw_loop hd p h1 p 0 (by omega) k (by omega)).1
theorem pw_impl {d p : Nat} (hd : d < 10) (h0 : 1 ≤ p) (h1 : p ≤ 2000) (k : Nat) (hk : 2007 ≤ k) : impl_PagesWithDigit.f k (p : Int) (d : Int) = some ((withN d p : Int), true) := by
  have hb : 1 ≤ (p : Int) ∧ (p : Int) ≤ 2000 := by omega
  obtain ⟨k, rfl⟩ : ∃ m, k = m + 1 := ⟨k - 1, by omega⟩
  unfold impl_PagesWithDigit.f impl_isDigit.f
  rw [book_impl, in_impl, decide_eq_true hb, decide_eq_true (dig_bd hd)]
  simp only [Option.bind_some, if_true, Bool.not_true]
  rw [impl_PagesWithDigit.j0, if_neg (by decide)]
  exact (pw_loop hd p h1 p 0 (by omega) k (by omega)).2
theorem digit_str (d : Nat) (h : d < 10) : strOfNums [wrap64 (48 + (d : Int)) % 256] = ⟨[UInt8.ofNat (48 + d)].toArray⟩ := by
  rw [w64 (by omega) (by omega)]
  have e : ((48 : Int) + d) % 256 = ((48 + d : Nat) : Int) := by omega
  rw [e]
  simp only [strOfNums, List.map_cons, List.map_nil, Int.toNat_natCast]
theorem num_spec (k : Nat) : ∀ n : Nat, n < 10 ^ (k + 1) → n < 1000000000000000000 → ∀ j, k < j → spec_l1Num.f j (n : Int) = some ⟨(Lib.decDigits n).toArray⟩ := by
  induction k with
  | zero =>
    intro n h h1 j hj
    obtain ⟨j, rfl⟩ : ∃ m, j = m + 1 := ⟨j - 1, by omega⟩
    have h2 : n < 10 := by simpa using h
    rw [spec_l1Num.f, if_pos (by omega), digit_str n h2, Lib.decDigits_one h2]
  | succ k ih =>
    intro n h h1 j hj
    obtain ⟨j, rfl⟩ : ∃ m, j = m + 1 := ⟨j - 1, by omega⟩
    rw [spec_l1Num.f]
    by_cases h2 : n < 10
    · rw [if_pos (by omega), digit_str n h2, Lib.decDigits_one h2]
    · have e1 : wrap64 (Int.tdiv (n : Int) 10) = ((n / 10 : Nat) : Int) := by rw [td (by omega), w64 (by omega) (by omega)]; omega
      have e2 : Int.tmod (n : Int) 10 = ((n % 10 : Nat) : Int) := by rw [tm (by omega)]; omega
      have h3 : n / 10 < 10 ^ (k + 1) := by
        rw [Nat.pow_succ] at h
        omega
      rw [if_neg (by omega), e1, e2, ih (n / 10) h3 (by omega) j (by omega)]
      simp only [Option.bind_some]
      rw [digit_str (n % 10) (by omega), ba_append, ba_size, ba_size]
      have hd : Lib.decDigits n = Lib.decDigits (n / 10) ++ [UInt8.ofNat (48 + n % 10)] := by rw [Lib.decDigits, dif_neg h2]
      rw [← hd]
      have hl := dec_le (n / 10) (by omega)
      rw [if_pos (by simp; omega)]
/-- A page's number as the reference writes it. -/
theorem num_nat {n : Nat} (h1 : n ≤ 9999) (k : Nat) (hk : 4 ≤ k) : spec_l1Num.f k (n : Int) = some ⟨(Lib.decDigits n).toArray⟩ :=
  num_spec 3 n (by omega) (by omega) k (by omega)
/-- How many digits all numbers up to n have. -/
def preN : Nat → Nat
  | 0 => 0
  | n + 1 => preN n + (Lib.decDigits (n + 1)).length
theorem preN_bd (n : Nat) (h : n ≤ 9999) : n ≤ preN n ∧ preN n ≤ 21 * n := by
  induction n with
  | zero => simp [preN]
  | succ n ih =>
    have h1 := ih (by omega)
    have h2 := dec_le (n + 1) (by omega)
    have h3 := dec_pos (n + 1)
    simp only [preN]
    omega
theorem digits_loop (p : Nat) (hp : p ≤ 2000) (d : Nat) : ∀ x : Nat, x + d = p → ∀ k, d + 5 ≤ k →
    spec_bpDigits.l0 k (p : Int) (preN x : Int) ((x + 1 : Nat) : Int) = some (preN p : Int) ∧ impl_digitsOf.l0 k (p : Int) (preN x : Int) ((x + 1 : Nat) : Int) = some (preN p : Int) := by
  induction d with
  | zero =>
    intro x h k hk
    obtain ⟨k, rfl⟩ : ∃ m, k = m + 1 := ⟨k - 1, by omega⟩
    obtain rfl : x = p := by omega
    rw [spec_bpDigits.l0, impl_digitsOf.l0, if_neg (show ¬ ((x + 1 : Nat) : Int) ≤ (x : Int) by omega), if_neg (show ¬ ((x + 1 : Nat) : Int) ≤ (x : Int) by omega)]
    exact ⟨rfl, rfl⟩
  | succ d ih =>
    intro x h k hk
    obtain ⟨k, rfl⟩ : ∃ m, k = m + 1 := ⟨k - 1, by omega⟩
    have g := ih (x + 1) (by omega) k (by omega)
    have hb := preN_bd x (by omega)
    have hl := dec_le (x + 1) (by omega)
    have e1 : wrap64 ((preN x : Int) + (((Lib.decDigits (x + 1)).length : Nat) : Int)) = ((preN (x + 1) : Nat) : Int) := by
      rw [w64 (by omega) (by omega)]; simp only [preN]; omega
    have e2 : wrap64 (((x + 1 : Nat) : Int) + 1) = ((x + 1 + 1 : Nat) : Int) := by rw [w64 (by omega) (by omega)]; omega
    refine ⟨?_, ?_⟩
    · rw [spec_bpDigits.l0, if_pos (by omega), num_nat (by omega) k (by omega)]
      simp only [Option.bind_some]
      rw [ba_size, e1, e2]
      exact g.1
    · rw [impl_digitsOf.l0, if_pos (by omega), itoa_nat (by omega)]
      simp only [Option.bind_some]
      rw [ba_size, e1, e2]
      exact g.2
theorem digits_spec {p : Nat} (h0 : 1 ≤ p) (h1 : p ≤ 2000) (k : Nat) (hk : 2005 ≤ k) : spec_DigitsOfBook.f k (p : Int) = some ((preN p : Int), true) := by
  have hb : 1 ≤ (p : Int) ∧ (p : Int) ≤ 2000 := by omega
  unfold spec_DigitsOfBook.f spec_bpDigits.f
  rw [book_spec, decide_eq_true hb]
  simp only [Option.bind_some, if_true]
  have g := (digits_loop p h1 p 0 (by omega) k (by omega)).1
  rw [show spec_bpDigits.l0 k (p : Int) 0 1 = some (preN p : Int) from g]
  rfl
theorem digits_impl {p : Nat} (h0 : 1 ≤ p) (h1 : p ≤ 2000) (k : Nat) (hk : 2005 ≤ k) : impl_DigitsOfBook.f k (p : Int) = some ((preN p : Int), true) := by
  have hb : 1 ≤ (p : Int) ∧ (p : Int) ≤ 2000 := by omega
  unfold impl_DigitsOfBook.f impl_digitsOf.f
  rw [book_impl, decide_eq_true hb]
  simp only [Option.bind_some, if_true]
  have g := (digits_loop p h1 p 0 (by omega) k (by omega)).2
  rw [show impl_digitsOf.l0 k (p : Int) 0 1 = some (preN p : Int) from g]
  rfl
theorem pageat_loop {a : Nat} (ha : a ≤ 6893) (m : Nat) : ∀ x : Nat, x + m = 6893 → (∀ q, q < x → preN q < a) →
    ∃ P : Nat, x ≤ P ∧ P ≤ 6893 ∧ a ≤ preN P ∧ (∀ q, q < P → preN q < a) ∧ ∀ k, m + 6 ≤ k → impl_pageAt.l0 k (a : Int) (x : Int) (preN x : Int) = some ((P : Int), (preN P : Int)) := by
  induction m with
  | zero =>
    intro x h hq
    have hb := preN_bd x (by omega)
    refine ⟨x, by omega, by omega, by omega, hq, fun k hk => ?_⟩
    obtain ⟨k, rfl⟩ : ∃ m, k = m + 1 := ⟨k - 1, by omega⟩
    rw [impl_pageAt.l0, if_neg (by omega)]
  | succ m ih =>
    intro x h hq
    by_cases c : preN x < a
    · obtain ⟨P, h1, h2, h3, h4, h5⟩ := ih (x + 1) (by omega) (fun q hq' => by
        by_cases e : q = x
        · rw [e]; exact c
        · exact hq q (by omega))
      have hb := preN_bd x (by omega)
      have hl := dec_le (x + 1) (by omega)
      refine ⟨P, by omega, h2, h3, h4, fun k hk => ?_⟩
      obtain ⟨k, rfl⟩ : ∃ m, k = m + 1 := ⟨k - 1, by omega⟩
      have e2 : wrap64 ((x : Int) + 1) = ((x + 1 : Nat) : Int) := by rw [w64 (by omega) (by omega)]; omega
      have e1 : wrap64 ((preN x : Int) + (((Lib.decDigits (x + 1)).length : Nat) : Int)) = ((preN (x + 1) : Nat) : Int) := by
        rw [w64 (by omega) (by omega)]; simp only [preN]; omega
      rw [impl_pageAt.l0, if_pos (by omega), e2, itoa_nat (by omega)]
      simp only [Option.bind_some]
      rw [ba_size, e1]
      exact h5 k (by omega)
    · refine ⟨x, by omega, by omega, by omega, hq, fun k hk => ?_⟩
      obtain ⟨k, rfl⟩ : ∃ m, k = m + 1 := ⟨k - 1, by omega⟩
      rw [impl_pageAt.l0, if_neg (by omega)]
theorem pageat {a : Nat} (h0 : 1 ≤ a) (ha : a ≤ 6893) :
    ∃ P : Nat, 1 ≤ P ∧ P ≤ 6893 ∧ a ≤ preN P ∧ (∀ q, q < P → preN q < a) ∧ ∀ k, 7000 ≤ k → impl_pageAt.f k (a : Int) = some ((P : Int), (preN P : Int)) := by
  obtain ⟨P, h1, h2, h3, h4, h5⟩ := pageat_loop ha 6893 0 (by omega) (fun q hq => by omega)
  have : P ≠ 0 := by
    rintro rfl
    simp only [preN] at h3
    omega
  exact ⟨P, by omega, h2, h3, h4, fun k hk => h5 k (by omega)⟩
theorem l0_hit {k : Nat} {x0 x4 x5 v : Int} {b : ByteArray} (h1 : x4 < x0) (hb : spec_l1Num.f k x5 = some b) (hv : wrap64 (x4 + (b.size : Int)) = v) (hx : v = x0) : spec_PagesForDigits.l0 (k + 1) x0 x4 x5 = some (x5, true) := by
  rw [spec_PagesForDigits.l0, if_pos h1, hb, Option.bind_some, hv, if_pos hx]
theorem l0_go {k : Nat} {x0 x4 x5 v y : Int} {b : ByteArray} (h1 : x4 < x0) (hb : spec_l1Num.f k x5 = some b) (hv : wrap64 (x4 + (b.size : Int)) = v) (hx : v ≠ x0) (hy : wrap64 (x5 + 1) = y) :
    spec_PagesForDigits.l0 (k + 1) x0 x4 x5 = spec_PagesForDigits.l0 k x0 v y := by
  rw [spec_PagesForDigits.l0, if_pos h1, hb, Option.bind_some, hv, if_neg hx, hy]
theorem l0_end {k : Nat} {x0 x4 x5 : Int} (h1 : ¬ x4 < x0) : spec_PagesForDigits.l0 (k + 1) x0 x4 x5 = some (0, false) := by
  rw [spec_PagesForDigits.l0, if_neg h1]
theorem w64n {n : Nat} (h : n ≤ 2000000) : wrap64 ((n : Nat) : Int) = (n : Int) := w64 (by omega) (by omega)
theorem pf_loop {pre len : Nat → Nat} (hb : ∀ n, n ≤ 9999 → n ≤ pre n ∧ pre n ≤ 21 * n) (hs : ∀ n, pre (n + 1) = pre n + len (n + 1)) (hl : ∀ n, n ≤ 9999 → len n ≤ 21)
    (hnum : ∀ n : Nat, n ≤ 9999 → ∀ k, 4 ≤ k → ∃ b : ByteArray, spec_l1Num.f k (n : Int) = some b ∧ b.size = len n)
    {a P : Nat} (hP : P ≤ 6893) (h3 : a ≤ pre P) (h4 : ∀ q, q < P → pre q < a) (m : Nat) : ∀ x : Nat, x + m + 1 = P → ∀ k, m + 7 ≤ k →
    spec_PagesForDigits.l0 k (a : Int) (pre x : Int) ((x + 1 : Nat) : Int) = if pre P = a then some ((P : Int), true) else some (0, false) := by
  induction m with
  | zero =>
    intro x h k hk
    obtain ⟨k, rfl⟩ : ∃ m, k = m + 2 := ⟨k - 2, by omega⟩
    obtain rfl : P = x + 1 := by omega
    have q1 : x + 1 ≤ 9999 := by omega
    have q2 : 4 ≤ k + 1 := by omega
    clear hk
    have hb := (hb x (by omega)).2
    have hl := hl (x + 1) q1
    have hx := h4 x (by omega)
    have hs := hs x
    obtain ⟨b, hb1, hb2⟩ := hnum (x + 1) q1 (k + 1) q2
    have c0 : (pre x : Int) < (a : Int) := by omega
    have z1 : (pre x : Int) + ((b.size : Nat) : Int) = ((pre (x + 1) : Nat) : Int) := by omega
    have z2 : ((x + 1 : Nat) : Int) + 1 = ((x + 1 + 1 : Nat) : Int) := by omega
    have z3 : pre (x + 1) ≤ 1000000 := by omega
    have e1 : wrap64 ((pre x : Int) + ((b.size : Nat) : Int)) = ((pre (x + 1) : Nat) : Int) := by
      rw [z1]; exact w64n (by omega)
    have e2 : wrap64 (((x + 1 : Nat) : Int) + 1) = ((x + 1 + 1 : Nat) : Int) := by
      rw [z2]; exact w64n (by omega)
    by_cases c : pre (x + 1) = a
    · have c1 : ((pre (x + 1) : Nat) : Int) = (a : Int) := by rw [c]
      rw [if_pos c, l0_hit c0 hb1 e1 c1]
    · have c1 : ((pre (x + 1) : Nat) : Int) ≠ (a : Int) := fun e => c (Int.ofNat.inj e)
      have c2 : ¬ ((pre (x + 1) : Nat) : Int) < (a : Int) := fun e => absurd (Int.ofNat_lt.mp e) (Nat.not_lt.mpr h3)
      rw [if_neg c, l0_go c0 hb1 e1 c1 e2, l0_end c2]
  | succ m ih =>
    intro x h k hk
    obtain ⟨k, rfl⟩ : ∃ m, k = m + 1 := ⟨k - 1, by omega⟩
    have q1 : x + 1 ≤ 9999 := by omega
    have q2 : 4 ≤ k := by omega
    have g := ih (x + 1) (by omega) k (by omega)
    have hx1 := h4 (x + 1) (by omega)
    have hx := h4 x (by omega)
    have hb := (hb x (by omega)).2
    clear hk ih
    have hl := hl (x + 1) q1
    have hs := hs x
    obtain ⟨b, hb1, hb2⟩ := hnum (x + 1) q1 k q2
    have c0 : (pre x : Int) < (a : Int) := by omega
    have z1 : (pre x : Int) + ((b.size : Nat) : Int) = ((pre (x + 1) : Nat) : Int) := by omega
    have z2 : ((x + 1 : Nat) : Int) + 1 = ((x + 1 + 1 : Nat) : Int) := by omega
    have z3 : pre (x + 1) ≤ 1000000 := by omega
    have e1 : wrap64 ((pre x : Int) + ((b.size : Nat) : Int)) = ((pre (x + 1) : Nat) : Int) := by
      rw [z1]; exact w64n (by omega)
    have e2 : wrap64 (((x + 1 : Nat) : Int) + 1) = ((x + 1 + 1 : Nat) : Int) := by
      rw [z2]; exact w64n (by omega)
    have c1 : ((pre (x + 1) : Nat) : Int) ≠ (a : Int) := fun e => absurd (Int.ofNat.inj e) (Nat.ne_of_lt hx1)
    rw [l0_go c0 hb1 e1 c1 e2]
    exact g
theorem pf_both {a : Nat} (h0 : 1 ≤ a) (ha : a ≤ 6893) :
    ∃ P : Nat, 1 ≤ P ∧ P ≤ 6893 ∧ a ≤ preN P ∧ (∀ q, q < P → preN q < a) ∧ ∀ k, 7000 ≤ k →
      spec_PagesForDigits.f k (a : Int) = (if preN P = a then some ((P : Int), true) else some (0, false)) ∧ impl_PagesForDigits.f k (a : Int) = (if preN P = a then some ((P : Int), true) else some (0, false)) := by
  obtain ⟨P, h1, h2, h3, h4, h5⟩ := pageat h0 ha
  have hb : 1 ≤ (a : Int) ∧ (a : Int) ≤ 6893 := by omega
  refine ⟨P, h1, h2, h3, h4, fun k hk => ⟨?_, ?_⟩⟩
  · unfold spec_PagesForDigits.f
    rw [in_spec, decide_eq_true hb]
    simp only [Option.bind_some, if_true]
    exact pf_loop preN_bd (fun n => rfl) (fun n h => dec_le n (by omega)) (fun n h k hk => ⟨_, num_nat h k hk, ba_size _⟩) h2 h3 h4 (P - 1) 0 (by omega) k (by omega)
  · unfold impl_PagesForDigits.f
    rw [in_impl, decide_eq_true hb]
    simp only [Option.bind_some, if_true]
    rw [h5 k hk]
    simp only [Option.bind_some]
    by_cases c : preN P = a
    · rw [if_pos (by omega), if_pos c]
    · rw [if_neg (by omega), if_neg c]
/-- What the program finds: so many pages need at most so many types, and one page more needs more of them. -/
theorem types_loop {d many : Nat} (hd : d < 10) (hm : many ≤ 2000) (m : Nat) : ∀ x : Nat, x + m = 2000 → sumN d x ≤ many →
    ∃ P : Nat, x ≤ P ∧ P ≤ 2000 ∧ sumN d P ≤ many ∧ (P < 2000 → many < sumN d (P + 1)) ∧ ∀ k, m + 6 ≤ k →
      spec_PagesForTypes.l0 k (d : Int) ((many - sumN d x : Nat) : Int) (x : Int) = some ((P : Int), decide ((P : Int) > 0)) ∧
      impl_PagesForTypes.l0 k (d : Int) (x : Int) ((many - sumN d x : Nat) : Int) = some ((P : Int), decide ((P : Int) > 0)) := by
  induction m with
  | zero =>
    intro x h hs
    refine ⟨x, by omega, by omega, hs, fun h => by omega, fun k hk => ?_⟩
    obtain ⟨k, rfl⟩ : ∃ m, k = m + 1 := ⟨k - 1, by omega⟩
    rw [spec_PagesForTypes.l0, impl_PagesForTypes.l0, if_neg (show ¬ (x : Int) < 2000 by omega), if_neg (show ¬ (x : Int) < 2000 by omega)]
    exact ⟨rfl, rfl⟩
  | succ m ih =>
    intro x h hs
    have e2 : wrap64 ((x : Int) + 1) = ((x + 1 : Nat) : Int) := by rw [w64 (by omega) (by omega)]; omega
    by_cases c : sumN d (x + 1) ≤ many
    · obtain ⟨P, h1, h2, h3, h4, h5⟩ := ih (x + 1) (by omega) c
      have c2 : cntN d (x + 1) ≤ many - sumN d x := by simp only [sumN] at c; omega
      have e1 : wrap64 (((many - sumN d x : Nat) : Int) - ((cntN d (x + 1) : Nat) : Int)) = ((many - sumN d (x + 1) : Nat) : Int) := by
        simp only [sumN] at c ⊢
        rw [w64 (by omega) (by omega)]; omega
      refine ⟨P, by omega, h2, h3, h4, fun k hk => ?_⟩
      obtain ⟨k, rfl⟩ : ∃ m, k = m + 1 := ⟨k - 1, by omega⟩
      have g := h5 k (by omega)
      refine ⟨?_, ?_⟩
      · rw [spec_PagesForTypes.l0, if_pos (by omega), e2, count_spec hd (by omega) (by omega) k (by omega)]
        simp only [Option.bind_some]
        rw [if_pos (by omega), e1]
        exact g.1
      · rw [impl_PagesForTypes.l0, if_pos (by omega), e2, used_impl hd (by omega)]
        simp only [Option.bind_some]
        rw [if_pos (by omega), e1]
        exact g.2
    · have c2 : ¬ cntN d (x + 1) ≤ many - sumN d x := by simp only [sumN] at c; omega
      refine ⟨x, by omega, by omega, hs, fun _ => by omega, fun k hk => ?_⟩
      obtain ⟨k, rfl⟩ : ∃ m, k = m + 1 := ⟨k - 1, by omega⟩
      refine ⟨?_, ?_⟩
      · rw [spec_PagesForTypes.l0, if_pos (by omega), e2, count_spec hd (by omega) (by omega) k (by omega)]
        simp only [Option.bind_some]
        rw [if_neg (by omega)]
      · rw [impl_PagesForTypes.l0, if_pos (by omega), e2, used_impl hd (by omega)]
        simp only [Option.bind_some]
        rw [if_neg (by omega)]
theorem types_both {d many : Nat} (hd : d < 10) (hm : many ≤ 2000) :
    ∃ P : Nat, P ≤ 2000 ∧ sumN d P ≤ many ∧ (P < 2000 → many < sumN d (P + 1)) ∧ ∀ k, 2007 ≤ k →
      spec_PagesForTypes.f k (d : Int) (many : Int) = some ((P : Int), decide ((P : Int) > 0)) ∧ impl_PagesForTypes.f k (d : Int) (many : Int) = some ((P : Int), decide ((P : Int) > 0)) := by
  obtain ⟨P, h1, h2, h3, h4, h5⟩ := types_loop hd hm 2000 0 (by omega) (by simp [sumN])
  have b1 : 0 ≤ (d : Int) ∧ (d : Int) ≤ 9 := by omega
  have b2 : 0 ≤ (many : Int) ∧ (many : Int) ≤ 2000 := by omega
  refine ⟨P, h2, h3, h4, fun k hk => ?_⟩
  obtain ⟨k, rfl⟩ : ∃ m, k = m + 1 := ⟨k - 1, by omega⟩
  have g := h5 k (by omega)
  simp only [sumN, Nat.sub_zero] at g
  unfold spec_PagesForTypes.f impl_PagesForTypes.f impl_isDigit.f
  simp only [in_spec, in_impl, decide_eq_true b1, decide_eq_true b2, Option.bind_some, if_true, Bool.not_true]
  rw [spec_PagesForTypes.j0, impl_PagesForTypes.j0, if_neg (by decide), if_neg (by decide)]
  exact g
theorem d0_go {k : Nat} {x0 x5 v y : Int} {b : ByteArray} (hb : spec_l1Num.f k x5 = some b) (h : x0 > (b.size : Int)) (hv : wrap64 (x0 - (b.size : Int)) = v) (hy : wrap64 (x5 + 1) = y) :
    spec_DigitAtPlace.l0 (k + 1) x0 x5 = spec_DigitAtPlace.l0 k v y := by
  rw [spec_DigitAtPlace.l0, hb, Option.bind_some, if_pos h, Option.bind_some, hv, hy]
theorem d0_end {k : Nat} {x0 x5 v : Int} {b : ByteArray} (hb : spec_l1Num.f k x5 = some b) (h : ¬ x0 > (b.size : Int)) (hv : wrap64 (x0 - 1) = v) (h0 : 0 ≤ v) (h1 : v < (b.size : Int)) :
    spec_DigitAtPlace.l0 (k + 1) x0 x5 = some ((bt b v - 48) % 256, x5, true) := by
  rw [spec_DigitAtPlace.l0, hb, Option.bind_some, if_neg h, Option.bind_some, hv, if_pos h0, if_pos h1]
theorem da_loop {pre len : Nat → Nat} {dig : Nat → ByteArray} (hb : ∀ n, n ≤ 9999 → n ≤ pre n ∧ pre n ≤ 21 * n) (hs : ∀ n, pre (n + 1) = pre n + len (n + 1)) (hl : ∀ n, n ≤ 9999 → len n ≤ 21)
    (hnum : ∀ n : Nat, n ≤ 9999 → ∀ k, 4 ≤ k → spec_l1Num.f k (n : Int) = some (dig n)) (hsz : ∀ n, (dig n).size = len n)
    {a P : Nat} (hP : P ≤ 6893) (ha : a ≤ 6893) (h3 : a ≤ pre P) (h4 : ∀ q, q < P → pre q < a) (m : Nat) : ∀ x : Nat, x + m + 1 = P → ∀ k, m + 7 ≤ k →
    spec_DigitAtPlace.l0 k ((a - pre x : Nat) : Int) ((x + 1 : Nat) : Int) =
      some ((bt (dig P) ((a - pre (P - 1) - 1 : Nat) : Int) - 48) % 256, (P : Int), true) := by
  induction m with
  | zero =>
    intro x h k hk
    obtain ⟨k, rfl⟩ : ∃ m, k = m + 1 := ⟨k - 1, by omega⟩
    obtain rfl : P = x + 1 := by omega
    have q1 : x + 1 ≤ 9999 := by omega
    have q2 : 4 ≤ k := by omega
    clear hk
    have hx := h4 x (by omega)
    have hs := hs x
    have hz := hsz (x + 1)
    have hn := hnum (x + 1) q1 k q2
    obtain ⟨d, hd⟩ : ∃ d, d = dig (x + 1) := ⟨_, rfl⟩
    rw [← hd] at hz hn
    rw [show x + 1 - 1 = x from rfl, ← hd]
    obtain ⟨v, hv⟩ : ∃ v, v = a - pre x := ⟨_, rfl⟩
    rw [← hv]
    have v1 : 1 ≤ v := by omega
    have v2 : v ≤ d.size := by omega
    have v3 : v ≤ 6893 := by omega
    clear hs hv hx h3 h4 hz hl hb hsz hnum
    have c0 : ¬ ((v : Nat) : Int) > (d.size : Int) := by omega
    have z1 : ((v : Nat) : Int) - 1 = ((v - 1 : Nat) : Int) := by omega
    have e1 : wrap64 (((v : Nat) : Int) - 1) = ((v - 1 : Nat) : Int) := by
      rw [z1]; exact w64n (by omega)
    have c1 : (0 : Int) ≤ ((v - 1 : Nat) : Int) := by omega
    have c2 : ((v - 1 : Nat) : Int) < (d.size : Int) := by omega
    exact d0_end hn c0 e1 c1 c2
  | succ m ih =>
    intro x h k hk
    obtain ⟨k, rfl⟩ : ∃ m, k = m + 1 := ⟨k - 1, by omega⟩
    have q1 : x + 1 ≤ 9999 := by omega
    have q2 : 4 ≤ k := by omega
    have g := ih (x + 1) (by omega) k (by omega)
    have hx := h4 x (by omega)
    have hx1 := h4 (x + 1) (by omega)
    clear hk ih
    have hp := hs x
    have hz := hsz (x + 1)
    have hn := hnum (x + 1) q1 k q2
    have c0 : ((a - pre x : Nat) : Int) > ((dig (x + 1)).size : Int) := by omega
    have z1 : ((a - pre x : Nat) : Int) - (((dig (x + 1)).size : Nat) : Int) = ((a - pre (x + 1) : Nat) : Int) := by omega
    have z2 : ((x + 1 : Nat) : Int) + 1 = ((x + 1 + 1 : Nat) : Int) := by omega
    have z3 : a - pre (x + 1) ≤ 1000000 := by omega
    have e1 : wrap64 (((a - pre x : Nat) : Int) - (((dig (x + 1)).size : Nat) : Int)) = ((a - pre (x + 1) : Nat) : Int) := by
      rw [z1]; exact w64n (by omega)
    have e2 : wrap64 (((x + 1 : Nat) : Int) + 1) = ((x + 1 + 1 : Nat) : Int) := by
      rw [z2]; exact w64n (by omega)
    rw [d0_go hn c0 e1 e2]
    exact g
theorem da_impl {pre len : Nat → Nat} {dig : Nat → ByteArray} (hb : ∀ n, n ≤ 9999 → n ≤ pre n ∧ pre n ≤ 21 * n) (hs : ∀ n, pre (n + 1) = pre n + len (n + 1)) (hl : ∀ n, n ≤ 9999 → len n ≤ 21) (hsz : ∀ n, (dig n).size = len n)
    {a P : Nat} (h1 : 1 ≤ P) (hP : P ≤ 6893) (ha : a ≤ 6893) (h3 : a ≤ pre P) (h4 : ∀ q, q < P → pre q < a) :
    wrap64 ((wrap64 ((((dig P).size : Nat) : Int) - 1)) - (wrap64 ((pre P : Int) - (a : Int)))) = ((a - pre (P - 1) - 1 : Nat) : Int) ∧ ((a - pre (P - 1) - 1 : Nat) : Int) < (((dig P).size : Nat) : Int) := by
  obtain ⟨Q, rfl⟩ : ∃ Q, P = Q + 1 := ⟨P - 1, by omega⟩
  have hl := hl (Q + 1) (by omega)
  have hp := hb (Q + 1) (by omega)
  have hx := h4 Q (by omega)
  have hn := hs Q
  have hz := hsz (Q + 1)
  rw [show Q + 1 - 1 = Q from rfl]
  rw [w64 (x := (((dig (Q + 1)).size : Nat) : Int) - 1) (by omega) (by omega), w64 (x := (pre (Q + 1) : Int) - (a : Int)) (by omega) (by omega), w64 (by omega) (by omega)]
  omega
theorem da_both {a : Nat} (h0 : 1 ≤ a) (ha : a ≤ 6893) :
    ∃ P : Nat, 1 ≤ P ∧ P ≤ 6893 ∧ a ≤ preN P ∧ (∀ q, q < P → preN q < a) ∧ ∀ k, 7000 ≤ k →
      spec_DigitAtPlace.f k (a : Int) = some ((bt ⟨(Lib.decDigits P).toArray⟩ ((a - preN (P - 1) - 1 : Nat) : Int) - 48) % 256, (P : Int), true) ∧
      impl_DigitAtPlace.f k (a : Int) = some ((bt ⟨(Lib.decDigits P).toArray⟩ ((a - preN (P - 1) - 1 : Nat) : Int) - 48) % 256, (P : Int), true) := by
  obtain ⟨P, h1, h2, h3, h4, h5⟩ := pageat h0 ha
  have hb : 1 ≤ (a : Int) ∧ (a : Int) ≤ 6893 := by omega
  refine ⟨P, h1, h2, h3, h4, fun k hk => ⟨?_, ?_⟩⟩
  · unfold spec_DigitAtPlace.f
    rw [in_spec, decide_eq_true hb]
    simp only [Option.bind_some, if_true]
    exact da_loop (dig := fun n => ⟨(Lib.decDigits n).toArray⟩) preN_bd (fun n => rfl) (fun n h => dec_le n (by omega)) (fun n h k hk => num_nat h k hk) (fun n => ba_size _) h2 ha h3 h4 (P - 1) 0 (by omega) k (by omega)
  · unfold impl_DigitAtPlace.f
    rw [in_impl, decide_eq_true hb]
    simp only [Option.bind_some, if_true]
    rw [h5 k hk, Option.bind_some, itoa_nat (by omega), Option.bind_some]
    have e := da_impl (dig := fun n => ⟨(Lib.decDigits n).toArray⟩) preN_bd (fun n => rfl) (fun n h => dec_le n (by omega)) (fun n => ba_size _) h1 h2 ha h3 h4
    rw [e.1, if_pos (Int.natCast_nonneg _), if_pos e.2]
/-- The sum over all ten digits. -/
def ten (f : Nat → Nat) : Nat := f 0 + f 1 + f 2 + f 3 + f 4 + f 5 + f 6 + f 7 + f 8 + f 9
theorem ten_add (f g : Nat → Nat) : ten (fun d => f d + g d) = ten f + ten g := by unfold ten; dsimp only; omega
theorem ten_one {m : Nat} (h : m < 10) : ten (fun d => if m = d then 1 else 0) = 1 := by
  have t : ∀ m : Nat, m < 10 → ten (fun d => if m = d then 1 else 0) = 1 := by decide +kernel
  exact t m h
theorem dec_big {n : Nat} (h : ¬ n < 10) : Lib.decDigits n = Lib.decDigits (n / 10) ++ [UInt8.ofNat (48 + n % 10)] := by rw [Lib.decDigits, dif_neg h]
theorem ten_congr {f g : Nat → Nat} (h : ∀ d, d < 10 → f d = g d) : ten f = ten g := by
  unfold ten
  rw [h 0 (by decide), h 1 (by decide), h 2 (by decide), h 3 (by decide), h 4 (by decide), h 5 (by decide), h 6 (by decide), h 7 (by decide), h 8 (by decide), h 9 (by decide)]
theorem cnt_all (k : Nat) : ∀ n : Nat, n < 10 ^ (k + 1) → ten (fun d => cntN d n) = (Lib.decDigits n).length := by
  induction k with
  | zero =>
    intro n hn
    have h : n < 10 := by omega
    rw [Lib.decDigits_one h, ten_congr (fun d hd => cnt_small hd h), ten_one h]
    rfl
  | succ k ih =>
    intro n hn
    by_cases h : n < 10
    · rw [Lib.decDigits_one h, ten_congr (fun d hd => cnt_small hd h), ten_one h]
      rfl
    · rw [ten_congr (fun d hd => cnt_big hd h), ten_add, ten_one (Nat.mod_lt _ (by decide)), ih (n / 10) (by rw [Nat.pow_succ] at hn; omega), dec_big h]
      simp
theorem sum_all (p : Nat) (hp : p ≤ 9999) : ten (fun d => sumN d p) = preN p := by
  induction p with
  | zero => rfl
  | succ p ih =>
    have e : (fun d => sumN d (p + 1)) = fun d => sumN d p + cntN d (p + 1) := rfl
    rw [e, ten_add, ih (by omega), cnt_all 3 (p + 1) (by omega)]
    rfl
theorem sum_le_pre (d p : Nat) : sumN d p ≤ preN p := by
  induction p with
  | zero => simp [sumN, preN]
  | succ p ih =>
    have h1 : cntN d (p + 1) ≤ (Lib.decDigits (p + 1)).length := List.count_le_length
    simp only [sumN, preN]
    omega
theorem with_le_sum (d p : Nat) : withN d p ≤ sumN d p := by
  induction p with
  | zero => simp [withN, sumN]
  | succ p ih =>
    simp only [withN, sumN]
    omega
theorem sum_mono (d : Nat) {p q : Nat} (h : p ≤ q) : sumN d p ≤ sumN d q := by
  induction q with
  | zero => have : p = 0 := by omega
            subst this; exact Nat.le_refl _
  | succ q ih =>
    by_cases e : p = q + 1
    · rw [e]; exact Nat.le_refl _
    · have := ih (by omega)
      simp only [sumN]
      omega
theorem pre_mono {p q : Nat} (h : p < q) : preN p < preN q := by
  induction q with
  | zero => omega
  | succ q ih =>
    have hd := dec_pos (q + 1)
    by_cases e : p = q
    · subst e; simp only [preN]; omega
    · have := ih (by omega)
      simp only [preN]
      omega
theorem big_ok {a b : List Int} : ∃ t, laws_big.f a b = some t := by
  unfold laws_big.f
  split
  · exact ⟨_, rfl⟩
  · exact ⟨_, rfl⟩
/-- At most so many digits up to n. -/
def capN (n : Nat) : Nat := if n < 10 then n else if n < 100 then 9 + 2 * (n - 9) else if n < 1000 then 189 + 3 * (n - 99) else 2889 + 4 * (n - 999)
theorem pre_cap (n : Nat) (h : n ≤ 9999) : preN n ≤ capN n := by
  induction n with
  | zero => simp [preN, capN]
  | succ n ih =>
    have g := ih (by omega)
    have h1 : n + 1 < 10 → (Lib.decDigits (n + 1)).length ≤ 1 := fun h => dec_len 0 (n + 1) (by omega)
    have h2 : n + 1 < 100 → (Lib.decDigits (n + 1)).length ≤ 2 := fun h => dec_len 1 (n + 1) (by omega)
    have h3 : n + 1 < 1000 → (Lib.decDigits (n + 1)).length ≤ 3 := fun h => dec_len 2 (n + 1) (by omega)
    have h4 : (Lib.decDigits (n + 1)).length ≤ 4 := dec_len 3 (n + 1) (by omega)
    simp only [preN]
    generalize (Lib.decDigits (n + 1)).length = L at *
    unfold capN at *
    by_cases c1 : n + 1 < 10
    · have := h1 c1
      rw [if_pos (by omega)] at g
      rw [if_pos c1]
      omega
    · rw [if_neg c1]
      by_cases c2 : n + 1 < 100
      · have := h2 c2
        rw [if_pos c2]
        by_cases c : n < 10
        · rw [if_pos c] at g; omega
        · rw [if_neg c, if_pos (by omega)] at g; omega
      · rw [if_neg c2]
        by_cases c3 : n + 1 < 1000
        · have := h3 c3
          rw [if_pos c3]
          rw [if_neg (by omega)] at g
          by_cases c : n < 100
          · rw [if_pos c] at g; omega
          · rw [if_neg c, if_pos (by omega)] at g; omega
        · rw [if_neg c3]
          rw [if_neg (by omega), if_neg (by omega)] at g
          by_cases c : n < 1000
          · rw [if_pos c] at g; omega
          · rw [if_neg c] at g; omega
theorem pre_2000 {p : Nat} (h : p ≤ 2000) : preN p ≤ 6893 := by
  have := pre_cap p (by omega)
  unfold capN at this
  split at this
  · omega
  · split at this
    · omega
    · split at this <;> omega
theorem for_digits {p : Nat} (h0 : 1 ≤ p) (h : p ≤ 2000) (k : Nat) (hk : 7000 ≤ k) : impl_PagesForDigits.f k (preN p : Int) = some ((p : Int), true) := by
  have hb := preN_bd p (by omega)
  obtain ⟨P, h1, h2, h3, h4, h5⟩ := pf_both (a := preN p) (by omega) (pre_2000 h)
  have e : P = p := by
    by_cases c : P < p
    · have := pre_mono c; omega
    · by_cases c2 : p < P
      · have := h4 p c2; omega
      · omega
  subst e
  rw [(h5 k hk).2, if_pos rfl]
theorem for_types {d p : Nat} (hd : d < 10) (h0 : 1 ≤ p) (h : p ≤ 2000) (hs : sumN d p ≤ 2000) : ∃ P : Nat, p ≤ P ∧ ∀ k, 2007 ≤ k → impl_PagesForTypes.f k (d : Int) (sumN d p : Int) = some ((P : Int), true) := by
  obtain ⟨P, h1, h2, h3, h4⟩ := types_both hd hs
  have e : p ≤ P := by
    by_cases c : P < p
    · have a := h3 (by omega)
      have b := sum_mono d (show P + 1 ≤ p by omega)
      omega
    · omega
  refine ⟨P, e, fun k hk => ?_⟩
  rw [(h4 k hk).2, decide_eq_true (by omega)]
theorem j3_ok {l : List Int} {K : Nat} (hK : ∀ k, K ≤ k → laws_FnPagesNumbered.j4 k l = some true) {d p : Nat} (hd : d < 10) (h0 : 1 ≤ p) (h : p ≤ 2000) (k : Nat) (hk : K + 3000 ≤ k) :
    laws_FnPagesNumbered.j3 k l (p : Int) (d : Int) (sumN d p : Int) false = some true := by
  obtain ⟨k, rfl⟩ : ∃ t, k = t + 1 := ⟨k - 1, by omega⟩
  have J := hK k (by omega)
  rw [laws_FnPagesNumbered.j3, if_neg (by decide)]
  by_cases c : (sumN d p : Int) ≤ 2000
  · obtain ⟨P, h1, h2⟩ := for_types hd h0 h (by omega)
    rw [if_pos c, h2 k (by omega), Option.bind_some]
    dsimp only
    rw [if_pos rfl, if_neg (by omega)]
    exact J
  · rw [if_neg c]; exact J
theorem j2_ok {l : List Int} {K : Nat} (hK : ∀ k, K ≤ k → laws_FnPagesNumbered.j4 k l = some true) {d p : Nat} (hd : d < 10) (h0 : 1 ≤ p) (h : p ≤ 2000) (k : Nat) (hk : K + 3001 ≤ k) :
    laws_FnPagesNumbered.j2 k l (p : Int) (d : Int) (sumN d p : Int) true (withN d p : Int) (preN p : Int) = some true := by
  obtain ⟨k, rfl⟩ : ∃ t, k = t + 1 := ⟨k - 1, by omega⟩
  have J := j3_ok hK hd h0 h k (by omega)
  have a := with_le_sum d p
  have b := sum_le_pre d p
  have c := withN_bd d p
  rw [laws_FnPagesNumbered.j2, if_pos rfl, if_neg (by omega), if_neg (by omega), decide_eq_false (by omega)]
  exact J
theorem j2_no {l : List Int} {K : Nat} (hK : ∀ k, K ≤ k → laws_FnPagesNumbered.j4 k l = some true) {x5 x6 x7 x11 x15 : Int} (k : Nat) (hk : K + 1 ≤ k) :
    laws_FnPagesNumbered.j2 k l x5 x6 x7 false x11 x15 = some true := by
  obtain ⟨k, rfl⟩ : ∃ t, k = t + 1 := ⟨k - 1, by omega⟩
  rw [laws_FnPagesNumbered.j2, if_neg (by decide)]
  exact hK k (by omega)
/-- The sum over the first so many digits. -/
def partN (f : Nat → Nat) : Nat → Nat
  | 0 => 0
  | n + 1 => partN f n + f n
theorem part_ten (f : Nat → Nat) : partN f 10 = ten f := by simp [partN, ten]
theorem l0_ok {l : List Int} {x6 x7 x11 : Int} {ok : Bool} {p K : Nat} (h0 : 1 ≤ p) (h : p ≤ 2000) (hJ : ∀ k, K ≤ k → laws_FnPagesNumbered.j2 k l (p : Int) x6 x7 ok x11 (preN p : Int) = some true) (m : Nat) :
    ∀ x : Nat, x + m = 10 → ∀ k, K + 2010 + m < k → laws_FnPagesNumbered.l0 k l (p : Int) x6 x7 ok x11 (preN p : Int) (p : Int) true (partN (fun d => sumN d p) x : Int) (x : Int) = some true := by
  have hb := preN_bd p (by omega)
  induction m with
  | zero =>
    intro x hx k hk
    obtain ⟨k, rfl⟩ : ∃ t, k = t + 1 := ⟨k - 1, by omega⟩
    obtain rfl : x = 10 := by omega
    rw [part_ten, sum_all p (by omega)]
    rw [laws_FnPagesNumbered.l0, if_neg (by decide), if_pos rfl, if_pos rfl, if_pos rfl, if_neg (by omega)]
    exact hJ k (by omega)
  | succ m ih =>
    intro x hx k hk
    obtain ⟨k, rfl⟩ : ∃ t, k = t + 1 := ⟨k - 1, by omega⟩
    have J := ih (x + 1) (by omega) k (by omega)
    have hs := sumN_bd x p (by omega)
    have hp : ∀ y, partN (fun d => sumN d p) y ≤ y * (21 * p) := by
      intro y
      induction y with
      | zero => simp [partN]
      | succ y ihy =>
        have := sumN_bd y p (by omega)
        simp only [partN]
        rw [Nat.succ_mul]
        omega
    have hx2 := hp x
    have hx3 : x * (21 * p) ≤ 10 * (21 * p) := Nat.mul_le_mul_right _ (by omega)
    have w1 : wrap64 ((partN (fun d => sumN d p) x : Int) + (sumN x p : Int)) = (partN (fun d => sumN d p) (x + 1) : Int) := by
      rw [show (partN (fun d => sumN d p) x : Int) + (sumN x p : Int) = (partN (fun d => sumN d p) (x + 1) : Int) by simp [partN]]
      exact w64n (by simp only [partN]; omega)
    have w2 : wrap64 ((x : Int) + 1) = ((x + 1 : Nat) : Int) := by rw [show (x : Int) + 1 = ((x + 1 : Nat) : Int) by omega]; exact w64n (by omega)
    rw [laws_FnPagesNumbered.l0, if_pos (by clear w1 w2; omega), countd_impl (by clear w1 w2; omega) h0 h k (by clear w1 w2; omega), Option.bind_some]
    dsimp only
    rw [if_pos rfl, w1, w2]
    exact J
theorem and255 (x : Int) : 0 ≤ wrap64 (Go.bits .and .u64 x 255) ∧ wrap64 (Go.bits .and .u64 x 255) ≤ 255 := by
  have e : ∃ n : Nat, n ≤ 255 ∧ Go.bits .and .u64 x 255 = IntKind.u64.wrap (n : Int) := by
    refine ⟨(BitVec.ofInt IntKind.u64.bits x &&& BitVec.ofInt IntKind.u64.bits 255).toNat, ?_, rfl⟩
    rw [BitVec.toNat_and]
    refine Nat.le_trans Nat.and_le_right ?_
    decide
  obtain ⟨n, hn, e⟩ := e
  have w : IntKind.u64.wrap (n : Int) = (n : Int) := by
    simp [IntKind.wrap, IntKind.signed, IntKind.bits]
    omega
  rw [e, w, w64 (by omega) (by omega)]
  omega
/-- The bytes that a draw reads. -/
def Bytes (l : List Int) : Prop := ∀ x ∈ l, 0 ≤ x ∧ x ≤ 255
theorem bytes_of {l : List Int} (h : ∀ x ∈ l, (Lit.int .u8 x).wf = true) : Bytes l := by
  intro x hx
  have := h x hx
  simp [Lit.wf, IntKind.min, IntKind.max, IntKind.signed, IntKind.bits] at this
  omega
theorem rd_byte {l : List Int} (h : Bytes l) (i : Int) : 0 ≤ rd l i ∧ rd l i ≤ 255 := by
  unfold rd
  rw [List.getD_eq_getElem?_getD]
  cases e : l[i.toNat]? with
  | none => simp
  | some v => exact h v (List.mem_of_getElem? e)
theorem next_ok {l : List Int} (hb : Bytes l) {p : Int} (s : Int) (h0 : 0 ≤ p) (h1 : p ≤ 1000000000) : ∃ v p' s', spec_l1Cur_next.f l p s = some (v, p', s') ∧ (0 ≤ v ∧ v ≤ 255) ∧ 0 ≤ p' ∧ p' ≤ p + 1 := by
  have hp : wrap64 (p + 1) = p + 1 := w64 (by omega) (by omega)
  have hr := rd_byte hb p
  have hw : wrap64 (rd l p) = rd l p := w64 (by omega) (by omega)
  unfold spec_l1Cur_next.f
  rw [hp, hw]
  by_cases c : p < (l.length : Int)
  · rw [if_pos c, if_pos h0, if_pos (show p + 1 ≤ (l.length : Int) by clear hp hw; omega)]
    exact ⟨_, _, _, rfl, hr, by clear hp hw; omega, by clear hp hw; omega⟩
  · rw [if_neg c, if_neg (show ¬ p + 1 ≤ (l.length : Int) by clear hp hw; omega)]
    exact ⟨_, _, _, rfl, and255 _, by clear hp hw; omega, by clear hp hw; omega⟩
theorem tmod_bd {a n : Int} (h : 0 ≤ a) (hn : 1 ≤ n) : 0 ≤ Int.tmod a n ∧ Int.tmod a n < n := by
  rw [tm h]
  exact ⟨Int.emod_nonneg _ (by omega), Int.emod_lt_of_pos _ (by omega)⟩
theorem pick_ok {l : List Int} (hb : Bytes l) {p n : Int} (s : Int) (h0 : 0 ≤ p) (h1 : p ≤ 1000000) (_hn : n ≤ 65536) : ∃ v p' s', spec_l1Cur_pick.f l p s n = some (v, p', s') ∧ (0 ≤ v ∧ (v < n ∨ v = 0)) ∧ 0 ≤ p' ∧ p' ≤ p + 2 := by
  unfold spec_l1Cur_pick.f
  by_cases c : n ≤ 1
  · rw [if_pos c]
    exact ⟨_, _, _, rfl, ⟨Int.le_refl _, .inr rfl⟩, h0, by omega⟩
  · rw [if_neg c]
    obtain ⟨v, p', s', e, hv, g0, g1⟩ := next_ok hb s h0 (by omega)
    rw [e, Option.bind_some]
    have n0 : ¬ n = 0 := by omega
    dsimp only
    by_cases c2 : n > 200
    · rw [if_pos c2]
      obtain ⟨u, q', t', e2, hu, k0, k1⟩ := next_ok hb s' g0 (by omega)
      rw [e2, Option.bind_some, if_neg n0]
      have w1 : wrap64 (v * 256) = v * 256 := w64 (by omega) (by omega)
      have w2 : wrap64 (v * 256 + u) = v * 256 + u := w64 (by omega) (by omega)
      dsimp only
      rw [w1, w2]
      have m := tmod_bd (a := v * 256 + u) (n := n) (by clear w1 w2; omega) (by clear w1 w2; omega)
      exact ⟨_, _, _, rfl, ⟨m.1, .inl m.2⟩, k0, by clear w1 w2; omega⟩
    · rw [if_neg c2, if_neg n0]
      have m := tmod_bd (a := v) (n := n) hv.1 (by omega)
      exact ⟨_, _, _, rfl, ⟨m.1, .inl m.2⟩, g0, by omega⟩
theorem among_ok {l : List Int} (hb : Bytes l) {p : Int} (s : Int) (h0 : 0 ≤ p) (h1 : p ≤ 1000000) {xs : List Int} (x0 : 1 ≤ xs.length) (x1 : xs.length ≤ 1000) :
    ∃ v p' s', spec_l1Cur_among.f l p s xs = some (v, p', s') ∧ v ∈ xs ∧ 0 ≤ p' ∧ p' ≤ p + 2 := by
  unfold spec_l1Cur_among.f
  obtain ⟨v, p', s', e, hv, g0, g1⟩ := pick_ok hb s h0 h1 (n := (xs.length : Int)) (by omega)
  rw [e, Option.bind_some]
  have c : v < (xs.length : Int) := by omega
  dsimp only
  rw [if_pos hv.1, if_pos c]
  refine ⟨_, _, _, rfl, ?_, g0, g1⟩
  unfold rd
  rw [List.getD_eq_getElem?_getD, List.getElem?_eq_getElem (show v.toNat < xs.length by omega)]
  exact List.getElem_mem _
theorem one_ok {l : List Int} (hb : Bytes l) {p n : Int} (s : Int) (h0 : 0 ≤ p) (h1 : p ≤ 1000000) (hn : n ≤ 65536) : ∃ v p' s', spec_l1Cur_one.f l p s n = some (v, p', s') ∧ 0 ≤ p' ∧ p' ≤ p + 2 := by
  unfold spec_l1Cur_one.f
  obtain ⟨v, p', s', e, hv, g0, g1⟩ := pick_ok hb s h0 h1 hn
  rw [e, Option.bind_some]
  exact ⟨_, _, _, rfl, g0, g1⟩
def I64 (x : Int) : Prop := -9223372036854775808 ≤ x ∧ x ≤ 9223372036854775807
theorem i64w (x : Int) : I64 (wrap64 x) := by unfold I64 wrap64; omega
theorem page_ok {l : List Int} (hb : Bytes l) {p : Int} (s : Int) (h0 : 0 ≤ p) (h1 : p ≤ 1000) : ∃ v p' s', spec_l1Cur_page.f l p s = some (v, p', s') ∧ I64 v ∧ 0 ≤ p' ∧ p' ≤ p + 4 := by
  unfold spec_l1Cur_page.f
  obtain ⟨v, p', s', e, hv, g0, g1⟩ := pick_ok hb s h0 (by omega) (n := 9) (by omega)
  rw [e, Option.bind_some]
  dsimp only
  by_cases c0 : v = 0
  · rw [if_pos c0]
    obtain ⟨u, q', t', e2, hu, k0, k1⟩ := among_ok hb s' g0 (by omega) (xs := ([(-1), 0, 1, 2, 1999, 2000, 2001, 4611686018427387904] : List Int)) (by decide) (by decide)
    rw [e2, Option.bind_some]
    refine ⟨_, _, _, rfl, ?_, k0, by show q' ≤ p + 4; omega⟩
    simp only [List.mem_cons, List.not_mem_nil, or_false] at hu
    unfold I64
    omega
  · rw [if_neg c0]
    by_cases c1 : v = 1
    · rw [if_pos c1]
      obtain ⟨u, q', t', e2, hu, k0, k1⟩ := pick_ok hb s' g0 (by omega) (n := 250) (by omega)
      rw [e2, Option.bind_some]
      exact ⟨_, _, _, rfl, i64w _, k0, by show q' ≤ p + 4; omega⟩
    · rw [if_neg c1]
      obtain ⟨u, q', t', e2, hu, k0, k1⟩ := pick_ok hb s' g0 (by omega) (n := 130) (by omega)
      rw [e2, Option.bind_some]
      exact ⟨_, _, _, rfl, i64w _, k0, by show q' ≤ p + 4; omega⟩
theorem drawCount_ok {l : List Int} (hb : Bytes l) : ∃ p d, spec_DrawCountDigit.f l = some (p, d) := by
  unfold spec_DrawCountDigit.f
  obtain ⟨x, p, s, e, hx, g0, g1⟩ := page_ok hb 0 (Int.le_refl _) (p := 0) (by omega)
  rw [e, Option.bind_some]
  dsimp only
  obtain ⟨v, p2, s2, e2, _, k0, k1⟩ := pick_ok hb s g0 (by omega) (n := 11) (by decide)
  rw [e2, Option.bind_some]
  dsimp only
  obtain ⟨v3, p3, s3, e3, _, m0, m1⟩ := pick_ok hb s2 k0 (by omega) (n := 9) (by decide)
  rw [e3, Option.bind_some]
  exact ⟨_, _, rfl⟩
theorem count_no {p d : Int} (h : ¬ ((1 ≤ p ∧ p ≤ 2000) ∧ 0 ≤ d ∧ d ≤ 9)) (k : Nat) (hk : 1 ≤ k) :
    (impl_CountDigit.f k p d = some (0, false) ∧ spec_CountDigit.f k p d = some (0, false)) ∧ impl_PagesWithDigit.f k p d = some (0, false) ∧ spec_PagesWithDigit.f k p d = some (0, false) := by
  obtain ⟨k, rfl⟩ : ∃ t, k = t + 1 := ⟨k - 1, by omega⟩
  unfold impl_CountDigit.f spec_CountDigit.f impl_PagesWithDigit.f spec_PagesWithDigit.f spec_bpDigit.f impl_isDigit.f
  rw [book_spec, book_impl, in_spec, in_impl]
  by_cases c : 1 ≤ p ∧ p ≤ 2000
  · rw [decide_eq_true c, decide_eq_false (fun q => h ⟨c, q⟩)]
    simp [impl_CountDigit.j0, impl_PagesWithDigit.j0]
  · rw [decide_eq_false c]
    simp [impl_CountDigit.j0, impl_PagesWithDigit.j0]
theorem digits_no {p : Int} (h : ¬ (1 ≤ p ∧ p ≤ 2000)) (k : Nat) : impl_DigitsOfBook.f k p = some (0, false) ∧ spec_DigitsOfBook.f k p = some (0, false) := by
  unfold impl_DigitsOfBook.f spec_DigitsOfBook.f
  rw [book_spec, book_impl, decide_eq_false h]
  exact ⟨rfl, rfl⟩
theorem j0_ok {l : List Int} {x6 x7 x11 : Int} {ok : Bool} {p K : Nat} (h0 : 1 ≤ p) (h : p ≤ 2000) (hJ : ∀ k, K ≤ k → laws_FnPagesNumbered.j2 k l (p : Int) x6 x7 ok x11 (preN p : Int) = some true) (k : Nat) (hk : K + 9000 ≤ k) :
    laws_FnPagesNumbered.j0 k l (p : Int) x6 x7 ok x11 (preN p : Int) true false = some true := by
  obtain ⟨k, rfl⟩ : ∃ t, k = t + 1 := ⟨k - 1, by omega⟩
  have J := l0_ok h0 h hJ 10 0 (by omega) k (by omega)
  rw [laws_FnPagesNumbered.j0, if_neg (by decide), if_pos rfl, for_digits h0 h k (by omega), Option.bind_some]
  exact J
theorem j0_no {l : List Int} {x5 x6 x7 x11 x15 : Int} {ok : Bool} {K : Nat} (hJ : ∀ k, K ≤ k → laws_FnPagesNumbered.j2 k l x5 x6 x7 ok x11 x15 = some true) (k : Nat) (hk : K + 1 ≤ k) :
    laws_FnPagesNumbered.j0 k l x5 x6 x7 ok x11 x15 false false = some true := by
  obtain ⟨k, rfl⟩ : ∃ t, k = t + 1 := ⟨k - 1, by omega⟩
  rw [laws_FnPagesNumbered.j0, if_neg (by decide), if_neg (by decide)]
  exact hJ k (by omega)
/-- The whole law, once what it asks of the second draws holds. -/
theorem law_of_j4 {l0 l1 : List Int} (hb0 : Bytes l0) {K : Nat} (hK : ∀ k, K ≤ k → laws_FnPagesNumbered.j4 k l1 = some true) : ∃ k, laws_FnPagesNumbered.f k l0 l1 = some true := by
  obtain ⟨bg, hbg⟩ := big_ok (a := l0) (b := l1)
  cases bg with
  | true => exact ⟨0, by unfold laws_FnPagesNumbered.f; rw [hbg, Option.bind_some, if_pos rfl]⟩
  | false =>
    obtain ⟨p, d, e⟩ := drawCount_ok hb0
    refine ⟨K + 20000, ?_⟩
    unfold laws_FnPagesNumbered.f
    rw [hbg, Option.bind_some, if_neg (by decide), e, Option.bind_some]
    dsimp only
    by_cases c : 1 ≤ p ∧ p ≤ 2000
    · obtain ⟨p, rfl⟩ := Int.eq_ofNat_of_zero_le (show 0 ≤ p by omega)
      have q1 := digits_impl (p := p) (by omega) (by omega) (K + 20000) (by omega)
      have q2 := digits_spec (p := p) (by omega) (by omega) (K + 20000) (by omega)
      by_cases c2 : 0 ≤ d ∧ d ≤ 9
      · obtain ⟨d, rfl⟩ := Int.eq_ofNat_of_zero_le c2.1
        have hd : d < 10 := by omega
        have J := j0_ok (p := p) (x6 := (d : Int)) (x7 := (sumN d p : Int)) (x11 := (withN d p : Int)) (ok := true) (by omega) (by omega) (fun k hk => j2_ok hK hd (by omega) (by omega) k hk) (K + 20000) (by omega)
        rw [countd_impl hd (by omega) (by omega) _ (by omega), Option.bind_some, countd_spec hd (by omega) (by omega) _ (by omega), Option.bind_some, pw_impl hd (by omega) (by omega) _ (by omega), Option.bind_some, pw_spec hd (by omega) (by omega) _ (by omega), Option.bind_some, q1, Option.bind_some, q2, Option.bind_some]
        dsimp only
        simp only [bne_self_eq_false, Bool.false_eq_true, if_false, if_true, Bool.not_true]
        exact J
      · obtain ⟨⟨a1, a2⟩, a3, a4⟩ := count_no (p := (p : Int)) (d := d) (fun q => c2 q.2) (K + 20000) (by omega)
        have J := j0_ok (p := p) (x6 := d) (x7 := 0) (x11 := 0) (ok := false) (by omega) (by omega) (fun k hk => j2_no hK k hk) (K + 20000) (by omega)
        rw [a1, Option.bind_some, a2, Option.bind_some, a3, Option.bind_some, a4, Option.bind_some, q1, Option.bind_some, q2, Option.bind_some]
        dsimp only
        simp only [bne_self_eq_false, Bool.false_eq_true, if_false, if_true, Bool.not_true]
        exact J
    · obtain ⟨⟨a1, a2⟩, a3, a4⟩ := count_no (p := p) (d := d) (fun q => c q.1) (K + 20000) (by omega)
      obtain ⟨b1, b2⟩ := digits_no c (K + 20000)
      have J := j0_no (l := l1) (x5 := p) (x6 := d) (x7 := 0) (x11 := 0) (x15 := 0) (ok := false) (fun k hk => j2_no hK k hk) (K + 20000) (by omega)
      rw [a1, Option.bind_some, a2, Option.bind_some, a3, Option.bind_some, a4, Option.bind_some, b1, Option.bind_some, b2, Option.bind_some]
      dsimp only
      simp only [bne_self_eq_false, Bool.false_eq_true, if_false, if_true, Bool.not_true]
      exact J
theorem dec_ge (k : Nat) : ∀ n : Nat, 10 ^ k ≤ n → k + 1 ≤ (Lib.decDigits n).length := by
  induction k with
  | zero => intro n _; exact dec_pos n
  | succ k ih =>
    intro n hn
    rw [Nat.pow_succ] at hn
    have h1 : 1 ≤ 10 ^ k := Nat.pow_pos (by decide)
    rw [dec_big (by omega), List.length_append]
    have := ih (n / 10) (by omega)
    simp
    omega
set_option maxRecDepth 10000 in
theorem pre_eq (n : Nat) (h : n ≤ 9999) : capN n ≤ preN n := by
  induction n with
  | zero => simp [preN, capN]
  | succ n ih =>
    have g := ih (by omega)
    have h1 := dec_pos (n + 1)
    have h2 : 10 ≤ n + 1 → 2 ≤ (Lib.decDigits (n + 1)).length := fun h => dec_ge 1 (n + 1) (by omega)
    have h3 : 100 ≤ n + 1 → 3 ≤ (Lib.decDigits (n + 1)).length := fun h => dec_ge 2 (n + 1) (by omega)
    have h4 : 1000 ≤ n + 1 → 4 ≤ (Lib.decDigits (n + 1)).length := fun h => dec_ge 3 (n + 1) (by omega)
    simp only [preN]
    generalize (Lib.decDigits (n + 1)).length = L at *
    unfold capN at *
    by_cases c1 : n + 1 < 10
    · rw [if_pos (by omega)] at g
      rw [if_pos c1]
      omega
    · rw [if_neg c1]
      have := h2 (by omega)
      by_cases c2 : n + 1 < 100
      · rw [if_pos c2]
        by_cases c : n < 10
        · rw [if_pos c] at g; omega
        · rw [if_neg c, if_pos (by omega)] at g; omega
      · rw [if_neg c2]
        have := h3 (by omega)
        by_cases c3 : n + 1 < 1000
        · rw [if_pos c3]
          rw [if_neg (by omega)] at g
          by_cases c : n < 100
          · rw [if_pos c] at g; omega
          · rw [if_neg c, if_pos (by omega)] at g; omega
        · rw [if_neg c3]
          have hL := h4 (by omega)
          clear ih h1 h2 h3 h4
          rw [if_neg (by omega), if_neg (by omega)] at g
          by_cases c : n < 1000
          · rw [if_pos c] at g; omega
          · rw [if_neg c] at g; omega
theorem cap_at {n : Nat} (h : n = 2000) : capN n = 6893 := by
  unfold capN
  rw [if_neg (by omega), if_neg (by omega), if_neg (by omega)]
  omega
theorem pre_at {n : Nat} (h : n = 2000) : 6893 ≤ preN n := by
  have g := pre_eq n (by omega)
  rw [cap_at h] at g
  exact g
theorem at_most_2000 {a P : Nat} (ha : a ≤ 6893) (h : ∀ q, q < P → preN q < a) : P ≤ 2000 := by
  by_cases c : P ≤ 2000
  · exact c
  · obtain ⟨q, hq⟩ : ∃ q, q = 2000 := ⟨_, rfl⟩
    have h1 := h q (by omega)
    have h2 := pre_at hq
    omega
theorem j10_ok {n b : Int} {ok : Bool} {L : List Int} {tx s : ByteArray} {o1 o2 : Bool} {R : List Int} {K : Nat} (hJ : ∀ k, K ≤ k → laws_FnPagesNumbered.j11 k L tx o1 s R o2 = some true)
    (h : ok = true → ∃ P : Nat, 1 ≤ P ∧ P ≤ 2000 ∧ b = (P : Int) ∧ n = (preN P : Int)) (k : Nat) (hk : K + 2100 ≤ k) : laws_FnPagesNumbered.j10 k n b ok L tx o1 s R o2 = some true := by
  obtain ⟨k, rfl⟩ : ∃ t, k = t + 1 := ⟨k - 1, by omega⟩
  have J := hJ k (by omega)
  cases ok with
  | false => rw [laws_FnPagesNumbered.j10, if_neg (by decide)]; exact J
  | true =>
    obtain ⟨P, h1, h2, rfl, rfl⟩ := h rfl
    rw [laws_FnPagesNumbered.j10, if_pos rfl, digits_impl h1 h2 k (by omega), Option.bind_some]
    dsimp only
    rw [if_pos rfl, if_pos rfl]
    exact J
theorem size_loop (k : Nat) : ∀ (n acc : Nat), n < 10 ^ (k + 1) → n ≤ 9999 → acc + k ≤ 1000 → ∀ j, k + 1 < j → laws_xSize.l0 j (n : Int) ((acc + 1 : Nat) : Int) = some ((acc + (Lib.decDigits n).length : Nat) : Int) := by
  induction k with
  | zero =>
    intro n acc hn _ _ j hj
    obtain ⟨j, rfl⟩ : ∃ t, j = t + 1 := ⟨j - 1, by omega⟩
    rw [laws_xSize.l0, if_neg (by omega), Lib.decDigits_one (by omega)]
    rfl
  | succ k ih =>
    intro n acc hn h9 ha j hj
    obtain ⟨j, rfl⟩ : ∃ t, j = t + 1 := ⟨j - 1, by omega⟩
    by_cases c : n < 10
    · rw [laws_xSize.l0, if_neg (by omega), Lib.decDigits_one c]
      rfl
    · have w1 : wrap64 (Int.tdiv (n : Int) 10) = ((n / 10 : Nat) : Int) := by rw [td (by omega), show (n : Int) / 10 = ((n / 10 : Nat) : Int) by omega]; exact w64n (by omega)
      have w2 : wrap64 (((acc + 1 : Nat) : Int) + 1) = ((acc + 1 + 1 : Nat) : Int) := by rw [show ((acc + 1 : Nat) : Int) + 1 = ((acc + 1 + 1 : Nat) : Int) by omega]; exact w64n (by omega)
      rw [laws_xSize.l0, if_pos (by clear w1 w2; omega), w1, w2, ih (n / 10) (acc + 1) (by rw [Nat.pow_succ] at hn; clear w1 w2; omega) (by clear w1 w2; omega) (by clear w1 w2; omega) j (by clear w1 w2; omega), dec_big c, List.length_append]
      congr 2
      simp
      omega
theorem size_ok {n : Nat} (h : n ≤ 9999) (k : Nat) (hk : 5 ≤ k) : laws_xSize.f k (n : Int) = some (((Lib.decDigits n).length : Nat) : Int) := by
  unfold laws_xSize.f
  have g := size_loop 3 n 0 (by omega) h (by decide) k (by omega)
  rw [Nat.zero_add] at g
  rw [Nat.zero_add] at g
  exact g
/-- The digit that stands so far from the end. -/
theorem dec_get (m : Nat) : ∀ n j : Nat, j + m + 1 = (Lib.decDigits n).length → ∃ c, (Lib.decDigits n)[j]? = some c ∧ c.toNat = 48 + (n / 10 ^ m) % 10 := by
  induction m with
  | zero =>
    intro n j hj
    have hm : n % 10 < 10 := Nat.mod_lt _ (by decide)
    have hu : (UInt8.ofNat (48 + n % 10)).toNat = 48 + n % 10 := by rw [UInt8.toNat_ofNat']; omega
    by_cases c : n < 10
    · rw [Lib.decDigits_one c] at hj ⊢
      have : j = 0 := by simp at hj; omega
      subst this
      refine ⟨_, rfl, ?_⟩
      rw [Nat.pow_zero, Nat.div_one]
      have e : n % 10 = n := by omega
      rw [e] at hu ⊢
      exact hu
    · rw [dec_big c] at hj ⊢
      rw [List.length_append] at hj
      have e : j = (Lib.decDigits (n / 10)).length := by simp at hj; omega
      refine ⟨UInt8.ofNat (48 + n % 10), ?_, ?_⟩
      · rw [e, List.getElem?_append_right (Nat.le_refl _), Nat.sub_self, List.getElem?_cons_zero]
      · rw [Nat.pow_zero, Nat.div_one]; exact hu
  | succ m ih =>
    intro n j hj
    by_cases c : n < 10
    · rw [Lib.decDigits_one c] at hj; simp at hj
    · rw [dec_big c] at hj ⊢
      rw [List.length_append] at hj
      have hj2 : j + m + 1 = (Lib.decDigits (n / 10)).length := by simp at hj; omega
      obtain ⟨x, h1, h2⟩ := ih (n / 10) j hj2
      refine ⟨x, ?_, ?_⟩
      · rw [List.getElem?_append_left (by omega)]; exact h1
      · rw [h2, Nat.div_div_eq_div_mul, Nat.pow_succ, Nat.mul_comm]
theorem bt_dec (l : List UInt8) (j : Nat) (c : UInt8) (h : l[j]? = some c) : bt ⟨l.toArray⟩ (j : Int) = (c.toNat : Int) := by
  have hl : j < l.length := (List.getElem?_eq_some_iff.1 h).1
  have g := bt_at ⟨l.toArray⟩ (j : Int) (by rw [Int.toNat_natCast, ba_size]; exact hl)
  rw [← g]
  have e : (⟨l.toArray⟩ : ByteArray)[j]'(by rw [ba_size]; exact hl) = c := by
    have := (List.getElem?_eq_some_iff.1 h).2
    rw [← this]
    rfl
  simp only [Int.toNat_natCast]
  rw [e]
/-- What the checks of the texts ask: they stand behind all the others. -/
def TextOk (K : Nat) (L : List Int) (tx : ByteArray) (o1 : Bool) (s : ByteArray) (R : List Int) (o2 : Bool) : Prop := ∀ k, K ≤ k → laws_FnPagesNumbered.j11 k L tx o1 s R o2 = some true
theorem at_digit {a P : Nat} (h1 : 1 ≤ P) (h3 : a ≤ preN P) (h4 : ∀ q, q < P → preN q < a) : (bt ⟨(Lib.decDigits P).toArray⟩ ((a - preN (P - 1) - 1 : Nat) : Int) - 48) % 256 = ((P / 10 ^ (preN P - a) % 10 : Nat) : Int) := by
  have e : preN P = preN (P - 1) + (Lib.decDigits P).length := by
    obtain ⟨Q, rfl⟩ : ∃ Q, P = Q + 1 := ⟨P - 1, by omega⟩
    rfl
  have h5 := h4 (P - 1) (by omega)
  obtain ⟨c, g1, g2⟩ := dec_get (preN P - a) P (a - preN (P - 1) - 1) (by omega)
  rw [bt_dec _ _ c g1, g2]
  have : P / 10 ^ (preN P - a) % 10 < 10 := Nat.mod_lt _ (by decide)
  omega
theorem tmod10 (X : Nat) : Int.tmod (X : Int) 10 = ((X % 10 : Nat) : Int) := by rw [tm (by omega)]; omega
theorem tdiv10 (X : Nat) : Int.tdiv (X : Int) 10 = ((X / 10 : Nat) : Int) := by rw [td (by omega)]; omega
theorem l1_ok {K : Nat} {n b x34 : Int} {ok : Bool} {L : List Int} {tx s : ByteArray} {o1 o2 : Bool} {R : List Int} {a P m : Nat} (hP : P ≤ 9999) (hp : preN P ≤ 300000) (hm : a + m = preN P) (h34 : x34 = ((P / 10 ^ m % 10 : Nat) : Int))
    (hJ : ∀ k, K ≤ k → laws_FnPagesNumbered.j10 k n b ok L tx o1 s R o2 = some true) (d : Nat) : ∀ t : Nat, t + d = m → ∀ k, K + d < k →
    laws_FnPagesNumbered.l1 k (a : Int) x34 n b ok L tx o1 s R o2 ((P / 10 ^ t : Nat) : Int) ((preN P - t : Nat) : Int) = some true := by
  induction d with
  | zero =>
    intro t ht k hk
    obtain ⟨k, rfl⟩ : ∃ u, k = u + 1 := ⟨k - 1, by omega⟩
    obtain rfl : t = m := by omega
    rw [laws_FnPagesNumbered.l1, if_neg (by clear h34; omega), tmod10, h34, if_pos rfl]
    exact hJ k (by omega)
  | succ d ih =>
    intro t ht k hk
    obtain ⟨k, rfl⟩ : ∃ u, k = u + 1 := ⟨k - 1, by omega⟩
    have J := ih (t + 1) (by omega) k (by omega)
    have hle : P / 10 ^ t ≤ 9999 := Nat.le_trans (Nat.div_le_self _ _) hP
    have w1 : wrap64 (Int.tdiv ((P / 10 ^ t : Nat) : Int) 10) = ((P / 10 ^ (t + 1) : Nat) : Int) := by
      rw [tdiv10, Nat.pow_succ, ← Nat.div_div_eq_div_mul]
      exact w64n (Nat.le_trans (Nat.div_le_self _ _) (by omega))
    have w2 : wrap64 (((preN P - t : Nat) : Int) - 1) = ((preN P - (t + 1) : Nat) : Int) := by rw [show ((preN P - t : Nat) : Int) - 1 = ((preN P - (t + 1) : Nat) : Int) by omega]; exact w64n (by omega)
    rw [laws_FnPagesNumbered.l1, if_pos (by clear w1 w2 h34; omega), w1, w2]
    exact J
theorem j7_ok {K : Nat} {x33 x34 x35 n b : Int} {o7 ok : Bool} {L : List Int} {tx s : ByteArray} {o1 o2 : Bool} {R : List Int} (hJ : ∀ k, K ≤ k → laws_FnPagesNumbered.j10 k n b ok L tx o1 s R o2 = some true)
    (h : o7 = true → ∃ a P : Nat, 1 ≤ a ∧ a ≤ 6893 ∧ 1 ≤ P ∧ a ≤ preN P ∧ (∀ q, q < P → preN q < a) ∧ x33 = (a : Int) ∧ x35 = (P : Int) ∧ x34 = (bt ⟨(Lib.decDigits P).toArray⟩ ((a - preN (P - 1) - 1 : Nat) : Int) - 48) % 256)
    (k : Nat) (hk : K + 20000 ≤ k) : laws_FnPagesNumbered.j7 k x33 x34 x35 o7 n b ok L tx o1 s R o2 = some true := by
  obtain ⟨k, rfl⟩ : ∃ u, k = u + 2 := ⟨k - 2, by omega⟩
  cases o7 with
  | false => rw [laws_FnPagesNumbered.j7, if_neg (by decide)]; exact hJ _ (by omega)
  | true =>
    obtain ⟨a, P, h0, h1, h2, h3, h4, rfl, rfl, h5⟩ := h rfl
    have hP := at_most_2000 h1 h4
    have hp := pre_2000 hP
    rw [at_digit h2 h3 h4] at h5
    have e : preN P = preN (P - 1) + (Lib.decDigits P).length := by
      obtain ⟨Q, rfl⟩ : ∃ Q, P = Q + 1 := ⟨P - 1, by omega⟩
      rfl
    have h6 := h4 (P - 1) (by omega)
    have hd : P / 10 ^ (preN P - a) % 10 < 10 := Nat.mod_lt _ (by decide)
    have J := l1_ok (a := a) (P := P) (m := preN P - a) (by omega) (by omega) (by omega) h5 hJ (preN P - a) 0 (by omega) k (by omega)
    rw [Nat.pow_zero, Nat.div_one, Nat.sub_zero] at J
    obtain ⟨D, hD⟩ : ∃ D : Nat, P / 10 ^ (preN P - a) % 10 = D := ⟨_, rfl⟩
    rw [hD] at hd h5
    clear hD
    have w : wrap64 ((preN P : Int) - (((Lib.decDigits P).length : Nat) : Int)) = ((preN (P - 1) : Nat) : Int) := by rw [show (preN P : Int) - (((Lib.decDigits P).length : Nat) : Int) = ((preN (P - 1) : Nat) : Int) by omega]; exact w64n (by omega)
    rw [laws_FnPagesNumbered.j7, if_pos rfl, digits_impl h2 hP (k + 1) (by clear w; omega), Option.bind_some]
    dsimp only
    rw [if_pos rfl, if_neg (by clear w; omega), size_ok (by clear w; omega) (k + 1) (by clear w; omega), Option.bind_some, w, if_neg (by clear w; omega), if_neg (by clear w; omega), decide_eq_false (by clear w; omega), laws_FnPagesNumbered.j8, if_neg (by decide)]
    exact J
theorem j5_ok {K : Nat} {x27 x28 x29 x33 x34 x35 n b : Int} {o5 o7 ok : Bool} {L : List Int} {tx s : ByteArray} {o1 o2 : Bool} {R : List Int} (hJ : ∀ k, K ≤ k → laws_FnPagesNumbered.j7 k x33 x34 x35 o7 n b ok L tx o1 s R o2 = some true)
    (h : o5 = true → ∃ d many P : Nat, d < 10 ∧ 1 ≤ P ∧ P ≤ 2000 ∧ sumN d P ≤ many ∧ (P < 2000 → many < sumN d (P + 1)) ∧ x27 = (d : Int) ∧ x28 = (many : Int) ∧ x29 = (P : Int))
    (k : Nat) (hk : K + 2100 ≤ k) : laws_FnPagesNumbered.j5 k x27 x28 x29 o5 x33 x34 x35 o7 n b ok L tx o1 s R o2 false = some true := by
  obtain ⟨k, rfl⟩ : ∃ u, k = u + 2 := ⟨k - 2, by omega⟩
  cases o5 with
  | false => rw [laws_FnPagesNumbered.j5, if_neg (by decide), if_neg (by decide)]; exact hJ _ (by omega)
  | true =>
    obtain ⟨d, many, P, h0, h1, h2, h3, h4, rfl, rfl, rfl⟩ := h rfl
    have J := hJ k (by omega)
    rw [laws_FnPagesNumbered.j5, if_neg (by decide), if_pos rfl, countd_impl h0 h1 h2 (k + 1) (by omega), Option.bind_some]
    dsimp only
    rw [if_pos rfl, decide_eq_false (by omega), laws_FnPagesNumbered.j6, if_neg (by decide)]
    by_cases c : (P : Int) < 2000
    · have w : wrap64 ((P : Int) + 1) = ((P + 1 : Nat) : Int) := by rw [show (P : Int) + 1 = ((P + 1 : Nat) : Int) by omega]; exact w64n (by omega)
      have h5 := h4 (by clear w; omega)
      rw [if_pos c, w, countd_impl h0 (by clear w; omega) (by clear w; omega) k (by clear w; omega), Option.bind_some]
      dsimp only
      rw [if_pos rfl, if_neg (by clear w; omega)]
      exact J
    · rw [if_neg c]; exact J
theorem drawTypes_ok {l : List Int} (hb : Bytes l) : ∃ d m, spec_DrawPagesForTypes.f l = some (d, m) := by
  unfold spec_DrawPagesForTypes.f
  obtain ⟨v, p, s, e, _, g0, g1⟩ := pick_ok hb (p := 0) 0 (by decide) (by decide) (n := 11) (by decide)
  rw [e, Option.bind_some]
  dsimp only
  obtain ⟨v3, p3, s3, e3, _, m0, m1⟩ := pick_ok hb s g0 (by omega) (n := 9) (by decide)
  rw [e3, Option.bind_some]
  dsimp only
  obtain ⟨b, p4, s4, e4, k0, k1⟩ := one_ok hb (p := p3) s3 m0 (by omega) (n := 8) (by decide)
  rw [e4, Option.bind_some]
  dsimp only
  cases b with
  | true =>
    obtain ⟨v5, p5, s5, e5, _, _, _⟩ := among_ok hb s4 k0 (by omega) (xs := ([(-1), 0, 1, 2000, 2001] : List Int)) (by decide) (by decide)
    rw [if_pos rfl, e5, Option.bind_some]
    exact ⟨_, _, rfl⟩
  | false =>
    obtain ⟨v5, p5, s5, e5, _, _, _⟩ := pick_ok hb s4 k0 (by omega) (n := 120) (by decide)
    rw [if_neg (by decide), e5, Option.bind_some]
    exact ⟨_, _, rfl⟩
theorem drawDigits_ok {l : List Int} (hb : Bytes l) : ∃ n, spec_DrawPagesForDigits.f l = some n ∧ spec_DrawDigitAtPlace.f l = some n := by
  have h : ∃ n, spec_DrawPagesForDigits.f l = some n := by
    unfold spec_DrawPagesForDigits.f
    obtain ⟨b, p4, s4, e4, k0, k1⟩ := one_ok hb (p := 0) 0 (by decide) (by decide) (n := 8) (by decide)
    rw [e4, Option.bind_some]
    dsimp only
    cases b with
    | true =>
      obtain ⟨v5, p5, s5, e5, _, _, _⟩ := among_ok hb s4 k0 (by omega) (xs := ([(-1), 0, 1, 9, 10, 11, 6892, 6893, 6894, 4611686018427387904] : List Int)) (by decide) (by decide)
      rw [if_pos rfl, e5, Option.bind_some]
      exact ⟨_, rfl⟩
    | false =>
      obtain ⟨v5, p5, s5, e5, _, m0, m1⟩ := pick_ok hb s4 k0 (by omega) (n := 250) (by decide)
      rw [if_neg (by decide), e5, Option.bind_some]
      dsimp only
      obtain ⟨v6, p6, s6, e6, _, _, _⟩ := pick_ok hb s5 m0 (by omega) (n := 9) (by decide)
      rw [e6, Option.bind_some]
      exact ⟨_, rfl⟩
  obtain ⟨n, h⟩ := h
  refine ⟨n, h, ?_⟩
  unfold spec_DrawDigitAtPlace.f
  rw [h, Option.bind_some]
theorem types_any (d many : Int) : ∃ r ok, (∀ k, 2007 ≤ k → impl_PagesForTypes.f k d many = some (r, ok) ∧ spec_PagesForTypes.f k d many = some (r, ok)) ∧
    (ok = true → ∃ d' many' P : Nat, d' < 10 ∧ 1 ≤ P ∧ P ≤ 2000 ∧ sumN d' P ≤ many' ∧ (P < 2000 → many' < sumN d' (P + 1)) ∧ d = (d' : Int) ∧ many = (many' : Int) ∧ r = (P : Int)) := by
  by_cases c : (0 ≤ d ∧ d ≤ 9) ∧ 0 ≤ many ∧ many ≤ 2000
  · obtain ⟨d, rfl⟩ := Int.eq_ofNat_of_zero_le c.1.1
    obtain ⟨many, rfl⟩ := Int.eq_ofNat_of_zero_le c.2.1
    obtain ⟨P, h1, h2, h3, h4⟩ := types_both (d := d) (many := many) (by omega) (by omega)
    refine ⟨(P : Int), decide ((P : Int) > 0), fun k hk => ⟨(h4 k hk).2, (h4 k hk).1⟩, fun e => ⟨d, many, P, by omega, ?_, h1, h2, h3, rfl, rfl, rfl⟩⟩
    have := of_decide_eq_true e
    omega
  · refine ⟨0, false, fun k hk => ?_, fun e => by cases e⟩
    obtain ⟨k, rfl⟩ : ∃ t, k = t + 1 := ⟨k - 1, by omega⟩
    unfold impl_PagesForTypes.f spec_PagesForTypes.f impl_isDigit.f
    by_cases c1 : 0 ≤ d ∧ d ≤ 9
    · have c2 : ¬ (0 ≤ many ∧ many ≤ 2000) := fun q => c ⟨c1, q⟩
      simp [in_spec, in_impl, decide_eq_true c1, decide_eq_false c2, impl_PagesForTypes.j0, spec_PagesForTypes.j0]
    · simp [in_spec, in_impl, decide_eq_false c1, impl_PagesForTypes.j0, spec_PagesForTypes.j0]
theorem digits_any (n : Int) : ∃ r ok, (∀ k, 7000 ≤ k → impl_PagesForDigits.f k n = some (r, ok) ∧ spec_PagesForDigits.f k n = some (r, ok)) ∧ (ok = true → ∃ P : Nat, 1 ≤ P ∧ P ≤ 2000 ∧ r = (P : Int) ∧ n = (preN P : Int)) := by
  by_cases c : 1 ≤ n ∧ n ≤ 6893
  · obtain ⟨a, rfl⟩ := Int.eq_ofNat_of_zero_le (show 0 ≤ n by omega)
    obtain ⟨P, h1, h2, h3, h4, h5⟩ := pf_both (a := a) (by omega) (by omega)
    have hP := at_most_2000 (show a ≤ 6893 by omega) h4
    by_cases e : preN P = a
    · refine ⟨(P : Int), true, fun k hk => ?_, fun _ => ⟨P, h1, hP, rfl, by rw [e]⟩⟩
      have := h5 k hk
      rw [if_pos e] at this
      exact ⟨this.2, this.1⟩
    · refine ⟨0, false, fun k hk => ?_, fun e => by cases e⟩
      have := h5 k hk
      rw [if_neg e] at this
      exact ⟨this.2, this.1⟩
  · refine ⟨0, false, fun k hk => ?_, fun e => by cases e⟩
    unfold impl_PagesForDigits.f spec_PagesForDigits.f
    rw [in_spec, in_impl, decide_eq_false c]
    exact ⟨rfl, rfl⟩
theorem place_any (n : Int) : ∃ x y ok, (∀ k, 7000 ≤ k → impl_DigitAtPlace.f k n = some (x, y, ok) ∧ spec_DigitAtPlace.f k n = some (x, y, ok)) ∧
    (ok = true → ∃ a P : Nat, 1 ≤ a ∧ a ≤ 6893 ∧ 1 ≤ P ∧ a ≤ preN P ∧ (∀ q, q < P → preN q < a) ∧ n = (a : Int) ∧ y = (P : Int) ∧ x = (bt ⟨(Lib.decDigits P).toArray⟩ ((a - preN (P - 1) - 1 : Nat) : Int) - 48) % 256) := by
  by_cases c : 1 ≤ n ∧ n ≤ 6893
  · obtain ⟨a, rfl⟩ := Int.eq_ofNat_of_zero_le (show 0 ≤ n by omega)
    obtain ⟨P, h1, h2, h3, h4, h5⟩ := da_both (a := a) (by omega) (by omega)
    exact ⟨_, _, true, fun k hk => ⟨(h5 k hk).2, (h5 k hk).1⟩, fun _ => ⟨a, P, by omega, by omega, h1, h3, h4, rfl, rfl, rfl⟩⟩
  · refine ⟨0, 0, false, fun k hk => ?_, fun e => by cases e⟩
    unfold impl_DigitAtPlace.f spec_DigitAtPlace.f
    rw [in_spec, in_impl, decide_eq_false c]
    exact ⟨rfl, rfl⟩
theorem xsame_l0 (l : List Int) (hl : l.length ≤ 1000000) (d : Nat) : ∀ i : Nat, i + d = l.length → ∀ k, d < k → laws_xSame.l0 k l l (l.length : Int) (i : Int) = some true := by
  induction d with
  | zero =>
    intro i hi k hk
    obtain ⟨k, rfl⟩ : ∃ m, k = m + 1 := ⟨k - 1, by omega⟩
    rw [laws_xSame.l0, if_neg (by omega)]
  | succ d ih =>
    intro i hi k hk
    obtain ⟨k, rfl⟩ : ∃ m, k = m + 1 := ⟨k - 1, by omega⟩
    rw [laws_xSame.l0, if_pos (by omega), if_pos (by omega), if_pos (by omega), if_pos (by omega), if_pos rfl, w64 (x := (i : Int) + 1) (by omega) (by omega)]
    exact ih (i + 1) (by omega) k (by omega)
theorem xsame_self (l : List Int) (hl : l.length ≤ 1000000) (k : Nat) (hk : l.length < k) : laws_xSame.f k l l = some true := by
  unfold laws_xSame.f
  rw [if_pos rfl]
  exact xsame_l0 l hl l.length 0 (by omega) k hk
/-- What the texts give: both readers and both writers agree, and the checks behind hold. -/
def Txt (l : List Int) : Prop := ∃ (L : List Int) (tx : ByteArray) (o1 : Bool) (s : ByteArray) (R : List Int) (o2 : Bool) (K : Nat), R.length ≤ 1000000 ∧
  (∀ k, K ≤ k → spec_DrawPagesText.f k l = some L ∧ impl_PagesText.f k L = some (tx, o1) ∧ spec_PagesText.f k L = some (tx, o1) ∧ spec_DrawParsePages.f k l = some s ∧ impl_ParsePages.f k s = some (R, o2) ∧ spec_ParsePages.f k s = some (R, o2)) ∧ TextOk K L tx o1 s R o2
theorem j4_ok {l : List Int} (hb : Bytes l) (h : Txt l) : ∃ K, ∀ k, K ≤ k → laws_FnPagesNumbered.j4 k l = some true := by
  obtain ⟨L, tx, o1, s, R, o2, K, hR, hT, hJ⟩ := h
  obtain ⟨d, many, e1⟩ := drawTypes_ok hb
  obtain ⟨n, e2, e3⟩ := drawDigits_ok hb
  obtain ⟨far, o5, g1, g2⟩ := types_any d many
  obtain ⟨x, y, o7, p1, p2⟩ := place_any n
  obtain ⟨bk, o9, q1, q2⟩ := digits_any n
  have J10 := fun k hk => j10_ok (n := n) (b := bk) (ok := o9) hJ q2 k hk
  have J7 := fun k hk => j7_ok (x33 := n) (x34 := x) (x35 := y) (o7 := o7) (K := K + 2100) J10 p2 k hk
  refine ⟨K + 2000000, fun k hk => ?_⟩
  obtain ⟨k, rfl⟩ : ∃ t, k = t + 1 := ⟨k - 1, by omega⟩
  obtain ⟨t1, t2, t3, t4, t5, t6⟩ := hT k (by omega)
  have J5 := j5_ok (x27 := d) (x28 := many) (x29 := far) (o5 := o5) (K := K + 2100 + 20000) J7 g2 k (by omega)
  have hs := xsame_self R hR k (by omega)
  rw [laws_FnPagesNumbered.j4, e1, Option.bind_some]
  dsimp only
  rw [(g1 k (by omega)).1, Option.bind_some, (g1 k (by omega)).2, Option.bind_some, e3, Option.bind_some, (p1 k (by omega)).1, Option.bind_some, (p1 k (by omega)).2, Option.bind_some, e2, Option.bind_some, (q1 k (by omega)).1, Option.bind_some, (q1 k (by omega)).2, Option.bind_some,
    t1, Option.bind_some, t2, Option.bind_some, t3, Option.bind_some, t4, Option.bind_some, t5, Option.bind_some, t6, Option.bind_some]
  dsimp only
  simp only [hs, Option.bind_some, bne_self_eq_false, Bool.false_eq_true, if_false, if_true, Bool.not_true]
  exact J5
theorem law_of_text {l0 l1 : List Int} (hb0 : Bytes l0) (hb1 : Bytes l1) (h : Txt l1) : ∃ k, laws_FnPagesNumbered.f k l0 l1 = some true := by
  obtain ⟨K, hK⟩ := j4_ok hb1 h
  exact law_of_j4 hb0 hK
def Ev {α : Type} (f : Nat → Option α) (r : α) : Prop := ∃ K, ∀ k, K ≤ k → f k = some r
theorem Ev.step {α : Type} {f g : Nat → Option α} {r : α} (h : Ev g r) (e : ∀ k, 4 ≤ k → f (k + 1) = g k) : Ev f r := by
  obtain ⟨K, hK⟩ := h
  refine ⟨K + 5, fun k hk => ?_⟩
  obtain ⟨k, rfl⟩ : ∃ m, k = m + 1 := ⟨k - 1, by omega⟩
  rw [e k (by omega), hK k (by omega)]
theorem Ev.fin {α : Type} {f : Nat → Option α} {r : α} (e : ∀ k, f (k + 1) = some r) : Ev f r := by
  refine ⟨1, fun k hk => ?_⟩
  obtain ⟨k, rfl⟩ : ∃ m, k = m + 1 := ⟨k - 1, by omega⟩
  exact e k
theorem w_add {n m : Nat} (h : n + m ≤ 2000000) : wrap64 ((n : Int) + (m : Int)) = ((n + m : Nat) : Int) := by
  rw [show (n : Int) + (m : Int) = ((n + m : Nat) : Int) by omega]
  exact w64n h
theorem w_suc {n : Nat} (h : n ≤ 1999999) : wrap64 ((n : Int) + 1) = ((n + 1 : Nat) : Int) := w_add (m := 1) (by omega)
theorem w_sub {n d : Nat} (h : d ≤ 2000000) : wrap64 (((n + d : Nat) : Int) - (n : Int)) = (d : Int) := by
  rw [show ((n + d : Nat) : Int) - (n : Int) = ((d : Nat) : Int) by omega]
  exact w64n h
theorem s0_in {k : Nat} {l : List Int} {s : ByteArray} {i : Int} (h : i < (l.length : Int)) : spec_bpText.l0 (k + 1) l s i = spec_bpText.l1 k l s i i := by rw [spec_bpText.l0, if_pos h]
theorem s0_out {k : Nat} {l : List Int} {s : ByteArray} {i : Int} (h : ¬ i < (l.length : Int)) : spec_bpText.l0 (k + 1) l s i = some s := by rw [spec_bpText.l0, if_neg h]
theorem s1_go {k : Nat} {l : List Int} {s : ByteArray} {i x y z : Int} (hy : wrap64 (x + 1) = y) (h1 : y < (l.length : Int)) (h2 : 0 ≤ y) (h3 : 0 ≤ x) (h4 : x < (l.length : Int)) (hz : wrap64 (rd l x + 1) = z) (h5 : rd l y = z) :
    spec_bpText.l1 (k + 1) l s i x = spec_bpText.l1 k l s i y := by
  rw [spec_bpText.l1, hy, hz, if_pos h1, if_pos h2, if_pos h3, if_pos h4, if_pos h5]
theorem s1_stop {k : Nat} {l : List Int} {s : ByteArray} {i x y z : Int} (hy : wrap64 (x + 1) = y) (h2 : 0 ≤ y) (h3 : 0 ≤ x) (h4 : x < (l.length : Int)) (hz : wrap64 (rd l x + 1) = z) (h5 : y < (l.length : Int) → rd l y ≠ z) :
    spec_bpText.l1 (k + 1) l s i x = spec_bpText.j2 k l s i x := by
  rw [spec_bpText.l1, hy, hz]
  by_cases c : y < (l.length : Int)
  · rw [if_pos c, if_pos h2, if_pos h3, if_pos h4, if_neg (h5 c)]
  · rw [if_neg c]
theorem s2_zero {k : Nat} {l : List Int} {s : ByteArray} {i e : Int} (h : ¬ i > 0) : spec_bpText.j2 (k + 1) l s i e = spec_bpText.j3 k l s i e := by rw [spec_bpText.j2, if_neg h]
theorem s2_pos {k : Nat} {l : List Int} {s : ByteArray} {i e : Int} (h : i > 0) (hs : s.size + 1 ≤ 9223372036854775807) : spec_bpText.j2 (k + 1) l s i e = spec_bpText.j3 k l (s ++ (⟨#[44]⟩ : ByteArray)) i e := by
  rw [spec_bpText.j2, if_pos h, if_pos hs]
theorem s3_one {k : Nat} {l : List Int} {s t : ByteArray} {i e e1 : Int} (hd : wrap64 (e - i) = 0) (h0 : 0 ≤ i) (h1 : i < (l.length : Int)) (hn : spec_l1Num.f k (rd l i) = some t) (hs : s.size + t.size ≤ 9223372036854775807) (he : wrap64 (e + 1) = e1) :
    spec_bpText.j3 (k + 1) l s i e = spec_bpText.l0 k l (s ++ t) e1 := by
  rw [spec_bpText.j3, if_pos hd, if_pos h0, if_pos h1, hn, Option.bind_some, if_pos hs, he]
theorem s3_two {k : Nat} {l : List Int} {s t u : ByteArray} {i e e1 d : Int} (hd : wrap64 (e - i) = d) (d0 : d ≠ 0) (d1 : d = 1) (h0 : 0 ≤ i) (h1 : i < (l.length : Int)) (h2 : 0 ≤ e) (h3 : e < (l.length : Int)) (hn : spec_l1Num.f k (rd l i) = some t) (hm : spec_l1Num.f k (rd l e) = some u)
    (hs : t.size + 1 ≤ 9223372036854775807) (hs2 : (t ++ (⟨#[44]⟩ : ByteArray)).size + u.size ≤ 9223372036854775807) (hs3 : s.size + ((t ++ (⟨#[44]⟩ : ByteArray)) ++ u).size ≤ 9223372036854775807) (he : wrap64 (e + 1) = e1) :
    spec_bpText.j3 (k + 1) l s i e = spec_bpText.l0 k l (s ++ ((t ++ (⟨#[44]⟩ : ByteArray)) ++ u)) e1 := by
  rw [spec_bpText.j3, hd, if_neg d0, if_pos d1, if_pos h0, if_pos h1, hn, Option.bind_some, if_pos hs, if_pos h2, if_pos h3, hm, Option.bind_some, if_pos hs2, if_pos hs3, he]
theorem s3_more {k : Nat} {l : List Int} {s t u : ByteArray} {i e e1 d : Int} (hd : wrap64 (e - i) = d) (d0 : d ≠ 0) (d1 : d ≠ 1) (h0 : 0 ≤ i) (h1 : i < (l.length : Int)) (h2 : 0 ≤ e) (h3 : e < (l.length : Int)) (hn : spec_l1Num.f k (rd l i) = some t) (hm : spec_l1Num.f k (rd l e) = some u)
    (hs : t.size + 1 ≤ 9223372036854775807) (hs2 : (t ++ (⟨#[45]⟩ : ByteArray)).size + u.size ≤ 9223372036854775807) (hs3 : s.size + ((t ++ (⟨#[45]⟩ : ByteArray)) ++ u).size ≤ 9223372036854775807) (he : wrap64 (e + 1) = e1) :
    spec_bpText.j3 (k + 1) l s i e = spec_bpText.l0 k l (s ++ ((t ++ (⟨#[45]⟩ : ByteArray)) ++ u)) e1 := by
  rw [spec_bpText.j3, hd, if_neg d0, if_neg d1, if_pos h0, if_pos h1, hn, Option.bind_some, if_pos hs, if_pos h2, if_pos h3, hm, Option.bind_some, if_pos hs2, if_pos hs3, he]
theorem i0_in {k : Nat} {l : List Int} {s : List ByteArray} {i : Int} (h : i < (l.length : Int)) : impl_pagesText.l0 (k + 1) l s i = impl_pagesText.l1 k l s i i := by rw [impl_pagesText.l0, if_pos h]
theorem i0_out {k : Nat} {l : List Int} {s : List ByteArray} {i : Int} {r : ByteArray} (h : ¬ i < (l.length : Int)) (hr : strings_Join.f s (⟨#[44]⟩ : ByteArray) = some r) : impl_pagesText.l0 (k + 1) l s i = some r := by
  rw [impl_pagesText.l0, if_neg h, hr, Option.bind_some]
theorem i1_go {k : Nat} {l : List Int} {s : List ByteArray} {i x y z : Int} (hy : wrap64 (x + 1) = y) (h1 : y < (l.length : Int)) (h2 : 0 ≤ y) (h3 : 0 ≤ x) (h4 : x < (l.length : Int)) (hz : wrap64 (rd l x + 1) = z) (h5 : rd l y = z) :
    impl_pagesText.l1 (k + 1) l s i x = impl_pagesText.l1 k l s i y := by
  rw [impl_pagesText.l1, hy, hz, if_pos h1, if_pos h2, if_pos h3, if_pos h4, if_pos h5]
theorem i1_stop {k : Nat} {l : List Int} {s : List ByteArray} {i x y z : Int} (hy : wrap64 (x + 1) = y) (h2 : 0 ≤ y) (h3 : 0 ≤ x) (h4 : x < (l.length : Int)) (hz : wrap64 (rd l x + 1) = z) (h5 : y < (l.length : Int) → rd l y ≠ z) :
    impl_pagesText.l1 (k + 1) l s i x = impl_pagesText.j2 k l s i x := by
  rw [impl_pagesText.l1, hy, hz]
  by_cases c : y < (l.length : Int)
  · rw [if_pos c, if_pos h2, if_pos h3, if_pos h4, if_neg (h5 c)]
  · rw [if_neg c]
theorem i2_few {k : Nat} {l : List Int} {s : List ByteArray} {t : ByteArray} {i e i1 i2 : Int} (hw : wrap64 (i + 2) = i2) (h : e < i2) (h0 : 0 ≤ i) (h1 : i < (l.length : Int)) (hn : strconv_Itoa.f (rd l i) = some t) (hl : s.length < 8796093022208) (hi : wrap64 (i + 1) = i1) :
    impl_pagesText.j2 (k + 1) l s i e = impl_pagesText.l0 k l (s ++ [t]) i1 := by
  rw [impl_pagesText.j2, hw, if_pos h, if_pos h0, if_pos h1, hn, Option.bind_some, if_pos hl, hi]
theorem i2_more {k : Nat} {l : List Int} {s : List ByteArray} {t u : ByteArray} {i e e1 i2 : Int} (hw : wrap64 (i + 2) = i2) (h : ¬ e < i2) (h0 : 0 ≤ i) (h1 : i < (l.length : Int)) (h2 : 0 ≤ e) (h3 : e < (l.length : Int)) (hn : strconv_Itoa.f (rd l i) = some t) (hm : strconv_Itoa.f (rd l e) = some u)
    (hs : t.size + 1 ≤ 9223372036854775807) (hs2 : (t ++ (⟨#[45]⟩ : ByteArray)).size + u.size ≤ 9223372036854775807) (hl : s.length < 8796093022208) (he : wrap64 (e + 1) = e1) :
    impl_pagesText.j2 (k + 1) l s i e = impl_pagesText.l0 k l (s ++ [(t ++ (⟨#[45]⟩ : ByteArray)) ++ u]) e1 := by
  rw [impl_pagesText.j2, hw, if_neg h, if_pos h0, if_pos h1, hn, Option.bind_some, if_pos hs, if_pos h2, if_pos h3, hm, Option.bind_some, if_pos hs2, if_pos hl, he]
/-- From x on the pages rise by ones, up to e, and no further. -/
def Run (l : List Int) (x e : Nat) : Prop :=
  (∀ j : Nat, x ≤ j → j < e → rd l ((j + 1 : Nat) : Int) = wrap64 (rd l (j : Int) + 1)) ∧ (((e + 1 : Nat) : Int) < (l.length : Int) → rd l ((e + 1 : Nat) : Int) ≠ wrap64 (rd l (e : Int) + 1)) ∧ e < l.length ∧ x ≤ e
theorem run_ex (l : List Int) (d : Nat) : ∀ x : Nat, x + d + 1 = l.length → ∃ e, Run l x e := by
  induction d with
  | zero => intro x h; exact ⟨x, fun j h1 h2 => by omega, fun h2 => by omega, by omega, Nat.le_refl _⟩
  | succ d ih =>
    intro x h
    by_cases c : rd l ((x + 1 : Nat) : Int) = wrap64 (rd l (x : Int) + 1)
    · obtain ⟨e, g1, g2, g3, g4⟩ := ih (x + 1) (by omega)
      refine ⟨e, fun j h1 h2 => ?_, g2, g3, by omega⟩
      by_cases q : j = x
      · rw [q]; exact c
      · exact g1 j (by omega) h2
    · exact ⟨x, fun j h1 h2 => by omega, fun _ => c, by omega, Nat.le_refl _⟩
theorem s_run {l : List Int} {s : ByteArray} {i : Int} {r : ByteArray} (hl : l.length ≤ 20) (d : Nat) : ∀ x e : Nat, x + d = e → Run l x e → Ev (fun k => spec_bpText.j2 k l s i (e : Int)) r → Ev (fun k => spec_bpText.l1 k l s i (x : Int)) r := by
  induction d with
  | zero =>
    intro x e h hr he
    obtain rfl : x = e := by omega
    obtain ⟨_, g2, g3, _⟩ := hr
    have q : (x : Int) < (l.length : Int) := by omega
    exact he.step fun k _ => s1_stop (w_suc (by omega)) (Int.natCast_nonneg _) (Int.natCast_nonneg _) q rfl g2
  | succ d ih =>
    intro x e h hr he
    have hx : x < e := by omega
    obtain ⟨g1, g2, g3, g4⟩ := hr
    have g := ih (x + 1) e (by omega) ⟨fun j h1 h2 => g1 j (by omega) h2, g2, g3, by omega⟩ he
    have q : (x : Int) < (l.length : Int) := by omega
    have q1 : ((x + 1 : Nat) : Int) < (l.length : Int) := by omega
    exact g.step fun k _ => s1_go (w_suc (by omega)) q1 (Int.natCast_nonneg _) (Int.natCast_nonneg _) q rfl (g1 x (Nat.le_refl _) hx)
theorem i_run {l : List Int} {s : List ByteArray} {i : Int} {r : ByteArray} (hl : l.length ≤ 20) (d : Nat) : ∀ x e : Nat, x + d = e → Run l x e → Ev (fun k => impl_pagesText.j2 k l s i (e : Int)) r → Ev (fun k => impl_pagesText.l1 k l s i (x : Int)) r := by
  induction d with
  | zero =>
    intro x e h hr he
    obtain rfl : x = e := by omega
    obtain ⟨_, g2, g3, _⟩ := hr
    have q : (x : Int) < (l.length : Int) := by omega
    exact he.step fun k _ => i1_stop (w_suc (by omega)) (Int.natCast_nonneg _) (Int.natCast_nonneg _) q rfl g2
  | succ d ih =>
    intro x e h hr he
    have hx : x < e := by omega
    obtain ⟨g1, g2, g3, g4⟩ := hr
    have g := ih (x + 1) e (by omega) ⟨fun j h1 h2 => g1 j (by omega) h2, g2, g3, by omega⟩ he
    have q : (x : Int) < (l.length : Int) := by omega
    have q1 : ((x + 1 : Nat) : Int) < (l.length : Int) := by omega
    exact g.step fun k _ => i1_go (w_suc (by omega)) q1 (Int.natCast_nonneg _) (Int.natCast_nonneg _) q rfl (g1 x (Nat.le_refl _) hx)
abbrev mk (w : List UInt8) : ByteArray := ⟨w.toArray⟩
def Cm (W : List (List UInt8)) : List UInt8 := (W.map (fun w => (44 : UInt8) :: w)).flatten
theorem Cm_append (A B : List (List UInt8)) : Cm (A ++ B) = Cm A ++ Cm B := by simp [Cm]
theorem Cm_join : ∀ (W : List (List UInt8)), W ≠ [] → (44 : UInt8) :: Lib.join W [44] = Cm W
  | [], h => absurd rfl h
  | [a], _ => by simp [Cm, Lib.join, List.intercalate]
  | a :: b :: t, _ => by
    have g := Cm_join (b :: t) (by simp)
    have e : Lib.join (a :: b :: t) [44] = a ++ ((44 : UInt8) :: Lib.join (b :: t) [44]) := by
      simp [Lib.join, List.intercalate, List.intersperse]
    rw [e, g]
    simp [Cm]
theorem mk_app (a b : List UInt8) : mk a ++ mk b = mk (a ++ b) := ba_append a b
theorem mk_44 (a : List UInt8) : mk a ++ (⟨#[44]⟩ : ByteArray) = mk (a ++ [44]) := ba_append a [44]
theorem mk_45 (a : List UInt8) : mk a ++ (⟨#[45]⟩ : ByteArray) = mk (a ++ [45]) := ba_append a [45]
theorem mk_size (a : List UInt8) : (mk a).size = a.length := ba_size a
/-- One run of pages: the words W; the reference's piece p is the words with commas between. -/
theorem run_words {l : List Int} (hl : l.length ≤ 20) (hv : ∀ i : Nat, i < l.length → ∃ n : Nat, n ≤ 9999 ∧ rd l (i : Int) = (n : Int)) {i : Nat} (hi : i < l.length) :
    ∃ (e : Nat) (W : List (List UInt8)) (p : List UInt8), i ≤ e ∧ e < l.length ∧ W ≠ [] ∧ W.length ≤ e + 1 - i ∧ Cm W = 44 :: p ∧ p.length ≤ 50 ∧
      (∀ (s r : ByteArray), Ev (fun k => spec_bpText.j2 k l s (i : Int) (e : Int)) r → Ev (fun k => spec_bpText.l1 k l s (i : Int) (i : Int)) r) ∧
      (∀ (S : List UInt8) (r : ByteArray), S.length ≤ 10000 → Ev (fun k => spec_bpText.l0 k l (mk (S ++ p)) ((e + 1 : Nat) : Int)) r → Ev (fun k => spec_bpText.j3 k l (mk S) (i : Int) (e : Int)) r) ∧
      (∀ (ws : List ByteArray) (r : ByteArray), ws.length ≤ 10000 → Ev (fun k => impl_pagesText.l0 k l (ws ++ W.map mk) ((e + 1 : Nat) : Int)) r → Ev (fun k => impl_pagesText.l0 k l ws (i : Int)) r) := by
  obtain ⟨e, hr⟩ := run_ex l (l.length - i - 1) i (by omega)
  have hr' := hr
  obtain ⟨g1, g2, g3, g4⟩ := hr'
  obtain ⟨n, hn, en⟩ := hv i hi
  obtain ⟨m, hm, em⟩ := hv e g3
  have n1 : strconv_Itoa.f (rd l (i : Int)) = some (mk (Lib.decDigits n)) := by rw [en]; exact itoa_nat hn
  have m1 : strconv_Itoa.f (rd l (e : Int)) = some (mk (Lib.decDigits m)) := by rw [em]; exact itoa_nat hm
  have n2 : ∀ k, 4 ≤ k → spec_l1Num.f k (rd l (i : Int)) = some (mk (Lib.decDigits n)) := fun k hk => by rw [en]; exact num_nat hn k hk
  have m2 : ∀ k, 4 ≤ k → spec_l1Num.f k (rd l (e : Int)) = some (mk (Lib.decDigits m)) := fun k hk => by rw [em]; exact num_nat hm k hk
  have n3 := dec_le n (by omega)
  have m3 := dec_le m (by omega)
  clear en em hv
  have i0 : (0 : Int) ≤ (i : Int) := Int.natCast_nonneg _
  have e0 : (0 : Int) ≤ (e : Int) := Int.natCast_nonneg _
  have i1 : (i : Int) < (l.length : Int) := by omega
  have e1 : (e : Int) < (l.length : Int) := by omega
  have i3 : wrap64 ((i : Int) + 2) = ((i + 2 : Nat) : Int) := w_add (m := 2) (by omega)
  have i4 : wrap64 ((i : Int) + 1) = ((i + 1 : Nat) : Int) := w_suc (by omega)
  have e4 : wrap64 ((e : Int) + 1) = ((e + 1 : Nat) : Int) := w_suc (by omega)
  obtain ⟨d, rfl⟩ : ∃ d, e = i + d := ⟨e - i, by clear i3 i4 e4; omega⟩
  have dd : wrap64 (((i + d : Nat) : Int) - (i : Int)) = (d : Int) := w_sub (by clear i3 i4 e4; omega)
  have run1 := fun (s r : ByteArray) => s_run (s := s) (i := (i : Int)) (r := r) hl d i (i + d) rfl hr
  have run2 := fun (ws : List ByteArray) (r : ByteArray) => i_run (s := ws) (i := (i : Int)) (r := r) hl d i (i + d) rfl hr
  have hb : (9223372036854775807 : Nat) = 9223372036854775807 := rfl
  generalize hD : Lib.decDigits n = D at *
  generalize hM : Lib.decDigits m = M at *
  match d with
  | 0 =>
    refine ⟨i + 0, [D], D, Nat.le_refl _, g3, by simp, by simp, by simp [Cm], by omega, run1, fun S r hS h => ?_, fun ws r hw h => ?_⟩
    · rw [← mk_app] at h
      exact h.step fun k hk => s3_one (by rw [dd]; rfl) i0 i1 (n2 k hk) (by rw [mk_size, mk_size]; clear dd i3 i4 e4; omega) e4
    · have a := h.step (f := fun k => impl_pagesText.j2 k l ws (i : Int) ((i + 0 : Nat) : Int)) fun k _ => i2_few i3 (by clear dd i3 i4 e4; omega) i0 i1 n1 (by clear dd i3 i4 e4; omega) i4
      exact (run2 ws r a).step fun k _ => i0_in i1
  | 1 =>
    refine ⟨i + 1, [D, M], D ++ 44 :: M, by omega, g3, by simp, by simp; omega, by simp [Cm], by simp; omega, run1, fun S r hS h => ?_, fun ws r hw h => ?_⟩
    · have q : mk (S ++ (D ++ 44 :: M)) = mk S ++ ((mk D ++ (⟨#[44]⟩ : ByteArray)) ++ mk M) := by
        rw [mk_44, mk_app, mk_app]; simp
      rw [q] at h
      exact h.step fun k hk => s3_two dd (by decide) (by rfl) i0 i1 e0 e1 (n2 k hk) (m2 k hk) (by rw [mk_size]; clear dd i3 i4 e4; omega) (by rw [mk_44, mk_size, mk_size]; simp; clear dd i3 i4 e4; omega) (by rw [mk_44, mk_app, mk_size, mk_size]; simp; clear dd i3 i4 e4; omega) e4
    · have r1 : Run l (i + 1) (i + 1) := ⟨fun j h1 h2 => absurd h2 (Nat.not_lt.mpr h1), g2, g3, Nat.le_refl _⟩
      have i5 : wrap64 (((i + 1 : Nat) : Int) + 2) = ((i + 1 + 2 : Nat) : Int) := w_add (m := 2) (by clear dd i3 i4 e4; omega)
      have q : ws ++ [D, M].map mk = (ws ++ [mk D]) ++ [mk M] := by simp
      rw [q] at h
      have a := h.step (f := fun k => impl_pagesText.j2 k l (ws ++ [mk D]) ((i + 1 : Nat) : Int) ((i + 1 : Nat) : Int)) fun k _ => i2_few i5 (by clear dd i3 i4 e4 i5; omega) e0 e1 m1 (by simp; clear dd i3 i4 e4 i5; omega) e4
      have b := (i_run hl 0 (i + 1) (i + 1) rfl r1 a).step (f := fun k => impl_pagesText.l0 k l (ws ++ [mk D]) ((i + 1 : Nat) : Int)) fun k _ => i0_in e1
      have c := b.step (f := fun k => impl_pagesText.j2 k l ws (i : Int) ((i + 1 : Nat) : Int)) fun k _ => i2_few i3 (by clear dd i3 i4 e4 i5; omega) i0 i1 n1 (by clear dd i3 i4 e4 i5; omega) i4
      exact (run2 ws r c).step fun k _ => i0_in i1
  | d + 2 =>
    refine ⟨i + (d + 2), [D ++ 45 :: M], D ++ 45 :: M, by omega, g3, by simp, by simp; omega, by simp [Cm], by simp; omega, run1, fun S r hS h => ?_, fun ws r hw h => ?_⟩
    · have q : mk (S ++ (D ++ 45 :: M)) = mk S ++ ((mk D ++ (⟨#[45]⟩ : ByteArray)) ++ mk M) := by
        rw [mk_45, mk_app, mk_app]; simp
      rw [q] at h
      exact h.step fun k hk => s3_more dd (by clear dd i3 i4 e4; omega) (by clear dd i3 i4 e4; omega) i0 i1 e0 e1 (n2 k hk) (m2 k hk) (by rw [mk_size]; clear dd i3 i4 e4; omega) (by rw [mk_45, mk_size, mk_size]; simp; clear dd i3 i4 e4; omega) (by rw [mk_45, mk_app, mk_size, mk_size]; simp; clear dd i3 i4 e4; omega) e4
    · have q : ws ++ [D ++ 45 :: M].map mk = ws ++ [(mk D ++ (⟨#[45]⟩ : ByteArray)) ++ mk M] := by
        rw [mk_45, mk_app]; simp
      rw [q] at h
      have a := h.step (f := fun k => impl_pagesText.j2 k l ws (i : Int) ((i + (d + 2) : Nat) : Int)) fun k _ => i2_more i3 (by clear dd i3 i4 e4; omega) i0 i1 e0 e1 n1 m1 (by rw [mk_size]; clear dd i3 i4 e4; omega) (by rw [mk_45, mk_size, mk_size]; simp; clear dd i3 i4 e4; omega) (by clear dd i3 i4 e4; omega) e4
      exact (run2 ws r a).step fun k _ => i0_in i1
/-- From a later page on. -/
theorem rest_words {l : List Int} (hl : l.length ≤ 20) (hv : ∀ i : Nat, i < l.length → ∃ n : Nat, n ≤ 9999 ∧ rd l (i : Int) = (n : Int)) (m : Nat) : ∀ i : Nat, l.length - i ≤ m → 1 ≤ i → i ≤ l.length →
    ∃ W : List (List UInt8), W.length ≤ l.length - i ∧ (Cm W).length ≤ 60 * (l.length - i) ∧
      (∀ S : List UInt8, S.length ≤ 60 * i → Ev (fun k => spec_bpText.l0 k l (mk S) (i : Int)) (mk (S ++ Cm W))) ∧
      (∀ (ws : List ByteArray) (r : ByteArray), ws.length ≤ i → strings_Join.f (ws ++ W.map mk) (⟨#[44]⟩ : ByteArray) = some r → Ev (fun k => impl_pagesText.l0 k l ws (i : Int)) r) := by
  induction m with
  | zero =>
    intro i h1 h2 h3
    have q : ¬ (i : Int) < (l.length : Int) := by omega
    refine ⟨[], by simp, by simp [Cm], fun S _ => ?_, fun ws r _ h => ?_⟩
    · rw [show S ++ Cm [] = S by simp [Cm]]
      exact Ev.fin fun k => s0_out q
    · exact Ev.fin fun k => i0_out q (by simpa using h)
  | succ m ih =>
    intro i h1 h2 h3
    by_cases c : i = l.length
    · have q : ¬ (i : Int) < (l.length : Int) := by omega
      refine ⟨[], by simp, by simp [Cm], fun S _ => ?_, fun ws r _ h => ?_⟩
      · rw [show S ++ Cm [] = S by simp [Cm]]
        exact Ev.fin fun k => s0_out q
      · exact Ev.fin fun k => i0_out q (by simpa using h)
    · have hi : i < l.length := by omega
      obtain ⟨e, W, p, a1, a2, a3, a4, a5, a6, a7, a8, a9⟩ := run_words hl hv hi
      obtain ⟨V, b1, b2, b3, b4⟩ := ih (e + 1) (by omega) (by omega) (by omega)
      have q : (i : Int) < (l.length : Int) := by omega
      have q2 : (i : Int) > 0 := by omega
      refine ⟨W ++ V, by simp; omega, by rw [Cm_append, a5]; simp; omega, fun S hS => ?_, fun ws r hw h => ?_⟩
      · have x := b3 ((S ++ [44]) ++ p) (by simp; omega)
        have e1 : (S ++ [44]) ++ p ++ Cm V = S ++ Cm (W ++ V) := by rw [Cm_append, a5]; simp
        rw [e1] at x
        have y := a8 (S ++ [44]) _ (by simp; omega) x
        have z := y.step (f := fun k => spec_bpText.j2 k l (mk S) (i : Int) (e : Int)) fun k _ => by
          have g := s2_pos (k := k) (l := l) (s := mk S) (e := (e : Int)) q2 (by rw [mk_size]; omega)
          rw [mk_44] at g
          exact g
        exact (a7 _ _ z).step fun k _ => s0_in q
      · exact a9 ws r (by omega) (b4 _ r (by simp; omega) (by rw [← h]; simp))
theorem join_mk (W : List (List UInt8)) : strings_Join.all (W.map mk) (⟨#[44]⟩ : ByteArray) = Lib.join W [44] := by
  unfold strings_Join.all
  have e : (W.map mk).map (·.data.toList) = W := by simp [mk, Function.comp_def]
  rw [e]
theorem both_text {l : List Int} (h0 : 1 ≤ l.length) (hl : l.length ≤ 20) (hv : ∀ i : Nat, i < l.length → ∃ n : Nat, n ≤ 9999 ∧ rd l (i : Int) = (n : Int)) :
    ∃ r : ByteArray, Ev (fun k => spec_bpText.f k l) r ∧ Ev (fun k => impl_pagesText.f k l) r := by
  obtain ⟨e, W, p, a1, a2, a3, a4, a5, a6, a7, a8, a9⟩ := run_words hl hv (i := 0) (by omega)
  obtain ⟨V, b1, b2, b3, b4⟩ := rest_words hl hv l.length (e + 1) (by omega) (by omega) (by omega)
  have q : ((0 : Nat) : Int) < (l.length : Int) := by omega
  have x := b3 p (by omega)
  have y := a8 [] _ (by simp) (by simpa using x)
  have z := y.step (f := fun k => spec_bpText.j2 k l (mk []) ((0 : Nat) : Int) (e : Int)) fun k _ => s2_zero (by omega)
  have s := (a7 _ _ z).step (f := fun k => spec_bpText.l0 k l (mk []) ((0 : Nat) : Int)) fun k _ => s0_in q
  have j : Lib.join (W ++ V) [44] = p ++ Cm V := by
    have g := Cm_join (W ++ V) (by simp [a3])
    rw [Cm_append, a5] at g
    simpa using g
  refine ⟨mk (p ++ Cm V), s, ?_⟩
  refine a9 [] _ (by simp) (b4 _ _ ?_ ?_)
  · simp; omega
  · rw [List.nil_append, ← List.map_append]
    unfold strings_Join.f
    rw [join_mk, j, if_pos (by simp; omega), if_pos (by simp; omega)]
theorem p_end {k : Nat} {l : List Int} {a b n x : Int} (h : ¬ x < n) : spec_l1Rising.l0 (k + 1) l a b l n x = some true := by rw [spec_l1Rising.l0, if_neg h]
theorem p_bad {k : Nat} {l : List Int} {a b n x : Int} (h : x < n) (h0 : 0 ≤ x) (h1 : x < (l.length : Int)) (hb : ¬ (a ≤ rd l x ∧ rd l x ≤ b)) : spec_l1Rising.l0 (k + 1) l a b l n x = some false := by
  rw [spec_l1Rising.l0, if_pos h, if_pos h0, if_pos h1, in_spec, Option.bind_some, decide_eq_false hb, if_neg (by decide)]
theorem p_first {k : Nat} {l : List Int} {a b n x y : Int} (h : x < n) (h0 : 0 ≤ x) (h1 : x < (l.length : Int)) (hb : a ≤ rd l x ∧ rd l x ≤ b) (hx : ¬ x > 0) (hy : wrap64 (x + 1) = y) :
    spec_l1Rising.l0 (k + 1) l a b l n x = spec_l1Rising.l0 k l a b l n y := by
  rw [spec_l1Rising.l0, if_pos h, if_pos h0, if_pos h1, in_spec, Option.bind_some, decide_eq_true hb, if_pos rfl, if_neg hx, hy]
theorem p_fall {k : Nat} {l : List Int} {a b n x z : Int} (h : x < n) (h0 : 0 ≤ x) (h1 : x < (l.length : Int)) (hb : a ≤ rd l x ∧ rd l x ≤ b) (hx : x > 0) (hz : wrap64 (x - 1) = z) (z0 : 0 ≤ z) (z1 : z < (l.length : Int)) (hf : rd l z ≥ rd l x) :
    spec_l1Rising.l0 (k + 1) l a b l n x = some false := by
  rw [spec_l1Rising.l0, if_pos h, if_pos h0, if_pos h1, in_spec, Option.bind_some, decide_eq_true hb, if_pos rfl, if_pos hx, hz, if_pos z0, if_pos z1, if_pos hf]
theorem p_rise {k : Nat} {l : List Int} {a b n x y z : Int} (h : x < n) (h0 : 0 ≤ x) (h1 : x < (l.length : Int)) (hb : a ≤ rd l x ∧ rd l x ≤ b) (hx : x > 0) (hz : wrap64 (x - 1) = z) (z0 : 0 ≤ z) (z1 : z < (l.length : Int)) (hf : ¬ rd l z ≥ rd l x) (hy : wrap64 (x + 1) = y) :
    spec_l1Rising.l0 (k + 1) l a b l n x = spec_l1Rising.l0 k l a b l n y := by
  rw [spec_l1Rising.l0, if_pos h, if_pos h0, if_pos h1, in_spec, Option.bind_some, decide_eq_true hb, if_pos rfl, if_pos hx, hz, if_pos z0, if_pos z1, if_neg hf, hy]
theorem q_fall {k : Nat} {l : List Int} {x z : Int} (h : x < (l.length : Int)) (h0 : 0 ≤ x) (hz : wrap64 (x - 1) = z) (z0 : 0 ≤ z) (z1 : z < (l.length : Int)) (hf : rd l z ≥ rd l x) : impl_arePages.l0 (k + 1) l x = some false := by
  rw [impl_arePages.l0, if_pos h, hz, if_pos z0, if_pos z1, if_pos h0, if_pos hf]
theorem q_rise {k : Nat} {l : List Int} {x y z : Int} (h : x < (l.length : Int)) (h0 : 0 ≤ x) (hz : wrap64 (x - 1) = z) (z0 : 0 ≤ z) (z1 : z < (l.length : Int)) (hf : ¬ rd l z ≥ rd l x) (hy : wrap64 (x + 1) = y) : impl_arePages.l0 (k + 1) l x = impl_arePages.l0 k l y := by
  rw [impl_arePages.l0, if_pos h, hz, if_pos z0, if_pos z1, if_pos h0, if_neg hf, hy]
theorem q_long {k : Nat} {l : List Int} {x : Int} (h : ¬ x < (l.length : Int)) (hn : ¬ (1 ≤ (l.length : Int) ∧ (l.length : Int) ≤ 20)) : impl_arePages.l0 (k + 1) l x = some false := by
  rw [impl_arePages.l0, if_neg h, in_impl, Option.bind_some, decide_eq_false hn, if_neg (by decide)]
theorem q_all {k : Nat} {l : List Int} {x : Int} (h : ¬ x < (l.length : Int)) (hn : 1 ≤ (l.length : Int) ∧ (l.length : Int) ≤ 20) : impl_arePages.l0 (k + 1) l x = impl_allWithin.f k l 1 2000 := by
  rw [impl_arePages.l0, if_neg h, in_impl, Option.bind_some, decide_eq_true hn, if_pos rfl]
  cases impl_allWithin.f k l 1 2000 <;> rfl
theorem a_end {k : Nat} {l : List Int} {a b n x : Int} (h : ¬ x < n) : impl_allWithin.l0 (k + 1) a b l n x = some true := by rw [impl_allWithin.l0, if_neg h]
theorem a_bad {k : Nat} {l : List Int} {a b n x : Int} (h : x < n) (h0 : 0 ≤ x) (h1 : x < (l.length : Int)) (hb : ¬ (a ≤ rd l x ∧ rd l x ≤ b)) : impl_allWithin.l0 (k + 1) a b l n x = some false := by
  rw [impl_allWithin.l0, if_pos h, if_pos h0, if_pos h1, in_impl, Option.bind_some, decide_eq_false hb, if_neg (by decide)]
theorem a_go {k : Nat} {l : List Int} {a b n x y : Int} (h : x < n) (h0 : 0 ≤ x) (h1 : x < (l.length : Int)) (hb : a ≤ rd l x ∧ rd l x ≤ b) (hy : wrap64 (x + 1) = y) : impl_allWithin.l0 (k + 1) a b l n x = impl_allWithin.l0 k a b l n y := by
  rw [impl_allWithin.l0, if_pos h, if_pos h0, if_pos h1, in_impl, Option.bind_some, decide_eq_true hb, if_pos rfl, hy]
def InB (l : List Int) (i : Nat) : Prop := 1 ≤ rd l (i : Int) ∧ rd l (i : Int) ≤ 2000
def Up (l : List Int) (i : Nat) : Prop := rd l ((i - 1 : Nat) : Int) < rd l (i : Int)
theorem w_pre {n : Nat} (h : 1 ≤ n) (h2 : n ≤ 2000000) : wrap64 ((n : Int) - 1) = ((n - 1 : Nat) : Int) := by
  rw [show (n : Int) - 1 = ((n - 1 : Nat) : Int) by omega]
  exact w64n (by omega)
theorem rising_ev {l : List Int} (hl : l.length ≤ 20) (d : Nat) : ∀ x : Nat, x + d = l.length →
    ∃ b : Bool, Ev (fun k => spec_l1Rising.l0 k l 1 2000 l (l.length : Int) (x : Int)) b ∧ (b = true ↔ ∀ i, x ≤ i → i < l.length → InB l i ∧ (1 ≤ i → Up l i)) := by
  induction d with
  | zero =>
    intro x h
    exact ⟨true, Ev.fin fun k => p_end (by omega), fun _ i h1 h2 => by omega, fun _ => rfl⟩
  | succ d ih =>
    intro x h
    obtain ⟨b, hb, hb2⟩ := ih (x + 1) (by omega)
    have q : (x : Int) < (l.length : Int) := by omega
    have q0 : (0 : Int) ≤ (x : Int) := Int.natCast_nonneg _
    have hx : x ≤ 20 := by omega
    by_cases c : InB l x
    · by_cases c1 : x = 0
      · have z : ¬ (x : Int) > 0 := by omega
        refine ⟨b, hb.step fun k _ => p_first q q0 q c z (w_suc (by omega)), hb2.trans ⟨fun g i h1 h2 => ?_, fun g i h1 h2 => g i (by omega) h2⟩⟩
        by_cases e : i = x
        · subst e; exact ⟨c, fun h3 => by omega⟩
        · exact g i (by omega) h2
      · have z : (x : Int) > 0 := by omega
        have z1 : ((x - 1 : Nat) : Int) < (l.length : Int) := by omega
        have w := w_pre (n := x) (by omega) (by omega)
        by_cases c2 : Up l x
        · refine ⟨b, hb.step fun k _ => p_rise q q0 q c z w (Int.natCast_nonneg _) z1 (Int.not_le.mpr c2) (w_suc (by omega)), hb2.trans ⟨fun g i h1 h2 => ?_, fun g i h1 h2 => g i (Nat.le_of_succ_le h1) h2⟩⟩
          by_cases e : i = x
          · subst e; exact ⟨c, fun _ => c2⟩
          · exact g i (Nat.lt_of_le_of_ne h1 (fun q => e q.symm)) h2
        · refine ⟨false, Ev.fin fun k => p_fall q q0 q c z w (Int.natCast_nonneg _) z1 (Int.not_lt.mp c2), fun g => by simp at g, fun g => ?_⟩
          exact absurd ((g x (Nat.le_refl _) (by clear w; omega)).2 (by clear w; omega)) c2
    · exact ⟨false, Ev.fin fun k => p_bad q q0 q c, fun g => by simp at g, fun g => absurd (g x (Nat.le_refl _) (by omega)).1 c⟩
theorem all_ev {l : List Int} (hl : l.length ≤ 20) (d : Nat) : ∀ x : Nat, x + d = l.length →
    ∃ b : Bool, Ev (fun k => impl_allWithin.l0 k 1 2000 l (l.length : Int) (x : Int)) b ∧ (b = true ↔ ∀ i, x ≤ i → i < l.length → InB l i) := by
  induction d with
  | zero =>
    intro x h
    exact ⟨true, Ev.fin fun k => a_end (by omega), fun _ i h1 h2 => by omega, fun _ => rfl⟩
  | succ d ih =>
    intro x h
    obtain ⟨b, hb, hb2⟩ := ih (x + 1) (by omega)
    have q : (x : Int) < (l.length : Int) := by omega
    have q0 : (0 : Int) ≤ (x : Int) := Int.natCast_nonneg _
    by_cases c : InB l x
    · refine ⟨b, hb.step fun k _ => a_go q q0 q c (w_suc (by omega)), hb2.trans ⟨fun g i h1 h2 => ?_, fun g i h1 h2 => g i (by omega) h2⟩⟩
      by_cases e : i = x
      · subst e; exact c
      · exact g i (by omega) h2
    · exact ⟨false, Ev.fin fun k => a_bad q q0 q c, fun g => by simp at g, fun g => absurd (g x (Nat.le_refl _) (by omega)) c⟩
theorem are_ev {l : List Int} (hl : l.length ≤ 1048576) (d : Nat) : ∀ x : Nat, 1 ≤ x → l.length ≤ x + d →
    ∃ b : Bool, Ev (fun k => impl_arePages.l0 k l (x : Int)) b ∧ (b = true ↔ (∀ i, x ≤ i → i < l.length → Up l i) ∧ (1 ≤ (l.length : Int) ∧ (l.length : Int) ≤ 20) ∧ ∀ i, i < l.length → InB l i) := by
  have last : ∀ x : Nat, l.length ≤ x → ∃ b : Bool, Ev (fun k => impl_arePages.l0 k l (x : Int)) b ∧ (b = true ↔ (∀ i, x ≤ i → i < l.length → Up l i) ∧ (1 ≤ (l.length : Int) ∧ (l.length : Int) ≤ 20) ∧ ∀ i, i < l.length → InB l i) := by
    intro x h
    have q : ¬ (x : Int) < (l.length : Int) := by omega
    by_cases c : 1 ≤ (l.length : Int) ∧ (l.length : Int) ≤ 20
    · obtain ⟨b, hb, hb2⟩ := all_ev (l := l) (by omega) l.length 0 (by omega)
      refine ⟨b, Ev.step (g := fun k => impl_allWithin.f k l 1 2000) hb fun k _ => q_all q c, hb2.trans ⟨fun g => ⟨fun i h1 h2 => by omega, c, fun i h2 => g i (Nat.zero_le _) h2⟩, fun g i _ h2 => g.2.2 i h2⟩⟩
    · exact ⟨false, Ev.fin fun k => q_long q c, fun g => by simp at g, fun g => absurd g.2.1 c⟩
  induction d with
  | zero => intro x h1 h; exact last x h
  | succ d ih =>
    intro x h0 h
    by_cases c0 : l.length ≤ x
    · exact last x c0
    clear last
    obtain ⟨b, hb, hb2⟩ := ih (x + 1) (by omega) (by omega)
    have q : (x : Int) < (l.length : Int) := by omega
    have q0 : (0 : Int) ≤ (x : Int) := Int.natCast_nonneg _
    have z1 : ((x - 1 : Nat) : Int) < (l.length : Int) := by omega
    have w := w_pre (n := x) (by omega) (by omega)
    have hx : x ≤ 1999999 := by clear w hb2; omega
    by_cases c2 : Up l x
    · refine ⟨b, hb.step fun k _ => q_rise q q0 w (Int.natCast_nonneg _) z1 (Int.not_le.mpr c2) (w_suc hx), hb2.trans ⟨fun g => ⟨fun i h1 h2 => ?_, g.2⟩, fun g => ⟨fun i h1 h2 => g.1 i (Nat.le_of_succ_le h1) h2, g.2⟩⟩⟩
      by_cases e : i = x
      · subst e; exact c2
      · exact g.1 i (Nat.lt_of_le_of_ne h1 (fun q => e q.symm)) h2
    · refine ⟨false, Ev.fin fun k => q_fall q q0 w (Int.natCast_nonneg _) z1 (Int.not_lt.mp c2), fun g => by simp at g, fun g => ?_⟩
      exact absurd (g.1 x (Nat.le_refl _) (by clear w; omega)) c2
theorem list_ev {l : List Int} (hl : l.length ≤ 1048576) :
    ∃ b : Bool, Ev (fun k => spec_bpList.f k l) b ∧ Ev (fun k => impl_arePages.f k l) b ∧ (b = true → 1 ≤ l.length ∧ l.length ≤ 20 ∧ ∀ i, i < l.length → InB l i) := by
  obtain ⟨b, hb, hb2⟩ := are_ev hl l.length 1 (Nat.le_refl _) (by omega)
  refine ⟨b, ?_, hb, fun h => ?_⟩
  · by_cases c : 1 ≤ (l.length : Int) ∧ (l.length : Int) ≤ 20
    · obtain ⟨b', h1, h2⟩ := rising_ev (l := l) (by omega) l.length 0 (by omega)
      have e : b = b' := by
        rw [Bool.eq_iff_iff, hb2, h2]
        exact ⟨fun g i _ h => ⟨g.2.2 i h, fun h1 => g.1 i h1 h⟩, fun g => ⟨fun i h1 h => (g i (Nat.zero_le _) h).2 h1, c, fun i h => (g i (Nat.zero_le _) h).1⟩⟩
      rw [e]
      obtain ⟨K, hK⟩ := h1
      refine ⟨K, fun k hk => ?_⟩
      show spec_bpList.f k l = some b'
      unfold spec_bpList.f
      rw [in_spec, Option.bind_some, decide_eq_true c, if_pos rfl]
      have g : spec_l1Rising.f k l 1 2000 = some b' := hK k hk
      rw [g, Option.bind_some]
    · have e : b = false := by
        cases b with
        | false => rfl
        | true => exact absurd (hb2.1 rfl).2.1 c
      rw [e]
      refine ⟨0, fun k _ => ?_⟩
      show spec_bpList.f k l = some false
      unfold spec_bpList.f
      rw [in_spec, Option.bind_some, decide_eq_false c, if_neg (by decide)]
  · obtain ⟨_, g2, g3⟩ := hb2.1 h
    exact ⟨by omega, by omega, g3⟩
/-- The words that the text of pages has, from a place on. -/
def Words (l : List Int) : Nat → List (List UInt8) → Prop
  | i, [] => i = l.length
  | i, w :: W => i < l.length ∧ ((w = Lib.decDigits (rd l (i : Int)).toNat ∧ Words l (i + 1) W) ∨
      ∃ e : Nat, i + 2 ≤ e ∧ e < l.length ∧ (∀ j : Nat, i ≤ j → j < e → rd l ((j + 1 : Nat) : Int) = rd l (j : Int) + 1) ∧ w = Lib.decDigits (rd l (i : Int)).toNat ++ 45 :: Lib.decDigits (rd l (e : Int)).toNat ∧ Words l (e + 1) W)
theorem text_words {l : List Int} (hl : l.length ≤ 20) (hv : ∀ i : Nat, i < l.length → ∃ n : Nat, n ≤ 9999 ∧ rd l (i : Int) = (n : Int)) (m : Nat) : ∀ i : Nat, l.length - i ≤ m → i ≤ l.length →
    ∃ W : List (List UInt8), Words l i W ∧ W.length ≤ l.length - i ∧ ∀ (ws : List ByteArray) (r : ByteArray), ws.length ≤ i → strings_Join.f (ws ++ W.map mk) (⟨#[44]⟩ : ByteArray) = some r → Ev (fun k => impl_pagesText.l0 k l ws (i : Int)) r := by
  induction m with
  | zero =>
    intro i hm hi
    refine ⟨[], by show i = l.length; omega, by simp, fun ws r _ hr => ?_⟩
    refine Ev.fin (fun k => ?_)
    exact i0_out (by omega) (by simpa using hr)
  | succ m ih =>
    intro i hm hi
    by_cases c : i = l.length
    · refine ⟨[], c, by simp, fun ws r _ hr => ?_⟩
      refine Ev.fin (fun k => ?_)
      exact i0_out (by omega) (by simpa using hr)
    · obtain ⟨e, he⟩ := run_ex l (l.length - i - 1) i (by omega)
      obtain ⟨n, hn, en⟩ := hv i (by omega)
      obtain ⟨p, hp, ep⟩ := hv e he.2.2.1
      by_cases c2 : e < i + 2
      · obtain ⟨W, w1, w2, w3⟩ := ih (i + 1) (by omega) (by omega)
        refine ⟨Lib.decDigits n :: W, ⟨by omega, .inl ⟨by rw [en]; rfl, w1⟩⟩, by simp; omega, fun ws r hws hr => ?_⟩
        refine Ev.step (g := fun k => impl_pagesText.l1 k l ws (i : Int) (i : Int)) (i_run hl (e - i) i e (by have := he.2.2.2; omega) he ?_) (fun k _ => i0_in (by omega))
        refine Ev.step (g := fun k => impl_pagesText.l0 k l (ws ++ [mk (Lib.decDigits n)]) ((i + 1 : Nat) : Int)) (w3 _ r (by simp; omega) (by simpa using hr)) (fun k _ => ?_)
        exact i2_few (i2 := ((i + 2 : Nat) : Int)) (w_add (m := 2) (by omega)) (by omega) (by omega) (by omega) (by rw [en]; exact itoa_nat hn) (by omega) (w_suc (by omega))
      · obtain ⟨W, w1, w2, w3⟩ := ih (e + 1) (by have := he.2.2.2; omega) (by have := he.2.2.1; omega)
        have hd1 := dec_le n (by omega)
        have hd2 := dec_le p (by omega)
        refine ⟨(Lib.decDigits n ++ 45 :: Lib.decDigits p) :: W, ⟨by omega, .inr ⟨e, by omega, he.2.2.1, fun j h1 h2 => ?_, by rw [en, ep]; rfl, w1⟩⟩, by simp; omega, fun ws r hws hr => ?_⟩
        · obtain ⟨q, hq, eq⟩ := hv j (by have := he.2.2.1; omega)
          rw [he.1 j h1 h2, eq]
          exact w64 (by omega) (by omega)
        · refine Ev.step (g := fun k => impl_pagesText.l1 k l ws (i : Int) (i : Int)) (i_run hl (e - i) i e (by omega) he ?_) (fun k _ => i0_in (by omega))
          refine Ev.step (g := fun k => impl_pagesText.l0 k l (ws ++ [mk (Lib.decDigits n ++ 45 :: Lib.decDigits p)]) ((e + 1 : Nat) : Int)) (w3 _ r (by simp; omega) (by simpa using hr)) (fun k _ => ?_)
          have em : mk (Lib.decDigits n ++ 45 :: Lib.decDigits p) = (mk (Lib.decDigits n) ++ (⟨#[45]⟩ : ByteArray)) ++ mk (Lib.decDigits p) := by rw [mk_45, mk_app]; simp
          rw [em]
          exact i2_more (i2 := ((i + 2 : Nat) : Int)) (w_add (m := 2) (by omega)) (by omega) (by omega) (by omega) (by omega) (by have := he.2.2.1; omega) (by rw [en]; exact itoa_nat hn) (by rw [ep]; exact itoa_nat hp) (by rw [mk_size]; omega) (by rw [mk_45, mk_size, mk_size]; simp; omega) (by omega) (w_suc (by have := he.2.2.1; omega))
/-- A text, split at each c. -/
def sp (c : UInt8) : List UInt8 → List (List UInt8)
  | [] => [[]]
  | x :: l => if x = c then [] :: sp c l else (x :: (sp c l).headD []) :: (sp c l).tail
theorem sp_ne (c : UInt8) (l : List UInt8) : sp c l ≠ [] := by
  cases l with
  | nil => simp [sp]
  | cons x l => unfold sp; split <;> simp
theorem sp_cons (c : UInt8) (l : List UInt8) : ∃ h t, sp c l = h :: t := by
  cases e : sp c l with
  | nil => exact absurd e (sp_ne c l)
  | cons h t => exact ⟨h, t, rfl⟩
theorem index_cons (c x : UInt8) (l : List UInt8) : Lib.index (x :: l) [c] = if x = c then 0 else if Lib.index l [c] = -1 then -1 else Lib.index l [c] + 1 := by
  have e : Lib.index (x :: l) [c] = (if ([c] : List UInt8).isPrefixOf (x :: l) then 0 else if Lib.index l [c] == -1 then -1 else Lib.index l [c] + 1) := rfl
  rw [e]
  generalize Lib.index l [c] = I
  by_cases h : x = c
  · subst h; simp [List.isPrefixOf]
  · have h2 : (c == x) = false := beq_eq_false_iff_ne.mpr (fun e => h e.symm)
    have h3 : ([c] : List UInt8).isPrefixOf (x :: l) = false := by simp [List.isPrefixOf, h2]
    rw [h3, if_neg (by decide), if_neg h]
    by_cases h4 : I = -1
    · rw [if_pos (beq_iff_eq.2 h4), if_pos h4]
    · rw [if_neg (fun e => h4 (beq_iff_eq.1 e)), if_neg h4]
theorem sp_index (c : UInt8) (l : List UInt8) : (Lib.index l [c] = -1 ∧ sp c l = [l]) ∨ ∃ i : Nat, Lib.index l [c] = (i : Int) ∧ i < l.length ∧ sp c l = l.take i :: sp c (l.drop (i + 1)) ∧ l.count c = 1 + (l.drop (i + 1)).count c := by
  induction l with
  | nil => exact .inl ⟨rfl, rfl⟩
  | cons x l ih =>
    rw [index_cons]
    by_cases h : x = c
    · refine .inr ⟨0, by rw [if_pos h]; rfl, by simp, ?_, ?_⟩
      · rw [sp, if_pos h]; rfl
      · rw [h]; simp [Nat.add_comm]
    · rw [if_neg h]
      rcases ih with ⟨h1, h2⟩ | ⟨i, h1, h2, h3, h4⟩
      · refine .inl ⟨by rw [if_pos h1], ?_⟩
        rw [sp, if_neg h, h2]
        rfl
      · refine .inr ⟨i + 1, by rw [if_neg (by omega), h1]; omega, by simp; omega, ?_, ?_⟩
        · rw [sp, if_neg h, h3]
          rfl
        · rw [List.count_cons_of_ne h]; exact h4
theorem splitK_sp (c : UInt8) (m : Nat) : ∀ (l : List UInt8) (k : Nat), l.length ≤ m → l.count c ≤ k → Lib.splitK [c] 0 k l = sp c l := by
  induction m with
  | zero =>
    intro l k hl hk
    have : l = [] := List.length_eq_zero_iff.mp (by omega)
    subst this
    cases k with
    | zero => rfl
    | succ k => rfl
  | succ m ih =>
    intro l k hl hk
    rcases sp_index c l with ⟨h1, h2⟩ | ⟨i, h1, h2, h3, h4⟩
    · rw [h2]
      cases k with
      | zero => rfl
      | succ k => unfold Lib.splitK; rw [if_pos (beq_iff_eq.2 h1)]
    · obtain ⟨k, rfl⟩ : ∃ t, k = t + 1 := ⟨k - 1, by omega⟩
      unfold Lib.splitK
      rw [if_neg (fun e => by have := beq_iff_eq.1 e; omega), h1, h3]
      have e : ((i : Int).toNat + 0) = i := by omega
      have e2 : (i : Int).toNat + [c].length = i + 1 := by simp
      rw [e, e2, ih _ k (by rw [List.length_drop]; omega) (by omega)]
theorem words_sp (s : ByteArray) (c : UInt8) : (Lib.splitB ⟨#[c]⟩ 0 (Lib.countB s ⟨#[c]⟩) s).map (·.data.toList) = sp c s.data.toList := by
  rw [Lib.splitB_data]
  have e : (⟨#[c]⟩ : ByteArray).data.toList = [c] := rfl
  rw [e]
  refine splitK_sp c s.data.toList.length _ _ (Nat.le_refl _) ?_
  show _ ≤ Lib.count s.data.toList [c]
  rw [Lib.count_one]
  exact Nat.le_refl _
theorem sp_none (c : UInt8) (w : List UInt8) (h : ¬ c ∈ w) : sp c w = [w] := by
  induction w with
  | nil => rfl
  | cons x w ih =>
    simp only [List.mem_cons, not_or] at h
    rw [sp, if_neg (fun e => h.1 e.symm), ih h.2]
    rfl
theorem sp_app (c : UInt8) (w l : List UInt8) (h : ¬ c ∈ w) : sp c (w ++ c :: l) = w :: sp c l := by
  induction w with
  | nil => show sp c (c :: l) = _; rw [sp, if_pos rfl]
  | cons x w ih =>
    simp only [List.mem_cons, not_or] at h
    show sp c (x :: (w ++ c :: l)) = _
    rw [sp, if_neg (fun e => h.1 e.symm), ih h.2]
    rfl
theorem bt_mk (l : List UInt8) (i : Nat) (h : i < l.length) : bt (mk l) (i : Int) = ((l[i]).toNat : Int) := bt_dec l i l[i] (List.getElem?_eq_getElem h)
theorem mk_extract (l : List UInt8) (a b : Nat) : (mk l).extract a b = mk ((l.take b).drop a) := by
  apply ByteArray.ext
  apply Array.toList_inj.1
  rw [Lib.extract_data]
  simp [mk, List.drop_take]
theorem split_l0 (l : List UInt8) (c : UInt8) (hl : l.length ≤ 100000) (d : Nat) : ∀ (i f : Nat) (out : List ByteArray), i + d = l.length → f ≤ i → out.length + d ≤ 1000000 → (¬ c ∈ (l.take i).drop f) → ∀ k, d < k →
    spec_l1Split.l0 k (mk l) (c.toNat : Int) out (f : Int) (i : Int) = some (out ++ (sp c (l.drop f)).map mk) := by
  have hs : ((mk l).size : Int) = (l.length : Int) := by rw [mk_size]
  induction d with
  | zero =>
    intro i f out hi hf ho hc k hk
    obtain ⟨k, rfl⟩ : ∃ t, k = t + 1 := ⟨k - 1, by omega⟩
    obtain rfl : i = l.length := by omega
    rw [List.take_length] at hc
    rw [spec_l1Split.l0, hs, if_neg (by omega), if_pos (by omega), if_pos (by omega), if_pos (by omega), sp_none c _ hc, Int.toNat_natCast, mk_size, mk_extract, List.take_length]
    rfl
  | succ d ih =>
    intro i f out hi hf ho hc k hk
    obtain ⟨k, rfl⟩ : ∃ t, k = t + 1 := ⟨k - 1, by omega⟩
    have hlt : i < l.length := by omega
    have w : wrap64 ((i : Int) + 1) = ((i + 1 : Nat) : Int) := by rw [show (i : Int) + 1 = ((i + 1 : Nat) : Int) by omega]; exact w64n (by omega)
    have e : l.drop f = (l.take i).drop f ++ l[i] :: l.drop (i + 1) := by
      have h1 : l = l.take i ++ l.drop i := (List.take_append_drop i l).symm
      have h2 : l.drop i = l[i] :: l.drop (i + 1) := List.drop_eq_getElem_cons hlt
      have h3 : l.drop f = (l.take i).drop f ++ l.drop i := by
        conv => lhs; rw [h1]
        rw [List.drop_append_of_le_length (by rw [List.length_take]; omega)]
      rw [h3, h2]
    rw [spec_l1Split.l0, hs, if_pos (by clear w; omega), if_pos (by clear w; omega), bt_mk l i hlt, w]
    by_cases hb : l[i] = c
    · rw [if_pos (by rw [hb]), if_pos (by clear w; omega), if_pos (by clear w; omega), if_pos (by clear w; omega), if_pos (by clear w; omega), ih (i + 1) (i + 1) _ (by clear w; omega) (Nat.le_refl _) (by rw [List.length_append]; simp; clear w; omega) (by simp) k (by clear w; omega), e, hb, sp_app c _ _ hc, Int.toNat_natCast, Int.toNat_natCast, mk_extract]
      simp
    · have hb2 : ¬ ((l[i]).toNat : Int) = (c.toNat : Int) := fun q => hb (UInt8.toNat_inj.1 (by omega))
      rw [if_neg hb2, ih (i + 1) f out (by clear w; omega) (by clear w; omega) (by clear w; omega) ?_ k (by clear w; omega)]
      intro hm
      have e2 : (l.take (i + 1)).drop f = (l.take i).drop f ++ [l[i]] := by
        rw [List.take_succ_eq_append_getElem hlt, List.drop_append_of_le_length (by rw [List.length_take]; omega)]
      rw [e2, List.mem_append] at hm
      rcases hm with hm | hm
      · exact hc hm
      · simp at hm; exact hb hm.symm
theorem split_spec (l : List UInt8) (c : UInt8) (hl : l.length ≤ 100000) (k : Nat) (hk : l.length < k) : spec_l1Split.f k (mk l) (c.toNat : Int) = some ((sp c l).map mk) := by
  unfold spec_l1Split.f
  have g := split_l0 l c hl l.length 0 0 [] (by omega) (Nat.le_refl _) (by simp; omega) (by simp) k hk
  rw [List.drop_zero, List.nil_append] at g
  exact g
theorem dig_nat {m : Nat} (h : m < 10) : (UInt8.ofNat (48 + m)).toNat = 48 + m := by rw [UInt8.toNat_ofNat']; omega
theorem dec_dig (k : Nat) : ∀ n : Nat, n < 10 ^ (k + 1) → ∀ c ∈ Lib.decDigits n, 48 ≤ c.toNat ∧ c.toNat ≤ 57 := by
  induction k with
  | zero =>
    intro n hn c hc
    have h : n < 10 := by omega
    rw [Lib.decDigits_one h, List.mem_singleton] at hc
    rw [hc, dig_nat h]
    omega
  | succ k ih =>
    intro n hn c hc
    by_cases h : n < 10
    · rw [Lib.decDigits_one h, List.mem_singleton] at hc
      rw [hc, dig_nat h]
      omega
    · rw [dec_big h, List.mem_append, List.mem_singleton] at hc
      rcases hc with hc | hc
      · exact ih (n / 10) (by rw [Nat.pow_succ] at hn; omega) c hc
      · rw [hc, dig_nat (Nat.mod_lt _ (by decide))]
        have := Nat.mod_lt n (show 10 > 0 by decide)
        omega
theorem parse_app (l : List UInt8) (d : UInt8) : ∀ acc v : Nat, Lib.parseUint10 acc l = .ok v → Lib.parseUint10 acc (l ++ [d]) = Lib.parseUint10 v [d] := by
  induction l with
  | nil => intro acc v h; simp only [Lib.parseUint10] at h; injection h with h; subst h; rfl
  | cons c l ih =>
    intro acc v h
    show Lib.parseUint10 acc (c :: (l ++ [d])) = _
    simp only [Lib.parseUint10] at h ⊢
    by_cases h1 : 48 ≤ c.toNat ∧ c.toNat ≤ 57
    · rw [if_pos h1] at h ⊢
      by_cases h2 : 1844674407370955162 ≤ acc
      · rw [if_pos h2] at h; cases h
      · rw [if_neg h2] at h ⊢
        by_cases h3 : 18446744073709551616 ≤ acc * 10 + (c.toNat - 48)
        · rw [if_pos h3] at h; cases h
        · rw [if_neg h3] at h ⊢
          exact ih _ _ h
    · rw [if_neg h1] at h; cases h
theorem parse_one {acc m : Nat} (h : m < 10) (ha : acc ≤ 100000) : Lib.parseUint10 acc [UInt8.ofNat (48 + m)] = .ok (acc * 10 + m) := by
  simp only [Lib.parseUint10]
  rw [dig_nat h, if_pos (by omega), if_neg (by omega), if_neg (by omega)]
  congr 1
  omega
theorem parse_dec (k : Nat) : ∀ n : Nat, n < 10 ^ (k + 1) → n ≤ 9999 → Lib.parseUint10 0 (Lib.decDigits n) = .ok n := by
  induction k with
  | zero =>
    intro n hn _
    have h : n < 10 := by omega
    rw [Lib.decDigits_one h, parse_one h (by decide)]
    congr 1
    omega
  | succ k ih =>
    intro n hn h9
    by_cases h : n < 10
    · rw [Lib.decDigits_one h, parse_one h (by decide)]
      congr 1
      omega
    · rw [dec_big h, parse_app _ _ 0 (n / 10) (ih (n / 10) (by rw [Nat.pow_succ] at hn; omega) (by omega)), parse_one (Nat.mod_lt _ (by decide)) (by omega)]
      congr 1
      omega
theorem dec_head (n : Nat) (h : n ≤ 9999) : ∃ c r, Lib.decDigits n = c :: r ∧ 48 ≤ c.toNat ∧ c.toNat ≤ 57 := by
  have hp := dec_pos n
  have hd := dec_dig 3 n (by omega)
  cases e : Lib.decDigits n with
  | nil => rw [e] at hp; simp at hp
  | cons c r => rw [e] at hd; exact ⟨c, r, rfl, hd c (by simp)⟩
theorem atoi_dec {n : Nat} (h : n ≤ 9999) : Lib.atoiAll (Lib.decDigits n) = .ok (n : Int) := by
  obtain ⟨c, r, e, h1, h2⟩ := dec_head n h
  have p := parse_dec 3 n (by omega) h
  rw [e] at p ⊢
  unfold Lib.atoiAll
  have hm : Lib.parseMag (c :: r) = .ok n := by unfold Lib.parseMag; rw [if_neg (by simp)]; exact p
  simp only
  rw [if_neg (by omega), hm]
  simp only
  rw [if_neg (by omega), if_neg (by omega), if_neg (by omega)]
/-- What the program reads out of a word: the number ahead of the dash, the number behind it, and whether each is none. -/
def IW (w : ByteArray) (a : Int) (ea : Bool) (b : Int) (eb : Bool) : Prop := ∃ c : ByteArray × ByteArray × Bool, strings_Cut.f w (⟨#[45]⟩ : ByteArray) = some c ∧ strconv_Atoi.f c.1 = some (a, ea) ∧
  ((c.2.2 = true ∧ strconv_Atoi.f c.2.1 = some (b, eb)) ∨ (c.2.2 = false ∧ b = a ∧ eb = false))
theorem r_word {k : Nat} {s : ByteArray} {out : List Int} {ws : List ByteArray} {n i a b : Int} {ea eb : Bool} (h : i < n) (h0 : 0 ≤ i) (h1 : i < (ws.length : Int)) (hw : IW (rdOf ByteArray.empty ws i) a ea b eb) :
    impl_ParsePages.l0 (k + 1) s out ws n i = impl_ParsePages.j1 k s out a ea b eb ws n i := by
  obtain ⟨c, c1, c2, c3⟩ := hw
  rw [impl_ParsePages.l0, if_pos h, if_pos h0, if_pos h1, c1, Option.bind_some, c2, Option.bind_some]
  rcases c3 with ⟨c3, c4⟩ | ⟨c3, rfl, rfl⟩
  · rw [if_pos c3, c4, Option.bind_some]
  · rw [if_neg (by rw [c3]; decide)]
theorem r_bad {k : Nat} {s : ByteArray} {out : List Int} {ws : List ByteArray} {n i a b : Int} {ea eb : Bool} (h : ea = true ∨ eb = true ∨ wrap64 (b - a) > 20) :
    impl_ParsePages.j1 (k + 2) s out a ea b eb ws n i = some ([], false) := by
  rw [impl_ParsePages.j1]
  by_cases h1 : ea = true
  · rw [if_pos h1, impl_ParsePages.j2, if_pos rfl]
  · rw [if_neg h1]
    by_cases h2 : eb = true
    · rw [if_pos h2, impl_ParsePages.j2, if_pos rfl]
    · have h3 : wrap64 (b - a) > 20 := by
        rcases h with h | h | h
        · exact absurd h h1
        · exact absurd h h2
        · exact h
      rw [if_neg h2, decide_eq_true h3, impl_ParsePages.j2, if_pos rfl]
theorem r_good {k : Nat} {s : ByteArray} {out : List Int} {ws : List ByteArray} {n i a b : Int} (h : ¬ wrap64 (b - a) > 20) :
    impl_ParsePages.j1 (k + 2) s out a false b false ws n i = impl_ParsePages.l1 k s out b a ws n i := by
  rw [impl_ParsePages.j1, if_neg (by decide), if_neg (by decide), decide_eq_false h, impl_ParsePages.j2, if_neg (by decide)]
/-- The numbers from a on, d of them. -/
def ints (a : Int) : Nat → List Int
  | 0 => []
  | d + 1 => a :: ints (a + 1) d
theorem ints_len (d : Nat) : ∀ a, (ints a d).length = d := by
  induction d with
  | zero => intro a; rfl
  | succ d ih => intro a; show (ints (a + 1) d).length + 1 = d + 1; rw [ih]
theorem r_run {k : Nat} {s : ByteArray} {ws : List ByteArray} {n i b : Int} (hb : b < 1000000000000000000) (d : Nat) : ∀ (a : Int) (out : List Int), -1000000000000000000 < a → (d : Int) = b + 1 - a ∨ (d = 0 ∧ b < a) → out.length + d ≤ 100000000 →
    impl_ParsePages.l1 (k + d + 1) s out b a ws n i = impl_ParsePages.l0 k s (out ++ ints a d) ws n (wrap64 (i + 1)) := by
  induction d with
  | zero =>
    intro a out ha h ho
    rw [impl_ParsePages.l1, if_neg (by omega)]
    show _ = impl_ParsePages.l0 k s (out ++ []) ws n _
    rw [List.append_nil]
  | succ d ih =>
    intro a out ha h ho
    have w : wrap64 (a + 1) = a + 1 := w64 (by omega) (by omega)
    rw [show k + (d + 1) + 1 = (k + d + 1) + 1 by omega, impl_ParsePages.l1, if_pos (by clear w; omega), if_pos (by clear w; omega), w, ih (a + 1) (out ++ [a]) (by clear w; omega) (by clear w; omega) (by rw [List.length_append]; simp; clear w; omega)]
    show _ = impl_ParsePages.l0 k s (out ++ (a :: ints (a + 1) d)) ws n _
    simp
/-- A word that the program's reader gets through. -/
def Fit (w : ByteArray) : Prop := ∃ (a : Int) (ea : Bool) (b : Int) (eb : Bool), IW w a ea b eb ∧ -100000000000000000 < a ∧ a < 100000000000000000 ∧ -100000000000000000 < b ∧ b < 100000000000000000
/-- How a reader ends: with nothing, or with pages whose text the given one is. -/
def Reads (s : ByteArray) (r : List Int × Bool) : Prop := r = ([], false) ∨ (r.2 = true ∧ r.1.length ≤ 1000000 ∧ Ev (fun k => impl_arePages.f k r.1) true ∧ ∃ t : ByteArray, Ev (fun k => impl_pagesText.f k r.1) t ∧ t.toList = s.toList)
theorem Ev.step2 {α : Type} {f g : Nat → Option α} {r : α} (m : Nat) (h : Ev g r) (e : ∀ k, f (k + m) = g k) : Ev f r := by
  obtain ⟨K, hK⟩ := h
  refine ⟨K + m, fun k hk => ?_⟩
  obtain ⟨j, rfl⟩ : ∃ j, k = j + m := ⟨k - m, by omega⟩
  rw [e j]
  exact hK j (by omega)
theorem r_last {s : ByteArray} {ws : List ByteArray} {i : Int} {out : List Int} (hi : ¬ i < (ws.length : Int)) (hl : out.length ≤ 100000) : ∃ r, Ev (fun k => impl_ParsePages.l0 k s out ws (ws.length : Int) i) r ∧ Reads s r := by
  obtain ⟨b, _, ⟨M, h2⟩, h3⟩ := list_ev (l := out) (by omega)
  dsimp only at h2
  cases b with
  | false =>
    refine ⟨([], false), ⟨M + 1, fun k hk => ?_⟩, .inl rfl⟩
    obtain ⟨k, rfl⟩ : ∃ t, k = t + 1 := ⟨k - 1, by omega⟩
    dsimp only
    rw [impl_ParsePages.l0, if_neg hi, h2 k (by omega), Option.bind_some, if_neg (by decide)]
  | true =>
    obtain ⟨g1, g2, g3⟩ := h3 rfl
    obtain ⟨t, _, ⟨M2, r2⟩⟩ := both_text g1 g2 (fun i hi => ⟨(rd out (i : Int)).toNat, by have := g3 i hi; unfold InB at this; omega, by have := g3 i hi; unfold InB at this; omega⟩)
    dsimp only at r2
    by_cases c : t.toList = s.toList
    · refine ⟨(out, true), ⟨M + M2 + 1, fun k hk => ?_⟩, .inr ⟨rfl, by show out.length ≤ _; omega, ⟨M, h2⟩, t, ⟨M2, r2⟩, c⟩⟩
      obtain ⟨k, rfl⟩ : ∃ t, k = t + 1 := ⟨k - 1, by omega⟩
      dsimp only
      rw [impl_ParsePages.l0, if_neg hi, h2 k (by omega), Option.bind_some, if_pos rfl, r2 k (by omega), Option.bind_some, if_pos c]
    · refine ⟨([], false), ⟨M + M2 + 1, fun k hk => ?_⟩, .inl rfl⟩
      obtain ⟨k, rfl⟩ : ∃ t, k = t + 1 := ⟨k - 1, by omega⟩
      dsimp only
      rw [impl_ParsePages.l0, if_neg hi, h2 k (by omega), Option.bind_some, if_pos rfl, r2 k (by omega), Option.bind_some, if_neg c]
theorem r_all {s : ByteArray} {ws : List ByteArray} (hw : ∀ i : Nat, i < ws.length → Fit (rdOf ByteArray.empty ws (i : Int))) (hn : ws.length ≤ 1000) (d : Nat) : ∀ (i : Nat) (out : List Int), ws.length ≤ i + d → out.length ≤ 30 * i → i ≤ ws.length →
    ∃ r, Ev (fun k => impl_ParsePages.l0 k s out ws (ws.length : Int) (i : Int)) r ∧ Reads s r := by
  induction d with
  | zero => intro i out h ho hi; exact r_last (by omega) (by omega)
  | succ d ih =>
    intro i out h ho hi
    by_cases c : i = ws.length
    · exact r_last (by omega) (by omega)
    obtain ⟨a, ea, b, eb, w, a1, a2, b1, b2⟩ := hw i (by omega)
    have h1 : (i : Int) < (ws.length : Int) := by omega
    have h0 : (0 : Int) ≤ (i : Int) := Int.natCast_nonneg _
    have e1 : ∀ k, impl_ParsePages.l0 (k + 1) s out ws (ws.length : Int) (i : Int) = impl_ParsePages.j1 k s out a ea b eb ws (ws.length : Int) (i : Int) := fun k => r_word h1 h0 h1 w
    by_cases g : ea = true ∨ eb = true ∨ wrap64 (b - a) > 20
    · refine ⟨([], false), ⟨3, fun k hk => ?_⟩, .inl rfl⟩
      obtain ⟨k, rfl⟩ : ∃ t, k = t + 3 := ⟨k - 3, by omega⟩
      show impl_ParsePages.l0 (k + 2 + 1) s out ws (ws.length : Int) (i : Int) = _
      rw [e1, r_bad g]
    · simp only [not_or] at g
      obtain ⟨g1, g2, g3⟩ := g
      obtain rfl : ea = false := by cases ea <;> simp_all
      obtain rfl : eb = false := by cases eb <;> simp_all
      have wb : wrap64 (b - a) = b - a := w64 (by omega) (by omega)
      have g4 : b - a ≤ 20 := by omega
      have ws1 : wrap64 ((i : Int) + 1) = ((i + 1 : Nat) : Int) := w_suc (by clear wb; omega)
      obtain ⟨r, hr, hr2⟩ := ih (i + 1) (out ++ ints a (b + 1 - a).toNat) (by omega) (by rw [List.length_append, ints_len]; clear wb ws1; omega) (by omega)
      refine ⟨r, Ev.step2 ((b + 1 - a).toNat + 4) hr fun k => ?_, hr2⟩
      rw [show k + ((b + 1 - a).toNat + 4) = (k + (b + 1 - a).toNat + 1 + 2) + 1 by omega, e1, r_good g3, r_run (by clear wb ws1; omega) (b + 1 - a).toNat a out (by clear wb ws1; omega) (by clear wb ws1; omega) (by clear wb ws1; omega), ws1]
theorem ipow_le {a b : Nat} (h : a ≤ b) : (10 : Int) ^ a ≤ 10 ^ b := by
  have := Nat.pow_le_pow_right (show 0 < 10 by decide) h
  exact_mod_cast this
theorem rl_end {k : Nat} {w : ByteArray} {v x : Int} (h : ¬ x < (w.size : Int)) : spec_l1Read.l0 (k + 1) w v x = some v := by rw [spec_l1Read.l0, if_neg h]
theorem rl_bad {k : Nat} {w : ByteArray} {v x : Int} (h : x < (w.size : Int)) (h0 : 0 ≤ x) (hc : bt w x < 48 ∨ bt w x > 57) : spec_l1Read.l0 (k + 1) w v x = some (-1) := by
  rw [spec_l1Read.l0, if_pos h, if_pos h0]
  by_cases c : bt w x < 48
  · rw [if_pos c]
  · rw [if_neg c, if_pos (by omega)]
theorem rl_go {k : Nat} {w : ByteArray} {v x y z : Int} (h : x < (w.size : Int)) (h0 : 0 ≤ x) (h1 : ¬ bt w x < 48) (h2 : ¬ bt w x > 57) (hy : wrap64 ((wrap64 (10 * v)) + (((bt w x) - 48) % 256)) = y) (hz : wrap64 (x + 1) = z) : spec_l1Read.l0 (k + 1) w v x = spec_l1Read.l0 k w y z := by
  rw [spec_l1Read.l0, if_pos h, if_pos h0, if_neg h1, if_neg h2, hy, hz]
theorem rl_ev {w : ByteArray} (hw : w.size ≤ 6) (d : Nat) : ∀ (i : Nat) (v : Int), i + d = w.size → 0 ≤ v → v < 10 ^ i → ∃ r, Ev (fun k => spec_l1Read.l0 k w v (i : Int)) r ∧ -1 ≤ r ∧ r < 10 ^ w.size := by
  induction d with
  | zero => intro i v h h0 h1; obtain rfl : i = w.size := by omega
            exact ⟨v, Ev.fin fun k => rl_end (by omega), by omega, h1⟩
  | succ d ih =>
    intro i v h h0 h1
    have q : (i : Int) < (w.size : Int) := by omega
    have q0 : (0 : Int) ≤ (i : Int) := Int.natCast_nonneg _
    have pw : (0 : Int) < 10 ^ w.size := Int.pow_pos (by decide)
    by_cases c : bt w (i : Int) < 48 ∨ bt w (i : Int) > 57
    · exact ⟨-1, Ev.fin fun k => rl_bad q q0 c, by omega, by omega⟩
    · simp only [not_or] at c
      have p6 : (10 : Int) ^ i ≤ 1000000 := by
        have : i ≤ 6 := by omega
        have : (10 : Int) ^ i ≤ 10 ^ 6 := ipow_le this
        omega
      have e1 : wrap64 (10 * v) = 10 * v := w64 (by omega) (by omega)
      have e2 : ((bt w (i : Int)) - 48) % 256 = (bt w (i : Int)) - 48 := Int.emod_eq_of_lt (by omega) (by omega)
      have e3 : wrap64 ((wrap64 (10 * v)) + (((bt w (i : Int)) - 48) % 256)) = 10 * v + ((bt w (i : Int)) - 48) := by rw [e1, e2]; exact w64 (by clear e1; omega) (by clear e1; omega)
      obtain ⟨r, hr, hr2⟩ := ih (i + 1) (10 * v + ((bt w (i : Int)) - 48)) (by omega) (by clear e1 e3; omega) (by rw [Int.pow_succ]; clear e1 e3; omega)
      exact ⟨r, hr.step fun k _ => rl_go q q0 c.1 c.2 e3 (w_suc (by clear e1 e3; omega)), hr2⟩
theorem read_ev (w : ByteArray) : ∃ r, Ev (fun k => spec_l1Read.f k w) r ∧ -1 ≤ r ∧ r < 1000000 := by
  by_cases c : 1 ≤ (w.size : Int) ∧ (w.size : Int) ≤ 6
  · by_cases z : bt w 0 = 48 ∧ (w.size : Int) > 1
    · refine ⟨-1, ⟨1, fun k hk => ?_⟩, by omega, by omega⟩
      obtain ⟨k, rfl⟩ : ∃ t, k = t + 1 := ⟨k - 1, by omega⟩
      show spec_l1Read.f (k + 1) w = _
      unfold spec_l1Read.f
      rw [in_spec, Option.bind_some, decide_eq_true c, if_pos rfl, if_pos (by omega), if_pos z.1, decide_eq_true z.2, spec_l1Read.j0, if_pos rfl]
    · obtain ⟨r, ⟨K, hK⟩, h1, h2⟩ := rl_ev (w := w) (by omega) w.size 0 0 (by omega) (by omega) (by decide)
      have p6 : (10 : Int) ^ w.size ≤ 10 ^ 6 := ipow_le (by omega)
      refine ⟨r, ⟨K + 1, fun k hk => ?_⟩, h1, by omega⟩
      obtain ⟨k, rfl⟩ : ∃ t, k = t + 1 := ⟨k - 1, by omega⟩
      show spec_l1Read.f (k + 1) w = _
      unfold spec_l1Read.f
      rw [in_spec, Option.bind_some, decide_eq_true c, if_pos rfl, if_pos (by omega)]
      by_cases z1 : bt w 0 = 48
      · rw [if_pos z1, decide_eq_false (fun q => z ⟨z1, q⟩), spec_l1Read.j0, if_neg (by decide)]
        exact hK k (by omega)
      · rw [if_neg z1, spec_l1Read.j0, if_neg (by decide)]
        exact hK k (by omega)
  · refine ⟨-1, ⟨1, fun k hk => ?_⟩, by omega, by omega⟩
    obtain ⟨k, rfl⟩ : ∃ t, k = t + 1 := ⟨k - 1, by omega⟩
    show spec_l1Read.f (k + 1) w = _
    unfold spec_l1Read.f
    rw [in_spec, Option.bind_some, decide_eq_false c, if_neg (by decide), spec_l1Read.j0, if_pos rfl]
/-- What the reference reads out of a word: how many parts it has, the first number and the last. -/
def SW (w : ByteArray) (m : Nat) (a b : Int) : Prop := ∃ t : List ByteArray, t.length = m ∧ 1 ≤ m ∧ m ≤ 1000000 ∧ Ev (fun k => spec_l1Split.f k w 45) t ∧ Ev (fun k => spec_l1Read.f k (rdOf ByteArray.empty t 0)) a ∧ Ev (fun k => spec_l1Read.f k (rdOf ByteArray.empty t ((m - 1 : Nat) : Int))) b ∧ -1 ≤ a ∧ a < 1000000
def Good (m : Nat) (a b : Int) : Prop := m ≤ 2 ∧ 1 ≤ a ∧ a ≤ 2000 ∧ a ≤ b ∧ b ≤ 2000 ∧ b ≤ a + 20
theorem s_word {s : ByteArray} {out : List Int} {ws : List ByteArray} {n i a b : Int} {m : Nat} (h : i < n) (h0 : 0 ≤ i) (h1 : i < (ws.length : Int)) (hw : SW (rdOf ByteArray.empty ws i) m a b) :
    ∃ (K : Nat) (c : Bool), (c = true ↔ ¬ Good m a b) ∧ ∀ k, K ≤ k → spec_ParsePages.l0 (k + 1) s out ws n i = spec_ParsePages.j1 k s out a b ws n i c := by
  obtain ⟨t, ht, m1, m2, ⟨K1, e1⟩, ⟨K2, e2⟩, ⟨K3, e3⟩, a1, a2⟩ := hw
  dsimp only at e1 e2 e3
  have wl : wrap64 ((t.length : Int) - 1) = ((m - 1 : Nat) : Int) := by rw [ht]; exact w_pre m1 (by omega)
  have base : ∀ k, K1 + K2 + K3 ≤ k → spec_ParsePages.l0 (k + 1) s out ws n i = (if (t.length : Int) > 2 then (spec_ParsePages.j1 k s out a b ws n i true) else ((spec_bpBook.f a).bind fun t383 => (if t383 = true then ((spec_l1Least.f 2000 (wrap64 (a + 20))).bind fun t384 => ((spec_l1In.f b a t384).bind fun t385 => (spec_ParsePages.j1 k s out a b ws n i (!t385)))) else (spec_ParsePages.j1 k s out a b ws n i true)))) := by
    intro k hk
    rw [spec_ParsePages.l0, if_pos h, if_pos h0, if_pos h1, e1 k (by omega), Option.bind_some, if_pos (by clear wl; omega), e2 k (by omega), Option.bind_some, wl, if_pos (by clear wl; omega), if_pos (by clear wl; omega), e3 k (by omega), Option.bind_some]
  by_cases c1 : (t.length : Int) > 2
  · refine ⟨_, true, ⟨fun _ g => ?_, fun _ => rfl⟩, fun k hk => by rw [base k hk, if_pos c1]⟩
    have := g.1
    clear wl
    omega
  · by_cases c2 : 1 ≤ a ∧ a ≤ 2000
    · have w20 : wrap64 (a + 20) = a + 20 := w64 (by clear wl; omega) (by clear wl; omega)
      obtain ⟨q, q1, q2⟩ : ∃ q : Int, spec_l1Least.f 2000 (a + 20) = some q ∧ (b ≤ q ↔ b ≤ 2000 ∧ b ≤ a + 20) := by
        unfold spec_l1Least.f
        by_cases g : (2000 : Int) < a + 20
        · exact ⟨2000, by rw [if_pos g], by clear wl w20; omega⟩
        · exact ⟨a + 20, by rw [if_neg g], by clear wl w20; omega⟩
      refine ⟨_, !(decide (a ≤ b ∧ b ≤ q)), ?_, fun k hk => by rw [base k hk, if_neg c1]; unfold spec_bpBook.f; rw [in_spec, Option.bind_some, Option.bind_some, decide_eq_true c2, if_pos rfl, w20, q1, Option.bind_some, in_spec, Option.bind_some]⟩
      rw [Bool.not_eq_true', decide_eq_false_iff_not]
      unfold Good
      clear wl w20
      constructor
      · intro g1 g2; exact g1 ⟨g2.2.2.2.1, q2.2 ⟨g2.2.2.2.2.1, g2.2.2.2.2.2⟩⟩
      · intro g1 g2; exact g1 ⟨by omega, c2.1, c2.2, g2.1, (q2.1 g2.2).1, (q2.1 g2.2).2⟩
    · refine ⟨_, true, ⟨fun _ g => c2 ⟨g.2.1, g.2.2.1⟩, fun _ => rfl⟩, fun k hk => by rw [base k hk, if_neg c1]; unfold spec_bpBook.f; rw [in_spec, Option.bind_some, Option.bind_some, decide_eq_false c2, if_neg (by decide)]⟩
theorem sp_run {k : Nat} {s : ByteArray} {ws : List ByteArray} {n i b : Int} (hb : b < 1000000000000000000) (d : Nat) : ∀ (a : Int) (out : List Int), -1000000000000000000 < a → (d : Int) = b + 1 - a ∨ (d = 0 ∧ b < a) → out.length + d ≤ 100000000 →
    spec_ParsePages.l1 (k + d + 1) s out b a ws n i = spec_ParsePages.l0 k s (out ++ ints a d) ws n (wrap64 (i + 1)) := by
  induction d with
  | zero =>
    intro a out ha h ho
    rw [spec_ParsePages.l1, if_neg (by omega)]
    show _ = spec_ParsePages.l0 k s (out ++ []) ws n _
    rw [List.append_nil]
  | succ d ih =>
    intro a out ha h ho
    have w : wrap64 (a + 1) = a + 1 := w64 (by omega) (by omega)
    rw [show k + (d + 1) + 1 = (k + d + 1) + 1 by omega, spec_ParsePages.l1, if_pos (by clear w; omega), if_pos (by clear w; omega), w, ih (a + 1) (out ++ [a]) (by clear w; omega) (by clear w; omega) (by rw [List.length_append]; simp; clear w; omega)]
    show _ = spec_ParsePages.l0 k s (out ++ (a :: ints (a + 1) d)) ws n _
    simp
/-- How the reference's reader ends. -/
def SReads (s : ByteArray) (r : List Int × Bool) : Prop := r = ([], false) ∨ (r.2 = true ∧ r.1.length ≤ 1000000 ∧ Ev (fun k => spec_bpList.f k r.1) true ∧ ∃ t : ByteArray, Ev (fun k => spec_bpText.f k r.1) t ∧ t.toList = s.toList)
theorem s_last {s : ByteArray} {ws : List ByteArray} {i : Int} {out : List Int} (hi : ¬ i < (ws.length : Int)) (hl : out.length ≤ 100000) : ∃ r, Ev (fun k => spec_ParsePages.l0 k s out ws (ws.length : Int) i) r ∧ SReads s r := by
  obtain ⟨b, ⟨M, h2⟩, _, h3⟩ := list_ev (l := out) (by omega)
  dsimp only at h2
  cases b with
  | false =>
    refine ⟨([], false), ⟨M + 1, fun k hk => ?_⟩, .inl rfl⟩
    obtain ⟨k, rfl⟩ : ∃ t, k = t + 1 := ⟨k - 1, by omega⟩
    dsimp only
    rw [spec_ParsePages.l0, if_neg hi, h2 k (by omega), Option.bind_some, if_neg (by decide)]
  | true =>
    obtain ⟨g1, g2, g3⟩ := h3 rfl
    obtain ⟨t, ⟨M2, r2⟩, _⟩ := both_text g1 g2 (fun i hi => ⟨(rd out (i : Int)).toNat, by have := g3 i hi; unfold InB at this; omega, by have := g3 i hi; unfold InB at this; omega⟩)
    dsimp only at r2
    by_cases c : t.toList = s.toList
    · refine ⟨(out, true), ⟨M + M2 + 1, fun k hk => ?_⟩, .inr ⟨rfl, by show out.length ≤ _; omega, ⟨M, h2⟩, t, ⟨M2, r2⟩, c⟩⟩
      obtain ⟨k, rfl⟩ : ∃ t, k = t + 1 := ⟨k - 1, by omega⟩
      dsimp only
      rw [spec_ParsePages.l0, if_neg hi, h2 k (by omega), Option.bind_some, if_pos rfl, r2 k (by omega), Option.bind_some, if_pos c]
    · refine ⟨([], false), ⟨M + M2 + 1, fun k hk => ?_⟩, .inl rfl⟩
      obtain ⟨k, rfl⟩ : ∃ t, k = t + 1 := ⟨k - 1, by omega⟩
      dsimp only
      rw [spec_ParsePages.l0, if_neg hi, h2 k (by omega), Option.bind_some, if_pos rfl, r2 k (by omega), Option.bind_some, if_neg c]
theorem s_all {s : ByteArray} {ws : List ByteArray} (hw : ∀ i : Nat, i < ws.length → ∃ m a b, SW (rdOf ByteArray.empty ws (i : Int)) m a b) (hn : ws.length ≤ 1000) (d : Nat) : ∀ (i : Nat) (out : List Int), ws.length ≤ i + d → out.length ≤ 30 * i → i ≤ ws.length →
    ∃ r, Ev (fun k => spec_ParsePages.l0 k s out ws (ws.length : Int) (i : Int)) r ∧ SReads s r := by
  induction d with
  | zero => intro i out h ho hi; exact s_last (by omega) (by omega)
  | succ d ih =>
    intro i out h ho hi
    by_cases c : i = ws.length
    · exact s_last (by omega) (by omega)
    obtain ⟨m, a, b, w⟩ := hw i (by omega)
    have h1 : (i : Int) < (ws.length : Int) := by omega
    have h0 : (0 : Int) ≤ (i : Int) := Int.natCast_nonneg _
    obtain ⟨K, f, hf, e1⟩ := s_word (s := s) (out := out) h1 h0 h1 w
    by_cases g : Good m a b
    · have hf2 : f = false := by
        cases f with
        | false => rfl
        | true => exact absurd g (hf.1 rfl)
      obtain ⟨_, g1, g2, g3, g4, g5⟩ := g
      have ws1 : wrap64 ((i : Int) + 1) = ((i + 1 : Nat) : Int) := w_suc (by omega)
      obtain ⟨r, ⟨M, hr⟩, hr2⟩ := ih (i + 1) (out ++ ints a (b + 1 - a).toNat) (by omega) (by rw [List.length_append, ints_len]; clear ws1; omega) (by omega)
      refine ⟨r, ⟨M + K + (b + 1 - a).toNat + 3, fun k hk => ?_⟩, hr2⟩
      obtain ⟨k, rfl⟩ : ∃ t, k = t + ((b + 1 - a).toNat + 3) := ⟨k - ((b + 1 - a).toNat + 3), by clear ws1; omega⟩
      dsimp only at hr ⊢
      rw [show k + ((b + 1 - a).toNat + 3) = (k + (b + 1 - a).toNat + 1 + 1) + 1 by omega, e1 _ (by clear ws1; omega), hf2, spec_ParsePages.j1, if_neg (by decide), sp_run (by clear ws1; omega) (b + 1 - a).toNat a out (by clear ws1; omega) (by clear ws1; omega) (by clear ws1; omega), ws1]
      exact hr k (by clear ws1; omega)
    · refine ⟨([], false), ⟨K + 2, fun k hk => ?_⟩, .inl rfl⟩
      obtain ⟨k, rfl⟩ : ∃ t, k = t + 2 := ⟨k - 2, by omega⟩
      dsimp only
      rw [show k + 2 = (k + 1) + 1 by omega, e1 _ (by omega), hf.2 g, spec_ParsePages.j1, if_pos rfl]
theorem rd_map (L : List (List UInt8)) (i : Nat) (h : i < L.length) : rdOf ByteArray.empty (L.map mk) (i : Int) = mk L[i] := by
  unfold rdOf
  simp [h]
theorem sw_any (w : List UInt8) (hl : w.length ≤ 100000) : ∃ m a b, SW (mk w) m a b := by
  have hlen : (sp 45 w).length ≤ w.length + 1 := by
    induction w with
    | nil => simp [sp]
    | cons x l ih =>
      obtain ⟨h, t, e⟩ := sp_cons 45 l
      have := ih (by simp at hl; omega)
      rw [sp]
      by_cases c : x = 45
      · rw [if_pos c]; simp at this ⊢; omega
      · rw [if_neg c, e]; rw [e] at this; simp at this ⊢; omega
  have hpos : 1 ≤ (sp 45 w).length := by
    obtain ⟨h, t, e⟩ := sp_cons 45 w
    rw [e]; simp
  obtain ⟨a, ha, a1, a2⟩ := read_ev (rdOf ByteArray.empty ((sp 45 w).map mk) 0)
  obtain ⟨b, hb, b1, b2⟩ := read_ev (rdOf ByteArray.empty ((sp 45 w).map mk) (((sp 45 w).length - 1 : Nat) : Int))
  exact ⟨(sp 45 w).length, a, b, (sp 45 w).map mk, by simp, hpos, by omega, ⟨w.length + 1, fun k hk => split_spec w 45 hl k (by omega)⟩, ha, hb, a1, a2⟩
def Dig (c : UInt8) : Prop := 48 ≤ c.toNat ∧ c.toNat ≤ 57
/-- No more than n digits stand together. -/
def Few (n : Nat) (l : List UInt8) : Prop := ∀ p q r, l = p ++ (q ++ r) → (∀ c ∈ q, Dig c) → q.length ≤ n
def Pre (n : Nat) (l : List UInt8) : Prop := ∀ q r, l = q ++ r → (∀ c ∈ q, Dig c) → q.length ≤ n
theorem Few.pre {n : Nat} {l : List UInt8} (h : Few n l) : Pre n l := fun q r e g => h [] q r (by simpa using e) g
theorem Few.part {n : Nat} {p l r : List UInt8} (h : Few n (p ++ (l ++ r))) : Few n l := by
  intro a q b e g
  refine h (p ++ a) q (b ++ r) ?_ g
  rw [e]; simp
theorem Few.mono {n m : Nat} {l : List UInt8} (h : Few n l) (hm : n ≤ m) : Few m l := fun p q r e g => Nat.le_trans (h p q r e g) hm
/-- What a text that is no number gives. -/
abbrev badN : Lib.NumEnd Nat := Lib.parseUint10 0 [0]
abbrev badI : Lib.NumEnd Int := Lib.atoiAll []
theorem parse_pre (l : List UInt8) : ∀ (acc j n : Nat), acc < 10 ^ j → j + n ≤ 17 → Pre n l → Lib.parseUint10 acc l = badN ∨ ∃ v, Lib.parseUint10 acc l = .ok v ∧ v < 10 ^ 17 := by
  induction l with
  | nil =>
    intro acc j n h hj hp
    have := Nat.pow_le_pow_right (show 0 < 10 by decide) (show j ≤ 17 by omega)
    exact .inr ⟨acc, rfl, by omega⟩
  | cons c l ih =>
    intro acc j n h hj hp
    simp only [Lib.parseUint10]
    by_cases hc : 48 ≤ c.toNat ∧ c.toNat ≤ 57
    · have hn : 1 ≤ n := hp [c] l rfl (by simp [Dig, hc])
      have h16 := Nat.pow_le_pow_right (show 0 < 10 by decide) (show j ≤ 16 by omega)
      have e : (10 : Nat) ^ (j + 1) = 10 ^ j * 10 := Nat.pow_succ ..
      rw [if_pos hc, if_neg (by omega), if_neg (by omega)]
      refine ih _ (j + 1) (n - 1) (by omega) (by omega) (fun q r eq g => ?_)
      have := hp (c :: q) r (by rw [eq]; rfl) (by intro x hx; rw [List.mem_cons] at hx; rcases hx with rfl | hx; exact hc; exact g x hx)
      simp at this
      omega
    · rw [if_neg hc]; exact .inl rfl
theorem mag_run {l : List UInt8} (h : Pre 17 l) : Lib.parseMag l = badN ∨ ∃ v, Lib.parseMag l = .ok v ∧ v < 10 ^ 17 := by
  unfold Lib.parseMag
  by_cases c : l = []
  · rw [if_pos c]; exact .inl rfl
  · rw [if_neg c]; exact parse_pre l 0 0 17 (by decide) (by omega) h
theorem atoi_run {l : List UInt8} (h : Few 17 l) : Lib.atoiAll l = badI ∨ ∃ v : Int, Lib.atoiAll l = .ok v ∧ -100000000000000000 < v ∧ v < 100000000000000000 := by
  cases l with
  | nil => exact .inl rfl
  | cons c r =>
    unfold Lib.atoiAll
    simp only
    have hp : Pre 17 (if c.toNat = 43 ∨ c.toNat = 45 then r else c :: r) := by
      by_cases g : c.toNat = 43 ∨ c.toNat = 45
      · rw [if_pos g]
        exact (Few.part (p := [c]) (r := []) (by simpa using h)).pre
      · rw [if_neg g]; exact h.pre
    rcases mag_run hp with e | ⟨v, e, hv⟩
    · rw [e]; exact .inl rfl
    · rw [e]
      simp only
      rw [if_neg (by omega), if_neg (by omega)]
      refine .inr ⟨_, rfl, ?_⟩
      by_cases g : c.toNat = 45
      · rw [if_pos g]; omega
      · rw [if_neg g]; omega
theorem atoiF_run {l : List UInt8} (hl : l.length ≤ 1000000) (h : Few 17 l) : ∃ (v : Int) (e : Bool), strconv_Atoi.f (mk l) = some (v, e) ∧ -100000000000000000 < v ∧ v < 100000000000000000 := by
  unfold strconv_Atoi.f
  rw [if_pos (by rw [mk_size]; omega)]
  have em : (mk l).data.toList = l := by simp [mk]
  rw [em]
  rcases atoi_run h with e | ⟨v, e, h1, h2⟩
  · rw [e]; exact ⟨0, true, rfl, by omega, by omega⟩
  · rw [e]; exact ⟨v, false, rfl, h1, h2⟩
theorem fit_any {w : List UInt8} (hl : w.length ≤ 100000) (h : Few 17 w) : Fit (mk w) := by
  have em : (mk w).data.toList = w := by simp [mk]
  have e45 : (⟨#[45]⟩ : ByteArray).data.toList = [45] := rfl
  have ec : strings_Cut.f (mk w) (⟨#[45]⟩ : ByteArray) = some (mk (Lib.cut w [45]).1, mk (Lib.cut w [45]).2.1, (Lib.cut w [45]).2.2) := by
    unfold strings_Cut.f
    rw [if_pos (by rw [mk_size]; omega), em, e45]
  by_cases g : 0 ≤ Lib.index w [45]
  · have e : Lib.cut w [45] = (w.take (Lib.index w [45]).toNat, w.drop ((Lib.index w [45]).toNat + 1), true) := by
      unfold Lib.cut; rw [if_pos g]; rfl
    rw [e] at ec
    have f1 : Few 17 (w.take (Lib.index w [45]).toNat) := Few.part (p := []) (r := w.drop (Lib.index w [45]).toNat) (by simpa using h)
    have f2 : Few 17 (w.drop ((Lib.index w [45]).toNat + 1)) := Few.part (p := w.take ((Lib.index w [45]).toNat + 1)) (r := []) (by simpa using h)
    obtain ⟨a, ea, e1, a1, a2⟩ := atoiF_run (by rw [List.length_take]; omega) f1
    obtain ⟨b, eb, e2, b1, b2⟩ := atoiF_run (by rw [List.length_drop]; omega) f2
    exact ⟨a, ea, b, eb, ⟨_, ec, e1, .inl ⟨rfl, e2⟩⟩, a1, a2, b1, b2⟩
  · have e : Lib.cut w [45] = (w, [], false) := by
      unfold Lib.cut; rw [if_neg g]
    rw [e] at ec
    obtain ⟨a, ea, e1, a1, a2⟩ := atoiF_run (by omega) h
    exact ⟨a, ea, a, false, ⟨_, ec, e1, .inr ⟨rfl, rfl, rfl⟩⟩, a1, a2, a1, a2⟩
theorem no_comma {n : Nat} (h : n ≤ 9999) {c : UInt8} (hc : c.toNat < 48) : ¬ c ∈ Lib.decDigits n := by
  intro hm
  have := dec_dig 3 n (by omega) c hm
  omega
/-- A word: the number a, or the numbers a and b with a dash between. -/
def IsW (w : List UInt8) (a b : Nat) : Prop := (w = Lib.decDigits a ∧ b = a) ∨ w = Lib.decDigits a ++ 45 :: Lib.decDigits b
theorem isW_comma {w : List UInt8} {a b : Nat} (h : IsW w a b) (ha : a ≤ 9999) (hb : b ≤ 9999) : ¬ (44 : UInt8) ∈ w := by
  rcases h with ⟨rfl, _⟩ | rfl
  · exact no_comma ha (by decide)
  · rw [List.mem_append, List.mem_cons]
    rintro (h | h | h)
    · exact no_comma ha (by decide) h
    · exact absurd h (by decide)
    · exact no_comma hb (by decide) h
theorem isW_len {w : List UInt8} {a b : Nat} (h : IsW w a b) (ha : a ≤ 9999) (hb : b ≤ 9999) : w.length ≤ 9 := by
  have h1 := dec_len 3 a (by omega)
  have h2 := dec_len 3 b (by omega)
  rcases h with ⟨rfl, _⟩ | rfl
  · omega
  · simp; omega
theorem sp_join : ∀ (W : List (List UInt8)), W ≠ [] → (∀ w ∈ W, ¬ (44 : UInt8) ∈ w) → sp 44 (Lib.join W [44]) = W
  | [], h, _ => absurd rfl h
  | [a], _, g => by
    have e : Lib.join [a] [44] = a := by simp [Lib.join, List.intercalate]
    rw [e]
    exact sp_none 44 a (g a (by simp))
  | a :: b :: t, _, g => by
    have e : Lib.join (a :: b :: t) [44] = a ++ ((44 : UInt8) :: Lib.join (b :: t) [44]) := by
      simp [Lib.join, List.intercalate, List.intersperse]
    rw [e, sp_app 44 a _ (g a (by simp)), sp_join (b :: t) (by simp) (fun w hw => g w (List.mem_cons_of_mem _ hw))]
theorem cm_len : ∀ (W : List (List UInt8)), (∀ w ∈ W, w.length ≤ 9) → (Cm W).length ≤ 10 * W.length
  | [], _ => by simp [Cm]
  | a :: t, g => by
    have h1 := cm_len t (fun w hw => g w (List.mem_cons_of_mem _ hw))
    have h2 := g a (by simp)
    have e : Cm (a :: t) = (44 :: a) ++ Cm t := by simp [Cm]
    rw [e, List.length_append]
    simp
    omega
/-- A row of words, as Words tells it: the words' numbers, one word at a time. -/
theorem words_cons {l : List Int} {i : Nat} {w : List UInt8} {W : List (List UInt8)} (h : Words l i (w :: W)) (hv : ∀ i : Nat, i < l.length → InB l i) :
    ∃ e a b : Nat, i ≤ e ∧ e < l.length ∧ rd l (i : Int) = (a : Int) ∧ rd l (e : Int) = (b : Int) ∧ 1 ≤ a ∧ a ≤ 2000 ∧ b = a + (e - i) ∧ b ≤ 2000 ∧ IsW w a b ∧ (∀ j : Nat, i ≤ j → j < e → rd l ((j + 1 : Nat) : Int) = rd l (j : Int) + 1) ∧ Words l (e + 1) W := by
  obtain ⟨hi, h⟩ := h
  have vi := hv i hi
  unfold InB at vi
  rcases h with ⟨rfl, hW⟩ | ⟨e, h1, h2, h3, rfl, hW⟩
  · exact ⟨i, (rd l (i : Int)).toNat, (rd l (i : Int)).toNat, Nat.le_refl _, hi, by omega, by omega, by omega, by omega, by omega, by omega, .inl ⟨rfl, rfl⟩, fun j h1 h2 => by omega, hW⟩
  · have ve := hv e h2
    unfold InB at ve
    have up : ∀ d : Nat, i + d ≤ e → rd l ((i + d : Nat) : Int) = rd l (i : Int) + (d : Int) := by
      intro d
      induction d with
      | zero => intro _; simp
      | succ d ih =>
        intro hd
        have g := h3 (i + d) (by omega) (by omega)
        have g2 := ih (by omega)
        rw [show i + (d + 1) = i + d + 1 by omega, g, g2]
        omega
    have ue := up (e - i) (by omega)
    rw [show i + (e - i) = e by omega] at ue
    exact ⟨e, (rd l (i : Int)).toNat, (rd l (e : Int)).toNat, by omega, h2, by omega, by omega, by omega, by omega, by omega, by omega, .inr rfl, h3, hW⟩
theorem words_all {l : List Int} (hv : ∀ i : Nat, i < l.length → InB l i) : ∀ (W : List (List UInt8)) (i : Nat), Words l i W → ∀ w ∈ W, ¬ (44 : UInt8) ∈ w ∧ w.length ≤ 9 := by
  intro W
  induction W with
  | nil => intro i _ w hw; simp at hw
  | cons w W ih =>
    intro i h x hx
    obtain ⟨e, a, b, _, _, _, _, h1, h2, h3, h4, h5, _, h6⟩ := words_cons h hv
    rw [List.mem_cons] at hx
    rcases hx with rfl | hx
    · exact ⟨isW_comma h5 (by omega) (by omega), isW_len h5 (by omega) (by omega)⟩
    · exact ih _ h6 x hx
theorem take_one {l : List Int} {i : Nat} (h : i < l.length) : l.take i ++ [rd l (i : Int)] = l.take (i + 1) := by
  rw [List.take_succ_eq_append_getElem h]
  unfold rd
  simp [h]
theorem take_ints {l : List Int} (d : Nat) : ∀ i : Nat, i + d < l.length → (∀ j : Nat, i ≤ j → j < i + d → rd l ((j + 1 : Nat) : Int) = rd l (j : Int) + 1) → l.take i ++ ints (rd l (i : Int)) (d + 1) = l.take (i + d + 1) := by
  induction d with
  | zero => intro i h _; exact take_one (by omega)
  | succ d ih =>
    intro i h g
    have e : ints (rd l (i : Int)) (d + 1 + 1) = [rd l (i : Int)] ++ ints (rd l (i : Int) + 1) (d + 1) := rfl
    rw [e, ← List.append_assoc, take_one (by omega), ← g i (Nat.le_refl _) (by omega), ih (i + 1) (by omega) (fun j h1 h2 => g j (by omega) (by omega))]
    congr 1
    omega
/-- What the reference's number reader computes. -/
def val : Int → List UInt8 → Int
  | v, [] => v
  | v, c :: l => val (10 * v + ((c.toNat : Int) - 48)) l
theorem val_app (l : List UInt8) (c : UInt8) : ∀ v : Int, val v (l ++ [c]) = 10 * val v l + ((c.toNat : Int) - 48) := by
  induction l with
  | nil => intro v; rfl
  | cons x l ih => intro v; exact ih _
theorem val_dec (k : Nat) : ∀ n : Nat, n < 10 ^ (k + 1) → val 0 (Lib.decDigits n) = (n : Int) := by
  induction k with
  | zero =>
    intro n hn
    have h : n < 10 := by omega
    rw [Lib.decDigits_one h]
    show 10 * 0 + (((UInt8.ofNat (48 + n)).toNat : Int) - 48) = _
    rw [dig_nat h]
    omega
  | succ k ih =>
    intro n hn
    by_cases h : n < 10
    · rw [Lib.decDigits_one h]
      show 10 * 0 + (((UInt8.ofNat (48 + n)).toNat : Int) - 48) = _
      rw [dig_nat h]
      omega
    · rw [dec_big h, val_app, ih (n / 10) (by rw [Nat.pow_succ] at hn; omega), dig_nat (Nat.mod_lt _ (by decide))]
      omega
theorem dec_first (k : Nat) : ∀ n : Nat, n < 10 ^ (k + 1) → 1 ≤ n → ∃ c r, Lib.decDigits n = c :: r ∧ c.toNat ≠ 48 := by
  induction k with
  | zero =>
    intro n hn h1
    have h : n < 10 := by omega
    rw [Lib.decDigits_one h]
    exact ⟨_, _, rfl, by rw [dig_nat h]; omega⟩
  | succ k ih =>
    intro n hn h1
    by_cases h : n < 10
    · rw [Lib.decDigits_one h]
      exact ⟨_, _, rfl, by rw [dig_nat h]; omega⟩
    · obtain ⟨c, r, e, hc⟩ := ih (n / 10) (by rw [Nat.pow_succ] at hn; omega) (by omega)
      rw [dec_big h, e]
      exact ⟨c, _, rfl, hc⟩
theorem rl_val {l : List UInt8} (hl : l.length ≤ 6) (hd : ∀ c ∈ l, 48 ≤ c.toNat ∧ c.toNat ≤ 57) (d : Nat) : ∀ (i : Nat) (v : Int), i + d = l.length → 0 ≤ v → v < 10 ^ i →
    Ev (fun k => spec_l1Read.l0 k (mk l) v (i : Int)) (val v (l.drop i)) := by
  induction d with
  | zero =>
    intro i v h h0 h1
    obtain rfl : i = l.length := by omega
    rw [List.drop_length]
    exact Ev.fin fun k => rl_end (by rw [mk_size]; omega)
  | succ d ih =>
    intro i v h h0 h1
    have hlt : i < l.length := by omega
    have q : (i : Int) < ((mk l).size : Int) := by rw [mk_size]; omega
    have q0 : (0 : Int) ≤ (i : Int) := Int.natCast_nonneg _
    have hb := bt_mk l i hlt
    have hc := hd l[i] (List.getElem_mem hlt)
    have p6 : (10 : Int) ^ i ≤ 1000000 := by
      have : i ≤ 6 := by omega
      have : (10 : Int) ^ i ≤ 10 ^ 6 := ipow_le this
      omega
    have e1 : wrap64 (10 * v) = 10 * v := w64 (by omega) (by omega)
    have e2 : ((bt (mk l) (i : Int)) - 48) % 256 = (((l[i]).toNat : Int) - 48) := by rw [hb]; clear e1; omega
    have e3 : wrap64 ((wrap64 (10 * v)) + (((bt (mk l) (i : Int)) - 48) % 256)) = 10 * v + (((l[i]).toNat : Int) - 48) := by rw [e1, e2]; exact w64 (by clear e1 e2; omega) (by clear e1 e2; omega)
    have g := ih (i + 1) (10 * v + (((l[i]).toNat : Int) - 48)) (by omega) (by clear e1 e2 e3; omega) (by rw [Int.pow_succ]; clear e1 e2 e3; omega)
    rw [List.drop_eq_getElem_cons hlt]
    exact g.step fun k _ => rl_go q q0 (by rw [hb]; clear e1 e2 e3; omega) (by rw [hb]; clear e1 e2 e3; omega) e3 (w_suc (by clear e1 e2 e3; omega))
theorem read_dec {n : Nat} (h1 : 1 ≤ n) (h : n ≤ 9999) : Ev (fun k => spec_l1Read.f k (mk (Lib.decDigits n))) (n : Int) := by
  have hd := dec_dig 3 n (by omega)
  have hp := dec_pos n
  have hl := dec_len 3 n (by omega)
  have hv := val_dec 3 n (by omega)
  obtain ⟨c, r, e, hc⟩ := dec_first 3 n (by omega) h1
  have hz : bt (mk (Lib.decDigits n)) 0 ≠ 48 := by
    have g := bt_mk (Lib.decDigits n) 0 (by omega)
    have g2 : (Lib.decDigits n)[0]'(by omega) = c := by simp only [e]; rfl
    rw [g2] at g
    show bt (mk (Lib.decDigits n)) ((0 : Nat) : Int) ≠ 48
    rw [g]
    omega
  obtain ⟨K, hK⟩ := rl_val (l := Lib.decDigits n) (by omega) hd (Lib.decDigits n).length 0 0 (by omega) (by omega) (by decide)
  rw [List.drop_zero, hv] at hK
  have hs := mk_size (Lib.decDigits n)
  refine ⟨K + 1, fun k hk => ?_⟩
  obtain ⟨k, rfl⟩ : ∃ t, k = t + 1 := ⟨k - 1, by omega⟩
  show spec_l1Read.f (k + 1) (mk (Lib.decDigits n)) = _
  unfold spec_l1Read.f
  rw [in_spec, Option.bind_some, decide_eq_true (by omega), if_pos rfl, if_pos (by omega), if_neg hz, spec_l1Read.j0, if_neg (by decide)]
  exact hK k (by omega)
theorem isW_sp {w : List UInt8} {a b : Nat} (h : IsW w a b) (ha : a ≤ 9999) (hb : b ≤ 9999) : (w = Lib.decDigits a ∧ b = a ∧ sp 45 w = [w] ∧ ¬ (45 : UInt8) ∈ w) ∨ (w = Lib.decDigits a ++ 45 :: Lib.decDigits b ∧ sp 45 w = [Lib.decDigits a, Lib.decDigits b]) := by
  rcases h with ⟨rfl, h⟩ | rfl
  · exact .inl ⟨rfl, h, sp_none 45 _ (no_comma ha (by decide)), no_comma ha (by decide)⟩
  · exact .inr ⟨rfl, by rw [sp_app 45 _ _ (no_comma ha (by decide)), sp_none 45 _ (no_comma hb (by decide))]⟩
theorem isW_sw {w : List UInt8} {a b : Nat} (h : IsW w a b) (h1 : 1 ≤ a) (ha : a ≤ 2000) (h2 : a ≤ b) (hb : b ≤ 2000) : ∃ m, m ≤ 2 ∧ SW (mk w) m (a : Int) (b : Int) := by
  have hl := isW_len h (by omega) (by omega)
  have ra := read_dec h1 (show a ≤ 9999 by omega)
  have rb := read_dec (show 1 ≤ b by omega) (show b ≤ 9999 by omega)
  have hs : Ev (fun k => spec_l1Split.f k (mk w) 45) ((sp 45 w).map mk) := ⟨w.length + 1, fun k hk => split_spec w 45 (by omega) k (by omega)⟩
  rcases isW_sp h (by omega) (by omega) with ⟨rfl, rfl, e, _⟩ | ⟨rfl, e⟩
  · rw [e] at hs
    exact ⟨1, by decide, _, rfl, by decide, by decide, hs, ra, ra, by omega, by omega⟩
  · rw [e] at hs
    exact ⟨2, by decide, _, rfl, by decide, by decide, hs, ra, rb, by omega, by omega⟩
theorem atoiF_dec {n : Nat} (h : n ≤ 9999) : strconv_Atoi.f (mk (Lib.decDigits n)) = some ((n : Int), false) := by
  have hl := dec_len 3 n (by omega)
  have em : (mk (Lib.decDigits n)).data.toList = Lib.decDigits n := by simp [mk]
  unfold strconv_Atoi.f
  rw [if_pos (by rw [mk_size]; omega), em, atoi_dec h]
theorem index_no {w : List UInt8} (h : ¬ (45 : UInt8) ∈ w) : Lib.index w [45] = -1 := by
  rcases sp_index 45 w with ⟨h1, _⟩ | ⟨i, _, _, _, h4⟩
  · exact h1
  · have := List.count_eq_zero_of_not_mem h
    omega
theorem index_dash {u v : List UInt8} (h : ¬ (45 : UInt8) ∈ u) : Lib.index (u ++ 45 :: v) [45] = (u.length : Int) := by
  induction u with
  | nil => show Lib.index (45 :: v) [45] = _; rw [index_cons, if_pos rfl]; rfl
  | cons x u ih =>
    simp only [List.mem_cons, not_or] at h
    have g := ih h.2
    show Lib.index (x :: (u ++ 45 :: v)) [45] = _
    rw [index_cons, if_neg (fun e => h.1 e.symm), g, if_neg (by omega)]
    simp
theorem isW_iw {w : List UInt8} {a b : Nat} (h : IsW w a b) (ha : a ≤ 9999) (hb : b ≤ 9999) : IW (mk w) (a : Int) false (b : Int) false := by
  have hl := isW_len h ha hb
  have em : (mk w).data.toList = w := by simp [mk]
  have e45 : (⟨#[45]⟩ : ByteArray).data.toList = [45] := rfl
  have ec : strings_Cut.f (mk w) (⟨#[45]⟩ : ByteArray) = some (mk (Lib.cut w [45]).1, mk (Lib.cut w [45]).2.1, (Lib.cut w [45]).2.2) := by
    unfold strings_Cut.f
    rw [if_pos (by rw [mk_size]; omega), em, e45]
  rcases isW_sp h ha hb with ⟨rfl, rfl, _, hn⟩ | ⟨rfl, _⟩
  · have e : Lib.cut (Lib.decDigits b) [45] = (Lib.decDigits b, [], false) := by
      unfold Lib.cut; rw [if_neg (by rw [index_no hn]; decide)]
    rw [e] at ec
    exact ⟨_, ec, atoiF_dec ha, .inr ⟨rfl, rfl, rfl⟩⟩
  · have i := index_dash (v := Lib.decDigits b) (no_comma ha (show (45 : UInt8).toNat < 48 by decide))
    have e : Lib.cut (Lib.decDigits a ++ 45 :: Lib.decDigits b) [45] = (Lib.decDigits a, Lib.decDigits b, true) := by
      unfold Lib.cut
      rw [if_pos (by rw [i]; omega), i]
      simp
    rw [e] at ec
    exact ⟨_, ec, atoiF_dec ha, .inl ⟨rfl, atoiF_dec hb⟩⟩
theorem i_back {l : List Int} {s : ByteArray} {W0 : List (List UInt8)} (hl : l.length ≤ 20) (hv : ∀ i : Nat, i < l.length → InB l i) (hn : W0.length ≤ 1000)
    (hfin : Ev (fun k => impl_ParsePages.l0 k s l (W0.map mk) ((W0.map mk).length : Int) (W0.length : Int)) (l, true)) : ∀ (W : List (List UInt8)) (i x : Nat), W0.drop x = W → x + W.length = W0.length → Words l i W →
    Ev (fun k => impl_ParsePages.l0 k s (l.take i) (W0.map mk) ((W0.map mk).length : Int) (x : Int)) (l, true) := by
  intro W
  induction W with
  | nil =>
    intro i x _ hx h
    obtain rfl : x = W0.length := by simpa using hx
    have e : i = l.length := h
    rw [e, List.take_length]
    exact hfin
  | cons w W ih =>
    intro i x hd hx h
    obtain ⟨e, a, b, g1, g2, g3, g4, g5, g6, g7, g8, g9, g10, g11⟩ := words_cons h hv
    have hxl : x < W0.length := by rw [List.length_cons] at hx; omega
    have hw : W0[x] = w := by
      have q := List.drop_eq_getElem_cons hxl
      rw [hd] at q
      injection q with q1 q2
      exact q1.symm
    have hd2 : W0.drop (x + 1) = W := by
      have q := List.drop_eq_getElem_cons hxl
      rw [hd] at q
      injection q with q1 q2
      exact q2.symm
    have w1 := isW_iw g9 (by omega) (by omega)
    rw [← hw, ← rd_map W0 x hxl] at w1
    have h0 : (0 : Int) ≤ (x : Int) := Int.natCast_nonneg _
    have h1 : (x : Int) < ((W0.map mk).length : Int) := by rw [List.length_map]; omega
    have ws1 : wrap64 ((x : Int) + 1) = ((x + 1 : Nat) : Int) := w_suc (by omega)
    have wb : wrap64 ((b : Int) - (a : Int)) = (b : Int) - (a : Int) := w64 (by clear ws1; omega) (by clear ws1; omega)
    have e1 : ∀ k, impl_ParsePages.l0 (k + 1) s (l.take i) (W0.map mk) ((W0.map mk).length : Int) (x : Int) = impl_ParsePages.j1 k s (l.take i) (a : Int) false (b : Int) false (W0.map mk) ((W0.map mk).length : Int) (x : Int) := fun k => r_word h1 h0 h1 w1
    have g := ih (e + 1) (x + 1) hd2 (by rw [List.length_cons] at hx; clear ws1 wb; omega) g11
    have t := take_ints (l := l) (e - i) i (by clear ws1 wb; omega) (fun j h1 h2 => g10 j h1 (by clear ws1 wb; omega))
    rw [g3, show i + (e - i) + 1 = e + 1 by clear ws1 wb; omega] at t
    rw [← t] at g
    refine Ev.step2 ((e - i + 1) + 4) g fun k => ?_
    rw [show k + ((e - i + 1) + 4) = (k + (e - i + 1) + 1 + 2) + 1 by clear ws1 wb; omega, e1, r_good (by rw [wb]; clear ws1 wb; omega), r_run (by clear ws1 wb; omega) (e - i + 1) (a : Int) (l.take i) (by clear ws1 wb; omega) (by clear ws1 wb; omega) (by rw [List.length_take]; clear ws1 wb; omega), ws1]
theorem s_back {l : List Int} {s : ByteArray} {W0 : List (List UInt8)} (hl : l.length ≤ 20) (hv : ∀ i : Nat, i < l.length → InB l i) (hn : W0.length ≤ 1000)
    (hfin : Ev (fun k => spec_ParsePages.l0 k s l (W0.map mk) ((W0.map mk).length : Int) (W0.length : Int)) (l, true)) : ∀ (W : List (List UInt8)) (i x : Nat), W0.drop x = W → x + W.length = W0.length → Words l i W →
    Ev (fun k => spec_ParsePages.l0 k s (l.take i) (W0.map mk) ((W0.map mk).length : Int) (x : Int)) (l, true) := by
  intro W
  induction W with
  | nil =>
    intro i x _ hx h
    obtain rfl : x = W0.length := by simpa using hx
    have e : i = l.length := h
    rw [e, List.take_length]
    exact hfin
  | cons w W ih =>
    intro i x hd hx h
    obtain ⟨e, a, b, g1, g2, g3, g4, g5, g6, g7, g8, g9, g10, g11⟩ := words_cons h hv
    have hxl : x < W0.length := by rw [List.length_cons] at hx; omega
    have hw : W0[x] = w := by
      have q := List.drop_eq_getElem_cons hxl
      rw [hd] at q
      injection q with q1 q2
      exact q1.symm
    have hd2 : W0.drop (x + 1) = W := by
      have q := List.drop_eq_getElem_cons hxl
      rw [hd] at q
      injection q with q1 q2
      exact q2.symm
    obtain ⟨m, hm, w1⟩ := isW_sw g9 g5 g6 (by omega) g8
    rw [← hw, ← rd_map W0 x hxl] at w1
    have h0 : (0 : Int) ≤ (x : Int) := Int.natCast_nonneg _
    have h1 : (x : Int) < ((W0.map mk).length : Int) := by rw [List.length_map]; omega
    have ws1 : wrap64 ((x : Int) + 1) = ((x + 1 : Nat) : Int) := w_suc (by omega)
    obtain ⟨K, f, hf, e1⟩ := s_word (s := s) (out := l.take i) h1 h0 h1 w1
    have hf2 : f = false := by
      cases f with
      | false => rfl
      | true => exact absurd (show Good m (a : Int) (b : Int) from ⟨hm, by clear ws1; omega, by clear ws1; omega, by clear ws1; omega, by clear ws1; omega, by clear ws1; omega⟩) (hf.1 rfl)
    obtain ⟨M, g⟩ := ih (e + 1) (x + 1) hd2 (by rw [List.length_cons] at hx; clear ws1; omega) g11
    dsimp only at g
    have t := take_ints (l := l) (e - i) i (by clear ws1; omega) (fun j h1 h2 => g10 j h1 (by clear ws1; omega))
    rw [g3, show i + (e - i) + 1 = e + 1 by clear ws1; omega] at t
    rw [← t] at g
    refine ⟨M + K + (e - i + 1) + 3, fun k hk => ?_⟩
    obtain ⟨k, rfl⟩ : ∃ t, k = t + ((e - i + 1) + 3) := ⟨k - ((e - i + 1) + 3), by clear ws1; omega⟩
    dsimp only
    rw [show k + ((e - i + 1) + 3) = (k + (e - i + 1) + 1 + 1) + 1 by clear ws1; omega, e1 _ (by clear ws1; omega), hf2, spec_ParsePages.j1, if_neg (by decide), sp_run (by clear ws1; omega) (e - i + 1) (a : Int) (l.take i) (by clear ws1; omega) (by clear ws1; omega) (by rw [List.length_take]; clear ws1; omega), ws1]
    exact g k (by clear ws1; omega)
theorem mk_data (s : ByteArray) : mk s.data.toList = s := by
  apply ByteArray.ext
  simp [mk]
theorem map_mk {ws : List ByteArray} {L : List (List UInt8)} (h : ws.map (·.data.toList) = L) : ws = L.map mk := by
  subst h
  rw [List.map_map]
  have e : (mk ∘ fun x : ByteArray => x.data.toList) = id := by
    funext x
    exact mk_data x
  rw [e, List.map_id]
theorem Ev.det {α : Type} {f : Nat → Option α} {r t : α} (h : Ev f r) (g : Ev f t) : r = t := by
  obtain ⟨K, hK⟩ := h
  obtain ⟨M, hM⟩ := g
  have a := hK (K + M) (by omega)
  have b := hM (K + M) (by omega)
  rw [a] at b
  exact Option.some.inj b
theorem tl_loop (s : ByteArray) (m : Nat) : ∀ (i : Nat) (r : List UInt8), s.size - i ≤ m → ByteArray.toList.loop s i r = r.reverse ++ s.data.toList.drop i := by
  have hs : s.size = s.data.toList.length := by rw [Array.length_toList]; rfl
  induction m with
  | zero =>
    intro i r h
    unfold ByteArray.toList.loop
    rw [if_neg (by omega), List.drop_eq_nil_of_le (by omega), List.append_nil]
  | succ m ih =>
    intro i r h
    unfold ByteArray.toList.loop
    by_cases c : i < s.size
    · have hlt : i < s.data.toList.length := by omega
      have e : s.get! i = s.data.toList[i] := by
        cases s with
        | mk a =>
          show a[i]! = _
          have hi : i < a.size := c
          rw [getElem!_pos a i hi]
          rfl
      rw [if_pos c, ih (i + 1) _ (by omega), e, List.drop_eq_getElem_cons hlt, List.reverse_cons, List.append_assoc]
      rfl
    · rw [if_neg c, List.drop_eq_nil_of_le (by omega), List.append_nil]
theorem tl_eq (s : ByteArray) : s.toList = s.data.toList := by
  have g := tl_loop s s.size 0 [] (by omega)
  rw [List.drop_zero] at g
  exact g
theorem tl_inj {s t : ByteArray} (h : s.toList = t.toList) : s = t := by
  rw [tl_eq, tl_eq] at h
  rw [← mk_data s, ← mk_data t, h]
/-- The words of a text of pages. -/
theorem back_words {l : List Int} {t : ByteArray} (h0 : 1 ≤ l.length) (hl : l.length ≤ 20) (hv : ∀ i : Nat, i < l.length → InB l i) (ht : Ev (fun k => impl_pagesText.f k l) t) :
    ∃ W, Words l 0 W ∧ W.length ≤ 20 ∧ sp 44 t.data.toList = W ∧ t.size ≤ 199 := by
  obtain ⟨W, w1, w2, w3⟩ := text_words hl (fun i hi => ⟨(rd l (i : Int)).toNat, by have := hv i hi; unfold InB at this; omega, by have := hv i hi; unfold InB at this; omega⟩) l.length 0 (by omega) (by omega)
  have hne : W ≠ [] := by
    rintro rfl
    have e : 0 = l.length := w1
    omega
  have ha := words_all hv W 0 w1
  have hc := cm_len W (fun w hw => (ha w hw).2)
  have hj := Cm_join W hne
  have hlen : (Lib.join W [44]).length + 1 ≤ 200 := by
    have e : ((44 : UInt8) :: Lib.join W [44]).length = (Cm W).length := by rw [hj]
    rw [List.length_cons] at e
    omega
  have g := w3 [] (mk (Lib.join W [44])) (by simp) (by
    rw [List.nil_append]
    unfold strings_Join.f
    rw [join_mk, if_pos (by omega), if_pos (by rw [List.length_map]; omega)])
  have e : t = mk (Lib.join W [44]) := Ev.det ht g
  refine ⟨W, w1, by omega, ?_, ?_⟩
  · have em : (mk (Lib.join W [44])).data.toList = Lib.join W [44] := by simp [mk]
    rw [e, em]
    exact sp_join W hne (fun w hw => (ha w hw).1)
  · rw [e, mk_size]; omega
theorem few_app {n m : Nat} {a b : List UInt8} (ha : Few n a) (hb : Few m b) : Few (n + m) (a ++ b) := by
  intro p q r e g
  rw [List.append_eq_append_iff] at e
  rcases e with ⟨x, _, h2⟩ | ⟨x, h1, h2⟩
  · have := hb x q r h2 g
    omega
  · rw [List.append_eq_append_iff] at h2
    rcases h2 with ⟨y, h3, _⟩ | ⟨y, h3, h4⟩
    · have := ha p q y (by rw [h1, h3]) g
      omega
    · have g1 := ha p x [] (by rw [h1]; simp) (fun c hc => g c (by rw [h3]; simp [hc]))
      have g2 := hb [] y r (by rw [h4]; simp) (fun c hc => g c (by rw [h3]; simp [hc]))
      rw [h3, List.length_append]
      omega
theorem few_len {n : Nat} {l : List UInt8} (h : l.length ≤ n) : Few n l := by
  intro p q r e _
  have := congrArg List.length e
  simp at this
  omega
theorem few_sep {n : Nat} {a b : List UInt8} {c : UInt8} (ha : Few n a) (hb : Few n b) (hc : ¬ Dig c) : Few n (a ++ c :: b) := by
  intro p q r e g
  rw [List.append_eq_append_iff] at e
  rcases e with ⟨x, _, h2⟩ | ⟨x, h1, h2⟩
  · cases x with
    | nil =>
      cases q with
      | nil => simp
      | cons y q =>
        simp only [List.nil_append, List.cons_append, List.cons.injEq] at h2
        exact absurd (g c (by rw [h2.1]; simp)) hc
    | cons y x =>
      simp only [List.cons_append, List.cons.injEq] at h2
      exact hb x q r h2.2 g
  · rw [List.append_eq_append_iff] at h2
    rcases h2 with ⟨y, h3, _⟩ | ⟨y, h3, h4⟩
    · exact ha p q y (by rw [h1, h3]) g
    · cases y with
      | nil =>
        rw [List.append_nil] at h3
        rw [h3]
        exact ha p x [] (by rw [h1]; simp) (fun d hd => g d (by rw [h3]; exact hd))
      | cons z y =>
        simp only [List.cons_append, List.cons.injEq] at h4
        exact absurd (g c (by rw [h3, h4.1]; simp)) hc
theorem few_edit {n : Nat} {l w : List UInt8} (h : Few n l) (hw : w.length ≤ 1) (i j : Nat) : Few (2 * n + 1) (l.take i ++ (w ++ l.drop j)) := by
  have h1 : Few n (l.take i) := Few.part (p := []) (r := l.drop i) (by simpa using h)
  have h2 : Few n (l.drop j) := Few.part (p := l.take j) (r := []) (by simpa using h)
  exact (few_app h1 (few_app (few_len hw) h2)).mono (by omega)
theorem isW_few {w : List UInt8} {a b : Nat} (h : IsW w a b) (ha : a ≤ 999) (hb : b ≤ 999) : Few 3 w := by
  have h1 := dec_len 2 a (by omega)
  have h2 := dec_len 2 b (by omega)
  rcases h with ⟨rfl, _⟩ | rfl
  · exact few_len h1
  · exact few_sep (few_len h1) (few_len h2) (by unfold Dig; decide)
theorem words_few {l : List Int} (hv : ∀ i : Nat, i < l.length → InB l i) (h9 : ∀ i : Nat, i < l.length → rd l (i : Int) ≤ 999) : ∀ (W : List (List UInt8)) (i : Nat), Words l i W → ∀ w ∈ W, Few 3 w := by
  intro W
  induction W with
  | nil => intro i _ w hw; simp at hw
  | cons w W ih =>
    intro i h x hx
    obtain ⟨e, a, b, g1, g2, g3, g4, _, _, _, _, h5, _, h6⟩ := words_cons h hv
    have q1 := h9 i (by omega)
    have q2 := h9 e g2
    rw [List.mem_cons] at hx
    rcases hx with rfl | hx
    · exact isW_few h5 (by omega) (by omega)
    · exact ih _ h6 x hx
theorem join_few : ∀ (W : List (List UInt8)), (∀ w ∈ W, Few 3 w) → Few 3 (Lib.join W [44])
  | [], _ => few_len (by simp [Lib.join, List.intercalate])
  | [a], g => by
    have e : Lib.join [a] [44] = a := by simp [Lib.join, List.intercalate]
    rw [e]
    exact g a (by simp)
  | a :: b :: t, g => by
    have e : Lib.join (a :: b :: t) [44] = a ++ ((44 : UInt8) :: Lib.join (b :: t) [44]) := by
      simp [Lib.join, List.intercalate, List.intersperse]
    rw [e]
    exact few_sep (g a (by simp)) (join_few (b :: t) (fun w hw => g w (List.mem_cons_of_mem _ hw))) (by unfold Dig; decide)
theorem rd_mem {l : List Int} {i : Nat} (h : i < l.length) : rd l (i : Int) ∈ l := by
  unfold rd
  rw [List.getD_eq_getElem?_getD, Int.toNat_natCast, List.getElem?_eq_getElem h]
  exact List.getElem_mem _
theorem sure_l0 {l : List Int} (hb : Bytes l) (d : Nat) : ∀ (x : Int) (out : List Int) (p s : Int), 1 ≤ x → x + 31 * (d : Int) ≤ 300 → 0 ≤ p → p + 4 * (d : Int) ≤ 100 → 1 ≤ out.length → out.length + d ≤ 8 → (∀ v ∈ out, 1 ≤ v ∧ v ≤ 300) →
    ∃ out' p' s', Ev (fun k => spec_l1Cur_surePages.l0 k x out (d : Int) l p s) (out', p', s') ∧ 1 ≤ out'.length ∧ out'.length ≤ 8 ∧ (∀ v ∈ out', 1 ≤ v ∧ v ≤ 300) ∧ 0 ≤ p' ∧ p' ≤ 100 := by
  induction d with
  | zero =>
    intro x out p s hx hx2 hp hp2 ho ho2 hv
    exact ⟨out, p, s, Ev.fin fun k => by rw [spec_l1Cur_surePages.l0, if_neg (by decide)], ho, by omega, hv, hp, by omega⟩
  | succ d ih =>
    intro x out p s hx hx2 hp hp2 ho ho2 hv
    obtain ⟨v, p1, s1, e1, hv1, g1, g2⟩ := pick_ok hb s hp (by omega) (n := 4) (by decide)
    obtain ⟨u, p2, s2, e2, hu, k1, k2⟩ := pick_ok hb s1 g1 (by omega) (n := 30) (by decide)
    obtain ⟨y, hy, y1, y2⟩ : ∃ y : Int, wrap64 (x + (wrap64 (1 + (wrap64 ((wrap64 (Int.tdiv v 3)) * u))))) = y ∧ 1 ≤ y ∧ y ≤ x + 31 := by
      have t : Int.tdiv v 3 = v / 3 := td hv1.1
      have q : v / 3 = 0 ∨ v / 3 = 1 := by omega
      rw [t]
      rcases q with q | q
      · have a : wrap64 ((0 : Int) * u) = 0 := by rw [Int.zero_mul]; exact w64 (by omega) (by omega)
        have b : wrap64 (0 : Int) = 0 := w64 (by omega) (by omega)
        have c : wrap64 (1 + (0 : Int)) = 1 := w64 (by omega) (by omega)
        rw [q, b, a, c]
        exact ⟨x + 1, w64 (by omega) (by omega), by omega, by omega⟩
      · have b : wrap64 (1 : Int) = 1 := w64 (by omega) (by omega)
        have a : wrap64 ((1 : Int) * u) = u := by rw [Int.one_mul]; exact w64 (by omega) (by omega)
        have c : wrap64 (1 + u) = 1 + u := w64 (by omega) (by omega)
        rw [q, b, a, c]
        exact ⟨x + (1 + u), w64 (by omega) (by omega), by omega, by omega⟩
    have w : wrap64 (((d + 1 : Nat) : Int) - 1) = (d : Int) := by rw [show ((d + 1 : Nat) : Int) - 1 = (d : Int) by omega]; exact w64 (by omega) (by omega)
    obtain ⟨out', p', s', r, r2⟩ := ih y (out ++ [y]) p2 s2 y1 (by clear w hy; omega) k1 (by clear w hy; omega) (by simp) (by rw [List.length_append]; simp; clear w hy; omega) (by
      intro z hz
      rw [List.mem_append, List.mem_singleton] at hz
      rcases hz with hz | rfl
      · exact hv z hz
      · clear w hy; omega)
    refine ⟨out', p', s', r.step fun k _ => ?_, r2⟩
    rw [spec_l1Cur_surePages.l0, if_pos (by clear w hy; omega), e1, Option.bind_some]
    dsimp only
    rw [e2, Option.bind_some, if_pos (by clear w hy; omega)]
    dsimp only
    rw [hy, w]
theorem sure_ok {l : List Int} (hb : Bytes l) : ∃ out p s, Ev (fun k => spec_l1Cur_surePages.f k l 0 0) (out, p, s) ∧ 1 ≤ out.length ∧ out.length ≤ 8 ∧ (∀ v ∈ out, 1 ≤ v ∧ v ≤ 300) ∧ 0 ≤ p ∧ p ≤ 100 := by
  obtain ⟨v, p1, s1, e1, hv1, g1, g2⟩ := pick_ok hb 0 (Int.le_refl 0) (by decide) (n := 30) (by decide)
  obtain ⟨u, p2, s2, e2, hu, k1, k2⟩ := pick_ok hb s1 g1 (by omega) (n := 8) (by decide)
  obtain ⟨d, rfl⟩ := Int.eq_ofNat_of_zero_le hu.1
  have w : wrap64 (1 + v) = 1 + v := w64 (by omega) (by omega)
  obtain ⟨out', p', s', ⟨K, hK⟩, r2⟩ := sure_l0 hb d (1 + v) [1 + v] p2 s2 (by clear w; omega) (by clear w; omega) k1 (by clear w; omega) (by simp) (by simp; clear w; omega) (by
    intro z hz
    rw [List.mem_singleton] at hz
    clear w
    omega)
  refine ⟨out', p', s', ⟨K, fun k hk => ?_⟩, r2⟩
  show spec_l1Cur_surePages.f k l 0 0 = _
  unfold spec_l1Cur_surePages.f
  rw [e1, Option.bind_some]
  dsimp only
  rw [e2, Option.bind_some, w]
  exact hK k hk
theorem drawText_l0 {l : List Int} (hb : Bytes l) (d : Nat) : ∀ (x : Nat) (out : List Int) (p s : Int), x + d = 21 → out.length = x → 1 ≤ x → 0 ≤ p → p + 4 * (d : Int) ≤ 10000 →
    ∃ L, Ev (fun k => spec_DrawPagesText.l0 k out (x : Int) l p s) L ∧ L.length ≤ 21 := by
  induction d with
  | zero =>
    intro x out p s hx ho h1 hp hp2
    obtain ⟨v, p1, s1, e1, hv1, g1, g2⟩ := pick_ok hb s hp (by omega) (n := 2) (by decide)
    have w : wrap64 (20 + v) = 20 + v := w64 (by omega) (by omega)
    refine ⟨out, Ev.fin fun k => ?_, by omega⟩
    rw [spec_DrawPagesText.l0, e1, Option.bind_some]
    dsimp only
    rw [w, if_neg (by clear w; omega)]
  | succ d ih =>
    intro x out p s hx ho h1 hp hp2
    obtain ⟨v, p1, s1, e1, hv1, g1, g2⟩ := pick_ok hb s hp (by omega) (n := 2) (by decide)
    have w : wrap64 (20 + v) = 20 + v := w64 (by omega) (by omega)
    by_cases c : (x : Int) < 20 + v
    · have w1 : wrap64 ((x : Int) - 1) = ((x - 1 : Nat) : Int) := w_pre h1 (by omega)
      have w2 : wrap64 ((x : Int) + 1) = ((x + 1 : Nat) : Int) := w_suc (by omega)
      obtain ⟨L, r, r2⟩ := ih (x + 1) (out ++ [wrap64 ((rd out ((x - 1 : Nat) : Int)) + 1)]) p1 s1 (by clear w w1 w2; omega) (by rw [List.length_append]; simp; clear w w1 w2; omega) (by clear w w1 w2; omega) g1 (by clear w w1 w2; omega)
      refine ⟨L, r.step fun k _ => ?_, r2⟩
      rw [spec_DrawPagesText.l0, e1, Option.bind_some]
      dsimp only
      rw [w, if_pos c, w1, if_pos (Int.natCast_nonneg _), if_pos (by clear w w1 w2; omega), if_pos (by clear w w1 w2; omega), w2]
    · refine ⟨out, Ev.fin fun k => ?_, by clear w; omega⟩
      rw [spec_DrawPagesText.l0, e1, Option.bind_some]
      dsimp only
      rw [w, if_neg c]
theorem drawText_ok {l : List Int} (hb : Bytes l) : ∃ L, Ev (fun k => spec_DrawPagesText.f k l) L ∧ L.length ≤ 21 := by
  obtain ⟨out, p, s, ⟨K, e⟩, h1, h2, _, h4, h5⟩ := sure_ok hb
  dsimp only at e
  obtain ⟨v, p1, s1, e1, hv1, g1, g2⟩ := pick_ok hb s h4 (by omega) (n := 14) (by decide)
  by_cases c0 : v = 0
  · refine ⟨[], ⟨K, fun k hk => ?_⟩, by simp⟩
    show spec_DrawPagesText.f k l = _
    unfold spec_DrawPagesText.f
    rw [e k hk, Option.bind_some]
    dsimp only
    rw [e1, Option.bind_some]
    dsimp only
    rw [if_pos c0]
  by_cases c1 : v = 1
  · obtain ⟨u, p2, s2, e2, _, _, _⟩ := among_ok hb s1 g1 (by omega) (xs := ([(-1), 0, 1, 2000, 2001, 4611686018427387904] : List Int)) (by decide) (by decide)
    refine ⟨out ++ [u], ⟨K, fun k hk => ?_⟩, by rw [List.length_append]; simp; omega⟩
    show spec_DrawPagesText.f k l = _
    unfold spec_DrawPagesText.f
    rw [e k hk, Option.bind_some]
    dsimp only
    rw [e1, Option.bind_some]
    dsimp only
    rw [if_neg c0, if_pos c1, e2, Option.bind_some, if_pos (by omega)]
  by_cases c2 : v = 2
  · obtain ⟨L, ⟨M, r⟩, r2⟩ := drawText_l0 hb (21 - out.length) out.length out p1 s1 (by omega) rfl h1 g1 (by omega)
    refine ⟨L, ⟨K + M, fun k hk => ?_⟩, r2⟩
    show spec_DrawPagesText.f k l = _
    unfold spec_DrawPagesText.f
    rw [e k (by omega), Option.bind_some]
    dsimp only
    rw [e1, Option.bind_some]
    dsimp only
    rw [if_neg c0, if_neg c1, if_pos c2]
    exact r k (by omega)
  · refine ⟨out, ⟨K, fun k hk => ?_⟩, by omega⟩
    show spec_DrawPagesText.f k l = _
    unfold spec_DrawPagesText.f
    rw [e k hk, Option.bind_some]
    dsimp only
    rw [e1, Option.bind_some]
    dsimp only
    rw [if_neg c0, if_neg c1, if_neg c2]
/-- The bytes that an edit puts in. -/
abbrev spW : ByteArray := ⟨#[48, 49, 50, 51, 45, 44, 120]⟩
theorem spW_size : spW.size = 7 := rfl
theorem str_one (x : Int) : strOfNums [x] = mk [UInt8.ofNat x.toNat] := rfl
theorem spo_step {l : List Int} (hb : Bytes l) {T : List UInt8} (h1 : 1 ≤ T.length) (h2 : T.length ≤ 1000) {n : Nat} (hn : n ≤ 1000) {p : Int} (s : Int) (hp : 0 ≤ p) (hp2 : p ≤ 1000) :
    ∃ (w : List UInt8) (i j : Nat) (p' s' : Int), w.length ≤ 1 ∧ i ≤ T.length ∧ i ≤ j ∧ 0 ≤ p' ∧ p' ≤ p + 6 ∧
      ∀ k, spec_l1Cur_spoilt.l0 (k + 2) (mk T) spW ((n + 1 : Nat) : Int) l p s = spec_l1Cur_spoilt.l0 k (mk (T.take i ++ (w ++ T.drop j))) spW (n : Int) l p' s' := by
  have hs : ((mk T).size : Int) = (T.length : Int) := by rw [mk_size]
  have hsn : (mk T).size = T.length := mk_size T
  obtain ⟨v, p1, s1, e1, hv, g1, g2⟩ := pick_ok hb s hp (by omega) (n := ((mk T).size : Int)) (by omega)
  obtain ⟨i, rfl⟩ := Int.eq_ofNat_of_zero_le hv.1
  have hi : i < T.length := by omega
  obtain ⟨u, p2, s2, e2, hu, k1, k2⟩ := pick_ok hb s1 g1 (by omega) (n := (spW.size : Int)) (by decide)
  have hu7 : u < (spW.size : Int) := by rw [spW_size] at hu ⊢; omega
  obtain ⟨c, p3, s3, e3, hc, m1, m2⟩ := pick_ok hb s2 k1 (by omega) (n := 3) (by decide)
  have w : wrap64 (((n + 1 : Nat) : Int) - 1) = (n : Int) := by rw [show ((n + 1 : Nat) : Int) - 1 = (n : Int) by omega]; exact w64 (by omega) (by omega)
  have wi : wrap64 ((i : Int) + 1) = ((i + 1 : Nat) : Int) := w_suc (by clear w; omega)
  have x1 : (mk T).extract 0 i = mk (T.take i) := by rw [mk_extract, List.drop_zero]
  have x2 : (mk T).extract i (mk T).size = mk (T.drop i) := by rw [mk_extract, hsn, List.take_length]
  have x3 : (mk T).extract (i + 1) (mk T).size = mk (T.drop (i + 1)) := by rw [mk_extract, hsn, List.take_length]
  have base : ∀ k, spec_l1Cur_spoilt.l0 (k + 2) (mk T) spW ((n + 1 : Nat) : Int) l p s = spec_l1Cur_spoilt.j1 (k + 1) (mk T) spW ((n + 1 : Nat) : Int) true l p s := by
    intro k
    rw [show k + 2 = (k + 1) + 1 by rfl, spec_l1Cur_spoilt.l0, if_pos (by clear w wi; omega), decide_eq_true (by clear w wi; omega)]
  obtain ⟨b, hbb⟩ : ∃ b, strOfNums [bt spW u] = mk [b] := ⟨_, str_one _⟩
  by_cases c0 : c = 0
  · refine ⟨[b], i, i, p3, s3, by simp, by clear w wi; omega, Nat.le_refl _, m1, by clear w wi; omega, fun k => ?_⟩
    rw [base, spec_l1Cur_spoilt.j1, if_pos rfl, e1, Option.bind_some]
    dsimp only
    rw [e2, Option.bind_some]
    dsimp only
    rw [if_pos hu.1, if_pos hu7, Option.bind_some, e3, Option.bind_some]
    dsimp only
    rw [if_pos c0, if_pos (Int.natCast_nonneg _), if_pos (by clear w wi; omega), Int.toNat_natCast, hbb, x1, x2, mk_app, mk_app, w, List.append_assoc, if_pos (by rw [mk_size, mk_size, List.length_take]; simp; clear w wi; omega), if_pos (by rw [mk_size, mk_size, List.length_append, List.length_take, List.length_drop]; simp; clear w wi; omega)]
  · by_cases c1 : c = 1
    · refine ⟨[b], i, i + 1, p3, s3, by simp, by clear w wi; omega, by clear w wi; omega, m1, by clear w wi; omega, fun k => ?_⟩
      rw [base, spec_l1Cur_spoilt.j1, if_pos rfl, e1, Option.bind_some]
      dsimp only
      rw [e2, Option.bind_some]
      dsimp only
      rw [if_pos hu.1, if_pos hu7, Option.bind_some, e3, Option.bind_some]
      dsimp only
      rw [if_neg c0, if_pos c1, if_pos (Int.natCast_nonneg _), if_pos (by clear w wi; omega), wi, Int.toNat_natCast, Int.toNat_natCast, hbb, x1, x3, mk_app, mk_app, w, List.append_assoc, if_pos (by rw [mk_size, mk_size, List.length_take]; simp; clear w wi; omega), if_pos (Int.natCast_nonneg _), if_pos (by clear w wi; omega), if_pos (by rw [mk_size, mk_size, List.length_append, List.length_take, List.length_drop]; simp; clear w wi; omega)]
    · refine ⟨[], i, i + 1, p3, s3, by simp, by clear w wi; omega, by clear w wi; omega, m1, by clear w wi; omega, fun k => ?_⟩
      rw [base, spec_l1Cur_spoilt.j1, if_pos rfl, e1, Option.bind_some]
      dsimp only
      rw [e2, Option.bind_some]
      dsimp only
      rw [if_pos hu.1, if_pos hu7, Option.bind_some, e3, Option.bind_some]
      dsimp only
      rw [if_neg c0, if_neg c1, if_pos (Int.natCast_nonneg _), if_pos (by clear w wi; omega), wi, Int.toNat_natCast, Int.toNat_natCast, x1, x3, mk_app, w, List.nil_append, if_pos (Int.natCast_nonneg _), if_pos (by clear w wi; omega), if_pos (by rw [mk_size, mk_size, List.length_take, List.length_drop]; clear w wi; omega)]
def edits : Nat → Nat → Nat
  | m, 0 => m
  | m, d + 1 => edits (2 * m + 1) d
theorem edits_le (d : Nat) : ∀ m, m ≤ edits m d := by
  induction d with
  | zero => intro m; exact Nat.le_refl _
  | succ d ih => intro m; have := ih (2 * m + 1); show m ≤ edits (2 * m + 1) d; omega
theorem spo_l0 {l : List Int} (hb : Bytes l) (d : Nat) : ∀ (T : List UInt8) (m : Nat) (p s : Int), T.length + d ≤ 100 → d ≤ 2 → Few m T → 0 ≤ p → p + 6 * (d : Int) ≤ 1000 →
    ∃ T' p' s', Ev (fun k => spec_l1Cur_spoilt.l0 k (mk T) spW (d : Int) l p s) (mk T', p', s') ∧ T'.length ≤ T.length + d ∧ Few (edits m d) T' := by
  induction d with
  | zero =>
    intro T m p s hT hd hf hp hp2
    refine ⟨T, p, s, ⟨2, fun k hk => ?_⟩, Nat.le_refl _, hf⟩
    obtain ⟨k, rfl⟩ : ∃ t, k = t + 2 := ⟨k - 2, by omega⟩
    dsimp only
    rw [show k + 2 = (k + 1) + 1 by rfl, spec_l1Cur_spoilt.l0, if_neg (by decide), spec_l1Cur_spoilt.j1, if_neg (by decide)]
  | succ d ih =>
    intro T m p s hT hd hf hp hp2
    by_cases c : T.length = 0
    · refine ⟨T, p, s, ⟨2, fun k hk => ?_⟩, by omega, hf.mono (edits_le _ _)⟩
      obtain ⟨k, rfl⟩ : ∃ t, k = t + 2 := ⟨k - 2, by omega⟩
      dsimp only
      rw [show k + 2 = (k + 1) + 1 by rfl, spec_l1Cur_spoilt.l0, if_pos (by omega), decide_eq_false (by rw [mk_size]; omega), spec_l1Cur_spoilt.j1, if_neg (by decide)]
    · obtain ⟨w, i, j, p', s', g1, g2, g3, g4, g5, g6⟩ := spo_step hb (T := T) (n := d) (by omega) (by omega) (by omega) s hp (by omega)
      obtain ⟨T', p2, s2, r, r2, r3⟩ := ih (T.take i ++ (w ++ T.drop j)) (2 * m + 1) p' s' (by simp; omega) (by omega) (few_edit hf g1 i j) g4 (by omega)
      refine ⟨T', p2, s2, Ev.step2 2 r g6, ?_, r3⟩
      simp at r2
      omega
/-- The text that a draw gives to the readers. -/
theorem drawParse_ok {l : List Int} (hb : Bytes l) : ∃ s : ByteArray, Ev (fun k => spec_DrawParsePages.f k l) s ∧ s.size ≤ 100 ∧ Few 17 s.data.toList := by
  obtain ⟨out, p, s, ⟨K, e⟩, h1, h2, h3, h4, h5⟩ := sure_ok hb
  dsimp only at e
  have hv : ∀ i : Nat, i < out.length → InB out i := fun i hi => by have := h3 _ (rd_mem hi); unfold InB; omega
  have h9 : ∀ i : Nat, i < out.length → rd out (i : Int) ≤ 999 := fun i hi => by have := h3 _ (rd_mem hi); omega
  obtain ⟨t, ⟨M, t1⟩, t2⟩ := both_text h1 (by omega) (fun i hi => ⟨(rd out (i : Int)).toNat, by have := hv i hi; unfold InB at this; omega, by have := hv i hi; unfold InB at this; omega⟩)
  dsimp only at t1
  obtain ⟨T, rfl, hT, hf⟩ : ∃ T, t = mk T ∧ T.length ≤ 79 ∧ Few 3 T := by
    obtain ⟨W, w1, w2, w3⟩ := text_words (l := out) (by omega) (fun i hi => ⟨(rd out (i : Int)).toNat, by have := hv i hi; unfold InB at this; omega, by have := hv i hi; unfold InB at this; omega⟩) out.length 0 (by omega) (by omega)
    have hne : W ≠ [] := by
      rintro rfl
      have e : 0 = out.length := w1
      omega
    have ha := words_all hv W 0 w1
    have hc := cm_len W (fun w hw => (ha w hw).2)
    have hj := Cm_join W hne
    have hlen : (Lib.join W [44]).length + 1 ≤ 80 := by
      have e : ((44 : UInt8) :: Lib.join W [44]).length = (Cm W).length := by rw [hj]
      rw [List.length_cons] at e
      omega
    have g := w3 [] (mk (Lib.join W [44])) (by simp) (by
      rw [List.nil_append]
      unfold strings_Join.f
      rw [join_mk, if_pos (by omega), if_pos (by rw [List.length_map]; omega)])
    exact ⟨Lib.join W [44], Ev.det t2 g, by omega, join_few W (words_few hv h9 W 0 w1)⟩
  obtain ⟨b, p1, s1, e1, g1, g2⟩ := one_ok hb s h4 (by omega) (n := 3) (by decide)
  cases b with
  | false =>
    refine ⟨mk T, ⟨K + M, fun k hk => ?_⟩, by rw [mk_size]; omega, ?_⟩
    · show spec_DrawParsePages.f k l = _
      unfold spec_DrawParsePages.f
      rw [e k (by omega), Option.bind_some]
      dsimp only
      rw [t1 k (by omega), Option.bind_some, e1, Option.bind_some]
      dsimp only
      rw [if_neg (by decide)]
    · have em : (mk T).data.toList = T := by simp [mk]
      rw [em]
      exact hf.mono (by omega)
  | true =>
    obtain ⟨v, p2, s2, e2, hv2, k1, k2⟩ := pick_ok hb s1 g1 (by omega) (n := 2) (by decide)
    obtain ⟨d, hd⟩ : ∃ d : Nat, 1 + v = (d : Int) := ⟨(1 + v).toNat, by omega⟩
    have w : wrap64 (1 + v) = (d : Int) := by rw [hd]; exact w64 (by omega) (by omega)
    obtain ⟨T', p3, s3, ⟨M2, r⟩, r2, r3⟩ := spo_l0 hb d T 3 p2 s2 (by clear w; omega) (by clear w; omega) hf k1 (by clear w; omega)
    dsimp only at r
    refine ⟨mk T', ⟨K + M + M2, fun k hk => ?_⟩, by rw [mk_size]; clear w; omega, ?_⟩
    · show spec_DrawParsePages.f k l = _
      unfold spec_DrawParsePages.f
      rw [e k (by clear w; omega), Option.bind_some]
      dsimp only
      rw [t1 k (by clear w; omega), Option.bind_some, e1, Option.bind_some]
      dsimp only
      rw [if_pos rfl]
      unfold spec_l1Cur_spoilt.f
      rw [e2, Option.bind_some]
      dsimp only
      rw [w, r k (by clear w; omega), Option.bind_some]
    · have em : (mk T').data.toList = T' := by simp [mk]
      rw [em]
      have hd2 : d = 1 ∨ d = 2 := by clear w; omega
      rcases hd2 with rfl | rfl
      · exact r3.mono (by decide)
      · exact r3.mono (by decide)
theorem pages_of {l : List Int} (hl : l.length ≤ 1048576) (h : Ev (fun k => impl_arePages.f k l) true) : 1 ≤ l.length ∧ l.length ≤ 20 ∧ (∀ i, i < l.length → InB l i) ∧ Ev (fun k => spec_bpList.f k l) true := by
  obtain ⟨b, h1, h2, h3⟩ := list_ev hl
  obtain rfl := Ev.det h h2
  obtain ⟨g1, g2, g3⟩ := h3 rfl
  exact ⟨g1, g2, g3, h1⟩
theorem pages_of_spec {l : List Int} (hl : l.length ≤ 1048576) (h : Ev (fun k => spec_bpList.f k l) true) : Ev (fun k => impl_arePages.f k l) true := by
  obtain ⟨b, h1, h2, h3⟩ := list_ev hl
  obtain rfl := Ev.det h h1
  exact h2
theorem texts_of {l : List Int} (h0 : 1 ≤ l.length) (hl : l.length ≤ 20) (hv : ∀ i : Nat, i < l.length → InB l i) : ∃ t, Ev (fun k => spec_bpText.f k l) t ∧ Ev (fun k => impl_pagesText.f k l) t :=
  both_text h0 hl (fun i hi => ⟨(rd l (i : Int)).toNat, by have := hv i hi; unfold InB at this; omega, by have := hv i hi; unfold InB at this; omega⟩)
theorem impl_back {l : List Int} {s : ByteArray} (hl : l.length ≤ 1048576) (h : Ev (fun k => impl_arePages.f k l) true) (ht : Ev (fun k => impl_pagesText.f k l) s) : Ev (fun k => impl_ParsePages.f k s) (l, true) := by
  obtain ⟨h0, h20, hv, _⟩ := pages_of hl h
  obtain ⟨W, w1, w2, w3, w4⟩ := back_words h0 h20 hv ht
  have hs : Lib.splitB ⟨#[44]⟩ 0 (Lib.countB s ⟨#[44]⟩) s = W.map mk := map_mk (by rw [words_sp s 44, w3])
  have es : strings_Split.f s (⟨#[44]⟩ : ByteArray) = some (W.map mk) := by
    unfold strings_Split.f
    rw [if_pos (by omega), if_pos (by decide), hs]
  have hfin : Ev (fun k => impl_ParsePages.l0 k s l (W.map mk) ((W.map mk).length : Int) (W.length : Int)) (l, true) := by
    obtain ⟨M, m⟩ := h
    obtain ⟨M2, m2⟩ := ht
    dsimp only at m m2
    refine ⟨M + M2 + 1, fun k hk => ?_⟩
    obtain ⟨k, rfl⟩ : ∃ t, k = t + 1 := ⟨k - 1, by omega⟩
    dsimp only
    rw [impl_ParsePages.l0, if_neg (by rw [List.length_map]; omega), m k (by omega), Option.bind_some, if_pos rfl, m2 k (by omega), Option.bind_some, if_pos rfl]
  obtain ⟨K, hK⟩ := i_back h20 hv (by omega) hfin W 0 0 List.drop_zero (by omega) w1
  refine ⟨K, fun k hk => ?_⟩
  show impl_ParsePages.f k s = _
  unfold impl_ParsePages.f
  rw [if_neg (by omega), es, Option.bind_some]
  exact hK k hk
theorem spec_back {l : List Int} {s : ByteArray} (hs : s.size ≤ 100) (hl : l.length ≤ 1048576) (h : Ev (fun k => impl_arePages.f k l) true) (ht : Ev (fun k => impl_pagesText.f k l) s) : Ev (fun k => spec_ParsePages.f k s) (l, true) := by
  obtain ⟨h0, h20, hv, hb⟩ := pages_of hl h
  obtain ⟨W, w1, w2, w3, w4⟩ := back_words h0 h20 hv ht
  obtain ⟨t, t1, t2⟩ := texts_of h0 h20 hv
  obtain rfl := Ev.det t2 ht
  have hlen : t.data.toList.length ≤ 100 := by rw [Array.length_toList]; exact hs
  have es : ∀ k, 101 ≤ k → spec_l1Split.f k t 44 = some (W.map mk) := fun k hk => by
    have g := split_spec t.data.toList 44 (by omega) k (by omega)
    rw [mk_data, w3] at g
    exact g
  have hfin : Ev (fun k => spec_ParsePages.l0 k t l (W.map mk) ((W.map mk).length : Int) (W.length : Int)) (l, true) := by
    obtain ⟨M, m⟩ := hb
    obtain ⟨M2, m2⟩ := t1
    dsimp only at m m2
    refine ⟨M + M2 + 1, fun k hk => ?_⟩
    obtain ⟨k, rfl⟩ : ∃ t, k = t + 1 := ⟨k - 1, by omega⟩
    dsimp only
    rw [spec_ParsePages.l0, if_neg (by rw [List.length_map]; omega), m k (by omega), Option.bind_some, if_pos rfl, m2 k (by omega), Option.bind_some, if_pos rfl]
  obtain ⟨K, hK⟩ := s_back h20 hv (by omega) hfin W 0 0 List.drop_zero (by omega) w1
  refine ⟨K + 101, fun k hk => ?_⟩
  show spec_ParsePages.f k t = _
  unfold spec_ParsePages.f
  rw [if_neg (by omega), es k (by omega), Option.bind_some]
  exact hK k (by omega)
theorem sp_infix (c : UInt8) (l : List UInt8) : ∃ h t, sp c l = h :: t ∧ (∃ r, l = h ++ r) ∧ ∀ w ∈ t, ∃ p r, l = p ++ (w ++ r) := by
  induction l with
  | nil => exact ⟨[], [], rfl, ⟨[], rfl⟩, fun w hw => by simp at hw⟩
  | cons x l ih =>
    obtain ⟨h, t, e, ⟨r, hr⟩, ht⟩ := ih
    by_cases q : x = c
    · refine ⟨[], sp c l, by rw [sp, if_pos q], ⟨x :: l, rfl⟩, fun w hw => ?_⟩
      rw [e, List.mem_cons] at hw
      rcases hw with rfl | hw
      · exact ⟨[x], r, by rw [← hr]; rfl⟩
      · obtain ⟨p, r', h'⟩ := ht w hw
        exact ⟨x :: p, r', by rw [List.cons_append, ← h']⟩
    · refine ⟨x :: h, t, by rw [sp, if_neg q, e]; rfl, ⟨r, by rw [List.cons_append, ← hr]⟩, fun w hw => ?_⟩
      obtain ⟨p, r', h'⟩ := ht w hw
      exact ⟨x :: p, r', by rw [List.cons_append, ← h']⟩
theorem sp_part {c : UInt8} {l w : List UInt8} (h : w ∈ sp c l) : ∃ p r, l = p ++ (w ++ r) := by
  obtain ⟨a, t, e, ⟨r, hr⟩, ht⟩ := sp_infix c l
  rw [e, List.mem_cons] at h
  rcases h with rfl | h
  · exact ⟨[], r, by rw [List.nil_append]; exact hr⟩
  · exact ht w h
theorem sp_len (c : UInt8) (w : List UInt8) : (sp c w).length ≤ w.length + 1 := by
  induction w with
  | nil => simp [sp]
  | cons x l ih =>
    obtain ⟨h, t, e⟩ := sp_cons c l
    rw [sp]
    by_cases q : x = c
    · rw [if_pos q]; simp; omega
    · rw [if_neg q, e]; rw [e] at ih; simp at ih ⊢; omega
/-- Both readers read a text alike. -/
theorem parse_both {s : ByteArray} (hs : s.size ≤ 100) (hf : Few 17 s.data.toList) : ∃ r : List Int × Bool, r.1.length ≤ 1000000 ∧ Ev (fun k => impl_ParsePages.f k s) r ∧ Ev (fun k => spec_ParsePages.f k s) r ∧ Reads s r := by
  have hlen : s.data.toList.length ≤ 100 := by rw [Array.length_toList]; exact hs
  obtain ⟨L, hL⟩ : ∃ L, sp 44 s.data.toList = L := ⟨_, rfl⟩
  have hw : ∀ w ∈ L, w.length ≤ 100 ∧ Few 17 w := by
    intro w hw
    rw [← hL] at hw
    obtain ⟨p, r, e⟩ := sp_part hw
    refine ⟨?_, ?_⟩
    · have := congrArg List.length e
      simp at this
      have h2 : s.data.toList.length = s.data.size := by simp
      omega
    · rw [e] at hf
      exact hf.part
  have hn : L.length ≤ 101 := by
    have := sp_len 44 s.data.toList
    rw [hL] at this
    omega
  have eb : Lib.splitB ⟨#[44]⟩ 0 (Lib.countB s ⟨#[44]⟩) s = L.map mk := map_mk (by rw [words_sp s 44, hL])
  have es : strings_Split.f s (⟨#[44]⟩ : ByteArray) = some (L.map mk) := by
    unfold strings_Split.f
    rw [if_pos (by omega), if_pos (by decide), eb]
  have es2 : ∀ k, 101 ≤ k → spec_l1Split.f k s 44 = some (L.map mk) := fun k hk => by
    have g := split_spec s.data.toList 44 (by omega) k (by omega)
    rw [mk_data, hL] at g
    exact g
  obtain ⟨r, ⟨K, hK⟩, hr⟩ := r_all (s := s) (ws := L.map mk) (fun i hi => by
    rw [List.length_map] at hi
    rw [rd_map L i hi]
    have := hw _ (List.getElem_mem hi)
    exact fit_any (by omega) this.2) (by rw [List.length_map]; omega) (L.map mk).length 0 [] (by omega) (by simp) (by omega)
  obtain ⟨r', ⟨K', hK'⟩, hr'⟩ := s_all (s := s) (ws := L.map mk) (fun i hi => by
    rw [List.length_map] at hi
    rw [rd_map L i hi]
    have := hw _ (List.getElem_mem hi)
    exact sw_any _ (by omega)) (by rw [List.length_map]; omega) (L.map mk).length 0 [] (by omega) (by simp) (by omega)
  have g : Ev (fun k => impl_ParsePages.f k s) r := ⟨K, fun k hk => by
    show impl_ParsePages.f k s = _
    unfold impl_ParsePages.f
    rw [if_neg (by omega), es, Option.bind_some]
    exact hK k hk⟩
  have g' : Ev (fun k => spec_ParsePages.f k s) r' := ⟨K' + 101, fun k hk => by
    show spec_ParsePages.f k s = _
    unfold spec_ParsePages.f
    rw [if_neg (by omega), es2 k (by omega), Option.bind_some]
    exact hK' k (by omega)⟩
  have hr0 := hr
  rcases hr with e | ⟨e1, e2, e3, t, e4, e5⟩
  · rcases hr' with e' | ⟨f1, f2, f3, t, f4, f5⟩
    · rw [e] at g
      rw [e'] at g'
      exact ⟨_, by simp, g, g', .inl rfl⟩
    · obtain rfl := tl_inj f5
      have a := pages_of_spec (by omega) f3
      obtain ⟨h0, h20, hv, _⟩ := pages_of (by omega) a
      obtain ⟨u, u1, u2⟩ := texts_of h0 h20 hv
      obtain rfl := Ev.det u1 f4
      have b := impl_back (by omega) a u2
      have q : r' = (r'.1, true) := by rw [← f1]
      rw [← q] at b
      exact ⟨r', f2, b, g', .inr ⟨f1, f2, a, _, u2, rfl⟩⟩
  · obtain rfl := tl_inj e5
    have b := spec_back hs (by omega) e3 e4
    have q : r = (r.1, true) := by rw [← e1]
    rw [← q] at b
    exact ⟨r, e2, g, b, hr0⟩
theorem text_more {l : List Int} (hl : l.length ≤ 1048576) : ∃ r : ByteArray × Bool, Ev (fun k => spec_PagesText.f k l) r ∧ Ev (fun k => impl_PagesText.f k l) r ∧ (r.2 = true → Ev (fun k => impl_arePages.f k l) true ∧ Ev (fun k => impl_pagesText.f k l) r.1) := by
  obtain ⟨b, ⟨K, h1⟩, ⟨M, h2⟩, h3⟩ := list_ev hl
  dsimp only at h1 h2
  cases b with
  | false =>
    refine ⟨((⟨#[]⟩ : ByteArray), false), ⟨K, fun k hk => ?_⟩, ⟨M, fun k hk => ?_⟩, fun h => by cases h⟩
    · show spec_PagesText.f k l = _
      unfold spec_PagesText.f
      rw [h1 k hk, Option.bind_some, if_neg (by decide)]
    · show impl_PagesText.f k l = _
      unfold impl_PagesText.f
      rw [h2 k hk, Option.bind_some, if_neg (by decide)]
  | true =>
    obtain ⟨g1, g2, g3⟩ := h3 rfl
    obtain ⟨r, ⟨K2, r1⟩, ⟨M2, r2⟩⟩ := texts_of g1 g2 g3
    dsimp only at r1 r2
    refine ⟨(r, true), ⟨K + K2, fun k hk => ?_⟩, ⟨M + M2, fun k hk => ?_⟩, fun _ => ⟨⟨M, h2⟩, ⟨M2, r2⟩⟩⟩
    · show spec_PagesText.f k l = _
      unfold spec_PagesText.f
      rw [h1 k (by omega), Option.bind_some, if_pos rfl, r1 k (by omega), Option.bind_some]
    · show impl_PagesText.f k l = _
      unfold impl_PagesText.f
      rw [h2 k (by omega), Option.bind_some, if_pos rfl, r2 k (by omega), Option.bind_some]
theorem rises_l0 {l : List Int} (hl : l.length ≤ 1000) (hu : ∀ i, 1 ≤ i → i < l.length → Up l i) (d : Nat) : ∀ x : Nat, 1 ≤ x → l.length ≤ x + d → Ev (fun k => laws_xRises.l0 k l (x : Int)) true := by
  induction d with
  | zero => intro x h1 h; exact Ev.fin fun k => by rw [laws_xRises.l0, if_neg (by omega)]
  | succ d ih =>
    intro x h1 h
    by_cases c : l.length ≤ x
    · exact Ev.fin fun k => by rw [laws_xRises.l0, if_neg (by omega)]
    · have g := ih (x + 1) (by omega) (by omega)
      have u := hu x h1 (by omega)
      have w := w_pre (n := x) (by omega) (by omega)
      have w2 := w_suc (n := x) (by clear w; omega)
      unfold Up at u
      exact g.step fun k _ => by
        rw [laws_xRises.l0, if_pos (by clear w w2; omega), w, if_pos (Int.natCast_nonneg _), if_pos (by clear w w2; omega), if_pos (Int.natCast_nonneg _), if_neg (by clear w w2; omega), w2]
theorem rises_ok {l : List Int} (hl : l.length ≤ 1000) (h : Ev (fun k => impl_arePages.f k l) true) : Ev (fun k => laws_xRises.f k l) true := by
  obtain ⟨b, h1, h2⟩ := are_ev (l := l) (by omega) l.length 1 (Nat.le_refl _) (by omega)
  obtain rfl : b = true := Ev.det h1 h
  exact rises_l0 hl (h2.1 rfl).1 l.length 1 (Nat.le_refl _) (by omega)
/-- The program writes the text that it has read. -/
theorem again {s : ByteArray} {R : List Int} (h : Reads s (R, true)) : ∃ t : ByteArray, Ev (fun k => impl_PagesText.f k R) (t, true) ∧ t.toList = s.toList := by
  rcases h with e | ⟨_, e2, ⟨K, e3⟩, t, ⟨M, e4⟩, e5⟩
  · simp at e
  · dsimp only at e2 e3 e4
    refine ⟨t, ⟨K + M, fun k hk => ?_⟩, e5⟩
    show impl_PagesText.f k R = _
    unfold impl_PagesText.f
    rw [e3 k (by omega), Option.bind_some, if_pos rfl, e4 k (by omega), Option.bind_some]
theorem txt_all {l : List Int} (hb : Bytes l) : Txt l := by
  obtain ⟨L, ⟨K1, d1⟩, hL⟩ := drawText_ok hb
  obtain ⟨⟨tx, o1⟩, ⟨K2, d2⟩, ⟨K3, d3⟩, hT⟩ := text_more (l := L) (by omega)
  obtain ⟨s, ⟨K4, d4⟩, hs, hf⟩ := drawParse_ok hb
  obtain ⟨⟨R, o2⟩, hR, ⟨K5, d5⟩, ⟨K6, d6⟩, hr⟩ := parse_both hs hf
  dsimp only at d1 d2 d3 d4 d5 d6 hR hT
  obtain ⟨K7, d7⟩ : ∃ K7, ∀ k, K7 ≤ k → (if o2 = true then ((impl_PagesText.f k R).bind fun bt466 => (if bt466.2 = true then (some (bt466.1.toList == s.toList)) else (some false))) else (some true)) = some true := by
    cases o2 with
    | false => exact ⟨0, fun k _ => by rw [if_neg (by decide)]⟩
    | true =>
      obtain ⟨t, ⟨M, m⟩, e⟩ := again hr
      dsimp only at m
      refine ⟨M, fun k hk => ?_⟩
      rw [if_pos rfl, m k hk, Option.bind_some]
      dsimp only
      rw [if_pos rfl, e]
      simp
  obtain ⟨K8, d8⟩ : ∃ K8, ∀ k, K8 ≤ k → laws_FnPagesNumbered.j11 k L tx o1 s R o2 = some true := by
    cases o1 with
    | false =>
      refine ⟨K7 + 1, fun k hk => ?_⟩
      obtain ⟨k, rfl⟩ : ∃ t, k = t + 1 := ⟨k - 1, by omega⟩
      rw [laws_FnPagesNumbered.j11, if_neg (by decide)]
      exact d7 k (by omega)
    | true =>
      obtain ⟨g1, g2⟩ := hT rfl
      obtain ⟨M1, m1⟩ := impl_back (by omega) g1 g2
      obtain ⟨M2, m2⟩ := rises_ok (by omega) g1
      dsimp only at m1 m2
      refine ⟨K7 + M1 + M2 + L.length + 3, fun k hk => ?_⟩
      obtain ⟨k, rfl⟩ : ∃ t, k = t + 2 := ⟨k - 2, by omega⟩
      rw [show k + 2 = (k + 1) + 1 by rfl, laws_FnPagesNumbered.j11, if_pos rfl, m1 (k + 1) (by omega), Option.bind_some]
      dsimp only
      rw [if_pos rfl, xsame_self L (by omega) (k + 1) (by omega), Option.bind_some, if_pos rfl, m2 (k + 1) (by omega), Option.bind_some, laws_FnPagesNumbered.j12, if_neg (by decide)]
      exact d7 k (by omega)
  refine ⟨L, tx, o1, s, R, o2, K1 + K2 + K3 + K4 + K5 + K6 + K8, hR, fun k hk => ⟨d1 k (by omega), d3 k (by omega), d2 k (by omega), d4 k (by omega), d5 k (by omega), d6 k (by omega)⟩, fun k hk => d8 k (by omega)⟩

theorem FnPagesNumbered : laws_FnPagesNumbered.Pure := by
  intro l0 l1 _ _ h0 _ _ h1
  exact law_of_text (bytes_of h0) (bytes_of h1) (txt_all (bytes_of h1))

end Go.Proofs.YtjkfgeigicljpaaGreatDoor.Pure
