/- The program's DigitsOfBook returns what the reference's DigitsOfBook returns: the plain statement, over numbers and lists, for all arguments; each number of its Go kind, each string and slice within the reader's bounds. -/
import Derived.Test.YtjaeddckoocgbaaDoorPFnExactDigitsOfBookx1
namespace Go.Proofs.YtjaeddckoocgbaaDoor.Pure
open Go.RowKit Go.Proofs.YtjaeddckoocgbaaDoor.PFnExactDigitsOfBook Go.Proofs.YtjaeddckoocgbaaDoorW.PrintWords Go.Proofs.YtjaeddckoocgbaaDoorW.PrintLast
set_option linter.unusedVariables false
set_option linter.unusedSimpArgs false

theorem w64 {x : Int} (h0 : -9223372036854775808 ≤ x) (h1 : x ≤ 9223372036854775807) : wrap64 x = x := by unfold wrap64; omega
theorem td {a b : Int} (h : 0 ≤ a) : Int.tdiv a b = a / b := Int.tdiv_eq_ediv_of_nonneg h
theorem tm {a b : Int} (h : 0 ≤ a) : Int.tmod a b = a % b := Int.tmod_eq_emod_of_nonneg h
theorem wf64 {n : Int} (h : (Lit.int .i64 n).wf = true) : -9223372036854775808 ≤ n ∧ n ≤ 9223372036854775807 := by
  simp [Lit.wf, IntKind.min, IntKind.max, IntKind.signed, IntKind.bits] at h
  omega
theorem in_spec (a b c : Int) : spec_l1In.f a b c = some (decide (b ≤ a ∧ a ≤ c)) := by
  unfold spec_l1In.f; by_cases h : b ≤ a <;> simp [h]
theorem in_impl (a b c : Int) : impl_within.f a b c = some (decide (b ≤ a ∧ a ≤ c)) := by
  unfold impl_within.f; by_cases h : b ≤ a <;> simp [h]
theorem book_spec (a : Int) : spec_bpBook.f a = some (decide (1 ≤ a ∧ a ≤ 2000)) := by simp [spec_bpBook.f, in_spec]
theorem book_impl (a : Int) : impl_isBook.f a = some (decide (1 ≤ a ∧ a ≤ 2000)) := by simp [impl_isBook.f, in_impl]
theorem ba_append (a b : List UInt8) : ((⟨a.toArray⟩ : ByteArray) ++ (⟨b.toArray⟩ : ByteArray)) = ⟨(a ++ b).toArray⟩ := by
  simp [ByteArray.mk_append_mk]
theorem ba_size (a : List UInt8) : (⟨a.toArray⟩ : ByteArray).size = a.length := by simp [ByteArray.size]
theorem dec_len (k : Nat) : ∀ n : Nat, n < 10 ^ (k + 1) → (Lib.decDigits n).length ≤ k + 1 := by
  induction k with
  | zero =>
    intro n h
    rw [Lib.decDigits_one (by simpa using h)]
    simp
  | succ k ih =>
    intro n h
    by_cases h2 : n < 10
    · rw [Lib.decDigits_one h2]; simp
    · have h3 : n / 10 < 10 ^ (k + 1) := by
        rw [Nat.pow_succ] at h
        omega
      have := ih (n / 10) h3
      rw [Lib.decDigits, dif_neg h2]
      simp
      omega
theorem dec_le (n : Nat) (h : n ≤ 1000000000000000000) : (Lib.decDigits n).length ≤ 21 := by
  have := dec_len 18 n (by omega)
  omega
theorem dec_pos (n : Nat) : 1 ≤ (Lib.decDigits n).length := by
  rw [Lib.decDigits]
  split <;> simp
theorem digit_str (d : Nat) (h : d < 10) : strOfNums [wrap64 (48 + (d : Int)) % 256] = ⟨[UInt8.ofNat (48 + d)].toArray⟩ := by
  rw [w64 (by omega) (by omega)]
  have e : ((48 : Int) + d) % 256 = ((48 + d : Nat) : Int) := by omega
  rw [e]
  simp only [strOfNums, List.map_cons, List.map_nil, Int.toNat_natCast]
theorem num_spec (k : Nat) : ∀ n : Nat, n < 10 ^ (k + 1) → n < 1000000000000000000 → ∀ j, k < j → spec_l1Num.f j (n : Int) = some ⟨(Lib.decDigits n).toArray⟩ := by
  induction k with
  | zero =>
    intro n h h1 j hj
    obtain ⟨j, rfl⟩ : ∃ m, j = m + 1 := ⟨j - 1, by omega⟩
    have h2 : n < 10 := by simpa using h
    rw [spec_l1Num.f, if_pos (by omega), digit_str n h2, Lib.decDigits_one h2]
  | succ k ih =>
    intro n h h1 j hj
    obtain ⟨j, rfl⟩ : ∃ m, j = m + 1 := ⟨j - 1, by omega⟩
    rw [spec_l1Num.f]
    by_cases h2 : n < 10
    · rw [if_pos (by omega), digit_str n h2, Lib.decDigits_one h2]
    · have e1 : wrap64 (Int.tdiv (n : Int) 10) = ((n / 10 : Nat) : Int) := by rw [td (by omega), w64 (by omega) (by omega)]; omega
      have e2 : Int.tmod (n : Int) 10 = ((n % 10 : Nat) : Int) := by rw [tm (by omega)]; omega
      have h3 : n / 10 < 10 ^ (k + 1) := by
        rw [Nat.pow_succ] at h
        omega
      rw [if_neg (by omega), e1, e2, ih (n / 10) h3 (by omega) j (by omega)]
      simp only [Option.bind_some]
      rw [digit_str (n % 10) (by omega), ba_append, ba_size, ba_size]
      have hd : Lib.decDigits n = Lib.decDigits (n / 10) ++ [UInt8.ofNat (48 + n % 10)] := by rw [Lib.decDigits, dif_neg h2]
      rw [← hd]
      have hl := dec_le (n / 10) (by omega)
      rw [if_pos (by simp; omega)]
/-- A page's number as the reference writes it. -/
theorem num_nat {n : Nat} (h1 : n ≤ 9999) (k : Nat) (hk : 4 ≤ k) : spec_l1Num.f k (n : Int) = some ⟨(Lib.decDigits n).toArray⟩ :=
  num_spec 3 n (by omega) (by omega) k (by omega)
theorem itoa_nat {n : Nat} (h1 : n ≤ 9999) : strconv_Itoa.f (n : Int) = some ⟨(Lib.decDigits n).toArray⟩ := by
  unfold strconv_Itoa.f
  rw [if_pos (by omega), if_pos (by omega), Lib.itoa_nonneg]
/-- How many digits all numbers up to n have. -/
def preN : Nat → Nat
  | 0 => 0
  | n + 1 => preN n + (Lib.decDigits (n + 1)).length
theorem preN_bd (n : Nat) (h : n ≤ 9999) : n ≤ preN n ∧ preN n ≤ 21 * n := by
  induction n with
  | zero => simp [preN]
  | succ n ih =>
    have h1 := ih (by omega)
    have h2 := dec_le (n + 1) (by omega)
    have h3 := dec_pos (n + 1)
    simp only [preN]
    omega
theorem digits_loop (p : Nat) (hp : p ≤ 2000) (d : Nat) : ∀ x : Nat, x + d = p → ∀ k, d + 5 ≤ k →
    spec_bpDigits.l0 k (p : Int) (preN x : Int) ((x + 1 : Nat) : Int) = some (preN p : Int) ∧ impl_digitsOf.l0 k (p : Int) (preN x : Int) ((x + 1 : Nat) : Int) = some (preN p : Int) := by
  induction d with
  | zero =>
    intro x h k hk
    obtain ⟨k, rfl⟩ : ∃ m, k = m + 1 := ⟨k - 1, by omega⟩
    obtain rfl : x = p := by omega
    rw [spec_bpDigits.l0, impl_digitsOf.l0, if_neg (show ¬ ((x + 1 : Nat) : Int) ≤ (x : Int) by omega), if_neg (show ¬ ((x + 1 : Nat) : Int) ≤ (x : Int) by omega)]
    exact ⟨rfl, rfl⟩
  | succ d ih =>
    intro x h k hk
    obtain ⟨k, rfl⟩ : ∃ m, k = m + 1 := ⟨k - 1, by omega⟩
    have g := ih (x + 1) (by omega) k (by omega)
    have hb := preN_bd x (by omega)
    have hl := dec_le (x + 1) (by omega)
    have e1 : wrap64 ((preN x : Int) + (((Lib.decDigits (x + 1)).length : Nat) : Int)) = ((preN (x + 1) : Nat) : Int) := by
      rw [w64 (by omega) (by omega)]; simp only [preN]; omega
    have e2 : wrap64 (((x + 1 : Nat) : Int) + 1) = ((x + 1 + 1 : Nat) : Int) := by rw [w64 (by omega) (by omega)]; omega
    refine ⟨?_, ?_⟩
    · rw [spec_bpDigits.l0, if_pos (by omega), num_nat (by omega) k (by omega)]
      simp only [Option.bind_some]
      rw [ba_size, e1, e2]
      exact g.1
    · rw [impl_digitsOf.l0, if_pos (by omega), itoa_nat (by omega)]
      simp only [Option.bind_some]
      rw [ba_size, e1, e2]
      exact g.2
theorem digits_spec {p : Nat} (h0 : 1 ≤ p) (h1 : p ≤ 2000) (k : Nat) (hk : 2005 ≤ k) : spec_DigitsOfBook.f k (p : Int) = some ((preN p : Int), true) := by
  have hb : 1 ≤ (p : Int) ∧ (p : Int) ≤ 2000 := by omega
  unfold spec_DigitsOfBook.f spec_bpDigits.f
  rw [book_spec, decide_eq_true hb]
  simp only [Option.bind_some, if_true]
  have g := (digits_loop p h1 p 0 (by omega) k (by omega)).1
  rw [show spec_bpDigits.l0 k (p : Int) 0 1 = some (preN p : Int) from g]
  rfl
theorem digits_impl {p : Nat} (h0 : 1 ≤ p) (h1 : p ≤ 2000) (k : Nat) (hk : 2005 ≤ k) : impl_DigitsOfBook.f k (p : Int) = some ((preN p : Int), true) := by
  have hb : 1 ≤ (p : Int) ∧ (p : Int) ≤ 2000 := by omega
  unfold impl_DigitsOfBook.f impl_digitsOf.f
  rw [book_impl, decide_eq_true hb]
  simp only [Option.bind_some, if_true]
  have g := (digits_loop p h1 p 0 (by omega) k (by omega)).2
  rw [show impl_digitsOf.l0 k (p : Int) 0 1 = some (preN p : Int) from g]
  rfl

/-- YOURS: ∀ (a0 : Int), (Lit.int .i64 a0).wf = true → ∃ k, laws_FnExactDigitsOfBook.f k a0 = some true
What it reaches (each with k first where it has rounds; `.mono`: more rounds tell the same; `.l0`, ..: its loops, with `.mono_l`): spec_l1In.f, spec_bpBook.f, spec_l1Num.f, spec_bpDigits.f, spec_DigitsOfBook.f, impl_within.f, impl_isBook.f, strconv_Itoa.f, impl_digitsOf.f, impl_DigitsOfBook.f, laws_FnExactDigitsOfBook.f -/
theorem FnExactDigitsOfBook : laws_FnExactDigitsOfBook.Pure := by
  intro a0 _
  by_cases h : 1 ≤ a0 ∧ a0 ≤ 2000
  · obtain ⟨p, rfl⟩ := Int.eq_ofNat_of_zero_le (show 0 ≤ a0 by omega)
    refine ⟨2005, ?_⟩
    unfold laws_FnExactDigitsOfBook.f
    rw [digits_spec (by omega) (by omega) 2005 (by omega), digits_impl (by omega) (by omega) 2005 (by omega)]
    simp
  · refine ⟨0, ?_⟩
    unfold laws_FnExactDigitsOfBook.f spec_DigitsOfBook.f impl_DigitsOfBook.f
    rw [book_spec, book_impl, decide_eq_false h]
    simp

end Go.Proofs.YtjaeddckoocgbaaDoor.Pure
