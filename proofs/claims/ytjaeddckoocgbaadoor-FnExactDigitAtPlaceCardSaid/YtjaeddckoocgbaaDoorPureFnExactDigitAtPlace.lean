/- The program's DigitAtPlace returns what the reference's DigitAtPlace returns: the plain statement, over numbers and lists, for all arguments; each number of its Go kind, each string and slice within the reader's bounds. -/
import Derived.Test.YtjaeddckoocgbaaDoorPFnExactDigitAtPlacex1
namespace Go.Proofs.YtjaeddckoocgbaaDoor.Pure
open Go.RowKit Go.Proofs.YtjaeddckoocgbaaDoor.PFnExactDigitAtPlace Go.Proofs.YtjaeddckoocgbaaDoorW.PrintWords Go.Proofs.YtjaeddckoocgbaaDoorW.PrintLast
set_option linter.unusedVariables false
set_option linter.unusedSimpArgs false

theorem w64 {x : Int} (h0 : -9223372036854775808 ≤ x) (h1 : x ≤ 9223372036854775807) : wrap64 x = x := by unfold wrap64; omega
theorem td {a b : Int} (h : 0 ≤ a) : Int.tdiv a b = a / b := Int.tdiv_eq_ediv_of_nonneg h
theorem tm {a b : Int} (h : 0 ≤ a) : Int.tmod a b = a % b := Int.tmod_eq_emod_of_nonneg h
theorem wf64 {n : Int} (h : (Lit.int .i64 n).wf = true) : -9223372036854775808 ≤ n ∧ n ≤ 9223372036854775807 := by
  simp [Lit.wf, IntKind.min, IntKind.max, IntKind.signed, IntKind.bits] at h
  omega
theorem in_spec (a b c : Int) : spec_l1In.f a b c = some (decide (b ≤ a ∧ a ≤ c)) := by
  unfold spec_l1In.f; by_cases h : b ≤ a <;> simp [h]
theorem in_impl (a b c : Int) : impl_within.f a b c = some (decide (b ≤ a ∧ a ≤ c)) := by
  unfold impl_within.f; by_cases h : b ≤ a <;> simp [h]
theorem ba_append (a b : List UInt8) : ((⟨a.toArray⟩ : ByteArray) ++ (⟨b.toArray⟩ : ByteArray)) = ⟨(a ++ b).toArray⟩ := by
  simp [ByteArray.mk_append_mk]
theorem ba_size (a : List UInt8) : (⟨a.toArray⟩ : ByteArray).size = a.length := by simp [ByteArray.size]
theorem dec_len (k : Nat) : ∀ n : Nat, n < 10 ^ (k + 1) → (Lib.decDigits n).length ≤ k + 1 := by
  induction k with
  | zero =>
    intro n h
    rw [Lib.decDigits_one (by simpa using h)]
    simp
  | succ k ih =>
    intro n h
    by_cases h2 : n < 10
    · rw [Lib.decDigits_one h2]; simp
    · have h3 : n / 10 < 10 ^ (k + 1) := by
        rw [Nat.pow_succ] at h
        omega
      have := ih (n / 10) h3
      rw [Lib.decDigits, dif_neg h2]
      simp
      omega
theorem dec_le (n : Nat) (h : n ≤ 1000000000000000000) : (Lib.decDigits n).length ≤ 21 := by
  have := dec_len 18 n (by omega)
  omega
theorem dec_pos (n : Nat) : 1 ≤ (Lib.decDigits n).length := by
  rw [Lib.decDigits]
  split <;> simp
theorem digit_str (d : Nat) (h : d < 10) : strOfNums [wrap64 (48 + (d : Int)) % 256] = ⟨[UInt8.ofNat (48 + d)].toArray⟩ := by
  rw [w64 (by omega) (by omega)]
  have e : ((48 : Int) + d) % 256 = ((48 + d : Nat) : Int) := by omega
  rw [e]
  simp only [strOfNums, List.map_cons, List.map_nil, Int.toNat_natCast]
theorem num_spec (k : Nat) : ∀ n : Nat, n < 10 ^ (k + 1) → n < 1000000000000000000 → ∀ j, k < j → spec_l1Num.f j (n : Int) = some ⟨(Lib.decDigits n).toArray⟩ := by
  induction k with
  | zero =>
    intro n h h1 j hj
    obtain ⟨j, rfl⟩ : ∃ m, j = m + 1 := ⟨j - 1, by omega⟩
    have h2 : n < 10 := by simpa using h
    rw [spec_l1Num.f, if_pos (by omega), digit_str n h2, Lib.decDigits_one h2]
  | succ k ih =>
    intro n h h1 j hj
    obtain ⟨j, rfl⟩ : ∃ m, j = m + 1 := ⟨j - 1, by omega⟩
    rw [spec_l1Num.f]
    by_cases h2 : n < 10
    · rw [if_pos (by omega), digit_str n h2, Lib.decDigits_one h2]
    · have e1 : wrap64 (Int.tdiv (n : Int) 10) = ((n / 10 : Nat) : Int) := by rw [td (by omega), w64 (by omega) (by omega)]; omega
      have e2 : Int.tmod (n : Int) 10 = ((n % 10 : Nat) : Int) := by rw [tm (by omega)]; omega
      have h3 : n / 10 < 10 ^ (k + 1) := by
        rw [Nat.pow_succ] at h
        omega
      rw [if_neg (by omega), e1, e2, ih (n / 10) h3 (by omega) j (by omega)]
      simp only [Option.bind_some]
      rw [digit_str (n % 10) (by omega), ba_append, ba_size, ba_size]
      have hd : Lib.decDigits n = Lib.decDigits (n / 10) ++ [UInt8.ofNat (48 + n % 10)] := by rw [Lib.decDigits, dif_neg h2]
      rw [← hd]
      have hl := dec_le (n / 10) (by omega)
      rw [if_pos (by simp; omega)]
/-- A page's number as the reference writes it. -/
theorem num_nat {n : Nat} (h1 : n ≤ 9999) (k : Nat) (hk : 4 ≤ k) : spec_l1Num.f k (n : Int) = some ⟨(Lib.decDigits n).toArray⟩ :=
  num_spec 3 n (by omega) (by omega) k (by omega)
theorem itoa_nat {n : Nat} (h1 : n ≤ 9999) : strconv_Itoa.f (n : Int) = some ⟨(Lib.decDigits n).toArray⟩ := by
  unfold strconv_Itoa.f
  rw [if_pos (by omega), if_pos (by omega), Lib.itoa_nonneg]
/-- How many digits all numbers up to n have. -/
def preN : Nat → Nat
  | 0 => 0
  | n + 1 => preN n + (Lib.decDigits (n + 1)).length
theorem preN_bd (n : Nat) (h : n ≤ 9999) : n ≤ preN n ∧ preN n ≤ 21 * n := by
  induction n with
  | zero => simp [preN]
  | succ n ih =>
    have h1 := ih (by omega)
    have h2 := dec_le (n + 1) (by omega)
    have h3 := dec_pos (n + 1)
    simp only [preN]
    omega
theorem pageat_loop {a : Nat} (ha : a ≤ 6893) (m : Nat) : ∀ x : Nat, x + m = 6893 → (∀ q, q < x → preN q < a) →
    ∃ P : Nat, x ≤ P ∧ P ≤ 6893 ∧ a ≤ preN P ∧ (∀ q, q < P → preN q < a) ∧ ∀ k, m + 6 ≤ k → impl_pageAt.l0 k (a : Int) (x : Int) (preN x : Int) = some ((P : Int), (preN P : Int)) := by
  induction m with
  | zero =>
    intro x h hq
    have hb := preN_bd x (by omega)
    refine ⟨x, by omega, by omega, by omega, hq, fun k hk => ?_⟩
    obtain ⟨k, rfl⟩ : ∃ m, k = m + 1 := ⟨k - 1, by omega⟩
    rw [impl_pageAt.l0, if_neg (by omega)]
  | succ m ih =>
    intro x h hq
    by_cases c : preN x < a
    · obtain ⟨P, h1, h2, h3, h4, h5⟩ := ih (x + 1) (by omega) (fun q hq' => by
        by_cases e : q = x
        · rw [e]; exact c
        · exact hq q (by omega))
      have hb := preN_bd x (by omega)
      have hl := dec_le (x + 1) (by omega)
      refine ⟨P, by omega, h2, h3, h4, fun k hk => ?_⟩
      obtain ⟨k, rfl⟩ : ∃ m, k = m + 1 := ⟨k - 1, by omega⟩
      have e2 : wrap64 ((x : Int) + 1) = ((x + 1 : Nat) : Int) := by rw [w64 (by omega) (by omega)]; omega
      have e1 : wrap64 ((preN x : Int) + (((Lib.decDigits (x + 1)).length : Nat) : Int)) = ((preN (x + 1) : Nat) : Int) := by
        rw [w64 (by omega) (by omega)]; simp only [preN]; omega
      rw [impl_pageAt.l0, if_pos (by omega), e2, itoa_nat (by omega)]
      simp only [Option.bind_some]
      rw [ba_size, e1]
      exact h5 k (by omega)
    · refine ⟨x, by omega, by omega, by omega, hq, fun k hk => ?_⟩
      obtain ⟨k, rfl⟩ : ∃ m, k = m + 1 := ⟨k - 1, by omega⟩
      rw [impl_pageAt.l0, if_neg (by omega)]
theorem pageat {a : Nat} (h0 : 1 ≤ a) (ha : a ≤ 6893) :
    ∃ P : Nat, 1 ≤ P ∧ P ≤ 6893 ∧ a ≤ preN P ∧ (∀ q, q < P → preN q < a) ∧ ∀ k, 7000 ≤ k → impl_pageAt.f k (a : Int) = some ((P : Int), (preN P : Int)) := by
  obtain ⟨P, h1, h2, h3, h4, h5⟩ := pageat_loop ha 6893 0 (by omega) (fun q hq => by omega)
  have : P ≠ 0 := by
    rintro rfl
    simp only [preN] at h3
    omega
  exact ⟨P, by omega, h2, h3, h4, fun k hk => h5 k (by omega)⟩
theorem d0_go {k : Nat} {x0 x5 v y : Int} {b : ByteArray} (hb : spec_l1Num.f k x5 = some b) (h : x0 > (b.size : Int)) (hv : wrap64 (x0 - (b.size : Int)) = v) (hy : wrap64 (x5 + 1) = y) :
    spec_DigitAtPlace.l0 (k + 1) x0 x5 = spec_DigitAtPlace.l0 k v y := by
  rw [spec_DigitAtPlace.l0, hb, Option.bind_some, if_pos h, Option.bind_some, hv, hy]
theorem d0_end {k : Nat} {x0 x5 v : Int} {b : ByteArray} (hb : spec_l1Num.f k x5 = some b) (h : ¬ x0 > (b.size : Int)) (hv : wrap64 (x0 - 1) = v) (h0 : 0 ≤ v) (h1 : v < (b.size : Int)) :
    spec_DigitAtPlace.l0 (k + 1) x0 x5 = some ((bt b v - 48) % 256, x5, true) := by
  rw [spec_DigitAtPlace.l0, hb, Option.bind_some, if_neg h, Option.bind_some, hv, if_pos h0, if_pos h1]
theorem w64n {n : Nat} (h : n ≤ 1000000) : wrap64 ((n : Nat) : Int) = (n : Int) := w64 (by omega) (by omega)
theorem da_loop {pre len : Nat → Nat} {dig : Nat → ByteArray} (hb : ∀ n, n ≤ 9999 → n ≤ pre n ∧ pre n ≤ 21 * n) (hs : ∀ n, pre (n + 1) = pre n + len (n + 1)) (hl : ∀ n, n ≤ 9999 → len n ≤ 21)
    (hnum : ∀ n : Nat, n ≤ 9999 → ∀ k, 4 ≤ k → spec_l1Num.f k (n : Int) = some (dig n)) (hsz : ∀ n, (dig n).size = len n)
    {a P : Nat} (hP : P ≤ 6893) (ha : a ≤ 6893) (h3 : a ≤ pre P) (h4 : ∀ q, q < P → pre q < a) (m : Nat) : ∀ x : Nat, x + m + 1 = P → ∀ k, m + 7 ≤ k →
    spec_DigitAtPlace.l0 k ((a - pre x : Nat) : Int) ((x + 1 : Nat) : Int) =
      some ((bt (dig P) ((a - pre (P - 1) - 1 : Nat) : Int) - 48) % 256, (P : Int), true) := by
  induction m with
  | zero =>
    intro x h k hk
    obtain ⟨k, rfl⟩ : ∃ m, k = m + 1 := ⟨k - 1, by omega⟩
    obtain rfl : P = x + 1 := by omega
    have q1 : x + 1 ≤ 9999 := by omega
    have q2 : 4 ≤ k := by omega
    clear hk
    have hx := h4 x (by omega)
    have hs := hs x
    have hz := hsz (x + 1)
    have hn := hnum (x + 1) q1 k q2
    obtain ⟨d, hd⟩ : ∃ d, d = dig (x + 1) := ⟨_, rfl⟩
    rw [← hd] at hz hn
    rw [show x + 1 - 1 = x from rfl, ← hd]
    obtain ⟨v, hv⟩ : ∃ v, v = a - pre x := ⟨_, rfl⟩
    rw [← hv]
    have v1 : 1 ≤ v := by omega
    have v2 : v ≤ d.size := by omega
    have v3 : v ≤ 6893 := by omega
    clear hs hv hx h3 h4 hz hl hb hsz hnum
    have c0 : ¬ ((v : Nat) : Int) > (d.size : Int) := by omega
    have z1 : ((v : Nat) : Int) - 1 = ((v - 1 : Nat) : Int) := by omega
    have e1 : wrap64 (((v : Nat) : Int) - 1) = ((v - 1 : Nat) : Int) := by
      rw [z1]; exact w64n (by omega)
    have c1 : (0 : Int) ≤ ((v - 1 : Nat) : Int) := by omega
    have c2 : ((v - 1 : Nat) : Int) < (d.size : Int) := by omega
    exact d0_end hn c0 e1 c1 c2
  | succ m ih =>
    intro x h k hk
    obtain ⟨k, rfl⟩ : ∃ m, k = m + 1 := ⟨k - 1, by omega⟩
    have q1 : x + 1 ≤ 9999 := by omega
    have q2 : 4 ≤ k := by omega
    have g := ih (x + 1) (by omega) k (by omega)
    have hx := h4 x (by omega)
    have hx1 := h4 (x + 1) (by omega)
    clear hk ih
    have hp := hs x
    have hz := hsz (x + 1)
    have hn := hnum (x + 1) q1 k q2
    have c0 : ((a - pre x : Nat) : Int) > ((dig (x + 1)).size : Int) := by omega
    have z1 : ((a - pre x : Nat) : Int) - (((dig (x + 1)).size : Nat) : Int) = ((a - pre (x + 1) : Nat) : Int) := by omega
    have z2 : ((x + 1 : Nat) : Int) + 1 = ((x + 1 + 1 : Nat) : Int) := by omega
    have z3 : a - pre (x + 1) ≤ 1000000 := by omega
    have e1 : wrap64 (((a - pre x : Nat) : Int) - (((dig (x + 1)).size : Nat) : Int)) = ((a - pre (x + 1) : Nat) : Int) := by
      rw [z1]; exact w64n z3
    have e2 : wrap64 (((x + 1 : Nat) : Int) + 1) = ((x + 1 + 1 : Nat) : Int) := by
      rw [z2]; exact w64n (by omega)
    rw [d0_go hn c0 e1 e2]
    exact g
theorem da_impl {pre len : Nat → Nat} {dig : Nat → ByteArray} (hb : ∀ n, n ≤ 9999 → n ≤ pre n ∧ pre n ≤ 21 * n) (hs : ∀ n, pre (n + 1) = pre n + len (n + 1)) (hl : ∀ n, n ≤ 9999 → len n ≤ 21) (hsz : ∀ n, (dig n).size = len n)
    {a P : Nat} (h1 : 1 ≤ P) (hP : P ≤ 6893) (ha : a ≤ 6893) (h3 : a ≤ pre P) (h4 : ∀ q, q < P → pre q < a) :
    wrap64 ((wrap64 ((((dig P).size : Nat) : Int) - 1)) - (wrap64 ((pre P : Int) - (a : Int)))) = ((a - pre (P - 1) - 1 : Nat) : Int) ∧ ((a - pre (P - 1) - 1 : Nat) : Int) < (((dig P).size : Nat) : Int) := by
  obtain ⟨Q, rfl⟩ : ∃ Q, P = Q + 1 := ⟨P - 1, by omega⟩
  have hl := hl (Q + 1) (by omega)
  have hp := hb (Q + 1) (by omega)
  have hx := h4 Q (by omega)
  have hn := hs Q
  have hz := hsz (Q + 1)
  rw [show Q + 1 - 1 = Q from rfl]
  rw [w64 (x := (((dig (Q + 1)).size : Nat) : Int) - 1) (by omega) (by omega), w64 (x := (pre (Q + 1) : Int) - (a : Int)) (by omega) (by omega), w64 (by omega) (by omega)]
  omega
theorem da_both {a : Nat} (h0 : 1 ≤ a) (ha : a ≤ 6893) :
    ∃ P : Nat, 1 ≤ P ∧ P ≤ 6893 ∧ a ≤ preN P ∧ (∀ q, q < P → preN q < a) ∧ ∀ k, 7000 ≤ k →
      spec_DigitAtPlace.f k (a : Int) = some ((bt ⟨(Lib.decDigits P).toArray⟩ ((a - preN (P - 1) - 1 : Nat) : Int) - 48) % 256, (P : Int), true) ∧
      impl_DigitAtPlace.f k (a : Int) = some ((bt ⟨(Lib.decDigits P).toArray⟩ ((a - preN (P - 1) - 1 : Nat) : Int) - 48) % 256, (P : Int), true) := by
  obtain ⟨P, h1, h2, h3, h4, h5⟩ := pageat h0 ha
  have hb : 1 ≤ (a : Int) ∧ (a : Int) ≤ 6893 := by omega
  refine ⟨P, h1, h2, h3, h4, fun k hk => ⟨?_, ?_⟩⟩
  · unfold spec_DigitAtPlace.f
    rw [in_spec, decide_eq_true hb]
    simp only [Option.bind_some, if_true]
    exact da_loop (dig := fun n => ⟨(Lib.decDigits n).toArray⟩) preN_bd (fun n => rfl) (fun n h => dec_le n (by omega)) (fun n h k hk => num_nat h k hk) (fun n => ba_size _) h2 ha h3 h4 (P - 1) 0 (by omega) k (by omega)
  · unfold impl_DigitAtPlace.f
    rw [in_impl, decide_eq_true hb]
    simp only [Option.bind_some, if_true]
    rw [h5 k hk, Option.bind_some, itoa_nat (by omega), Option.bind_some]
    have e := da_impl (dig := fun n => ⟨(Lib.decDigits n).toArray⟩) preN_bd (fun n => rfl) (fun n h => dec_le n (by omega)) (fun n => ba_size _) h1 h2 ha h3 h4
    rw [e.1, if_pos (Int.natCast_nonneg _), if_pos e.2]

/-- YOURS: ∀ (a0 : Int), (Lit.int .i64 a0).wf = true → ∃ k, laws_FnExactDigitAtPlace.f k a0 = some true
What it reaches (each with k first where it has rounds; `.mono`: more rounds tell the same; `.l0`, ..: its loops, with `.mono_l`): spec_l1In.f, spec_l1Num.f, spec_DigitAtPlace.f, impl_within.f, strconv_Itoa.f, impl_pageAt.f, impl_DigitAtPlace.f, laws_FnExactDigitAtPlace.f -/
theorem FnExactDigitAtPlace : laws_FnExactDigitAtPlace.Pure := by
  intro a0 _
  by_cases h : 1 ≤ a0 ∧ a0 ≤ 6893
  · obtain ⟨a, rfl⟩ := Int.eq_ofNat_of_zero_le (show 0 ≤ a0 by omega)
    obtain ⟨P, _, _, _, _, g⟩ := da_both (a := a) (by omega) (by omega)
    refine ⟨7000, ?_⟩
    unfold laws_FnExactDigitAtPlace.f
    rw [(g 7000 (by omega)).1, (g 7000 (by omega)).2]
    simp
  · refine ⟨0, ?_⟩
    unfold laws_FnExactDigitAtPlace.f spec_DigitAtPlace.f impl_DigitAtPlace.f
    rw [in_spec, in_impl, decide_eq_false h]
    simp

end Go.Proofs.YtjaeddckoocgbaaDoor.Pure
