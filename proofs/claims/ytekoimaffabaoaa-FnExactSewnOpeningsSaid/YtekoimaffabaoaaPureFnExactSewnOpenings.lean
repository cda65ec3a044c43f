/- The program's SewnOpenings returns what the reference's SewnOpenings returns: the plain statement, over numbers and lists, for all arguments; each number of its Go kind, each string and slice within the reader's bounds. -/
import Derived.Test.YtekoimaffabaoaaPFnExactSewnOpeningsx2
namespace Go.Proofs.Ytekoimaffabaoaa.Pure
open Go.RowKit Go.Proofs.Ytekoimaffabaoaa.PFnExactSewnOpenings Go.Proofs.YtekoimaffabaoaaW.PrintWords Go.Proofs.YtekoimaffabaoaaW.PrintLast
set_option linter.unusedVariables false
set_option linter.unusedSimpArgs false

theorem w64 {x : Int} (h0 : -9223372036854775808 ≤ x) (h1 : x ≤ 9223372036854775807) : wrap64 x = x := by unfold wrap64; omega
theorem td {a b : Int} (h : 0 ≤ a) : Int.tdiv a b = a / b := Int.tdiv_eq_ediv_of_nonneg h
theorem tm {a b : Int} (h : 0 ≤ a) : Int.tmod a b = a % b := Int.tmod_eq_emod_of_nonneg h
theorem wf64 {n : Int} (h : (Lit.int .i64 n).wf = true) : -9223372036854775808 ≤ n ∧ n ≤ 9223372036854775807 := by
  simp [Lit.wf, IntKind.min, IntKind.max, IntKind.signed, IntKind.bits] at h
  omega
theorem in_spec (a b c : Int) : spec_l1In.f a b c = some (decide (b ≤ a ∧ a ≤ c)) := by
  unfold spec_l1In.f; by_cases h : b ≤ a <;> simp [h]
theorem in_impl (a b c : Int) : impl_within.f a b c = some (decide (b ≤ a ∧ a ≤ c)) := by
  unfold impl_within.f; by_cases h : b ≤ a <;> simp [h]
theorem fobook_spec (a : Int) : spec_foBook.f a = some (decide (1 ≤ a ∧ a ≤ 2000)) := by simp [spec_foBook.f, in_spec]
theorem isbook_impl (a : Int) : impl_isBook.f a = some (decide (1 ≤ a ∧ a ≤ 2000)) := by simp [impl_isBook.f, in_impl]
theorem both_spec (a b : Int) : spec_foBoth.f a b = some (decide ((1 ≤ a ∧ a ≤ 2000) ∧ 1 ≤ b ∧ b ≤ 16)) := by
  unfold spec_foBoth.f
  rw [fobook_spec, in_spec]
  by_cases h : 1 ≤ a ∧ a ≤ 2000 <;> simp [h]
theorem bound_impl (a b : Int) : impl_isBound.f a b = some (decide ((1 ≤ a ∧ a ≤ 2000) ∧ 1 ≤ b ∧ b ≤ 16)) := by
  unfold impl_isBound.f
  rw [isbook_impl, in_impl]
  by_cases h : 1 ≤ a ∧ a ≤ 2000 <;> simp [h]
theorem eq_loop (l : List Int) (hl : l.length ≤ 1000000) (d : Nat) : ∀ (x : Int), 0 ≤ x → x + d = l.length → ∀ k, d < k → laws_eqIntS.l0 k l l x = some true := by
  induction d with
  | zero =>
    intro x h0 hd k hk
    obtain ⟨k, rfl⟩ : ∃ m, k = m + 1 := ⟨k - 1, by omega⟩
    simp only [laws_eqIntS.l0]
    rw [if_neg (show ¬ x < (l.length : Int) by omega)]
  | succ d ih =>
    intro x h0 hd k hk
    obtain ⟨k, rfl⟩ : ∃ m, k = m + 1 := ⟨k - 1, by omega⟩
    have hx : x < (l.length : Int) := by omega
    rw [laws_eqIntS.l0, if_pos hx, if_pos h0, if_pos hx, if_pos rfl, w64 (x := x + 1) (by omega) (by omega)]
    exact ih (x + 1) (by omega) (by omega) k (by omega)
theorem eq_self (l : List Int) (hl : l.length ≤ 1000000) (k : Nat) (hk : l.length < k) : laws_eqIntS.f k l l = some true := by
  unfold laws_eqIntS.f
  rw [if_pos rfl]
  exact eq_loop l hl l.length 0 (by omega) (by omega) k hk
theorem mark_loop (d : Nat) : ∀ (l : List Int) (x v : Int), l.length ≤ 1000000 → 0 ≤ x → x + d = l.length → 0 ≤ v → v + d ≤ 1000001 →
    ∃ l' : List Int, (∀ k, d < k → laws_markIntS.l0 k l v x = some (v + d, l')) ∧ l'.length = l.length ∧
      ∀ i : Nat, ((i : Int) < x → l'.getD i 0 = l.getD i 0) ∧ (x ≤ i → i < l.length → l'.getD i 0 = v + (i - x)) := by
  induction d with
  | zero =>
    intro l x v hl h0 hd h1 h2
    refine ⟨l, fun k hk => ?_, rfl, fun i => ⟨fun _ => rfl, fun h3 h4 => by omega⟩⟩
    obtain ⟨k, rfl⟩ : ∃ m, k = m + 1 := ⟨k - 1, by omega⟩
    simp only [laws_markIntS.l0]
    rw [if_neg (show ¬ x < (l.length : Int) by omega)]
    simp
  | succ d ih =>
    intro l x v hl h0 hd h1 h2
    obtain ⟨l', hk', hlen, hg⟩ := ih (l.set x.toNat v) (x + 1) (v + 1) (by simpa using hl) (by omega) (by simp; omega) (by omega) (by omega)
    rw [List.length_set] at hlen hg
    refine ⟨l', fun k hk => ?_, hlen, fun i => ?_⟩
    · obtain ⟨k, rfl⟩ : ∃ m, k = m + 1 := ⟨k - 1, by omega⟩
      simp only [laws_markIntS.l0]
      rw [if_pos (show x < (l.length : Int) by omega), if_pos h0, w64 (x := v + 1) (by omega) (by omega), w64 (x := x + 1) (by omega) (by omega), hk' k (by omega)]
      have e : v + 1 + (d : Int) = v + ((d + 1 : Nat) : Int) := by omega
      rw [e]
    · obtain ⟨g1, g2⟩ := hg i
      refine ⟨fun h => ?_, fun h3 h4 => ?_⟩
      · rw [g1 (by omega)]
        rw [List.getD_eq_getElem?_getD, List.getD_eq_getElem?_getD, List.getElem?_set_ne (by omega)]
      · by_cases e : (i : Int) = x
        · rw [g1 (by omega)]
          have : x.toNat = i := by omega
          rw [this, List.getD_eq_getElem?_getD, List.getElem?_set_self h4, Option.getD_some]
          omega
        · rw [g2 (by omega) h4]; omega
theorem held_loop (l : List Int) (hl : l.length ≤ 1000000) (d : Nat) : ∀ (x v : Int), 0 ≤ x → x + d = l.length → 0 ≤ v → v + d ≤ 1000001 →
    (∀ i : Nat, x ≤ i → i < l.length → l.getD i 0 = v + (i - x)) → ∀ k, d < k → laws_heldIntS.l0 k l v x = some (v + d) := by
  induction d with
  | zero =>
    intro x v h0 hd h1 h2 hg k hk
    obtain ⟨k, rfl⟩ : ∃ m, k = m + 1 := ⟨k - 1, by omega⟩
    simp only [laws_heldIntS.l0]
    rw [if_neg (show ¬ x < (l.length : Int) by omega)]
    simp
  | succ d ih =>
    intro x v h0 hd h1 h2 hg k hk
    obtain ⟨k, rfl⟩ : ∃ m, k = m + 1 := ⟨k - 1, by omega⟩
    simp only [laws_heldIntS.l0]
    have e : rd l x = v := by
      unfold rd
      rw [hg x.toNat (by omega) (by omega)]; omega
    rw [if_pos (show x < (l.length : Int) by omega), if_pos h0, if_pos e, w64 (x := v + 1) (by omega) (by omega), w64 (x := x + 1) (by omega) (by omega),
      ih (x + 1) (v + 1) (by omega) (by omega) (by omega) (by omega) (fun i h3 h4 => by rw [hg i (by omega) h4]; omega) k (by omega)]
    have e : v + 1 + (d : Int) = v + ((d + 1 : Nat) : Int) := by omega
    rw [e]
theorem marks (l : List Int) (hl : l.length ≤ 1000000) : ∃ l' : List Int, ∀ k, l.length < k → laws_markIntS.f k l 1 = some (1 + (l.length : Int), l') ∧ laws_heldIntS.f k l' 1 = some (1 + (l.length : Int)) := by
  obtain ⟨l', hm, hlen, hg⟩ := mark_loop l.length l 0 1 hl (by omega) (by omega) (by omega) (by omega)
  refine ⟨l', fun k hk => ⟨hm k hk, ?_⟩⟩
  unfold laws_heldIntS.f
  exact held_loop l' (by omega) l.length 0 1 (by omega) (by omega) (by omega) (by omega) (fun i h3 h4 => (hg i).2 h3 (by omega)) k hk
def arith (x s : Int) : Nat → List Int
  | 0 => []
  | n + 1 => x :: arith (x + s) s n
theorem arith_length (s : Int) (n : Nat) : ∀ x, (arith x s n).length = n := by
  induction n with
  | zero => intro x; rfl
  | succ n ih => intro x; simp [arith, ih]
theorem sewn_loop {a p : Int} (h0 : 1 ≤ a) (h1 : a ≤ 2000) (h2 : 1 ≤ p) (h3 : p ≤ 16) (d : Nat) : ∀ (l : List Int) (x : Int), 0 ≤ x → x ≤ 3000 → a ≤ x + 4 * d → l.length + d ≤ 1000 →
    ∃ n : Nat, n ≤ d ∧ (∀ k, d < k → spec_SewnOpenings.l0 k a p l x = some (l ++ arith x (4 * p) n, true) ∧ impl_SewnOpenings.l0 k a p l x = some (l ++ arith x (4 * p) n, true)) ∧
      (0 < n → x + 4 * p * n + 1 ≤ a + 4 * p) ∧ a < x + 4 * p * n + 1 := by
  induction d with
  | zero =>
    intro l x h4 h5 h6 h7
    refine ⟨0, by omega, fun k hk => ?_, fun h => by omega, by omega⟩
    obtain ⟨k, rfl⟩ : ∃ m, k = m + 1 := ⟨k - 1, by omega⟩
    simp only [spec_SewnOpenings.l0, impl_SewnOpenings.l0]
    rw [w64 (x := x + 1) (by omega) (by omega), if_neg (show ¬ x + 1 ≤ a by omega)]
    simp [arith]
    omega
  | succ d ih =>
    intro l x h4 h5 h6 h7
    by_cases c : x + 1 ≤ a
    · obtain ⟨n, hn, hk, g1, g2⟩ := ih (l ++ [x]) (x + 4 * p) (by omega) (by omega) (by omega) (by simp; omega)
      have e : 4 * p * ((n + 1 : Nat) : Int) = 4 * p * n + 4 * p := by rw [Int.natCast_add, Int.mul_add]; simp
      refine ⟨n + 1, by omega, fun k hk' => ?_, fun _ => ?_, by rw [e]; omega⟩
      · obtain ⟨k, rfl⟩ : ∃ m, k = m + 1 := ⟨k - 1, by omega⟩
        have g := hk k (by omega)
        refine ⟨?_, ?_⟩
        · simp only [spec_SewnOpenings.l0]
          rw [w64 (x := x + 1) (by omega) (by omega), if_pos c, if_pos (show l.length < 17592186044416 by omega), w64 (x := 4 * p) (by omega) (by omega), w64 (x := x + 4 * p) (by omega) (by omega), g.1]
          simp [arith]
        · simp only [impl_SewnOpenings.l0]
          rw [w64 (x := x + 1) (by omega) (by omega), if_pos c, if_pos (show l.length < 17592186044416 by omega), w64 (x := 4 * p) (by omega) (by omega), w64 (x := x + 4 * p) (by omega) (by omega), g.2]
          simp [arith]
      · rw [e]
        by_cases hz : 0 < n
        · have := g1 hz; omega
        · have : n = 0 := by omega
          subst this
          simp; omega
    · refine ⟨0, by omega, fun k hk => ?_, fun h => by omega, by simp; omega⟩
      obtain ⟨k, rfl⟩ : ∃ m, k = m + 1 := ⟨k - 1, by omega⟩
      simp only [spec_SewnOpenings.l0, impl_SewnOpenings.l0]
      rw [w64 (x := x + 1) (by omega) (by omega), if_neg c]
      simp [arith]
      omega
theorem sewn_both {a p : Int} (hb : (1 ≤ a ∧ a ≤ 2000) ∧ 1 ≤ p ∧ p ≤ 16) :
    ∃ n : Nat, n ≤ 500 ∧ (∀ k, 500 < k → spec_SewnOpenings.f k a p = some (arith (2 * p) (4 * p) n, true) ∧ impl_SewnOpenings.f k a p = some (arith (2 * p) (4 * p) n, true)) ∧
      (0 < n → 2 * p + 4 * p * n + 1 ≤ a + 4 * p) ∧ a < 2 * p + 4 * p * n + 1 := by
  obtain ⟨n, h1, h2, h3, h4⟩ := sewn_loop hb.1.1 hb.1.2 hb.2.1 hb.2.2 500 [] (2 * p) (by omega) (by omega) (by omega) (by simp)
  refine ⟨n, h1, fun k hk => ?_, h3, h4⟩
  have g := h2 k hk
  unfold spec_SewnOpenings.f impl_SewnOpenings.f
  rw [both_spec, bound_impl, w64 (x := 2 * p) (by omega) (by omega)]
  simp only [decide_eq_true hb, Option.bind_some, if_true]
  exact g

/-- YOURS: ∀ (a0 : Int) (a1 : Int), (Lit.int .i64 a0).wf = true → (Lit.int .i64 a1).wf = true → ∃ k, laws_FnExactSewnOpenings.f k a0 a1 = some true
What it reaches (each with k first where it has rounds; `.mono`: more rounds tell the same; `.l0`, ..: its loops, with `.mono_l`): spec_l1In.f, spec_foBook.f, spec_foBoth.f, spec_SewnOpenings.f, impl_within.f, impl_isBook.f, impl_isBound.f, impl_SewnOpenings.f, laws_eqIntS.f, laws_markIntS.f, laws_heldIntS.f, laws_FnExactSewnOpenings.f -/
theorem FnExactSewnOpenings : laws_FnExactSewnOpenings.Pure := by
  intro a0 a1 w0 w1
  have hb : ∃ r : List Int × Bool, ∃ K, r.1.length ≤ 1000000 ∧ ∀ k, K ≤ k → spec_SewnOpenings.f k a0 a1 = some r ∧ impl_SewnOpenings.f k a0 a1 = some r := by
    by_cases hb : (1 ≤ a0 ∧ a0 ≤ 2000) ∧ 1 ≤ a1 ∧ a1 ≤ 16
    · obtain ⟨n, h1, h2, _⟩ := sewn_both hb
      exact ⟨(arith (2 * a1) (4 * a1) n, true), 501, by show (arith _ _ n).length ≤ _; rw [arith_length]; omega, fun k hk => h2 k (by omega)⟩
    · refine ⟨([], false), 0, by simp, fun k _ => ?_⟩
      unfold spec_SewnOpenings.f impl_SewnOpenings.f
      rw [both_spec, bound_impl]
      simp [hb]
  obtain ⟨⟨l, ok⟩, K, hl, h⟩ := hb
  obtain ⟨l', hm⟩ := marks l hl
  obtain ⟨M, hM1, hM2⟩ : ∃ M, K ≤ M ∧ l.length < M := ⟨K + l.length + 1, by omega, by omega⟩
  refine ⟨M + 2, ?_⟩
  unfold laws_FnExactSewnOpenings.f
  rw [(h (M + 2) (by omega)).1, (h (M + 2) (by omega)).2]
  simp only [Option.bind_some]
  rw [eq_self l hl (M + 2) (by omega)]
  simp only [Option.bind_some, if_true, bne_self_eq_false]
  simp only [laws_FnExactSewnOpenings.j0]
  rw [if_neg (by decide), (hm (M + 1) (by omega)).1]
  simp only [Option.bind_some]
  rw [(hm (M + 1) (by omega)).2]
  simp only [Option.bind_some]
  rw [if_neg (show ¬ (1 + (l.length : Int)) < 0 by omega), if_pos trivial, (h (M + 1) (by omega)).2]
  simp only [Option.bind_some]
  rw [eq_self l hl (M + 1) (by omega)]
  simp only [Option.bind_some, if_true, bne_self_eq_false]
  simp only [laws_FnExactSewnOpenings.j1]
  rw [if_neg (by decide), (hm M (by omega)).2]
  simp only [Option.bind_some]
  rw [if_neg (show ¬ (1 + (l.length : Int)) < 0 by omega), if_pos trivial]

end Go.Proofs.Ytekoimaffabaoaa.Pure
