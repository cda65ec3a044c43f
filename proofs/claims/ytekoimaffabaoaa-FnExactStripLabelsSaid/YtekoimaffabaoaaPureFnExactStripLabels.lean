/- The program's StripLabels returns what the reference's StripLabels returns: the plain statement, over numbers and lists, for all arguments; each number of its Go kind, each string and slice within the reader's bounds. -/
import Derived.Test.YtekoimaffabaoaaPFnExactStripLabelsx4
namespace Go.Proofs.Ytekoimaffabaoaa.Pure
open Go.RowKit Go.Proofs.Ytekoimaffabaoaa.PFnExactStripLabels Go.Proofs.YtekoimaffabaoaaW.PrintWords Go.Proofs.YtekoimaffabaoaaW.PrintLast
set_option linter.unusedVariables false
set_option linter.unusedSimpArgs false

theorem w64 {x : Int} (h0 : -9223372036854775808 ≤ x) (h1 : x ≤ 9223372036854775807) : wrap64 x = x := by unfold wrap64; omega
theorem td {a b : Int} (h : 0 ≤ a) : Int.tdiv a b = a / b := Int.tdiv_eq_ediv_of_nonneg h
theorem tm {a b : Int} (h : 0 ≤ a) : Int.tmod a b = a % b := Int.tmod_eq_emod_of_nonneg h
theorem wf64 {n : Int} (h : (Lit.int .i64 n).wf = true) : -9223372036854775808 ≤ n ∧ n ≤ 9223372036854775807 := by
  simp [Lit.wf, IntKind.min, IntKind.max, IntKind.signed, IntKind.bits] at h
  omega
theorem in_spec (a b c : Int) : spec_l1In.f a b c = some (decide (b ≤ a ∧ a ≤ c)) := by
  unfold spec_l1In.f; by_cases h : b ≤ a <;> simp [h]
theorem in_impl (a b c : Int) : impl_within.f a b c = some (decide (b ≤ a ∧ a ≤ c)) := by
  unfold impl_within.f; by_cases h : b ≤ a <;> simp [h]
theorem eq_loop (l : List Int) (hl : l.length ≤ 1000000) (d : Nat) : ∀ (x : Int), 0 ≤ x → x + d = l.length → ∀ k, d < k → laws_eqIntS.l0 k l l x = some true := by
  induction d with
  | zero =>
    intro x h0 hd k hk
    obtain ⟨k, rfl⟩ : ∃ m, k = m + 1 := ⟨k - 1, by omega⟩
    simp only [laws_eqIntS.l0]
    rw [if_neg (show ¬ x < (l.length : Int) by omega)]
  | succ d ih =>
    intro x h0 hd k hk
    obtain ⟨k, rfl⟩ : ∃ m, k = m + 1 := ⟨k - 1, by omega⟩
    have hx : x < (l.length : Int) := by omega
    rw [laws_eqIntS.l0, if_pos hx, if_pos h0, if_pos hx, if_pos rfl, w64 (x := x + 1) (by omega) (by omega)]
    exact ih (x + 1) (by omega) (by omega) k (by omega)
theorem eq_self (l : List Int) (hl : l.length ≤ 1000000) (k : Nat) (hk : l.length < k) : laws_eqIntS.f k l l = some true := by
  unfold laws_eqIntS.f
  rw [if_pos rfl]
  exact eq_loop l hl l.length 0 (by omega) (by omega) k hk
theorem mark_loop (d : Nat) : ∀ (l : List Int) (x v : Int), l.length ≤ 1000000 → 0 ≤ x → x + d = l.length → 0 ≤ v → v + d ≤ 1000001 →
    ∃ l' : List Int, (∀ k, d < k → laws_markIntS.l0 k l v x = some (v + d, l')) ∧ l'.length = l.length ∧
      ∀ i : Nat, ((i : Int) < x → l'.getD i 0 = l.getD i 0) ∧ (x ≤ i → i < l.length → l'.getD i 0 = v + (i - x)) := by
  induction d with
  | zero =>
    intro l x v hl h0 hd h1 h2
    refine ⟨l, fun k hk => ?_, rfl, fun i => ⟨fun _ => rfl, fun h3 h4 => by omega⟩⟩
    obtain ⟨k, rfl⟩ : ∃ m, k = m + 1 := ⟨k - 1, by omega⟩
    simp only [laws_markIntS.l0]
    rw [if_neg (show ¬ x < (l.length : Int) by omega)]
    simp
  | succ d ih =>
    intro l x v hl h0 hd h1 h2
    obtain ⟨l', hk', hlen, hg⟩ := ih (l.set x.toNat v) (x + 1) (v + 1) (by simpa using hl) (by omega) (by simp; omega) (by omega) (by omega)
    rw [List.length_set] at hlen hg
    refine ⟨l', fun k hk => ?_, hlen, fun i => ?_⟩
    · obtain ⟨k, rfl⟩ : ∃ m, k = m + 1 := ⟨k - 1, by omega⟩
      simp only [laws_markIntS.l0]
      rw [if_pos (show x < (l.length : Int) by omega), if_pos h0, w64 (x := v + 1) (by omega) (by omega), w64 (x := x + 1) (by omega) (by omega), hk' k (by omega)]
      have e : v + 1 + (d : Int) = v + ((d + 1 : Nat) : Int) := by omega
      rw [e]
    · obtain ⟨g1, g2⟩ := hg i
      refine ⟨fun h => ?_, fun h3 h4 => ?_⟩
      · rw [g1 (by omega)]
        rw [List.getD_eq_getElem?_getD, List.getD_eq_getElem?_getD, List.getElem?_set_ne (by omega)]
      · by_cases e : (i : Int) = x
        · rw [g1 (by omega)]
          have : x.toNat = i := by omega
          rw [this, List.getD_eq_getElem?_getD, List.getElem?_set_self h4, Option.getD_some]
          omega
        · rw [g2 (by omega) h4]; omega
theorem held_loop (l : List Int) (hl : l.length ≤ 1000000) (d : Nat) : ∀ (x v : Int), 0 ≤ x → x + d = l.length → 0 ≤ v → v + d ≤ 1000001 →
    (∀ i : Nat, x ≤ i → i < l.length → l.getD i 0 = v + (i - x)) → ∀ k, d < k → laws_heldIntS.l0 k l v x = some (v + d) := by
  induction d with
  | zero =>
    intro x v h0 hd h1 h2 hg k hk
    obtain ⟨k, rfl⟩ : ∃ m, k = m + 1 := ⟨k - 1, by omega⟩
    simp only [laws_heldIntS.l0]
    rw [if_neg (show ¬ x < (l.length : Int) by omega)]
    simp
  | succ d ih =>
    intro x v h0 hd h1 h2 hg k hk
    obtain ⟨k, rfl⟩ : ∃ m, k = m + 1 := ⟨k - 1, by omega⟩
    simp only [laws_heldIntS.l0]
    have e : rd l x = v := by
      unfold rd
      rw [hg x.toNat (by omega) (by omega)]; omega
    rw [if_pos (show x < (l.length : Int) by omega), if_pos h0, if_pos e, w64 (x := v + 1) (by omega) (by omega), w64 (x := x + 1) (by omega) (by omega),
      ih (x + 1) (v + 1) (by omega) (by omega) (by omega) (by omega) (fun i h3 h4 => by rw [hg i (by omega) h4]; omega) k (by omega)]
    have e : v + 1 + (d : Int) = v + ((d + 1 : Nat) : Int) := by omega
    rw [e]
theorem marks (l : List Int) (hl : l.length ≤ 1000000) : ∃ l' : List Int, ∀ k, l.length < k → laws_markIntS.f k l 1 = some (1 + (l.length : Int), l') ∧ laws_heldIntS.f k l' 1 = some (1 + (l.length : Int)) := by
  obtain ⟨l', hm, hlen, hg⟩ := mark_loop l.length l 0 1 hl (by omega) (by omega) (by omega) (by omega)
  refine ⟨l', fun k hk => ⟨hm k hk, ?_⟩⟩
  unfold laws_heldIntS.f
  exact held_loop l' (by omega) l.length 0 1 (by omega) (by omega) (by omega) (by omega) (fun i h3 h4 => (hg i).2 h3 (by omega)) k hk
/-- The list, as the program computes it. -/
def listV (n : Nat) : List Int := ((impl_StripLabels.f 2500 (n : Int)).getD ([], false)).1
theorem tab : ∀ n : Nat, n < 8 → spec_StripLabels.f 2500 (n : Int) = some (listV n, true) ∧ impl_StripLabels.f 2500 (n : Int) = some (listV n, true) ∧ (listV n).length = 2 ^ n := by decide +kernel
theorem pow_le : ∀ n : Nat, n < 8 → 2 ^ n ≤ 128 := by decide +kernel

/-- YOURS: ∀ (a0 : Int), (Lit.int .i64 a0).wf = true → ∃ k, laws_FnExactStripLabels.f k a0 = some true
What it reaches (each with k first where it has rounds; `.mono`: more rounds tell the same; `.l0`, ..: its loops, with `.mono_l`): laws_eqIntS.f, laws_markIntS.f, laws_heldIntS.f, spec_l1In.f, spec_foFolds.f, spec_foStrip.f, spec_StripLabels.f, impl_within.f, impl_isFolds.f, slices_Clone_int_int.f, slices_Reverse_int_int.f, impl_strip.f, impl_StripLabels.f, laws_FnExactStripLabels.f -/
theorem FnExactStripLabels : laws_FnExactStripLabels.Pure := by
  intro a0 w0
  have hb : ∃ r : List Int × Bool, ∃ K, r.1.length ≤ 1000000 ∧ ∀ k, K ≤ k → spec_StripLabels.f k a0 = some r ∧ impl_StripLabels.f k a0 = some r := by
    by_cases h : 0 ≤ a0 ∧ a0 ≤ 7
    · obtain ⟨n, rfl⟩ := Int.eq_ofNat_of_zero_le h.1
      obtain ⟨t1, t2, t3⟩ := tab n (by omega)
      have hp := pow_le n (by omega)
      exact ⟨(listV n, true), 2500, by show (listV n).length ≤ _; omega, fun k hk => ⟨at_rounds (spec_StripLabels.mono _) hk t1, at_rounds (impl_StripLabels.mono _) hk t2⟩⟩
    · refine ⟨([], false), 0, by simp, fun k hk => ?_⟩
      unfold spec_StripLabels.f impl_StripLabels.f spec_foFolds.f impl_isFolds.f
      rw [in_spec, in_impl, decide_eq_false h]
      simp
  obtain ⟨⟨l, ok⟩, K, hl, h⟩ := hb
  obtain ⟨l', hm⟩ := marks l hl
  obtain ⟨M, hM1, hM2⟩ : ∃ M, K ≤ M ∧ l.length < M := ⟨K + l.length + 1, by omega, by omega⟩
  refine ⟨M + 2, ?_⟩
  unfold laws_FnExactStripLabels.f
  rw [(h (M + 2) (by omega)).1, (h (M + 2) (by omega)).2]
  simp only [Option.bind_some]
  rw [eq_self l hl (M + 2) (by omega)]
  simp only [Option.bind_some, if_true, bne_self_eq_false]
  simp only [laws_FnExactStripLabels.j0]
  rw [if_neg (by decide), (hm (M + 1) (by omega)).1]
  simp only [Option.bind_some]
  rw [(hm (M + 1) (by omega)).2]
  simp only [Option.bind_some]
  rw [if_neg (show ¬ (1 + (l.length : Int)) < 0 by omega), if_pos trivial, (h (M + 1) (by omega)).2]
  simp only [Option.bind_some]
  rw [eq_self l hl (M + 1) (by omega)]
  simp only [Option.bind_some, if_true, bne_self_eq_false]
  simp only [laws_FnExactStripLabels.j1]
  rw [if_neg (by decide), (hm M (by omega)).2]
  simp only [Option.bind_some]
  rw [if_neg (show ¬ (1 + (l.length : Int)) < 0 by omega), if_pos trivial]

end Go.Proofs.Ytekoimaffabaoaa.Pure
