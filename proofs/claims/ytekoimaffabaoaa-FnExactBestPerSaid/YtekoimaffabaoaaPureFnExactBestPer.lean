/- The program's BestPer returns what the reference's BestPer returns: the plain statement, over numbers and lists, for all arguments; each number of its Go kind, each string and slice within the reader's bounds. -/
import Derived.Test.YtekoimaffabaoaaPFnExactBestPerx1
namespace Go.Proofs.Ytekoimaffabaoaa.Pure
open Go.RowKit Go.Proofs.Ytekoimaffabaoaa.PFnExactBestPer Go.Proofs.YtekoimaffabaoaaW.PrintWords Go.Proofs.YtekoimaffabaoaaW.PrintLast
set_option linter.unusedVariables false
set_option linter.unusedSimpArgs false

theorem w64 {x : Int} (h0 : -9223372036854775808 ≤ x) (h1 : x ≤ 9223372036854775807) : wrap64 x = x := by unfold wrap64; omega
theorem td {a b : Int} (h : 0 ≤ a) : Int.tdiv a b = a / b := Int.tdiv_eq_ediv_of_nonneg h
theorem tm {a b : Int} (h : 0 ≤ a) : Int.tmod a b = a % b := Int.tmod_eq_emod_of_nonneg h
theorem wf64 {n : Int} (h : (Lit.int .i64 n).wf = true) : -9223372036854775808 ≤ n ∧ n ≤ 9223372036854775807 := by
  simp [Lit.wf, IntKind.min, IntKind.max, IntKind.signed, IntKind.bits] at h
  omega
theorem in_spec (a b c : Int) : spec_l1In.f a b c = some (decide (b ≤ a ∧ a ≤ c)) := by
  unfold spec_l1In.f; by_cases h : b ≤ a <;> simp [h]
theorem in_impl (a b c : Int) : impl_within.f a b c = some (decide (b ≤ a ∧ a ≤ c)) := by
  unfold impl_within.f; by_cases h : b ≤ a <;> simp [h]
theorem fobook_spec (a : Int) : spec_foBook.f a = some (decide (1 ≤ a ∧ a ≤ 2000)) := by simp [spec_foBook.f, in_spec]
theorem isbook_impl (a : Int) : impl_isBook.f a = some (decide (1 ≤ a ∧ a ≤ 2000)) := by simp [impl_isBook.f, in_impl]
theorem both_spec (a b : Int) : spec_foBoth.f a b = some (decide ((1 ≤ a ∧ a ≤ 2000) ∧ 1 ≤ b ∧ b ≤ 16)) := by
  unfold spec_foBoth.f
  rw [fobook_spec, in_spec]
  by_cases h : 1 ≤ a ∧ a ≤ 2000 <;> simp [h]
theorem bound_impl (a b : Int) : impl_isBound.f a b = some (decide ((1 ≤ a ∧ a ≤ 2000) ∧ 1 ≤ b ∧ b ≤ 16)) := by
  unfold impl_isBound.f
  rw [isbook_impl, in_impl]
  by_cases h : 1 ≤ a ∧ a ≤ 2000 <;> simp [h]
/-- How many signatures. -/
def sigV (a p : Int) : Int := (a + 4 * p - 1) / (4 * p)
/-- How many blank pages. -/
def blankV (a p : Int) : Int := sigV a p * 4 * p - a
theorem sig_bd {a p : Int} (h0 : 1 ≤ a) (h1 : a ≤ 2000) (h2 : 1 ≤ p) (h3 : p ≤ 16) : 1 ≤ sigV a p ∧ sigV a p ≤ 500 ∧ 0 ≤ blankV a p ∧ blankV a p ≤ 63 := by
  unfold blankV sigV
  have h : p = 1 ∨ p = 2 ∨ p = 3 ∨ p = 4 ∨ p = 5 ∨ p = 6 ∨ p = 7 ∨ p = 8 ∨ p = 9 ∨ p = 10 ∨ p = 11 ∨ p = 12 ∨ p = 13 ∨ p = 14 ∨ p = 15 ∨ p = 16 := by omega
  rcases h with rfl | rfl | rfl | rfl | rfl | rfl | rfl | rfl | rfl | rfl | rfl | rfl | rfl | rfl | rfl | rfl <;> omega
theorem sig_val {a p : Int} (h0 : 1 ≤ a) (h1 : a ≤ 2000) (h2 : 1 ≤ p) (h3 : p ≤ 16) :
    wrap64 (Int.tdiv (wrap64 ((wrap64 (a + (wrap64 (4 * p)))) - 1)) (wrap64 (4 * p))) = sigV a p := by
  have h := sig_bd h0 h1 h2 h3
  rw [w64 (x := 4 * p) (by omega) (by omega), w64 (x := a + 4 * p) (by omega) (by omega), w64 (x := a + 4 * p - 1) (by omega) (by omega), td (by omega)]
  exact w64 (by unfold sigV at h; omega) (by unfold sigV at h; omega)
theorem blank_val {a p : Int} (h0 : 1 ≤ a) (h1 : a ≤ 2000) (h2 : 1 ≤ p) (h3 : p ≤ 16) :
    wrap64 ((wrap64 ((wrap64 (sigV a p * 4)) * p)) - a) = blankV a p := by
  have h := sig_bd h0 h1 h2 h3
  have e : sigV a p * 4 * p = blankV a p + a := by unfold blankV; omega
  rw [w64 (x := sigV a p * 4) (by omega) (by omega), w64 (x := sigV a p * 4 * p) (by omega) (by omega)]
  exact w64 (by omega) (by omega)
theorem sig_spec {a p : Int} (h0 : 1 ≤ a) (h1 : a ≤ 2000) (h2 : 1 ≤ p) (h3 : p ≤ 16) : spec_SignaturesFor.f a p = some (sigV a p, true) := by
  have hb : (1 ≤ a ∧ a ≤ 2000) ∧ 1 ≤ p ∧ p ≤ 16 := ⟨⟨h0, h1⟩, h2, h3⟩
  have hz : wrap64 (4 * p) ≠ 0 := by rw [w64 (by omega) (by omega)]; omega
  unfold spec_SignaturesFor.f
  rw [both_spec, decide_eq_true hb, sig_val h0 h1 h2 h3]
  simp only [Option.bind_some, if_true]
  rw [if_neg hz]
theorem sigs_impl {a p : Int} (h0 : 1 ≤ a) (h1 : a ≤ 2000) (h2 : 1 ≤ p) (h3 : p ≤ 16) : impl_signatures.f a p = some (sigV a p) := by
  have hz : wrap64 (4 * p) ≠ 0 := by rw [w64 (by omega) (by omega)]; omega
  unfold impl_signatures.f
  rw [if_neg hz, sig_val h0 h1 h2 h3]
/-- Of what is told from per x on, the best so far being (b, least). -/
def BestOk (a most b least x : Int) (r : Int × Int × Bool) : Prop :=
  r.2.2 = true ∧ r.2.1 ≤ least ∧ (∀ q, x ≤ q → q ≤ most → r.2.1 ≤ blankV a q ∧ (blankV a q = r.2.1 → q ≤ r.1)) ∧
    ((r.1 = b ∧ r.2.1 = least) ∨ (x ≤ r.1 ∧ r.1 ≤ most ∧ blankV a r.1 = r.2.1))
theorem best_loop {a most : Int} (h0 : 1 ≤ a) (h1 : a ≤ 2000) (h3 : most ≤ 16) (d : Nat) : ∀ (b least x : Int), 1 ≤ b → b < x → 1 ≤ x → x + d = most + 1 →
    ∃ r, (∀ k, d < k → spec_BestPer.l0 k a most b least x = some r ∧ impl_BestPer.l0 k a most b least x = some r) ∧ BestOk a most b least x r := by
  induction d with
  | zero =>
    intro b least x hb hbx hx hd
    refine ⟨(b, least, true), fun k hk => ?_, ⟨rfl, Int.le_refl _, fun q h4 h5 => by omega, .inl ⟨rfl, rfl⟩⟩⟩
    obtain ⟨k, rfl⟩ : ∃ m, k = m + 1 := ⟨k - 1, by omega⟩
    rw [spec_BestPer.l0, impl_BestPer.l0, if_neg (show ¬ x ≤ most by omega), if_neg (show ¬ x ≤ most by omega)]
    exact ⟨rfl, rfl⟩
  | succ d ih =>
    intro b least x hb hbx hx hd
    by_cases c : blankV a x ≤ least
    · obtain ⟨r, hr, g1, g2, g3, g4⟩ := ih x (blankV a x) (x + 1) hx (by omega) (by omega) (by omega)
      refine ⟨r, fun k hk => ?_, g1, by omega, fun q h4 h5 => ?_, ?_⟩
      · obtain ⟨k, rfl⟩ : ∃ m, k = m + 1 := ⟨k - 1, by omega⟩
        refine ⟨?_, ?_⟩
        · rw [spec_BestPer.l0, if_pos (show x ≤ most by omega), sig_spec h0 h1 hx (by omega)]
          simp only [Option.bind_some]
          rw [if_neg (show ¬ b = 0 by omega), blank_val h0 h1 hx (by omega), if_pos c, w64 (x := x + 1) (by omega) (by omega)]
          exact (hr k (by omega)).1
        · rw [impl_BestPer.l0, if_pos (show x ≤ most by omega), sigs_impl h0 h1 hx (by omega)]
          simp only [Option.bind_some]
          rw [blank_val h0 h1 hx (by omega), if_pos c, w64 (x := x + 1) (by omega) (by omega)]
          exact (hr k (by omega)).2
      · by_cases e : q = x
        · subst e
          refine ⟨g2, fun h => ?_⟩
          rcases g4 with ⟨h6, _⟩ | ⟨h6, _⟩ <;> omega
        · exact g3 q (by omega) h5
      · rcases g4 with ⟨h6, h7⟩ | ⟨h6, h7, h8⟩
        · exact .inr ⟨by omega, by omega, by rw [h6, h7]⟩
        · exact .inr ⟨by omega, h7, h8⟩
    · obtain ⟨r, hr, g1, g2, g3, g4⟩ := ih b least (x + 1) hb (by omega) (by omega) (by omega)
      refine ⟨r, fun k hk => ?_, g1, g2, fun q h4 h5 => ?_, ?_⟩
      · obtain ⟨k, rfl⟩ : ∃ m, k = m + 1 := ⟨k - 1, by omega⟩
        refine ⟨?_, ?_⟩
        · rw [spec_BestPer.l0, if_pos (show x ≤ most by omega), sig_spec h0 h1 hx (by omega)]
          simp only [Option.bind_some]
          rw [if_neg (show ¬ b = 0 by omega), blank_val h0 h1 hx (by omega), if_neg c, w64 (x := x + 1) (by omega) (by omega)]
          exact (hr k (by omega)).1
        · rw [impl_BestPer.l0, if_pos (show x ≤ most by omega), sigs_impl h0 h1 hx (by omega)]
          simp only [Option.bind_some]
          rw [blank_val h0 h1 hx (by omega), if_neg c, w64 (x := x + 1) (by omega) (by omega)]
          exact (hr k (by omega)).2
      · by_cases e : q = x
        · subst e
          exact ⟨by omega, fun h => by omega⟩
        · exact g3 q (by omega) h5
      · rcases g4 with h6 | ⟨h6, h7, h8⟩
        · exact .inl h6
        · exact .inr ⟨by omega, h7, h8⟩
theorem best_both {a most : Int} (hb : (1 ≤ a ∧ a ≤ 2000) ∧ 1 ≤ most ∧ most ≤ 16) :
    ∃ r : Int × Int × Bool, (∀ k, 20 ≤ k → spec_BestPer.f k a most = some r ∧ impl_BestPer.f k a most = some r) ∧ r.2.2 = true ∧ 1 ≤ r.1 ∧ r.1 ≤ most ∧ blankV a r.1 = r.2.1 ∧
      ∀ q, 1 ≤ q → q ≤ most → r.2.1 ≤ blankV a q ∧ (blankV a q = r.2.1 → q ≤ r.1) := by
  obtain ⟨⟨h0, h1⟩, h2, h3⟩ := hb
  have hb : (1 ≤ a ∧ a ≤ 2000) ∧ 1 ≤ most ∧ most ≤ 16 := ⟨⟨h0, h1⟩, h2, h3⟩
  obtain ⟨r, hr, g1, g2, g3, g4⟩ := best_loop h0 h1 h3 (most - 1).toNat 1 (blankV a 1) 2 (by omega) (by omega) (by omega) (by omega)
  have hs := sig_bd h0 h1 (p := 1) (by omega) (by omega)
  have g5 : 1 ≤ r.1 ∧ r.1 ≤ most ∧ blankV a r.1 = r.2.1 := by
    rcases g4 with ⟨h6, h7⟩ | ⟨h6, h7, h8⟩
    · exact ⟨by omega, by omega, by rw [h6, h7]⟩
    · exact ⟨by omega, h7, h8⟩
  refine ⟨r, fun k hk => ?_, g1, g5.1, g5.2.1, g5.2.2, fun q h4 h5 => ?_⟩
  · obtain ⟨k, rfl⟩ : ∃ m, k = m + 1 := ⟨k - 1, by omega⟩
    have g := hr k (by omega)
    refine ⟨?_, ?_⟩
    · unfold spec_BestPer.f
      rw [both_spec, decide_eq_true hb]
      simp only [Option.bind_some, if_true]
      rw [spec_BestPer.l0, if_pos h2, sig_spec h0 h1 (by omega) (by omega)]
      simp only [Option.bind_some, if_true]
      rw [blank_val h0 h1 (by omega) (by omega), w64 (x := 1 + 1) (by decide) (by decide)]
      exact g.1
    · unfold impl_BestPer.f
      rw [bound_impl, decide_eq_true hb]
      simp only [Option.bind_some, if_true]
      rw [impl_BestPer.l0, if_pos h2, sigs_impl h0 h1 (by omega) (by omega)]
      simp only [Option.bind_some, if_true]
      rw [blank_val h0 h1 (by omega) (by omega), if_pos (by omega), w64 (x := 1 + 1) (by decide) (by decide)]
      exact g.2
  · by_cases e : q = 1
    · subst e
      exact ⟨g2, fun _ => g5.1⟩
    · exact g3 q (by omega) h5

/-- YOURS: ∀ (a0 : Int) (a1 : Int), (Lit.int .i64 a0).wf = true → (Lit.int .i64 a1).wf = true → ∃ k, laws_FnExactBestPer.f k a0 a1 = some true
What it reaches (each with k first where it has rounds; `.mono`: more rounds tell the same; `.l0`, ..: its loops, with `.mono_l`): spec_l1In.f, spec_foBook.f, spec_foBoth.f, spec_SignaturesFor.f, spec_BestPer.f, impl_within.f, impl_isBook.f, impl_isBound.f, impl_signatures.f, impl_BestPer.f, laws_FnExactBestPer.f -/
theorem FnExactBestPer : laws_FnExactBestPer.Pure := by
  intro a0 a1 _ _
  by_cases hb : (1 ≤ a0 ∧ a0 ≤ 2000) ∧ 1 ≤ a1 ∧ a1 ≤ 16
  · obtain ⟨r, hr, _⟩ := best_both hb
    refine ⟨20, ?_⟩
    unfold laws_FnExactBestPer.f
    rw [(hr 20 (by omega)).1, (hr 20 (by omega)).2]
    simp
  · refine ⟨0, ?_⟩
    unfold laws_FnExactBestPer.f spec_BestPer.f impl_BestPer.f
    rw [both_spec, bound_impl, decide_eq_false hb]
    simp

end Go.Proofs.Ytekoimaffabaoaa.Pure
