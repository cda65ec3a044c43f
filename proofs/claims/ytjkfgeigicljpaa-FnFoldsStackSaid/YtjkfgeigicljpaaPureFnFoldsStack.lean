/- The program's FnFoldsStack returns what the reference's FnFoldsStack returns: the plain statement, over numbers and lists, for all arguments; each number of its Go kind, each string and slice within the reader's bounds. -/
import Derived.Test.YtjkfgeigicljpaaPFnFoldsStackx16
namespace Go.Proofs.Ytjkfgeigicljpaa.Pure
open Go.RowKit Go.Proofs.Ytjkfgeigicljpaa.PFnFoldsStack Go.Proofs.YtjkfgeigicljpaaW.PrintWords Go.Proofs.YtjkfgeigicljpaaW.PrintLast
set_option linter.unusedVariables false
set_option linter.unusedSimpArgs false

theorem w64 {x : Int} (h0 : -9223372036854775808 ≤ x) (h1 : x ≤ 9223372036854775807) : wrap64 x = x := by unfold wrap64; omega
theorem td {a b : Int} (h : 0 ≤ a) : Int.tdiv a b = a / b := Int.tdiv_eq_ediv_of_nonneg h
theorem tm {a b : Int} (h : 0 ≤ a) : Int.tmod a b = a % b := Int.tmod_eq_emod_of_nonneg h
theorem wf64 {n : Int} (h : (Lit.int .i64 n).wf = true) : -9223372036854775808 ≤ n ∧ n ≤ 9223372036854775807 := by
  simp [Lit.wf, IntKind.min, IntKind.max, IntKind.signed, IntKind.bits] at h
  omega
theorem and255 (x : Int) : 0 ≤ wrap64 (Go.bits .and .u64 x 255) ∧ wrap64 (Go.bits .and .u64 x 255) ≤ 255 := by
  have e : ∃ n : Nat, n ≤ 255 ∧ Go.bits .and .u64 x 255 = IntKind.u64.wrap (n : Int) := by
    refine ⟨(BitVec.ofInt IntKind.u64.bits x &&& BitVec.ofInt IntKind.u64.bits 255).toNat, ?_, rfl⟩
    rw [BitVec.toNat_and]
    refine Nat.le_trans Nat.and_le_right ?_
    decide
  obtain ⟨n, hn, e⟩ := e
  have w : IntKind.u64.wrap (n : Int) = (n : Int) := by
    simp [IntKind.wrap, IntKind.signed, IntKind.bits]
    omega
  rw [e, w, w64 (by omega) (by omega)]
  omega
/-- The bytes that a draw reads. -/
def Bytes (l : List Int) : Prop := ∀ x ∈ l, 0 ≤ x ∧ x ≤ 255
theorem bytes_of {l : List Int} (h : ∀ x ∈ l, (Lit.int .u8 x).wf = true) : Bytes l := by
  intro x hx
  have := h x hx
  simp [Lit.wf, IntKind.min, IntKind.max, IntKind.signed, IntKind.bits] at this
  omega
theorem rd_byte {l : List Int} (h : Bytes l) (i : Int) : 0 ≤ rd l i ∧ rd l i ≤ 255 := by
  unfold rd
  rw [List.getD_eq_getElem?_getD]
  cases e : l[i.toNat]? with
  | none => simp
  | some v => exact h v (List.mem_of_getElem? e)
theorem next_ok {l : List Int} (hb : Bytes l) {p : Int} (s : Int) (h0 : 0 ≤ p) (h1 : p ≤ 1000000000) : ∃ v p' s', spec_l1Cur_next.f l p s = some (v, p', s') ∧ (0 ≤ v ∧ v ≤ 255) ∧ 0 ≤ p' ∧ p' ≤ p + 1 := by
  have hp : wrap64 (p + 1) = p + 1 := w64 (by omega) (by omega)
  have hr := rd_byte hb p
  have hw : wrap64 (rd l p) = rd l p := w64 (by omega) (by omega)
  unfold spec_l1Cur_next.f
  rw [hp, hw]
  by_cases c : p < (l.length : Int)
  · rw [if_pos c, if_pos h0, if_pos (show p + 1 ≤ (l.length : Int) by clear hp hw; omega)]
    exact ⟨_, _, _, rfl, hr, by clear hp hw; omega, by clear hp hw; omega⟩
  · rw [if_neg c, if_neg (show ¬ p + 1 ≤ (l.length : Int) by clear hp hw; omega)]
    exact ⟨_, _, _, rfl, and255 _, by clear hp hw; omega, by clear hp hw; omega⟩
theorem tmod_bd {a n : Int} (h : 0 ≤ a) (hn : 1 ≤ n) : 0 ≤ Int.tmod a n ∧ Int.tmod a n < n := by
  rw [tm h]
  exact ⟨Int.emod_nonneg _ (by omega), Int.emod_lt_of_pos _ (by omega)⟩
theorem pick_ok {l : List Int} (hb : Bytes l) {p n : Int} (s : Int) (h0 : 0 ≤ p) (h1 : p ≤ 1000000) (_hn : n ≤ 65536) : ∃ v p' s', spec_l1Cur_pick.f l p s n = some (v, p', s') ∧ (0 ≤ v ∧ (v < n ∨ v = 0)) ∧ 0 ≤ p' ∧ p' ≤ p + 2 := by
  unfold spec_l1Cur_pick.f
  by_cases c : n ≤ 1
  · rw [if_pos c]
    exact ⟨_, _, _, rfl, ⟨Int.le_refl _, .inr rfl⟩, h0, by omega⟩
  · rw [if_neg c]
    obtain ⟨v, p', s', e, hv, g0, g1⟩ := next_ok hb s h0 (by omega)
    rw [e, Option.bind_some]
    have n0 : ¬ n = 0 := by omega
    dsimp only
    by_cases c2 : n > 200
    · rw [if_pos c2]
      obtain ⟨u, q', t', e2, hu, k0, k1⟩ := next_ok hb s' g0 (by omega)
      rw [e2, Option.bind_some, if_neg n0]
      have w1 : wrap64 (v * 256) = v * 256 := w64 (by omega) (by omega)
      have w2 : wrap64 (v * 256 + u) = v * 256 + u := w64 (by omega) (by omega)
      dsimp only
      rw [w1, w2]
      have m := tmod_bd (a := v * 256 + u) (n := n) (by clear w1 w2; omega) (by clear w1 w2; omega)
      exact ⟨_, _, _, rfl, ⟨m.1, .inl m.2⟩, k0, by clear w1 w2; omega⟩
    · rw [if_neg c2, if_neg n0]
      have m := tmod_bd (a := v) (n := n) hv.1 (by omega)
      exact ⟨_, _, _, rfl, ⟨m.1, .inl m.2⟩, g0, by omega⟩
theorem among_ok {l : List Int} (hb : Bytes l) {p : Int} (s : Int) (h0 : 0 ≤ p) (h1 : p ≤ 1000000) {xs : List Int} (x0 : 1 ≤ xs.length) (x1 : xs.length ≤ 1000) :
    ∃ v p' s', spec_l1Cur_among.f l p s xs = some (v, p', s') ∧ v ∈ xs ∧ 0 ≤ p' ∧ p' ≤ p + 2 := by
  unfold spec_l1Cur_among.f
  obtain ⟨v, p', s', e, hv, g0, g1⟩ := pick_ok hb s h0 h1 (n := (xs.length : Int)) (by omega)
  rw [e, Option.bind_some]
  have c : v < (xs.length : Int) := by omega
  dsimp only
  rw [if_pos hv.1, if_pos c]
  refine ⟨_, _, _, rfl, ?_, g0, g1⟩
  unfold rd
  rw [List.getD_eq_getElem?_getD, List.getElem?_eq_getElem (show v.toNat < xs.length by omega)]
  exact List.getElem_mem _
theorem one_ok {l : List Int} (hb : Bytes l) {p n : Int} (s : Int) (h0 : 0 ≤ p) (h1 : p ≤ 1000000) (hn : n ≤ 65536) : ∃ v p' s', spec_l1Cur_one.f l p s n = some (v, p', s') ∧ 0 ≤ p' ∧ p' ≤ p + 2 := by
  unfold spec_l1Cur_one.f
  obtain ⟨v, p', s', e, hv, g0, g1⟩ := pick_ok hb s h0 h1 hn
  rw [e, Option.bind_some]
  exact ⟨_, _, _, rfl, g0, g1⟩
theorem most_ok (a b : Int) : spec_l1Most.f a b = some (if a > b then a else b) := by unfold spec_l1Most.f; split <;> rfl
theorem least_ok (a b : Int) : spec_l1Least.f a b = some (if a < b then a else b) := by unfold spec_l1Least.f; split <;> rfl
theorem least20 (a : Int) : (if (if a > 0 then a else 0) < 20 then (if a > 0 then a else 0) else 20) ≤ 20 ∧ 0 ≤ (if (if a > 0 then a else 0) < 20 then (if a > 0 then a else 0) else 20) := by
  by_cases h : a > 0
  · rw [if_pos h]; by_cases h2 : a < 20
    · rw [if_pos h2]; omega
    · rw [if_neg h2]; omega
  · rw [if_neg h]; decide
theorem w_small {x : Int} (h0 : 0 ≤ x) (h1 : x ≤ 1000) : wrap64 x ≤ 65536 := by rw [w64 (by omega) (by omega)]; omega
theorem bookSize_ok {l : List Int} (hb : Bytes l) : ∃ n p s, spec_l1Cur_bookSize.f l 0 0 = some (n, p, s) ∧ 0 ≤ p ∧ p ≤ 10 := by
  unfold spec_l1Cur_bookSize.f
  obtain ⟨b, p', s', e, g0, g1⟩ := one_ok hb (p := 0) 0 (by decide) (by decide) (n := 12) (by decide)
  rw [e, Option.bind_some]
  dsimp only
  cases b with
  | true =>
    obtain ⟨v, q', t', e2, _, k0, k1⟩ := among_ok hb s' g0 (by omega) (xs := ([0, (-1), 2000, 2001, 4611686018427387904] : List Int)) (by decide) (by decide)
    rw [if_pos rfl, e2, Option.bind_some]
    exact ⟨_, _, _, rfl, k0, by show q' ≤ 10; omega⟩
  | false =>
    obtain ⟨v, q', t', e2, _, k0, k1⟩ := pick_ok hb s' g0 (by omega) (n := 70) (by decide)
    rw [if_neg (by decide), e2, Option.bind_some]
    exact ⟨_, _, _, rfl, k0, by show q' ≤ 10; omega⟩
theorem in_spec (a b c : Int) : spec_l1In.f a b c = some (decide (b ≤ a ∧ a ≤ c)) := by
  unfold spec_l1In.f; by_cases h : b ≤ a <;> simp [h]
theorem in_impl (a b c : Int) : impl_within.f a b c = some (decide (b ≤ a ∧ a ≤ c)) := by
  unfold impl_within.f; by_cases h : b ≤ a <;> simp [h]
theorem fobook_spec (a : Int) : spec_foBook.f a = some (decide (1 ≤ a ∧ a ≤ 2000)) := by simp [spec_foBook.f, in_spec]
theorem isbook_impl (a : Int) : impl_isBook.f a = some (decide (1 ≤ a ∧ a ≤ 2000)) := by simp [impl_isBook.f, in_impl]
theorem both_spec (a b : Int) : spec_foBoth.f a b = some (decide ((1 ≤ a ∧ a ≤ 2000) ∧ 1 ≤ b ∧ b ≤ 16)) := by
  unfold spec_foBoth.f
  rw [fobook_spec, in_spec]
  by_cases h : 1 ≤ a ∧ a ≤ 2000 <;> simp [h]
theorem bound_impl (a b : Int) : impl_isBound.f a b = some (decide ((1 ≤ a ∧ a ≤ 2000) ∧ 1 ≤ b ∧ b ≤ 16)) := by
  unfold impl_isBound.f
  rw [isbook_impl, in_impl]
  by_cases h : 1 ≤ a ∧ a ≤ 2000 <;> simp [h]
/-- How many signatures. -/
def sigV (a p : Int) : Int := (a + 4 * p - 1) / (4 * p)
/-- How many blank pages. -/
def blankV (a p : Int) : Int := sigV a p * 4 * p - a
theorem sig_bd {a p : Int} (h0 : 1 ≤ a) (h1 : a ≤ 2000) (h2 : 1 ≤ p) (h3 : p ≤ 16) : 1 ≤ sigV a p ∧ sigV a p ≤ 500 ∧ 0 ≤ blankV a p ∧ blankV a p ≤ 63 := by
  unfold blankV sigV
  have h : p = 1 ∨ p = 2 ∨ p = 3 ∨ p = 4 ∨ p = 5 ∨ p = 6 ∨ p = 7 ∨ p = 8 ∨ p = 9 ∨ p = 10 ∨ p = 11 ∨ p = 12 ∨ p = 13 ∨ p = 14 ∨ p = 15 ∨ p = 16 := by omega
  rcases h with rfl | rfl | rfl | rfl | rfl | rfl | rfl | rfl | rfl | rfl | rfl | rfl | rfl | rfl | rfl | rfl <;> omega
theorem sig_val {a p : Int} (h0 : 1 ≤ a) (h1 : a ≤ 2000) (h2 : 1 ≤ p) (h3 : p ≤ 16) :
    wrap64 (Int.tdiv (wrap64 ((wrap64 (a + (wrap64 (4 * p)))) - 1)) (wrap64 (4 * p))) = sigV a p := by
  have h := sig_bd h0 h1 h2 h3
  rw [w64 (x := 4 * p) (by omega) (by omega), w64 (x := a + 4 * p) (by omega) (by omega), w64 (x := a + 4 * p - 1) (by omega) (by omega), td (by omega)]
  exact w64 (by unfold sigV at h; omega) (by unfold sigV at h; omega)
theorem blank_val {a p : Int} (h0 : 1 ≤ a) (h1 : a ≤ 2000) (h2 : 1 ≤ p) (h3 : p ≤ 16) :
    wrap64 ((wrap64 ((wrap64 (sigV a p * 4)) * p)) - a) = blankV a p := by
  have h := sig_bd h0 h1 h2 h3
  have e : sigV a p * 4 * p = blankV a p + a := by unfold blankV; omega
  rw [w64 (x := sigV a p * 4) (by omega) (by omega), w64 (x := sigV a p * 4 * p) (by omega) (by omega)]
  exact w64 (by omega) (by omega)
theorem sig_spec {a p : Int} (h0 : 1 ≤ a) (h1 : a ≤ 2000) (h2 : 1 ≤ p) (h3 : p ≤ 16) : spec_SignaturesFor.f a p = some (sigV a p, true) := by
  have hb : (1 ≤ a ∧ a ≤ 2000) ∧ 1 ≤ p ∧ p ≤ 16 := ⟨⟨h0, h1⟩, h2, h3⟩
  have hz : wrap64 (4 * p) ≠ 0 := by rw [w64 (by omega) (by omega)]; omega
  unfold spec_SignaturesFor.f
  rw [both_spec, decide_eq_true hb, sig_val h0 h1 h2 h3]
  simp only [Option.bind_some, if_true]
  rw [if_neg hz]
theorem sigs_impl {a p : Int} (h0 : 1 ≤ a) (h1 : a ≤ 2000) (h2 : 1 ≤ p) (h3 : p ≤ 16) : impl_signatures.f a p = some (sigV a p) := by
  have hz : wrap64 (4 * p) ≠ 0 := by rw [w64 (by omega) (by omega)]; omega
  unfold impl_signatures.f
  rw [if_neg hz, sig_val h0 h1 h2 h3]
/-- Of what is told from per x on, the best so far being (b, least). -/
def BestOk (a most b least x : Int) (r : Int × Int × Bool) : Prop :=
  r.2.2 = true ∧ r.2.1 ≤ least ∧ (∀ q, x ≤ q → q ≤ most → r.2.1 ≤ blankV a q ∧ (blankV a q = r.2.1 → q ≤ r.1)) ∧
    ((r.1 = b ∧ r.2.1 = least) ∨ (x ≤ r.1 ∧ r.1 ≤ most ∧ blankV a r.1 = r.2.1))
theorem best_loop {a most : Int} (h0 : 1 ≤ a) (h1 : a ≤ 2000) (h3 : most ≤ 16) (d : Nat) : ∀ (b least x : Int), 1 ≤ b → b < x → 1 ≤ x → x + d = most + 1 →
    ∃ r, (∀ k, d < k → spec_BestPer.l0 k a most b least x = some r ∧ impl_BestPer.l0 k a most b least x = some r) ∧ BestOk a most b least x r := by
  induction d with
  | zero =>
    intro b least x hb hbx hx hd
    refine ⟨(b, least, true), fun k hk => ?_, ⟨rfl, Int.le_refl _, fun q h4 h5 => by omega, .inl ⟨rfl, rfl⟩⟩⟩
    obtain ⟨k, rfl⟩ : ∃ m, k = m + 1 := ⟨k - 1, by omega⟩
    rw [spec_BestPer.l0, impl_BestPer.l0, if_neg (show ¬ x ≤ most by omega), if_neg (show ¬ x ≤ most by omega)]
    exact ⟨rfl, rfl⟩
  | succ d ih =>
    intro b least x hb hbx hx hd
    by_cases c : blankV a x ≤ least
    · obtain ⟨r, hr, g1, g2, g3, g4⟩ := ih x (blankV a x) (x + 1) hx (by omega) (by omega) (by omega)
      refine ⟨r, fun k hk => ?_, g1, by omega, fun q h4 h5 => ?_, ?_⟩
      · obtain ⟨k, rfl⟩ : ∃ m, k = m + 1 := ⟨k - 1, by omega⟩
        refine ⟨?_, ?_⟩
        · rw [spec_BestPer.l0, if_pos (show x ≤ most by omega), sig_spec h0 h1 hx (by omega)]
          simp only [Option.bind_some]
          rw [if_neg (show ¬ b = 0 by omega), blank_val h0 h1 hx (by omega), if_pos c, w64 (x := x + 1) (by omega) (by omega)]
          exact (hr k (by omega)).1
        · rw [impl_BestPer.l0, if_pos (show x ≤ most by omega), sigs_impl h0 h1 hx (by omega)]
          simp only [Option.bind_some]
          rw [blank_val h0 h1 hx (by omega), if_pos c, w64 (x := x + 1) (by omega) (by omega)]
          exact (hr k (by omega)).2
      · by_cases e : q = x
        · subst e
          refine ⟨g2, fun h => ?_⟩
          rcases g4 with ⟨h6, _⟩ | ⟨h6, _⟩ <;> omega
        · exact g3 q (by omega) h5
      · rcases g4 with ⟨h6, h7⟩ | ⟨h6, h7, h8⟩
        · exact .inr ⟨by omega, by omega, by rw [h6, h7]⟩
        · exact .inr ⟨by omega, h7, h8⟩
    · obtain ⟨r, hr, g1, g2, g3, g4⟩ := ih b least (x + 1) hb (by omega) (by omega) (by omega)
      refine ⟨r, fun k hk => ?_, g1, g2, fun q h4 h5 => ?_, ?_⟩
      · obtain ⟨k, rfl⟩ : ∃ m, k = m + 1 := ⟨k - 1, by omega⟩
        refine ⟨?_, ?_⟩
        · rw [spec_BestPer.l0, if_pos (show x ≤ most by omega), sig_spec h0 h1 hx (by omega)]
          simp only [Option.bind_some]
          rw [if_neg (show ¬ b = 0 by omega), blank_val h0 h1 hx (by omega), if_neg c, w64 (x := x + 1) (by omega) (by omega)]
          exact (hr k (by omega)).1
        · rw [impl_BestPer.l0, if_pos (show x ≤ most by omega), sigs_impl h0 h1 hx (by omega)]
          simp only [Option.bind_some]
          rw [blank_val h0 h1 hx (by omega), if_neg c, w64 (x := x + 1) (by omega) (by omega)]
          exact (hr k (by omega)).2
      · by_cases e : q = x
        · subst e
          exact ⟨by omega, fun h => by omega⟩
        · exact g3 q (by omega) h5
      · rcases g4 with h6 | ⟨h6, h7, h8⟩
        · exact .inl h6
        · exact .inr ⟨by omega, h7, h8⟩
theorem best_both {a most : Int} (hb : (1 ≤ a ∧ a ≤ 2000) ∧ 1 ≤ most ∧ most ≤ 16) :
    ∃ r : Int × Int × Bool, (∀ k, 20 ≤ k → spec_BestPer.f k a most = some r ∧ impl_BestPer.f k a most = some r) ∧ r.2.2 = true ∧ 1 ≤ r.1 ∧ r.1 ≤ most ∧ blankV a r.1 = r.2.1 ∧
      ∀ q, 1 ≤ q → q ≤ most → r.2.1 ≤ blankV a q ∧ (blankV a q = r.2.1 → q ≤ r.1) := by
  obtain ⟨⟨h0, h1⟩, h2, h3⟩ := hb
  have hb : (1 ≤ a ∧ a ≤ 2000) ∧ 1 ≤ most ∧ most ≤ 16 := ⟨⟨h0, h1⟩, h2, h3⟩
  obtain ⟨r, hr, g1, g2, g3, g4⟩ := best_loop h0 h1 h3 (most - 1).toNat 1 (blankV a 1) 2 (by omega) (by omega) (by omega) (by omega)
  have hs := sig_bd h0 h1 (p := 1) (by omega) (by omega)
  have g5 : 1 ≤ r.1 ∧ r.1 ≤ most ∧ blankV a r.1 = r.2.1 := by
    rcases g4 with ⟨h6, h7⟩ | ⟨h6, h7, h8⟩
    · exact ⟨by omega, by omega, by rw [h6, h7]⟩
    · exact ⟨by omega, h7, h8⟩
  refine ⟨r, fun k hk => ?_, g1, g5.1, g5.2.1, g5.2.2, fun q h4 h5 => ?_⟩
  · obtain ⟨k, rfl⟩ : ∃ m, k = m + 1 := ⟨k - 1, by omega⟩
    have g := hr k (by omega)
    refine ⟨?_, ?_⟩
    · unfold spec_BestPer.f
      rw [both_spec, decide_eq_true hb]
      simp only [Option.bind_some, if_true]
      rw [spec_BestPer.l0, if_pos h2, sig_spec h0 h1 (by omega) (by omega)]
      simp only [Option.bind_some, if_true]
      rw [blank_val h0 h1 (by omega) (by omega), w64 (x := 1 + 1) (by decide) (by decide)]
      exact g.1
    · unfold impl_BestPer.f
      rw [bound_impl, decide_eq_true hb]
      simp only [Option.bind_some, if_true]
      rw [impl_BestPer.l0, if_pos h2, sigs_impl h0 h1 (by omega) (by omega)]
      simp only [Option.bind_some, if_true]
      rw [blank_val h0 h1 (by omega) (by omega), if_pos (by omega), w64 (x := 1 + 1) (by decide) (by decide)]
      exact g.2
  · by_cases e : q = 1
    · subst e
      exact ⟨g2, fun _ => g5.1⟩
    · exact g3 q (by omega) h5
def arith (x s : Int) : Nat → List Int
  | 0 => []
  | n + 1 => x :: arith (x + s) s n
theorem arith_length (s : Int) (n : Nat) : ∀ x, (arith x s n).length = n := by
  induction n with
  | zero => intro x; rfl
  | succ n ih => intro x; simp [arith, ih]
theorem sewn_loop {a p : Int} (h0 : 1 ≤ a) (h1 : a ≤ 2000) (h2 : 1 ≤ p) (h3 : p ≤ 16) (d : Nat) : ∀ (l : List Int) (x : Int), 0 ≤ x → x ≤ 3000 → a ≤ x + 4 * d → l.length + d ≤ 1000 →
    ∃ n : Nat, n ≤ d ∧ (∀ k, d < k → spec_SewnOpenings.l0 k a p l x = some (l ++ arith x (4 * p) n, true) ∧ impl_SewnOpenings.l0 k a p l x = some (l ++ arith x (4 * p) n, true)) ∧
      (0 < n → x + 4 * p * n + 1 ≤ a + 4 * p) ∧ a < x + 4 * p * n + 1 := by
  induction d with
  | zero =>
    intro l x h4 h5 h6 h7
    refine ⟨0, by omega, fun k hk => ?_, fun h => by omega, by omega⟩
    obtain ⟨k, rfl⟩ : ∃ m, k = m + 1 := ⟨k - 1, by omega⟩
    simp only [spec_SewnOpenings.l0, impl_SewnOpenings.l0]
    rw [w64 (x := x + 1) (by omega) (by omega), if_neg (show ¬ x + 1 ≤ a by omega)]
    simp [arith]
    omega
  | succ d ih =>
    intro l x h4 h5 h6 h7
    by_cases c : x + 1 ≤ a
    · obtain ⟨n, hn, hk, g1, g2⟩ := ih (l ++ [x]) (x + 4 * p) (by omega) (by omega) (by omega) (by simp; omega)
      have e : 4 * p * ((n + 1 : Nat) : Int) = 4 * p * n + 4 * p := by rw [Int.natCast_add, Int.mul_add]; simp
      refine ⟨n + 1, by omega, fun k hk' => ?_, fun _ => ?_, by rw [e]; omega⟩
      · obtain ⟨k, rfl⟩ : ∃ m, k = m + 1 := ⟨k - 1, by omega⟩
        have g := hk k (by omega)
        refine ⟨?_, ?_⟩
        · simp only [spec_SewnOpenings.l0]
          rw [w64 (x := x + 1) (by omega) (by omega), if_pos c, if_pos (show l.length < 17592186044416 by omega), w64 (x := 4 * p) (by omega) (by omega), w64 (x := x + 4 * p) (by omega) (by omega), g.1]
          simp [arith]
        · simp only [impl_SewnOpenings.l0]
          rw [w64 (x := x + 1) (by omega) (by omega), if_pos c, if_pos (show l.length < 17592186044416 by omega), w64 (x := 4 * p) (by omega) (by omega), w64 (x := x + 4 * p) (by omega) (by omega), g.2]
          simp [arith]
      · rw [e]
        by_cases hz : 0 < n
        · have := g1 hz; omega
        · have : n = 0 := by omega
          subst this
          simp; omega
    · refine ⟨0, by omega, fun k hk => ?_, fun h => by omega, by simp; omega⟩
      obtain ⟨k, rfl⟩ : ∃ m, k = m + 1 := ⟨k - 1, by omega⟩
      simp only [spec_SewnOpenings.l0, impl_SewnOpenings.l0]
      rw [w64 (x := x + 1) (by omega) (by omega), if_neg c]
      simp [arith]
      omega
theorem sewn_both {a p : Int} (hb : (1 ≤ a ∧ a ≤ 2000) ∧ 1 ≤ p ∧ p ≤ 16) :
    ∃ n : Nat, n ≤ 500 ∧ (∀ k, 500 < k → spec_SewnOpenings.f k a p = some (arith (2 * p) (4 * p) n, true) ∧ impl_SewnOpenings.f k a p = some (arith (2 * p) (4 * p) n, true)) ∧
      (0 < n → 2 * p + 4 * p * n + 1 ≤ a + 4 * p) ∧ a < 2 * p + 4 * p * n + 1 := by
  obtain ⟨n, h1, h2, h3, h4⟩ := sewn_loop hb.1.1 hb.1.2 hb.2.1 hb.2.2 500 [] (2 * p) (by omega) (by omega) (by omega) (by simp)
  refine ⟨n, h1, fun k hk => ?_, h3, h4⟩
  have g := h2 k hk
  unfold spec_SewnOpenings.f impl_SewnOpenings.f
  rw [both_spec, bound_impl, w64 (x := 2 * p) (by omega) (by omega)]
  simp only [decide_eq_true hb, Option.bind_some, if_true]
  exact g
/-- The creases, as the program computes them. -/
def creaseV (n : Nat) : ByteArray := (impl_creases.f 3000 (n : Int)).getD ⟨#[]⟩
theorem crease_tab : ∀ n : Nat, n < 8 → spec_foCreases.f 3000 (n : Int) = some (creaseV n) ∧ impl_creases.f 3000 (n : Int) = some (creaseV n) ∧ (creaseV n).size = 2 ^ n - 1 := by decide +kernel
theorem shl_tab : ∀ n : Nat, n < 8 → shl .i64 1 (n : Int) = ((2 ^ n : Nat) : Int) := by decide +kernel
theorem pow_le : ∀ n : Nat, n < 8 → 1 ≤ 2 ^ n ∧ 2 ^ n ≤ 128 := by decide +kernel
theorem same_l0 (l : List Int) (hl : l.length ≤ 1000000) (d : Nat) : ∀ i : Nat, i + d = l.length → ∀ k, d < k → laws_fSame.l0 k l l (l.length : Int) (i : Int) = some true := by
  induction d with
  | zero =>
    intro i hi k hk
    obtain ⟨k, rfl⟩ : ∃ m, k = m + 1 := ⟨k - 1, by omega⟩
    rw [laws_fSame.l0, if_neg (by omega)]
  | succ d ih =>
    intro i hi k hk
    obtain ⟨k, rfl⟩ : ∃ m, k = m + 1 := ⟨k - 1, by omega⟩
    rw [laws_fSame.l0, if_pos (by omega), if_pos (by omega), if_pos (by omega), if_pos (by omega), if_pos rfl, w64 (x := (i : Int) + 1) (by omega) (by omega)]
    exact ih (i + 1) (by omega) k (by omega)
theorem same_self (l : List Int) (hl : l.length ≤ 1000000) (k : Nat) (hk : l.length < k) : laws_fSame.f k l l = some true := by
  unfold laws_fSame.f
  rw [if_pos rfl]
  exact same_l0 l hl l.length 0 (by omega) k hk
theorem rd_nat (l : List Int) (i : Nat) : rd l (i : Int) = l.getD i 0 := by
  unfold rd
  rfl
theorem rises_l0 (l : List Int) (hl : l.length ≤ 1000000) (h : ∀ j : Nat, j + 1 < l.length → rd l (j : Int) < rd l ((j + 1 : Nat) : Int)) (d : Nat) : ∀ i : Nat, i + 1 + d = l.length → ∀ k, d < k → laws_fRises.l0 k l ((i + 1 : Nat) : Int) = some true := by
  induction d with
  | zero =>
    intro i hi k hk
    obtain ⟨k, rfl⟩ : ∃ m, k = m + 1 := ⟨k - 1, by omega⟩
    rw [laws_fRises.l0, if_neg (by omega)]
  | succ d ih =>
    intro i hi k hk
    obtain ⟨k, rfl⟩ : ∃ m, k = m + 1 := ⟨k - 1, by omega⟩
    have g := h i (by omega)
    have w1 : wrap64 (((i + 1 : Nat) : Int) - 1) = (i : Int) := by rw [show ((i + 1 : Nat) : Int) - 1 = (i : Int) by omega]; exact w64 (by omega) (by omega)
    have w2 : wrap64 (((i + 1 : Nat) : Int) + 1) = ((i + 1 + 1 : Nat) : Int) := by rw [show ((i + 1 : Nat) : Int) + 1 = ((i + 1 + 1 : Nat) : Int) by omega]; exact w64 (by clear w1; omega) (by clear w1; omega)
    rw [laws_fRises.l0, if_pos (by clear w1 w2; omega), w1, w2, if_pos (by clear w1 w2; omega), if_pos (by clear w1 w2; omega), if_pos (by clear w1 w2; omega), if_neg (by clear w1 w2; omega)]
    exact ih (i + 1) (by clear w1 w2; omega) k (by clear w1 w2; omega)
theorem rises_ok (l : List Int) (hl : l.length ≤ 1000000) (h : ∀ j : Nat, j + 1 < l.length → rd l (j : Int) < rd l ((j + 1 : Nat) : Int)) (k : Nat) (hk : l.length < k) : laws_fRises.f k l = some true := by
  unfold laws_fRises.f
  cases l with
  | nil =>
    obtain ⟨k, rfl⟩ : ∃ m, k = m + 1 := ⟨k - 1, by omega⟩
    rw [laws_fRises.l0, if_neg (by decide)]
  | cons a t => exact rises_l0 (a :: t) hl h t.length 0 (by simp; omega) k (by simp at hk; omega)
theorem in16 {p : Int} (h2 : 1 ≤ p) (h3 : p ≤ 16) : p = 1 ∨ p = 2 ∨ p = 3 ∨ p = 4 ∨ p = 5 ∨ p = 6 ∨ p = 7 ∨ p = 8 ∨ p = 9 ∨ p = 10 ∨ p = 11 ∨ p = 12 ∨ p = 13 ∨ p = 14 ∨ p = 15 ∨ p = 16 := by omega
/-- There are a book and sheets of a signature. -/
def Bd (a p : Int) : Prop := (1 ≤ a ∧ a ≤ 2000) ∧ 1 ≤ p ∧ p ≤ 16
theorem sop_ok {a p q : Int} (hb : (1 ≤ a ∧ a ≤ 2000) ∧ 1 ≤ p ∧ p ≤ 16) (hq : 1 ≤ q ∧ q ≤ a) : impl_SignatureOfPage.f a p q = some ((q - 1) / (4 * p) + 1, (q - 1) % (4 * p) + 1, true) ∧ spec_SignatureOfPage.f a p q = some ((q - 1) / (4 * p) + 1, (q - 1) % (4 * p) + 1, true) := by
  have w1 : wrap64 (4 * p) = 4 * p := w64 (by omega) (by omega)
  have w2 : wrap64 (q - 1) = q - 1 := w64 (by clear w1; omega) (by clear w1; omega)
  have t1 : Int.tdiv (q - 1) (4 * p) = (q - 1) / (4 * p) := td (by clear w1 w2; omega)
  have t2 : Int.tmod (q - 1) (4 * p) = (q - 1) % (4 * p) := tm (by clear w1 w2; omega)
  have d0 : 0 ≤ (q - 1) / (4 * p) := Int.ediv_nonneg (by clear w1 w2; omega) (by clear w1 w2; omega)
  have d1 : (q - 1) / (4 * p) ≤ q - 1 := Int.ediv_le_self _ (by clear w1 w2; omega)
  have m0 : 0 ≤ (q - 1) % (4 * p) := Int.emod_nonneg _ (by clear w1 w2; omega)
  have m1 : (q - 1) % (4 * p) < 4 * p := Int.emod_lt_of_pos _ (by clear w1 w2; omega)
  generalize (q - 1) / (4 * p) = D at *
  generalize (q - 1) % (4 * p) = M at *
  have w3 : wrap64 D = D := w64 (by clear w1 w2 t1 t2; omega) (by clear w1 w2 t1 t2; omega)
  have w4 : wrap64 (D + 1) = D + 1 := w64 (by clear w1 w2 w3 t1 t2; omega) (by clear w1 w2 w3 t1 t2; omega)
  have w5 : wrap64 (M + 1) = M + 1 := w64 (by clear w1 w2 w3 w4 t1 t2; omega) (by clear w1 w2 w3 w4 t1 t2; omega)
  have z : ¬ 4 * p = 0 := by clear w1 w2 w3 w4 w5 t1 t2; omega
  unfold impl_SignatureOfPage.f spec_SignatureOfPage.f
  rw [both_spec, bound_impl, in_spec, in_impl, decide_eq_true hb, decide_eq_true hq, w1, w2, t1, t2, w3, w4, w5]
  simp only [Option.bind_some, if_true, if_neg z]
  exact ⟨trivial, trivial⟩
theorem sop_no {a p q : Int} (h : ¬ (((1 ≤ a ∧ a ≤ 2000) ∧ 1 ≤ p ∧ p ≤ 16) ∧ 1 ≤ q ∧ q ≤ a)) : impl_SignatureOfPage.f a p q = some (0, 0, false) ∧ spec_SignatureOfPage.f a p q = some (0, 0, false) := by
  unfold impl_SignatureOfPage.f spec_SignatureOfPage.f
  rw [both_spec, bound_impl, in_spec, in_impl]
  by_cases h1 : (1 ≤ a ∧ a ≤ 2000) ∧ 1 ≤ p ∧ p ≤ 16
  · rw [decide_eq_true h1, decide_eq_false (fun q => h ⟨h1, q⟩)]
    exact ⟨rfl, rfl⟩
  · rw [decide_eq_false h1]
    exact ⟨rfl, rfl⟩
theorem pib_bd {a p s q : Int} (h2 : 1 ≤ p) (h3 : p ≤ 16) (h4 : 1 ≤ q) (h5 : q ≤ 4 * p) (hs : 1 ≤ s) (hs2 : s ≤ 2000) (ha : a ≤ 2000) :
    (0 ≤ (s - 1) * 4 * p ∧ (s - 1) * 4 * p ≤ 128000) ∧ (¬ s ≤ sigV a p → (s - 1) * 4 * p + q > a) ∧ ((s - 1) * 4 * p + q ≤ a → ((s - 1) * 4 * p + q - 1) / (4 * p) + 1 = s ∧ ((s - 1) * 4 * p + q - 1) % (4 * p) + 1 = q) := by
  unfold sigV
  rcases in16 h2 h3 with rfl | rfl | rfl | rfl | rfl | rfl | rfl | rfl | rfl | rfl | rfl | rfl | rfl | rfl | rfl | rfl <;> omega
theorem pib_w {p s q : Int} (h2 : 1 ≤ p) (h3 : p ≤ 16) (h4 : 1 ≤ q) (h5 : q ≤ 4 * p) (hs : 1 ≤ s) (hs2 : s ≤ 2000) : wrap64 (wrap64 (wrap64 (wrap64 (s - 1) * 4) * p) + q) = (s - 1) * 4 * p + q := by
  have hb := (pib_bd (a := 1) h2 h3 h4 h5 hs hs2 (by decide)).1
  rw [w64 (x := s - 1) (by omega) (by omega), w64 (x := (s - 1) * 4) (by omega) (by omega), w64 (x := (s - 1) * 4 * p) (by omega) (by omega), w64 (by omega) (by omega)]
theorem pib_both {a p s q : Int} : ∃ r b, (∀ k, 1 ≤ k → impl_PageInBook.f k a p s q = some (r, b) ∧ spec_PageInBook.f k a p s q = some (r, b)) ∧ (b = true → ((1 ≤ a ∧ a ≤ 2000) ∧ 1 ≤ p ∧ p ≤ 16) ∧ (1 ≤ s ∧ s ≤ 2000) ∧ (1 ≤ q ∧ q ≤ 4 * p) ∧ r = (s - 1) * 4 * p + q ∧ r ≤ a) ∧
    (((1 ≤ a ∧ a ≤ 2000) ∧ 1 ≤ p ∧ p ≤ 16) ∧ (1 ≤ s ∧ s ≤ 2000) ∧ (1 ≤ q ∧ q ≤ 4 * p) ∧ (s - 1) * 4 * p + q ≤ a → b = true ∧ r = (s - 1) * 4 * p + q) := by
  by_cases hb : (1 ≤ a ∧ a ≤ 2000) ∧ 1 ≤ p ∧ p ≤ 16
  · have e : wrap64 (4 * p) = 4 * p := w64 (by omega) (by omega)
    have hsg := sigs_impl hb.1.1 hb.1.2 hb.2.1 hb.2.2
    have hsb := sig_bd hb.1.1 hb.1.2 hb.2.1 hb.2.2
    by_cases hc : 1 ≤ q ∧ q ≤ 4 * p
    · by_cases hd : 1 ≤ s ∧ s ≤ 2000
      · have hn := pib_bd (a := a) hb.2.1 hb.2.2 hc.1 hc.2 hd.1 hd.2 hb.1.2
        have hw := pib_w hb.2.1 hb.2.2 hc.1 hc.2 hd.1 hd.2
        by_cases hg : (s - 1) * 4 * p + q > a
        · refine ⟨0, false, fun k hk => ?_, (fun h => by cases h), fun h => by omega⟩
          obtain ⟨k, rfl⟩ : ∃ m, k = m + 1 := ⟨k - 1, by omega⟩
          unfold spec_PageInBook.f impl_PageInBook.f
          rw [hsg]
          simp only [spec_PageInBook.j0, impl_PageInBook.j0, both_spec, bound_impl, in_spec, in_impl, e, hw, decide_eq_true hb, decide_eq_true hc, decide_eq_true hd, Option.bind_some, if_true, if_pos hg, Bool.not_true, Bool.false_eq_true, if_false]
          by_cases hs : 1 ≤ s ∧ s ≤ sigV a p <;> simp [hs]
        · have hs : 1 ≤ s ∧ s ≤ sigV a p := by
            refine ⟨hd.1, ?_⟩
            by_cases x : s ≤ sigV a p
            · exact x
            · exact absurd (hn.2.1 x) hg
          refine ⟨(s - 1) * 4 * p + q, true, fun k hk => ?_, fun _ => ⟨hb, hd, hc, rfl, by omega⟩, fun _ => ⟨rfl, rfl⟩⟩
          obtain ⟨k, rfl⟩ : ∃ m, k = m + 1 := ⟨k - 1, by omega⟩
          unfold spec_PageInBook.f impl_PageInBook.f
          rw [hsg]
          simp only [spec_PageInBook.j0, impl_PageInBook.j0, both_spec, bound_impl, in_spec, in_impl, e, hw, decide_eq_true hb, decide_eq_true hc, decide_eq_true hd, decide_eq_true hs, Option.bind_some, if_true, if_neg hg, Bool.not_true, Bool.false_eq_true, if_false]
          exact ⟨trivial, trivial⟩
      · have hs : ¬ (1 ≤ s ∧ s ≤ sigV a p) := by omega
        refine ⟨0, false, fun k hk => ?_, (fun h => by cases h), fun h => by omega⟩
        obtain ⟨k, rfl⟩ : ∃ m, k = m + 1 := ⟨k - 1, by omega⟩
        unfold spec_PageInBook.f impl_PageInBook.f
        rw [hsg]
        simp only [spec_PageInBook.j0, impl_PageInBook.j0, both_spec, bound_impl, in_spec, in_impl, e, decide_eq_true hb, decide_eq_true hc, decide_eq_false hd, decide_eq_false hs, Option.bind_some, if_true, Bool.not_false, Bool.false_eq_true, if_false]
        exact ⟨trivial, trivial⟩
    · refine ⟨0, false, fun k hk => ?_, (fun h => by cases h), fun h => by omega⟩
      obtain ⟨k, rfl⟩ : ∃ m, k = m + 1 := ⟨k - 1, by omega⟩
      unfold spec_PageInBook.f impl_PageInBook.f
      rw [hsg]
      simp only [spec_PageInBook.j0, impl_PageInBook.j0, both_spec, bound_impl, in_spec, in_impl, e, decide_eq_true hb, decide_eq_false hc, Option.bind_some, if_true, Bool.not_false, Bool.false_eq_true, if_false]
      by_cases hs : 1 ≤ s ∧ s ≤ sigV a p <;> simp [hs]
  · refine ⟨0, false, fun k hk => ?_, (fun h => by cases h), fun h => by omega⟩
    obtain ⟨k, rfl⟩ : ∃ m, k = m + 1 := ⟨k - 1, by omega⟩
    unfold spec_PageInBook.f impl_PageInBook.f
    simp only [spec_PageInBook.j0, impl_PageInBook.j0, both_spec, bound_impl, decide_eq_false hb, Option.bind_some, Bool.false_eq_true, if_false, if_true]
    exact ⟨trivial, trivial⟩
theorem sigf_ok {a p : Int} (hb : (1 ≤ a ∧ a ≤ 2000) ∧ 1 ≤ p ∧ p ≤ 16) : impl_SignaturesFor.f a p = some (sigV a p, true) ∧ spec_SignaturesFor.f a p = some (sigV a p, true) := by
  refine ⟨?_, sig_spec hb.1.1 hb.1.2 hb.2.1 hb.2.2⟩
  unfold impl_SignaturesFor.f
  rw [bound_impl, decide_eq_true hb, Option.bind_some, if_pos rfl, sigs_impl hb.1.1 hb.1.2 hb.2.1 hb.2.2]
  rfl
theorem sigf_no {a p : Int} (hb : ¬ ((1 ≤ a ∧ a ≤ 2000) ∧ 1 ≤ p ∧ p ≤ 16)) : impl_SignaturesFor.f a p = some (0, false) ∧ spec_SignaturesFor.f a p = some (0, false) := by
  unfold impl_SignaturesFor.f spec_SignaturesFor.f
  rw [both_spec, bound_impl, decide_eq_false hb]
  exact ⟨rfl, rfl⟩
theorem sewn_no {a p : Int} (hb : ¬ ((1 ≤ a ∧ a ≤ 2000) ∧ 1 ≤ p ∧ p ≤ 16)) (k : Nat) : impl_SewnOpenings.f k a p = some ([], false) ∧ spec_SewnOpenings.f k a p = some ([], false) := by
  unfold impl_SewnOpenings.f spec_SewnOpenings.f
  rw [both_spec, bound_impl, decide_eq_false hb]
  exact ⟨rfl, rfl⟩
theorem best_no {a p : Int} (hb : ¬ ((1 ≤ a ∧ a ≤ 2000) ∧ 1 ≤ p ∧ p ≤ 16)) (k : Nat) : impl_BestPer.f k a p = some (0, 0, false) ∧ spec_BestPer.f k a p = some (0, 0, false) := by
  unfold impl_BestPer.f spec_BestPer.f
  rw [both_spec, bound_impl, decide_eq_false hb]
  exact ⟨rfl, rfl⟩
theorem per_draw {l : List Int} (hb : Bytes l) {p s : Int} (h0 : 0 ≤ p) (h1 : p ≤ 100) : ∃ n q t, spec_l1Cur_per.f l p s = some (n, q, t) ∧ 0 ≤ q ∧ q ≤ p + 2 := by
  unfold spec_l1Cur_per.f
  obtain ⟨v, q', t', e2, _, k0, k1⟩ := among_ok hb s h0 (by omega) (xs := ([1, 2, 2, 3, 4, 5, 8, 16, 17, 0] : List Int)) (by decide) (by decide)
  rw [e2, Option.bind_some]
  exact ⟨_, _, _, rfl, k0, k1⟩
theorem leastN (a m : Int) (hm : 0 ≤ m) : (if (if a > 0 then a else 0) < m then (if a > 0 then a else 0) else m) ≤ m ∧ 0 ≤ (if (if a > 0 then a else 0) < m then (if a > 0 then a else 0) else m) := by
  by_cases h : a > 0
  · rw [if_pos h]; by_cases h2 : a < m
    · rw [if_pos h2]; omega
    · rw [if_neg h2]; omega
  · rw [if_neg h]; by_cases h2 : 0 < m
    · rw [if_pos h2]; omega
    · rw [if_neg h2]; omega
theorem drawSig_ok {l : List Int} (hb : Bytes l) : ∃ a p q, spec_DrawSignatureOfPage.f l = some (a, p, q) := by
  unfold spec_DrawSignatureOfPage.f
  obtain ⟨n, p, s, e, g0, g1⟩ := bookSize_ok hb
  rw [e, Option.bind_some]
  dsimp only
  obtain ⟨n2, p2, s2, e2, k0, k1⟩ := per_draw hb (s := s) g0 (by omega)
  rw [e2, Option.bind_some]
  dsimp only
  rw [most_ok, Option.bind_some, least_ok, Option.bind_some]
  have h20 := leastN n 200 (by decide)
  generalize (if (if n > 0 then n else 0) < 200 then (if n > 0 then n else 0) else 200) = m at h20
  obtain ⟨v, p3, s3, e3, _, m0, m1⟩ := pick_ok hb s2 k0 (by omega) (n := wrap64 (m + 2)) (w_small (by omega) (by omega))
  rw [e3, Option.bind_some]
  dsimp only
  obtain ⟨v4, p4, s4, e4, _, _, _⟩ := pick_ok hb s3 m0 (by omega) (n := 9) (by decide)
  rw [e4, Option.bind_some]
  exact ⟨_, _, _, rfl⟩
theorem drawIn_ok {l : List Int} (hb : Bytes l) : ∃ a p q r, spec_DrawPageInBook.f l = some (a, p, q, r) := by
  unfold spec_DrawPageInBook.f
  obtain ⟨n, p, s, e, g0, g1⟩ := bookSize_ok hb
  rw [e, Option.bind_some]
  dsimp only
  obtain ⟨n2, p2, s2, e2, k0, k1⟩ := per_draw hb (s := s) g0 (by omega)
  rw [e2, Option.bind_some]
  dsimp only
  obtain ⟨v5, p5, s5, e5, _, q0, q1⟩ := among_ok hb s2 k0 (by omega) (xs := ([1, 1, 2, 3, 4, 5, 0, (-1), 4611686018427387904] : List Int)) (by decide) (by decide)
  rw [e5, Option.bind_some]
  dsimp only
  rw [most_ok, Option.bind_some, least_ok, Option.bind_some]
  have h20 := leastN n2 20 (by decide)
  generalize (if (if n2 > 0 then n2 else 0) < 20 then (if n2 > 0 then n2 else 0) else 20) = m at h20
  have w4 : wrap64 (4 * m) = 4 * m := w64 (by omega) (by omega)
  rw [w4]
  obtain ⟨v, p3, s3, e3, _, m0, m1⟩ := pick_ok hb s5 q0 (by clear w4; omega) (n := wrap64 (4 * m + 2)) (w_small (by clear w4; omega) (by clear w4; omega))
  rw [e3, Option.bind_some]
  dsimp only
  obtain ⟨v4, p4, s4, e4, _, _, _⟩ := pick_ok hb s3 m0 (by clear w4; omega) (n := 9) (by decide)
  rw [e4, Option.bind_some]
  exact ⟨_, _, _, _, rfl⟩
theorem drawSewn_ok {l : List Int} (hb : Bytes l) : ∃ a p, spec_DrawSewnOpenings.f l = some (a, p) := by
  unfold spec_DrawSewnOpenings.f spec_DrawSignaturesFor.f
  obtain ⟨n, p, s, e, g0, g1⟩ := bookSize_ok hb
  rw [e, Option.bind_some]
  dsimp only
  obtain ⟨n2, p2, s2, e2, k0, k1⟩ := per_draw hb (s := s) g0 (by omega)
  rw [e2, Option.bind_some]
  exact ⟨_, _, rfl⟩
theorem shl_any : ∀ m : Nat, m < 8 → 0 ≤ IntKind.u64.wrap ((m : Nat) : Int) ∧ wrap64 ((shl .i64 1 (IntKind.u64.wrap ((m : Nat) : Int))) + 2) ≤ 65536 := by decide +kernel
theorem drawStrip_ok {l : List Int} (hb : Bytes l) : ∃ n p, spec_DrawPlaceInStrip.f l = some (n, p) ∧ -9223372036854775808 ≤ p ∧ p ≤ 9223372036854775807 := by
  unfold spec_DrawPlaceInStrip.f spec_l1Cur_folds.f
  obtain ⟨v, q', t', e2, _, k0, k1⟩ := among_ok hb 0 (p := 0) (by decide) (by decide) (xs := ([0, 1, 2, 3, 3, 4, 5, 7, 8, (-1)] : List Int)) (by decide) (by decide)
  rw [e2, Option.bind_some]
  dsimp only
  rw [Option.bind_some]
  dsimp only
  rw [most_ok, Option.bind_some, least_ok, Option.bind_some]
  have h20 := leastN v 7 (by decide)
  generalize (if (if v > 0 then v else 0) < 7 then (if v > 0 then v else 0) else 7) = m at h20
  obtain ⟨m, rfl⟩ := Int.eq_ofNat_of_zero_le h20.2
  obtain ⟨s1, s2⟩ := shl_any m (by omega)
  rw [if_pos s1]
  obtain ⟨v3, p3, s3, e3, _, m0, m1⟩ := pick_ok hb t' k0 (by omega) (n := wrap64 ((shl .i64 1 (IntKind.u64.wrap ((m : Nat) : Int))) + 2)) s2
  rw [e3, Option.bind_some]
  dsimp only
  obtain ⟨v4, p4, s4, e4, _, _, _⟩ := pick_ok hb s3 m0 (by omega) (n := 9) (by decide)
  rw [e4, Option.bind_some]
  exact ⟨_, _, rfl, by unfold wrap64; omega, by unfold wrap64; omega⟩
theorem big_ok {a b : List Int} : ∃ t, laws_big.f a b = some t := by
  unfold laws_big.f
  split
  · exact ⟨_, rfl⟩
  · exact ⟨_, rfl⟩
theorem arith_get (s : Int) (n : Nat) : ∀ (x : Int) (i : Nat), i < n → (arith x s n).getD i 0 = x + s * (i : Int) := by
  induction n with
  | zero => intro x i hi; omega
  | succ n ih =>
    intro x i hi
    cases i with
    | zero => rw [arith, List.getD_cons_zero]; simp
    | succ i =>
      rw [arith, List.getD_cons_succ, ih (x + s) i (by omega)]
      rw [Int.natCast_add, Int.mul_add]
      omega
theorem l4_ok {a p b least : Int} (hb : (1 ≤ a ∧ a ≤ 2000) ∧ 1 ≤ p ∧ p ≤ 16) (hbest : blankV a b = least) (h : ∀ q, 1 ≤ q → q ≤ p → least ≤ blankV a q ∧ (blankV a q = least → q ≤ b)) (d : Nat) :
    ∀ x : Int, 1 ≤ x → x + d = p + 1 → ∀ k, d < k → laws_FnFoldsStack.l4 k a p b least x = some true := by
  induction d with
  | zero =>
    intro x h1 h2 k hk
    obtain ⟨k, rfl⟩ : ∃ m, k = m + 1 := ⟨k - 1, by omega⟩
    rw [laws_FnFoldsStack.l4, if_neg (by omega)]
  | succ d ih =>
    intro x h1 h2 k hk
    obtain ⟨k, rfl⟩ : ∃ m, k = m + 1 := ⟨k - 1, by omega⟩
    have hx : 1 ≤ x ∧ x ≤ 16 := by omega
    have J := ih (x + 1) (by omega) (by omega) k (by omega)
    have hs := (sigf_ok (a := a) (p := x) ⟨hb.1, hx⟩).1
    have hv := blank_val hb.1.1 hb.1.2 hx.1 hx.2
    have hh := h x h1 (by omega)
    have w : wrap64 (x + 1) = x + 1 := w64 (by omega) (by omega)
    rw [laws_FnFoldsStack.l4, if_pos (by clear w hv; omega), hs, Option.bind_some]
    dsimp only
    rw [if_pos rfl, hv, if_neg (by clear w hv; omega), w]
    by_cases c : blankV a x = least
    · have := hh.2 c
      rw [if_pos c, if_neg (by clear w hv; omega)]
      by_cases c2 : x = b
      · rw [if_pos c2]; exact J
      · rw [if_neg c2]; exact J
    · rw [if_neg c, if_neg (fun e => c (by rw [e]; exact hbest))]
      exact J
theorem sewn_at {a p : Int} {i n : Nat} (hb : (1 ≤ a ∧ a ≤ 2000) ∧ 1 ≤ p ∧ p ≤ 16) (hi : i < n) (hn : 0 < n → 2 * p + 4 * p * (n : Int) + 1 ≤ a + 4 * p) :
    (1 ≤ 2 * p + 4 * p * (i : Int) ∧ 2 * p + 4 * p * (i : Int) + 1 ≤ a) ∧ (2 * p + 4 * p * (i : Int) - 1) % (4 * p) + 1 = 2 * p := by
  have hn := hn (by omega)
  obtain ⟨hb1, hb2, hb3⟩ := hb
  rcases in16 hb2 hb3 with rfl | rfl | rfl | rfl | rfl | rfl | rfl | rfl | rfl | rfl | rfl | rfl | rfl | rfl | rfl | rfl <;> omega
theorem l3_ok {a p b least : Int} {n : Nat} (hb : (1 ≤ a ∧ a ≤ 2000) ∧ 1 ≤ p ∧ p ≤ 16) (hbest : blankV a b = least) (h : ∀ q, 1 ≤ q → q ≤ p → least ≤ blankV a q ∧ (blankV a q = least → q ≤ b)) (h5 : n ≤ 500)
    (hn : 0 < n → 2 * p + 4 * p * (n : Int) + 1 ≤ a + 4 * p) (d : Nat) : ∀ i : Nat, i + d = n → ∀ k, d + 20 < k → laws_FnFoldsStack.l3 k a p b least (arith (2 * p) (4 * p) n) (n : Int) (i : Int) = some true := by
  have hl := arith_length (4 * p) n (2 * p)
  induction d with
  | zero =>
    intro i hi k hk
    obtain ⟨k, rfl⟩ : ∃ m, k = m + 1 := ⟨k - 1, by omega⟩
    rw [laws_FnFoldsStack.l3, if_neg (by omega)]
    exact l4_ok hb hbest h p.toNat 1 (by omega) (by omega) k (by omega)
  | succ d ih =>
    intro i hi k hk
    obtain ⟨k, rfl⟩ : ∃ m, k = m + 1 := ⟨k - 1, by omega⟩
    have J := ih (i + 1) (by omega) k (by omega)
    have hg : rd (arith (2 * p) (4 * p) n) (i : Int) = 2 * p + 4 * p * (i : Int) := by rw [rd_nat]; exact arith_get _ _ _ _ (by omega)
    obtain ⟨⟨g1, g2⟩, g3⟩ := sewn_at (i := i) (n := n) hb (by omega) hn
    have hs := (sop_ok (q := 2 * p + 4 * p * (i : Int)) hb ⟨g1, by omega⟩).1
    rw [g3] at hs
    have w1 : wrap64 (2 * p) = 2 * p := w64 (by omega) (by omega)
    have w2 : wrap64 ((i : Int) + 1) = ((i + 1 : Nat) : Int) := by rw [show (i : Int) + 1 = ((i + 1 : Nat) : Int) by omega]; exact w64 (by clear w1; omega) (by clear w1; omega)
    rw [laws_FnFoldsStack.l3, if_pos (by clear w1 w2; omega), if_pos (by clear w1 w2; omega), if_pos (by rw [hl]; clear w1 w2; omega), hg, hs, Option.bind_some]
    dsimp only
    rw [if_pos rfl, w1, if_pos rfl, if_neg (by clear w1 w2; omega), w2]
    exact J
theorem many_ok {a p : Int} {n : Nat} (hb : (1 ≤ a ∧ a ≤ 2000) ∧ 1 ≤ p ∧ p ≤ 16) (hn : 0 < n → 2 * p + 4 * p * (n : Int) + 1 ≤ a + 4 * p) (hn2 : a < 2 * p + 4 * p * (n : Int) + 1) :
    (n : Int) ≤ sigV a p ∧ sigV a p - 1 ≤ (n : Int) ∧ a ≤ sigV a p * 4 * p ∧ (sigV a p - 1) * 4 * p < a := by
  obtain ⟨hb1, hb2, hb3⟩ := hb
  unfold sigV
  by_cases z : 0 < n
  · have hn := hn z
    rcases in16 hb2 hb3 with rfl | rfl | rfl | rfl | rfl | rfl | rfl | rfl | rfl | rfl | rfl | rfl | rfl | rfl | rfl | rfl <;> omega
  · have : n = 0 := by omega
    subst this
    rcases in16 hb2 hb3 with rfl | rfl | rfl | rfl | rfl | rfl | rfl | rfl | rfl | rfl | rfl | rfl | rfl | rfl | rfl | rfl <;> simp at hn2 ⊢ <;> omega
theorem arith_rises {x s : Int} (hs : 1 ≤ s) (n : Nat) : ∀ j : Nat, j + 1 < (arith x s n).length → rd (arith x s n) (j : Int) < rd (arith x s n) ((j + 1 : Nat) : Int) := by
  intro j hj
  rw [arith_length] at hj
  rw [rd_nat, rd_nat, arith_get _ _ _ _ (by omega), arith_get _ _ _ _ hj, Int.natCast_add, Int.mul_add]
  omega
theorem j10_ok {a p : Int} {n : Nat} {r : Int × Int × Bool} (hb : (1 ≤ a ∧ a ≤ 2000) ∧ 1 ≤ p ∧ p ≤ 16) (hbest : blankV a r.1 = r.2.1) (h : ∀ q, 1 ≤ q → q ≤ p → r.2.1 ≤ blankV a q ∧ (blankV a q = r.2.1 → q ≤ r.1)) (h5 : n ≤ 500)
    (hn : 0 < n → 2 * p + 4 * p * (n : Int) + 1 ≤ a + 4 * p) (hn2 : a < 2 * p + 4 * p * (n : Int) + 1) (k : Nat) (hk : 1000 ≤ k) : laws_FnFoldsStack.j10 k a p (arith (2 * p) (4 * p) n) true (sigV a p) r.1 r.2.1 = some true := by
  obtain ⟨k, rfl⟩ : ∃ m, k = m + 2 := ⟨k - 2, by omega⟩
  have hl := arith_length (4 * p) n (2 * p)
  obtain ⟨m1, m2, m3, m4⟩ := many_ok hb hn hn2
  have hs := sig_bd hb.1.1 hb.1.2 hb.2.1 hb.2.2
  have J := l3_ok hb hbest h h5 hn n 0 (by omega) k (by omega)
  have hr := rises_ok (arith (2 * p) (4 * p) n) (by omega) (arith_rises (by omega) n) (k + 1) (by omega)
  have e4 : sigV a p * 4 * p = blankV a p + a := by unfold blankV; omega
  have w1 : wrap64 (sigV a p - 1) = sigV a p - 1 := w64 (by omega) (by omega)
  have w2 : wrap64 (sigV a p * 4) = sigV a p * 4 := w64 (by clear w1; omega) (by clear w1; omega)
  have w3 : wrap64 (sigV a p * 4 * p) = sigV a p * 4 * p := by rw [e4]; exact w64 (by clear w1 w2; omega) (by clear w1 w2; omega)
  have w4 : wrap64 ((sigV a p - 1) * 4) = (sigV a p - 1) * 4 := w64 (by clear w1 w2 w3; omega) (by clear w1 w2 w3; omega)
  have lo : 0 ≤ (sigV a p - 1) * 4 * p := Int.mul_nonneg (by clear w1 w2 w3 w4; omega) (by clear w1 w2 w3 w4; omega)
  have w5 : wrap64 ((sigV a p - 1) * 4 * p) = (sigV a p - 1) * 4 * p := w64 (by clear w1 w2 w3 w4; omega) (by clear w1 w2 w3 w4; omega)
  have hd : decide ((sigV a p - 1) * 4 * p ≥ a) = false := decide_eq_false (by clear w1 w2 w3 w4 w5; omega)
  rw [laws_FnFoldsStack.j10, if_pos rfl, hr, Option.bind_some, if_pos rfl, hl, if_neg (by clear w1 w2 w3 w4 w5; omega), w1, if_neg (by clear w1 w2 w3 w4 w5; omega), w2, w3, if_neg (by clear w1 w2 w3 w4 w5; omega), w4, w5, hd, laws_FnFoldsStack.j11, if_neg (by decide), hl]
  exact J
theorem j10_no {a p m b le : Int} {l : List Int} (k : Nat) (hk : 1 ≤ k) : laws_FnFoldsStack.j10 k a p l false m b le = some true := by
  obtain ⟨k, rfl⟩ : ∃ t, k = t + 1 := ⟨k - 1, by omega⟩
  rw [laws_FnFoldsStack.j10, if_neg (by decide)]
theorem sq_ok {p q : Int} (h2 : 1 ≤ p) (h3 : p ≤ 16) (hq : 1 ≤ q ∧ q ≤ 2000) : (1 ≤ (q - 1) / (4 * p) + 1 ∧ (q - 1) / (4 * p) + 1 ≤ 2000) ∧ (1 ≤ (q - 1) % (4 * p) + 1 ∧ (q - 1) % (4 * p) + 1 ≤ 4 * p) ∧ ((q - 1) / (4 * p) + 1 - 1) * 4 * p + ((q - 1) % (4 * p) + 1) = q := by
  rcases in16 h2 h3 with rfl | rfl | rfl | rfl | rfl | rfl | rfl | rfl | rfl | rfl | rfl | rfl | rfl | rfl | rfl | rfl <;> omega
/-- What is known of the openings of a book. -/
def Sewn (a p : Int) (l : List Int) (ok : Bool) (m b le : Int) : Prop := ∀ k, 1000 ≤ k → laws_FnFoldsStack.j10 k a p l ok m b le = some true
theorem j9_ok {n p s q r a v m b le : Int} {ok ok2 : Bool} {l : List Int} (hS : Sewn a v l ok2 m b le) (h : ok = true → ((1 ≤ n ∧ n ≤ 2000) ∧ 1 ≤ p ∧ p ≤ 16) ∧ (1 ≤ s ∧ s ≤ 2000) ∧ (1 ≤ q ∧ q ≤ 4 * p) ∧ r = (s - 1) * 4 * p + q ∧ r ≤ n)
    (k : Nat) (hk : 1001 ≤ k) : laws_FnFoldsStack.j9 k n p s q r ok a v l ok2 m b le = some true := by
  obtain ⟨k, rfl⟩ : ∃ t, k = t + 1 := ⟨k - 1, by omega⟩
  have J := hS k (by omega)
  cases ok with
  | false => rw [laws_FnFoldsStack.j9, if_neg (by decide)]; exact J
  | true =>
    obtain ⟨h1, h2, h3, h4, h5⟩ := h rfl
    obtain ⟨g0, _, g2⟩ := pib_bd (a := n) h1.2.1 h1.2.2 h3.1 h3.2 h2.1 h2.2 h1.1.2
    rw [← h4] at g2
    obtain ⟨g3, g4⟩ := g2 h5
    have hs := (sop_ok (q := r) h1 ⟨by omega, h5⟩).1
    rw [g3, g4] at hs
    rw [laws_FnFoldsStack.j9, if_pos rfl, hs, Option.bind_some]
    dsimp only
    rw [if_pos rfl, if_pos rfl, if_pos rfl]
    exact J
theorem j7_ok {l : List Int} (hb : Bytes l) : Ev (fun k => laws_FnFoldsStack.j7 k l false) true := by
  obtain ⟨a, p, q, d1⟩ := drawSig_ok hb
  obtain ⟨n, p2, s, t, d2⟩ := drawIn_ok hb
  obtain ⟨u, v, d3⟩ := drawSewn_ok hb
  obtain ⟨r, b, hin, hin2, _⟩ := pib_both (a := n) (p := p2) (s := s) (q := t)
  -- the openings
  have hS : ∃ (L : List Int) (ok : Bool) (m bs le : Int), Sewn u v L ok m bs le ∧ L.length ≤ 1000 ∧ (∀ k, 600 ≤ k → impl_SewnOpenings.f k u v = some (L, ok) ∧ spec_SewnOpenings.f k u v = some (L, ok)) ∧ (impl_SignaturesFor.f u v = some (m, ok) ∧ spec_SignaturesFor.f u v = some (m, ok)) ∧ (∀ k, 600 ≤ k → impl_BestPer.f k u v = some (bs, le, ok) ∧ spec_BestPer.f k u v = some (bs, le, ok)) := by
    by_cases hb : (1 ≤ u ∧ u ≤ 2000) ∧ 1 ≤ v ∧ v ≤ 16
    · obtain ⟨c, h1, h2, h3, h4⟩ := sewn_both hb
      obtain ⟨⟨b1, b2, b3⟩, g1, g2, _, _, g5, g6⟩ := best_both hb
      obtain rfl : b3 = true := g2
      refine ⟨arith (2 * v) (4 * v) c, true, sigV u v, b1, b2, fun k hk => j10_ok (r := (b1, b2, true)) hb g5 g6 h1 h3 h4 k hk, by rw [arith_length]; omega, fun k hk => ⟨(h2 k (by omega)).2, (h2 k (by omega)).1⟩, sigf_ok hb, fun k hk => ⟨(g1 k (by omega)).2, (g1 k (by omega)).1⟩⟩
    · exact ⟨[], false, 0, 0, 0, fun k hk => j10_no k (by omega), by simp, fun k _ => sewn_no hb k, sigf_no hb, fun k _ => best_no hb k⟩
  obtain ⟨L, ok, m, bs, le, hS, hL, e1, e2, e3⟩ := hS
  refine ⟨3000, fun k hk => ?_⟩
  obtain ⟨k, rfl⟩ : ∃ t, k = t + 1 := ⟨k - 1, by omega⟩
  have J9 := fun k hk => j9_ok (n := n) (p := p2) (s := s) (q := t) (r := r) (ok := b) hS hin2 k hk
  have hsame := same_self L (by omega) k (by omega)
  show laws_FnFoldsStack.j7 (k + 1) l false = some true
  rw [laws_FnFoldsStack.j7, if_neg (by decide), d1, Option.bind_some]
  dsimp only
  by_cases c : ((1 ≤ a ∧ a ≤ 2000) ∧ 1 ≤ p ∧ p ≤ 16) ∧ 1 ≤ q ∧ q ≤ a
  · have so := sop_ok c.1 c.2
    obtain ⟨q1, q2, q3⟩ := sq_ok (q := q) c.1.2.1 c.1.2.2 (by omega)
    obtain ⟨r2, b2, hi2, _, hi3⟩ := pib_both (a := a) (p := p) (s := (q - 1) / (4 * p) + 1) (q := (q - 1) % (4 * p) + 1)
    obtain ⟨rfl, rfl⟩ := hi3 ⟨c.1, q1, q2, by rw [q3]; omega⟩
    rw [so.1, Option.bind_some, so.2, Option.bind_some, d2, Option.bind_some]
    dsimp only
    rw [(hin k (by omega)).1, Option.bind_some, (hin k (by omega)).2, Option.bind_some, d3, Option.bind_some]
    dsimp only
    rw [(e1 k (by omega)).1, Option.bind_some, (e1 k (by omega)).2, Option.bind_some, e2.1, Option.bind_some, e2.2, Option.bind_some, (e3 k (by omega)).1, Option.bind_some, (e3 k (by omega)).2, Option.bind_some]
    dsimp only
    simp only [hsame, Option.bind_some, bne_self_eq_false, Bool.false_eq_true, if_false, if_true]
    obtain ⟨k, rfl⟩ : ∃ t, k = t + 1 := ⟨k - 1, by omega⟩
    have w1 : wrap64 (4 * p) = 4 * p := w64 (by omega) (by omega)
    rw [laws_FnFoldsStack.j8, if_neg (by decide), if_pos rfl, (hi2 k (by clear w1; omega)).1, Option.bind_some]
    dsimp only
    rw [if_pos rfl, q3, if_pos rfl, if_neg (by clear w1; omega), w1, if_neg (by clear w1; omega)]
    exact J9 k (by clear w1; omega)
  · have so := sop_no c
    rw [so.1, Option.bind_some, so.2, Option.bind_some, d2, Option.bind_some]
    dsimp only
    rw [(hin k (by omega)).1, Option.bind_some, (hin k (by omega)).2, Option.bind_some, d3, Option.bind_some]
    dsimp only
    rw [(e1 k (by omega)).1, Option.bind_some, (e1 k (by omega)).2, Option.bind_some, e2.1, Option.bind_some, e2.2, Option.bind_some, (e3 k (by omega)).1, Option.bind_some, (e3 k (by omega)).2, Option.bind_some]
    dsimp only
    simp only [hsame, Option.bind_some, bne_self_eq_false, Bool.false_eq_true, if_false, if_true]
    obtain ⟨k, rfl⟩ : ∃ t, k = t + 1 := ⟨k - 1, by omega⟩
    rw [laws_FnFoldsStack.j8, if_neg (by decide), if_neg (by decide)]
    exact J9 k (by omega)
/-- The parts of a strip, its labels: as the program computes them. -/
def ordL (n : Nat) : List Int := ((impl_StripOrder.f 2500 (n : Int)).getD ([], false)).1
def labL (n : Nat) : List Int := ((impl_StripLabels.f 2500 (n : Int)).getD ([], false)).1
theorem ord_tab : ∀ n : Nat, n < 8 → spec_StripOrder.f 2500 (n : Int) = some (ordL n, true) ∧ impl_StripOrder.f 2500 (n : Int) = some (ordL n, true) ∧ (ordL n).length = 2 ^ n := by decide +kernel
theorem lab_tab : ∀ n : Nat, n < 8 → spec_StripLabels.f 2500 (n : Int) = some (labL n, true) ∧ impl_StripLabels.f 2500 (n : Int) = some (labL n, true) ∧ (labL n).length = 2 ^ n := by decide +kernel
theorem cre_tab : ∀ n : Nat, n < 8 → spec_CreasesOf.f 3000 (n : Int) = some (creaseV n, true) ∧ impl_CreasesOf.f 3000 (n : Int) = some (creaseV n, true) := by decide +kernel
theorem tell_tab : ∀ n : Nat, n < 8 → ∀ i : Nat, i < 2 ^ n → (1 ≤ rd (ordL n) (i : Int) ∧ rd (ordL n) (i : Int) ≤ ((2 ^ n : Nat) : Int)) ∧ rd (labL n) (rd (ordL n) (i : Int) - 1) = (i : Int) + 1 := by decide +kernel
theorem place_tab : ∀ n : Nat, n < 8 → ∀ p : Nat, p < 2 ^ n → impl_PlaceInStrip.f 2500 (n : Int) ((p : Int) + 1) = some (rd (labL n) (p : Int), true) ∧ spec_PlaceInStrip.f 2500 (n : Int) ((p : Int) + 1) = some (rd (labL n) (p : Int), true) ∧
    (1 ≤ rd (labL n) (p : Int) ∧ rd (labL n) (p : Int) ≤ ((2 ^ n : Nat) : Int)) ∧ rd (ordL n) (rd (labL n) (p : Int) - 1) = (p : Int) + 1 := by decide +kernel
theorem byte_tab : ∀ n : Nat, n < 8 → ∀ i : Nat, i < 2 ^ n - 1 → bt (creaseV n) (i : Int) < 128 ∧ (i = (2 ^ n - 1) / 2 → bt (creaseV n) (i : Int) = 118) ∧ (i ≠ (2 ^ n - 1) / 2 → bt (creaseV n) (i : Int) ≠ bt (creaseV n) (((2 ^ n - 1 - 1 - i : Nat) : Int))) := by decide +kernel
theorem half_tab : ∀ n : Nat, n < 7 → (creaseV (n + 1)).extract 0 (2 ^ n - 1) = creaseV n := by decide +kernel
theorem pow_pos8 {n : Nat} (h : n < 8) : 1 ≤ 2 ^ n ∧ 2 ^ n ≤ 128 := pow_le n h
theorem j6_ok {l : List Int} {K : Nat} (hK : ∀ k, K ≤ k → laws_FnFoldsStack.j7 k l false = some true) {part : Int} {cr c23 : ByteArray} {c24 : Bool} (hs : cr.size ≤ 1000) (h : c24 = true → 1 ≤ part ∧ part ≤ (cr.size : Int) ∧ c23 = cr.extract (part - 1).toNat part.toNat) (k : Nat) (hk : K < k) :
    laws_FnFoldsStack.j6 k l part cr c23 c24 false = some true := by
  obtain ⟨k, rfl⟩ : ∃ t, k = t + 1 := ⟨k - 1, by omega⟩
  have J := hK k (by omega)
  cases c24 with
  | false => rw [laws_FnFoldsStack.j6, if_neg (by decide), if_neg (by decide)]; exact J
  | true =>
    obtain ⟨h1, h2, rfl⟩ := h rfl
    have w : wrap64 (part - 1) = part - 1 := w64 (by omega) (by omega)
    rw [laws_FnFoldsStack.j6, if_neg (by decide), if_pos rfl, w, if_pos (by clear w; omega), if_pos (by clear w; omega), if_pos h2, bne_self_eq_false]
    exact J
theorem j5_ok {l : List Int} {K : Nat} (hK : ∀ k, K ≤ k → laws_FnFoldsStack.j7 k l false = some true) {n : Nat} (hn : n < 8) {part place : Int} {c23 : ByteArray} {ok c24 : Bool} (hs : (creaseV n).size = 2 ^ n - 1)
    (ho : ok = true → (1 ≤ part ∧ part ≤ ((2 ^ n : Nat) : Int)) ∧ place = rd (labL n) (part - 1)) (h : c24 = true → 1 ≤ part ∧ part ≤ ((creaseV n).size : Int) ∧ c23 = (creaseV n).extract (part - 1).toNat part.toNat) (k : Nat) (hk : K + 1 < k) :
    laws_FnFoldsStack.j5 k l part place ok (ordL n) (labL n) (creaseV n) c23 c24 = some true := by
  obtain ⟨k, rfl⟩ : ∃ t, k = t + 1 := ⟨k - 1, by omega⟩
  have hp := pow_pos8 hn
  have J := j6_ok hK (by omega) h k (by omega)
  cases ok with
  | false => rw [laws_FnFoldsStack.j5, if_neg (by decide)]; exact J
  | true =>
    obtain ⟨h1, rfl⟩ := ho rfl
    obtain ⟨p, hpp⟩ := Int.eq_ofNat_of_zero_le (show 0 ≤ part - 1 by omega)
    obtain ⟨_, _, t1, t2⟩ := place_tab n hn p (by omega)
    have lo := (ord_tab n hn).2.2
    have ll := (lab_tab n hn).2.2
    rw [hpp]
    generalize hr : rd (labL n) (p : Int) = R at t1 t2
    have w1 : wrap64 (R - 1) = R - 1 := w64 (by omega) (by omega)
    have w2 : wrap64 (part - 1) = (p : Int) := by rw [hpp]; exact w64 (by clear w1; omega) (by clear w1; omega)
    rw [laws_FnFoldsStack.j5, if_pos rfl, w1, if_pos (by clear w1 w2; omega), lo, if_pos (by clear w1 w2; omega), t2, if_pos (by clear w1 w2; omega), w2, if_pos (by clear w1 w2; omega), ll, if_pos (by clear w1 w2; omega), hr, bne_self_eq_false]
    exact J
theorem l2_ok {l : List Int} {n : Nat} (hn : n < 8) (hs : (creaseV n).size = 2 ^ n - 1) {part place : Int} {c23 : ByteArray} {ok c24 : Bool} {K : Nat} (hJ : ∀ k, K ≤ k → laws_FnFoldsStack.j5 k l part place ok (ordL n) (labL n) (creaseV n) c23 c24 = some true) (d : Nat) :
    ∀ i : Nat, i + d = 2 ^ n - 1 → ∀ k, K + 3001 + d < k → laws_FnFoldsStack.l2 k l (n : Int) part place ok (ordL n) (labL n) (creaseV n) c23 c24 ((creaseV n).size : Int) (i : Int) = some true := by
  have hp := pow_pos8 hn
  induction d with
  | zero =>
    intro i hi k hk
    obtain ⟨k, rfl⟩ : ∃ t, k = t + 1 := ⟨k - 1, by omega⟩
    have J := hJ k (by omega)
    rw [laws_FnFoldsStack.l2, if_neg (by rw [hs]; omega)]
    cases n with
    | zero => rw [if_neg (by decide)]; exact J
    | succ m =>
      have hm := half_tab m (by omega)
      have hc := at_rounds (impl_CreasesOf.mono _) (show 3000 ≤ k by omega) (cre_tab m (by omega)).2
      have hpow : 2 ^ (m + 1) = 2 * 2 ^ m := by rw [Nat.pow_succ]; omega
      have w1 : wrap64 (((m + 1 : Nat) : Int) - 1) = (m : Int) := by rw [show ((m + 1 : Nat) : Int) - 1 = (m : Int) by omega]; exact w64 (by omega) (by omega)
      have e2 : ((creaseV (m + 1)).size : Int) / 2 = ((2 ^ m - 1 : Nat) : Int) := by rw [hs]; clear w1; omega
      have w2 : wrap64 ((2 ^ m - 1 : Nat) : Int) = ((2 ^ m - 1 : Nat) : Int) := w64 (by clear w1; omega) (by clear w1; omega)
      rw [if_pos (by clear w1 w2; omega), w1, hc, Option.bind_some]
      dsimp only
      rw [if_pos rfl, e2, w2, if_pos (by clear w1 w2; omega), if_pos (by rw [hs]; clear w1 w2; omega), Int.toNat_natCast, hm, if_pos rfl]
      exact J
  | succ d ih =>
    intro i hi k hk
    obtain ⟨k, rfl⟩ : ∃ t, k = t + 1 := ⟨k - 1, by omega⟩
    have J := ih (i + 1) (by omega) k (by omega)
    obtain ⟨b1, b2, b3⟩ := byte_tab n hn i (by omega)
    have e2 : ((creaseV n).size : Int) / 2 = (((2 ^ n - 1) / 2 : Nat) : Int) := by rw [hs]; omega
    have w2 : wrap64 ((((2 ^ n - 1) / 2 : Nat) : Int)) = (((2 ^ n - 1) / 2 : Nat) : Int) := w64 (by omega) (by omega)
    have w3 : wrap64 ((i : Int) + 1) = ((i + 1 : Nat) : Int) := by rw [show (i : Int) + 1 = ((i + 1 : Nat) : Int) by omega]; exact w64 (by clear w2; omega) (by clear w2; omega)
    have hlt : (i : Int) < ((creaseV n).size : Int) := by rw [hs]; clear w2 w3; omega
    rw [laws_FnFoldsStack.l2, if_pos hlt, if_pos (by clear w2 w3; omega), if_pos b1, e2, w2]
    by_cases c : i = (2 ^ n - 1) / 2
    · rw [if_pos (by clear w2 w3; omega), if_pos (by clear w2 w3; omega), if_pos hlt, if_pos (b2 c), w3]
      exact J
    · have w4 : wrap64 (((creaseV n).size : Int) - 1) = ((2 ^ n - 1 - 1 : Nat) : Int) := by rw [hs, show ((2 ^ n - 1 : Nat) : Int) - 1 = ((2 ^ n - 1 - 1 : Nat) : Int) by clear w2 w3; omega]; exact w64 (by clear w2 w3; omega) (by clear w2 w3; omega)
      have w5 : wrap64 (((2 ^ n - 1 - 1 : Nat) : Int) - (i : Int)) = ((2 ^ n - 1 - 1 - i : Nat) : Int) := by rw [show ((2 ^ n - 1 - 1 : Nat) : Int) - (i : Int) = ((2 ^ n - 1 - 1 - i : Nat) : Int) by clear w2 w3 w4; omega]; exact w64 (by clear w2 w3 w4; omega) (by clear w2 w3 w4; omega)
      rw [if_neg (by clear w2 w3 w4 w5; omega), if_pos (by clear w2 w3 w4 w5; omega), if_pos hlt, w4, w5, if_pos (by clear w2 w3 w4 w5; omega), if_pos (by rw [hs]; clear w2 w3 w4 w5; omega), if_neg (b3 c), w3]
      exact J
theorem l1_ok {l : List Int} {n : Nat} (hn : n < 8) {part place : Int} {c23 : ByteArray} {ok c24 : Bool} {K : Nat}
    (hJ : ∀ k, K ≤ k → laws_FnFoldsStack.l2 k l (n : Int) part place ok (ordL n) (labL n) (creaseV n) c23 c24 ((creaseV n).size : Int) 0 = some true) (d : Nat) :
    ∀ i : Nat, i + d = 2 ^ n → ∀ k, K + d < k → laws_FnFoldsStack.l1 k l (n : Int) part place ok (ordL n) (labL n) (creaseV n) c23 c24 ((2 ^ n : Nat) : Int) (ordL n) ((2 ^ n : Nat) : Int) (i : Int) = some true := by
  have hp := pow_pos8 hn
  have lo := (ord_tab n hn).2.2
  have ll := (lab_tab n hn).2.2
  induction d with
  | zero =>
    intro i hi k hk
    obtain ⟨k, rfl⟩ : ∃ t, k = t + 1 := ⟨k - 1, by omega⟩
    rw [laws_FnFoldsStack.l1, if_neg (by omega)]
    exact hJ k (by omega)
  | succ d ih =>
    intro i hi k hk
    obtain ⟨k, rfl⟩ : ∃ t, k = t + 1 := ⟨k - 1, by omega⟩
    have J := ih (i + 1) (by omega) k (by omega)
    obtain ⟨t1, t2⟩ := tell_tab n hn i (by omega)
    have hR : ∃ R, rd (ordL n) (i : Int) = R := ⟨_, rfl⟩
    obtain ⟨R, hR⟩ := hR
    rw [hR] at t1 t2
    have w1 : wrap64 (R - 1) = R - 1 := w64 (by omega) (by omega)
    have w3 : wrap64 ((i : Int) + 1) = ((i + 1 : Nat) : Int) := by rw [show (i : Int) + 1 = ((i + 1 : Nat) : Int) by omega]; exact w64 (by clear w1; omega) (by clear w1; omega)
    rw [laws_FnFoldsStack.l1, if_pos (by clear w1 w3; omega), if_pos (by clear w1 w3; omega), lo, if_pos (by clear w1 w3; omega), hR, if_neg (by clear w1 w3; omega), if_neg (by clear w1 w3; omega), w1, if_pos (by clear w1 w3; omega), ll, if_pos (by clear w1 w3; omega), t2, w3, if_pos (by clear w1 w3; omega)]
    exact J
theorem l0_ok {l : List Int} {n : Nat} (hn : n < 8) (hs : (creaseV n).size = 2 ^ n - 1) {part place : Int} {c23 : ByteArray} {ok c24 : Bool} {K : Nat}
    (hJ : ∀ k, K ≤ k → laws_FnFoldsStack.l1 k l (n : Int) part place ok (ordL n) (labL n) (creaseV n) c23 c24 ((2 ^ n : Nat) : Int) (ordL n) ((2 ^ n : Nat) : Int) 0 = some true) (d : Nat) :
    ∀ i : Nat, i + d = n → ∀ k, K + 1 + d < k → laws_FnFoldsStack.l0 k l (n : Int) part place ok (ordL n) (labL n) (creaseV n) c23 c24 ((2 ^ i : Nat) : Int) (i : Int) = some true := by
  have hp := pow_pos8 hn
  have lo := (ord_tab n hn).2.2
  have ll := (lab_tab n hn).2.2
  induction d with
  | zero =>
    intro i hi k hk
    obtain ⟨k, rfl⟩ : ∃ t, k = t + 2 := ⟨k - 2, by omega⟩
    obtain rfl : i = n := by omega
    have J := hJ k (by omega)
    have w1 : wrap64 (((2 ^ i : Nat) : Int) - 1) = ((2 ^ i - 1 : Nat) : Int) := by rw [show ((2 ^ i : Nat) : Int) - 1 = ((2 ^ i - 1 : Nat) : Int) by omega]; exact w64 (by omega) (by omega)
    rw [laws_FnFoldsStack.l0, if_neg (by clear w1; omega), lo, if_pos rfl, ll, if_pos rfl, w1, hs, bne_self_eq_false, laws_FnFoldsStack.j2, if_neg (by decide), lo]
    exact J
  | succ d ih =>
    intro i hi k hk
    obtain ⟨k, rfl⟩ : ∃ t, k = t + 1 := ⟨k - 1, by omega⟩
    have J := ih (i + 1) (by omega) k (by omega)
    have hpi := pow_pos8 (n := i) (by omega)
    have hpow : 2 ^ (i + 1) = 2 * 2 ^ i := by rw [Nat.pow_succ]; omega
    have w1 : wrap64 (((2 ^ i : Nat) : Int) * 2) = ((2 ^ (i + 1) : Nat) : Int) := by rw [show ((2 ^ i : Nat) : Int) * 2 = ((2 ^ (i + 1) : Nat) : Int) by omega]; exact w64 (by omega) (by omega)
    have w3 : wrap64 ((i : Int) + 1) = ((i + 1 : Nat) : Int) := by rw [show (i : Int) + 1 = ((i + 1 : Nat) : Int) by omega]; exact w64 (by clear w1; omega) (by clear w1; omega)
    rw [laws_FnFoldsStack.l0, if_pos (by clear w1 w3; omega), w1, w3]
    exact J
theorem j0_ok {l : List Int} (hb : Bytes l) {n : Nat} (hn : n < 8) {part place : Int} {c23 : ByteArray} {ok c24 : Bool}
    (ho : ok = true → (1 ≤ part ∧ part ≤ ((2 ^ n : Nat) : Int)) ∧ place = rd (labL n) (part - 1)) (h : c24 = true → 1 ≤ part ∧ part ≤ ((creaseV n).size : Int) ∧ c23 = (creaseV n).extract (part - 1).toNat part.toNat) :
    Ev (fun k => laws_FnFoldsStack.j0 k l (n : Int) part place ok (ordL n) true (labL n) (creaseV n) c23 c24 false) true := by
  obtain ⟨K, hK⟩ := j7_ok hb
  have hs := (crease_tab n hn).2.2
  have hp := pow_pos8 hn
  have h5 := fun k hk => j5_ok hK hn hs ho h k hk
  have h2 := fun k hk => l2_ok hn hs (K := K + 2) (fun k hk => h5 k (by omega)) (2 ^ n - 1) 0 (by omega) k hk
  have h1 := fun k hk => l1_ok hn (K := K + 2 + 3001 + (2 ^ n - 1) + 1) (fun k hk => h2 k (by omega)) (2 ^ n) 0 (by omega) k hk
  have h0 := fun k hk => l0_ok hn hs (K := K + 2 + 3001 + (2 ^ n - 1) + 1 + 2 ^ n + 1) (fun k hk => h1 k (by omega)) n 0 (by omega) k hk
  refine ⟨K + 2 + 3001 + (2 ^ n - 1) + 1 + 2 ^ n + 1 + 1 + n + 2, fun k hk => ?_⟩
  obtain ⟨k, rfl⟩ : ∃ t, k = t + 1 := ⟨k - 1, by omega⟩
  show laws_FnFoldsStack.j0 (k + 1) l (n : Int) part place ok (ordL n) true (labL n) (creaseV n) c23 c24 false = some true
  rw [laws_FnFoldsStack.j0, if_neg (by decide), if_pos rfl]
  exact h0 k (by omega)
theorem j0_no {l : List Int} (hb : Bytes l) {x part place : Int} {c23 : ByteArray} {L M : List Int} {cr : ByteArray} : Ev (fun k => laws_FnFoldsStack.j0 k l x part place false L false M cr c23 false false) true := by
  obtain ⟨K, hK⟩ := j7_ok hb
  refine ⟨K + 3, fun k hk => ?_⟩
  obtain ⟨k, rfl⟩ : ∃ t, k = t + 3 := ⟨k - 3, by omega⟩
  show laws_FnFoldsStack.j0 (k + 3) l x part place false L false M cr c23 false false = some true
  rw [laws_FnFoldsStack.j0, if_neg (by decide), if_neg (by decide), laws_FnFoldsStack.j5, if_neg (by decide), laws_FnFoldsStack.j6, if_neg (by decide), if_neg (by decide)]
  exact hK k (by omega)
theorem strip_no {n part : Int} (h : ¬ (0 ≤ n ∧ n ≤ 7)) (k : Nat) (hk : 1 ≤ k) :
    (impl_PlaceInStrip.f k n part = some (0, false) ∧ spec_PlaceInStrip.f k n part = some (0, false)) ∧ (impl_StripOrder.f k n = some ([], false) ∧ spec_StripOrder.f k n = some ([], false)) ∧ (impl_StripLabels.f k n = some ([], false) ∧ spec_StripLabels.f k n = some ([], false)) ∧
      (impl_CreasesOf.f k n = some (⟨#[]⟩, false) ∧ spec_CreasesOf.f k n = some (⟨#[]⟩, false)) ∧ (impl_CreaseAt.f k n part = some (⟨#[]⟩, false) ∧ spec_CreaseAt.f k n part = some (⟨#[]⟩, false)) := by
  obtain ⟨k, rfl⟩ : ∃ t, k = t + 1 := ⟨k - 1, by omega⟩
  unfold impl_PlaceInStrip.f spec_PlaceInStrip.f impl_StripOrder.f spec_StripOrder.f impl_StripLabels.f spec_StripLabels.f impl_CreasesOf.f spec_CreasesOf.f impl_CreaseAt.f spec_CreaseAt.f spec_foFolds.f impl_isFolds.f
  simp only [in_spec, in_impl, decide_eq_false h, Option.bind_some, Bool.false_eq_true, if_false, spec_PlaceInStrip.j0, impl_PlaceInStrip.j0, if_true]
  exact ⟨⟨trivial, trivial⟩, ⟨trivial, trivial⟩, ⟨trivial, trivial⟩, ⟨trivial, trivial⟩, trivial, trivial⟩
theorem place_any {n : Nat} (hn : n < 8) (part : Int) : ∃ r ok, (∀ k, 2500 ≤ k → impl_PlaceInStrip.f k (n : Int) part = some (r, ok) ∧ spec_PlaceInStrip.f k (n : Int) part = some (r, ok)) ∧ (ok = true → (1 ≤ part ∧ part ≤ ((2 ^ n : Nat) : Int)) ∧ r = rd (labL n) (part - 1)) ∧ (1 ≤ part ∧ part ≤ ((2 ^ n : Nat) : Int) → ok = true) := by
  have h : 0 ≤ (n : Int) ∧ (n : Int) ≤ 7 := by omega
  by_cases c : 1 ≤ part ∧ part ≤ ((2 ^ n : Nat) : Int)
  · obtain ⟨p, hpp⟩ := Int.eq_ofNat_of_zero_le (show 0 ≤ part - 1 by omega)
    obtain rfl : part = (p : Int) + 1 := by omega
    obtain ⟨t1, t2, _, _⟩ := place_tab n hn p (by omega)
    refine ⟨_, true, fun k hk => ⟨at_rounds (impl_PlaceInStrip.mono _ _) hk t1, at_rounds (spec_PlaceInStrip.mono _ _) hk t2⟩, fun _ => ⟨c, by rw [hpp]⟩, fun _ => rfl⟩
  · refine ⟨0, false, fun k hk => ?_, (fun e => by cases e), fun e => absurd e c⟩
    obtain ⟨k, rfl⟩ : ∃ t, k = t + 1 := ⟨k - 1, by omega⟩
    unfold spec_PlaceInStrip.f impl_PlaceInStrip.f spec_foFolds.f impl_isFolds.f
    simp only [in_spec, in_impl, shl_tab n hn, decide_eq_true h, decide_eq_false c, Option.bind_some, if_true, Bool.not_false, if_pos h.1, spec_PlaceInStrip.j0, impl_PlaceInStrip.j0]
    exact ⟨trivial, trivial⟩
theorem at_any {n : Nat} (hn : n < 8) (part : Int) : ∃ r ok, (∀ k, 3000 ≤ k → impl_CreaseAt.f k (n : Int) part = some (r, ok) ∧ spec_CreaseAt.f k (n : Int) part = some (r, ok)) ∧ (ok = true → 1 ≤ part ∧ part ≤ ((creaseV n).size : Int) ∧ r = (creaseV n).extract (part - 1).toNat part.toNat) := by
  have h : 0 ≤ (n : Int) ∧ (n : Int) ≤ 7 := by omega
  obtain ⟨t1, t2, t3⟩ := crease_tab n hn
  obtain ⟨p0, p1⟩ := pow_le n hn
  have wp : wrap64 (((2 ^ n : Nat) : Int) - 1) = ((2 ^ n - 1 : Nat) : Int) := by rw [show ((2 ^ n : Nat) : Int) - 1 = ((2 ^ n - 1 : Nat) : Int) by omega]; exact w64 (by omega) (by omega)
  by_cases c : 1 ≤ part ∧ part ≤ ((2 ^ n - 1 : Nat) : Int)
  · refine ⟨(creaseV n).extract (part - 1).toNat part.toNat, true, fun k hk => ?_, fun _ => ⟨c.1, by rw [t3]; exact c.2, rfl⟩⟩
    have a1 := at_rounds (spec_foCreases.mono _) hk t1
    have a2 := at_rounds (impl_creases.mono _) hk t2
    have w : wrap64 (part - 1) = part - 1 := w64 (by clear wp; omega) (by clear wp; omega)
    unfold spec_CreaseAt.f impl_CreaseAt.f spec_foFolds.f impl_isFolds.f
    rw [shl_tab n hn, wp]
    simp only [in_spec, in_impl, decide_eq_true h, Option.bind_some, if_true, if_pos h.1, decide_eq_true c, a1, a2, w, t3]
    rw [if_pos (by clear w wp; omega), if_pos (by clear w wp; omega), if_pos c.2]
    exact ⟨rfl, rfl⟩
  · refine ⟨⟨#[]⟩, false, fun k hk => ?_, fun e => by cases e⟩
    unfold spec_CreaseAt.f impl_CreaseAt.f spec_foFolds.f impl_isFolds.f
    rw [shl_tab n hn, wp]
    simp only [in_spec, in_impl, decide_eq_true h, Option.bind_some, if_true, if_pos h.1, decide_eq_false c, Bool.false_eq_true, if_false]
    exact ⟨trivial, trivial⟩

/-- YOURS: ∀ (l0 : List Int) (l1 : List Int), l0.length ≤ maxLen → l0.length * 1 ≤ 140737488351232 → (∀ x ∈ l0, (Lit.int .u8 x).wf = true) → l1.length ≤ maxLen → l1.length * 1 ≤ 140737488351232 → (∀ x ∈ l1, (Lit.int .u8 x).wf = true) → ∃ k, laws_FnFoldsStack.f k l0 l1 = some true
What it reaches (each with k first where it has rounds; `.mono`: more rounds tell the same; `.l0`, ..: its loops, with `.mono_l`): laws_big.f, spec_l1Cur_next.f, spec_l1Cur_pick.f, spec_l1Cur_among.f, spec_l1Cur_folds.f, spec_l1Least.f, spec_l1Most.f, spec_DrawPlaceInStrip.f, impl_within.f, impl_isFolds.f, slices_Index_int_int.f, slices_Clone_int_int.f, slices_Reverse_int_int.f, impl_strip.f, impl_PlaceInStrip.f, spec_l1In.f, spec_foFolds.f, spec_foStrip.f, spec_PlaceInStrip.f, impl_StripOrder.f, spec_StripOrder.f, impl_StripLabels.f, spec_StripLabels.f, strings_Join.f, impl_creases.f, impl_CreasesOf.f, spec_foCreases.f, spec_CreasesOf.f, impl_CreaseAt.f, spec_CreaseAt.f, laws_fSame.f, spec_l1Cur_one.f, spec_l1Cur_bookSize.f, spec_l1Cur_per.f, spec_DrawSignatureOfPage.f, impl_isBook.f, impl_isBound.f, impl_SignatureOfPage.f, spec_foBook.f, spec_foBoth.f, spec_SignatureOfPage.f, spec_DrawPageInBook.f, impl_signatures.f, impl_PageInBook.f, spec_PageInBook.f, spec_DrawSignaturesFor.f, spec_DrawSewnOpenings.f, impl_SewnOpenings.f, spec_SewnOpenings.f, impl_SignaturesFor.f, spec_SignaturesFor.f, impl_BestPer.f, spec_BestPer.f, laws_fRises.f, laws_FnFoldsStack.f -/
theorem FnFoldsStack : laws_FnFoldsStack.Pure := by
  intro l0 l1 _ _ h0 _ _ h1
  have hb0 := bytes_of h0
  have hb1 := bytes_of h1
  obtain ⟨bg, hbg⟩ := big_ok (a := l0) (b := l1)
  cases bg with
  | true => exact ⟨0, by unfold laws_FnFoldsStack.f; rw [hbg, Option.bind_some, if_pos rfl]⟩
  | false =>
    obtain ⟨x, part, d, _, _⟩ := drawStrip_ok hb0
    by_cases c : 0 ≤ x ∧ x ≤ 7
    · obtain ⟨n, rfl⟩ := Int.eq_ofNat_of_zero_le c.1
      have hn : n < 8 := by omega
      obtain ⟨place, ok, e1, f1, g1⟩ := place_any hn part
      obtain ⟨c23, c24, e2, f2⟩ := at_any hn part
      have hp := pow_pos8 hn
      have lo := (ord_tab n hn).2.2
      have ll := (lab_tab n hn).2.2
      have hs := (crease_tab n hn).2.2
      obtain ⟨K, hK⟩ := j0_ok hb1 hn (part := part) (place := place) (c23 := c23) (ok := ok) (c24 := c24) f1 f2
      refine ⟨K + 4000, ?_⟩
      have J : laws_FnFoldsStack.j0 (K + 4000) l1 (n : Int) part place ok (ordL n) true (labL n) (creaseV n) c23 c24 false = some true := hK (K + 4000) (by omega)
      have o1 := at_rounds (impl_StripOrder.mono _) (show 2500 ≤ K + 4000 by omega) (ord_tab n hn).2.1
      have o2 := at_rounds (spec_StripOrder.mono _) (show 2500 ≤ K + 4000 by omega) (ord_tab n hn).1
      have b1 := at_rounds (impl_StripLabels.mono _) (show 2500 ≤ K + 4000 by omega) (lab_tab n hn).2.1
      have b2 := at_rounds (spec_StripLabels.mono _) (show 2500 ≤ K + 4000 by omega) (lab_tab n hn).1
      have r1 := at_rounds (impl_CreasesOf.mono _) (show 3000 ≤ K + 4000 by omega) (cre_tab n hn).2
      have r2 := at_rounds (spec_CreasesOf.mono _) (show 3000 ≤ K + 4000 by omega) (cre_tab n hn).1
      unfold laws_FnFoldsStack.f
      rw [hbg, Option.bind_some, if_neg (by decide), d, Option.bind_some]
      dsimp only
      rw [(e1 _ (by omega)).1, Option.bind_some, (e1 _ (by omega)).2, Option.bind_some, o1, Option.bind_some, o2, Option.bind_some, b1, Option.bind_some, b2, Option.bind_some, r1, Option.bind_some, r2, Option.bind_some, (e2 _ (by omega)).1, Option.bind_some, (e2 _ (by omega)).2, Option.bind_some]
      dsimp only
      simp only [same_self (ordL n) (by omega) (K + 4000) (by omega), same_self (labL n) (by omega) (K + 4000) (by omega), Option.bind_some, bne_self_eq_false, Bool.false_eq_true, if_false, if_true]
      cases ok with
      | true =>
        rw [if_pos rfl]
        cases c24 with
        | true => rw [if_pos rfl]; exact J
        | false => rw [if_neg (by decide)]; exact J
      | false =>
        rw [if_neg (by decide)]
        cases c24 with
        | true =>
          obtain ⟨q1, q2, _⟩ := f2 rfl
          exact absurd (g1 ⟨q1, by rw [hs] at q2; omega⟩) (by decide)
        | false => rw [if_neg (by decide)]; exact J
    · obtain ⟨K, hK⟩ := j0_no hb1 (x := x) (part := part) (place := 0) (c23 := ⟨#[]⟩) (L := []) (M := []) (cr := ⟨#[]⟩)
      refine ⟨K + 10, ?_⟩
      have J : laws_FnFoldsStack.j0 (K + 10) l1 x part 0 false [] false [] ⟨#[]⟩ ⟨#[]⟩ false false = some true := hK (K + 10) (by omega)
      obtain ⟨⟨a1, a2⟩, ⟨b1, b2⟩, ⟨c1, c2⟩, ⟨d1, d2⟩, e1, e2⟩ := strip_no (part := part) c (K + 10) (by omega)
      unfold laws_FnFoldsStack.f
      rw [hbg, Option.bind_some, if_neg (by decide), d, Option.bind_some]
      dsimp only
      rw [a1, Option.bind_some, a2, Option.bind_some, b1, Option.bind_some, b2, Option.bind_some, c1, Option.bind_some, c2, Option.bind_some, d1, Option.bind_some, d2, Option.bind_some, e1, Option.bind_some, e2, Option.bind_some]
      dsimp only
      simp only [same_self [] (by decide) (K + 10) (by simp), Option.bind_some, bne_self_eq_false, Bool.false_eq_true, if_false, if_true]
      exact J

end Go.Proofs.Ytjkfgeigicljpaa.Pure
