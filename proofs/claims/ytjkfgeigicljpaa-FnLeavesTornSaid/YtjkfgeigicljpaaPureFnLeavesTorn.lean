/- The program's FnLeavesTorn returns what the reference's FnLeavesTorn returns: the plain statement, over numbers and lists, for all arguments; each number of its Go kind, each string and slice within the reader's bounds. -/
import Derived.Test.YtjkfgeigicljpaaPFnLeavesTornx15
namespace Go.Proofs.Ytjkfgeigicljpaa.Pure
open Go.RowKit Go.Proofs.Ytjkfgeigicljpaa.PFnLeavesTorn Go.Proofs.YtjkfgeigicljpaaW.PrintWords Go.Proofs.YtjkfgeigicljpaaW.PrintLast
set_option linter.unusedVariables false
set_option linter.unusedSimpArgs false

theorem w64 {x : Int} (h0 : -9223372036854775808 ≤ x) (h1 : x ≤ 9223372036854775807) : wrap64 x = x := by unfold wrap64; omega
theorem td {a b : Int} (h : 0 ≤ a) : Int.tdiv a b = a / b := Int.tdiv_eq_ediv_of_nonneg h
theorem tm {a b : Int} (h : 0 ≤ a) : Int.tmod a b = a % b := Int.tmod_eq_emod_of_nonneg h
theorem wf64 {n : Int} (h : (Lit.int .i64 n).wf = true) : -9223372036854775808 ≤ n ∧ n ≤ 9223372036854775807 := by
  simp [Lit.wf, IntKind.min, IntKind.max, IntKind.signed, IntKind.bits] at h
  omega
theorem and255 (x : Int) : 0 ≤ wrap64 (Go.bits .and .u64 x 255) ∧ wrap64 (Go.bits .and .u64 x 255) ≤ 255 := by
  have e : ∃ n : Nat, n ≤ 255 ∧ Go.bits .and .u64 x 255 = IntKind.u64.wrap (n : Int) := by
    refine ⟨(BitVec.ofInt IntKind.u64.bits x &&& BitVec.ofInt IntKind.u64.bits 255).toNat, ?_, rfl⟩
    rw [BitVec.toNat_and]
    refine Nat.le_trans Nat.and_le_right ?_
    decide
  obtain ⟨n, hn, e⟩ := e
  have w : IntKind.u64.wrap (n : Int) = (n : Int) := by
    simp [IntKind.wrap, IntKind.signed, IntKind.bits]
    omega
  rw [e, w, w64 (by omega) (by omega)]
  omega
/-- The bytes that a draw reads. -/
def Bytes (l : List Int) : Prop := ∀ x ∈ l, 0 ≤ x ∧ x ≤ 255
theorem bytes_of {l : List Int} (h : ∀ x ∈ l, (Lit.int .u8 x).wf = true) : Bytes l := by
  intro x hx
  have := h x hx
  simp [Lit.wf, IntKind.min, IntKind.max, IntKind.signed, IntKind.bits] at this
  omega
theorem rd_byte {l : List Int} (h : Bytes l) (i : Int) : 0 ≤ rd l i ∧ rd l i ≤ 255 := by
  unfold rd
  rw [List.getD_eq_getElem?_getD]
  cases e : l[i.toNat]? with
  | none => simp
  | some v => exact h v (List.mem_of_getElem? e)
theorem next_ok {l : List Int} (hb : Bytes l) {p : Int} (s : Int) (h0 : 0 ≤ p) (h1 : p ≤ 1000000000) : ∃ v p' s', spec_l1Cur_next.f l p s = some (v, p', s') ∧ (0 ≤ v ∧ v ≤ 255) ∧ 0 ≤ p' ∧ p' ≤ p + 1 := by
  have hp : wrap64 (p + 1) = p + 1 := w64 (by omega) (by omega)
  have hr := rd_byte hb p
  have hw : wrap64 (rd l p) = rd l p := w64 (by omega) (by omega)
  unfold spec_l1Cur_next.f
  rw [hp, hw]
  by_cases c : p < (l.length : Int)
  · rw [if_pos c, if_pos h0, if_pos (show p + 1 ≤ (l.length : Int) by clear hp hw; omega)]
    exact ⟨_, _, _, rfl, hr, by clear hp hw; omega, by clear hp hw; omega⟩
  · rw [if_neg c, if_neg (show ¬ p + 1 ≤ (l.length : Int) by clear hp hw; omega)]
    exact ⟨_, _, _, rfl, and255 _, by clear hp hw; omega, by clear hp hw; omega⟩
theorem tmod_bd {a n : Int} (h : 0 ≤ a) (hn : 1 ≤ n) : 0 ≤ Int.tmod a n ∧ Int.tmod a n < n := by
  rw [tm h]
  exact ⟨Int.emod_nonneg _ (by omega), Int.emod_lt_of_pos _ (by omega)⟩
theorem pick_ok {l : List Int} (hb : Bytes l) {p n : Int} (s : Int) (h0 : 0 ≤ p) (h1 : p ≤ 1000000) (_hn : n ≤ 65536) : ∃ v p' s', spec_l1Cur_pick.f l p s n = some (v, p', s') ∧ (0 ≤ v ∧ (v < n ∨ v = 0)) ∧ 0 ≤ p' ∧ p' ≤ p + 2 := by
  unfold spec_l1Cur_pick.f
  by_cases c : n ≤ 1
  · rw [if_pos c]
    exact ⟨_, _, _, rfl, ⟨Int.le_refl _, .inr rfl⟩, h0, by omega⟩
  · rw [if_neg c]
    obtain ⟨v, p', s', e, hv, g0, g1⟩ := next_ok hb s h0 (by omega)
    rw [e, Option.bind_some]
    have n0 : ¬ n = 0 := by omega
    dsimp only
    by_cases c2 : n > 200
    · rw [if_pos c2]
      obtain ⟨u, q', t', e2, hu, k0, k1⟩ := next_ok hb s' g0 (by omega)
      rw [e2, Option.bind_some, if_neg n0]
      have w1 : wrap64 (v * 256) = v * 256 := w64 (by omega) (by omega)
      have w2 : wrap64 (v * 256 + u) = v * 256 + u := w64 (by omega) (by omega)
      dsimp only
      rw [w1, w2]
      have m := tmod_bd (a := v * 256 + u) (n := n) (by clear w1 w2; omega) (by clear w1 w2; omega)
      exact ⟨_, _, _, rfl, ⟨m.1, .inl m.2⟩, k0, by clear w1 w2; omega⟩
    · rw [if_neg c2, if_neg n0]
      have m := tmod_bd (a := v) (n := n) hv.1 (by omega)
      exact ⟨_, _, _, rfl, ⟨m.1, .inl m.2⟩, g0, by omega⟩
theorem among_ok {l : List Int} (hb : Bytes l) {p : Int} (s : Int) (h0 : 0 ≤ p) (h1 : p ≤ 1000000) {xs : List Int} (x0 : 1 ≤ xs.length) (x1 : xs.length ≤ 1000) :
    ∃ v p' s', spec_l1Cur_among.f l p s xs = some (v, p', s') ∧ v ∈ xs ∧ 0 ≤ p' ∧ p' ≤ p + 2 := by
  unfold spec_l1Cur_among.f
  obtain ⟨v, p', s', e, hv, g0, g1⟩ := pick_ok hb s h0 h1 (n := (xs.length : Int)) (by omega)
  rw [e, Option.bind_some]
  have c : v < (xs.length : Int) := by omega
  dsimp only
  rw [if_pos hv.1, if_pos c]
  refine ⟨_, _, _, rfl, ?_, g0, g1⟩
  unfold rd
  rw [List.getD_eq_getElem?_getD, List.getElem?_eq_getElem (show v.toNat < xs.length by omega)]
  exact List.getElem_mem _
theorem one_ok {l : List Int} (hb : Bytes l) {p n : Int} (s : Int) (h0 : 0 ≤ p) (h1 : p ≤ 1000000) (hn : n ≤ 65536) : ∃ v p' s', spec_l1Cur_one.f l p s n = some (v, p', s') ∧ 0 ≤ p' ∧ p' ≤ p + 2 := by
  unfold spec_l1Cur_one.f
  obtain ⟨v, p', s', e, hv, g0, g1⟩ := pick_ok hb s h0 h1 hn
  rw [e, Option.bind_some]
  exact ⟨_, _, _, rfl, g0, g1⟩
theorem in_spec (a b c : Int) : spec_l1In.f a b c = some (decide (b ≤ a ∧ a ≤ c)) := by
  unfold spec_l1In.f; by_cases h : b ≤ a <;> simp [h]
theorem in_impl (a b c : Int) : impl_within.f a b c = some (decide (b ≤ a ∧ a ≤ c)) := by
  unfold impl_within.f; by_cases h : b ≤ a <;> simp [h]
theorem book_spec (a : Int) : spec_bpBook.f a = some (decide (1 ≤ a ∧ a ≤ 2000)) := by simp [spec_bpBook.f, in_spec]
theorem book_impl (a : Int) : impl_isBook.f a = some (decide (1 ≤ a ∧ a ≤ 2000)) := by simp [impl_isBook.f, in_impl]
def sumV (a : Int) : Int := a * (a + 1) / 2
theorem mul_le {a b c d : Int} (h0 : 0 ≤ a) (h1 : a ≤ c) (h2 : 0 ≤ b) (h3 : b ≤ d) : 0 ≤ a * b ∧ a * b ≤ c * d :=
  ⟨Int.mul_nonneg h0 h2, Int.mul_le_mul h1 h3 h2 (Int.le_trans h0 h1)⟩
theorem sumV_bd {a : Int} (h0 : 1 ≤ a) (h1 : a ≤ 2000) : 1 ≤ sumV a ∧ sumV a ≤ 2001000 := by
  have h := mul_le (a := a) (b := a + 1) (c := 2000) (d := 2001) (by omega) h1 (by omega) (by omega)
  have h2 : 1 * 2 ≤ a * (a + 1) := Int.mul_le_mul h0 (by omega) (by omega) (by omega)
  unfold sumV
  omega
theorem sum_val {a : Int} (h0 : 1 ≤ a) (h1 : a ≤ 2000) : wrap64 (Int.tdiv (wrap64 (a * (wrap64 (a + 1)))) 2) = sumV a := by
  have h := mul_le (a := a) (b := a + 1) (c := 2000) (d := 2001) (by omega) h1 (by omega) (by omega)
  rw [w64 (x := a + 1) (by omega) (by omega), w64 (x := a * (a + 1)) (by omega) (by omega), td (by omega)]
  unfold sumV
  exact w64 (by omega) (by omega)
theorem sum_spec {a : Int} (h0 : 1 ≤ a) (h1 : a ≤ 2000) : spec_bpSum.f a = some (sumV a) := by unfold spec_bpSum.f; rw [sum_val h0 h1]
theorem sum_impl {a : Int} (h0 : 1 ≤ a) (h1 : a ≤ 2000) : impl_sumOf.f a = some (sumV a) := by unfold impl_sumOf.f; rw [sum_val h0 h1]
/-- The leaf whose numbers make r, of a book of p pages; 0: there is none. -/
def tornV (p r : Int) : Int := if 3 ≤ r ∧ (r + 1) % 4 = 0 ∧ (r + 1) / 4 ≤ p / 2 then (r + 1) / 4 else 0
theorem torn_spec {p r : Int} (h0 : 1 ≤ p) (h1 : p ≤ 2000) (_h2 : -9223372036854775808 ≤ r) (h3 : r ≤ 9223372036854775000) : spec_bpTorn.f p r = some (tornV p r) := by
  unfold spec_bpTorn.f tornV
  by_cases c : r < 3
  · rw [if_pos c, if_neg (by omega)]
  · rw [if_neg c, w64 (x := r + 1) (by omega) (by omega), tm (by omega), td (b := 4) (by omega), td (b := 2) (by omega), w64 (x := (r + 1) / 4) (by omega) (by omega), w64 (x := p / 2) (by omega) (by omega)]
    by_cases c2 : (r + 1) % 4 = 0
    · rw [if_pos c2]
      by_cases c3 : (r + 1) / 4 > p / 2
      · rw [if_pos c3, if_neg (by omega)]
      · rw [if_neg c3, if_pos (by omega)]
    · rw [if_neg c2, if_neg (by omega)]
theorem torn_impl {p s : Int} (h0 : 1 ≤ p) (h1 : p ≤ 2000) (h2 : 0 ≤ s) (h3 : s ≤ 9223372036854775807) : impl_tornLeaf.f p s = some (tornV p (sumV p - s)) := by
  have hb := sumV_bd h0 h1
  unfold impl_tornLeaf.f tornV
  rw [sum_impl h0 h1]
  simp only [Option.bind_some]
  generalize sumV p = S at hb ⊢
  rw [w64 (x := S - s) (by omega) (by omega)]
  by_cases c : S - s > 0
  · rw [if_pos c, w64 (x := S - s + 1) (by omega) (by omega), td (by omega), w64 (x := (S - s + 1) / 4) (by omega) (by omega), w64 (x := 4 * ((S - s + 1) / 4)) (by omega) (by omega), w64 (by omega) (by omega), w64 (by omega) (by omega)]
    by_cases c2 : 4 * ((S - s + 1) / 4) - 1 = S - s
    · rw [if_pos c2]
      by_cases c3 : 2 * ((S - s + 1) / 4) ≤ p
      · rw [if_pos c3, if_pos (by omega)]
      · rw [if_neg c3, if_neg (by omega)]
    · rw [if_neg c2, if_neg (by omega)]
  · rw [if_neg c, if_neg (by omega)]
def I64 (x : Int) : Prop := -9223372036854775808 ≤ x ∧ x ≤ 9223372036854775807
theorem i64w (x : Int) : I64 (wrap64 x) := by unfold I64 wrap64; omega
theorem w64s {x : Int} (h0 : 0 ≤ x) (h1 : x ≤ 60000) : wrap64 x ≤ 65536 := by rw [w64 (by omega) (by omega)]; omega
theorem page_ok {l : List Int} (hb : Bytes l) {p : Int} (s : Int) (h0 : 0 ≤ p) (h1 : p ≤ 1000) : ∃ v p' s', spec_l1Cur_page.f l p s = some (v, p', s') ∧ I64 v ∧ 0 ≤ p' ∧ p' ≤ p + 4 := by
  unfold spec_l1Cur_page.f
  obtain ⟨v, p', s', e, hv, g0, g1⟩ := pick_ok hb s h0 (by omega) (n := 9) (by omega)
  rw [e, Option.bind_some]
  dsimp only
  by_cases c0 : v = 0
  · rw [if_pos c0]
    obtain ⟨u, q', t', e2, hu, k0, k1⟩ := among_ok hb s' g0 (by omega) (xs := ([(-1), 0, 1, 2, 1999, 2000, 2001, 4611686018427387904] : List Int)) (by decide) (by decide)
    rw [e2, Option.bind_some]
    refine ⟨_, _, _, rfl, ?_, k0, by show q' ≤ p + 4; omega⟩
    simp only [List.mem_cons, List.not_mem_nil, or_false] at hu
    unfold I64
    omega
  · rw [if_neg c0]
    by_cases c1 : v = 1
    · rw [if_pos c1]
      obtain ⟨u, q', t', e2, hu, k0, k1⟩ := pick_ok hb s' g0 (by omega) (n := 250) (by omega)
      rw [e2, Option.bind_some]
      exact ⟨_, _, _, rfl, i64w _, k0, by show q' ≤ p + 4; omega⟩
    · rw [if_neg c1]
      obtain ⟨u, q', t', e2, hu, k0, k1⟩ := pick_ok hb s' g0 (by omega) (n := 130) (by omega)
      rw [e2, Option.bind_some]
      exact ⟨_, _, _, rfl, i64w _, k0, by show q' ≤ p + 4; omega⟩
theorem drawTorn_j0 {l : List Int} (hb : Bytes l) {b : Bool} {x p s : Int} (hx : b = true → 1 ≤ x ∧ x ≤ 2000) (h0 : 0 ≤ p) (h1 : p ≤ 1000) : ∃ r : Int, (∀ k, 1 ≤ k → spec_DrawTornLeaf.j0 k x b l p s = some (x, r)) ∧ I64 r := by
  cases b with
  | true =>
    have hx := hx rfl
    have ht : wrap64 (Int.tdiv x 2) ≤ 65536 := by rw [td (by omega)]; exact w64s (by omega) (by omega)
    obtain ⟨u, q', t', e2, hu, k0, k1⟩ := pick_ok hb s h0 (by omega) (n := wrap64 (Int.tdiv x 2)) ht
    refine ⟨wrap64 (sumV x - (wrap64 ((wrap64 (4 * (wrap64 (1 + u)))) - 1))), fun k hk => ?_, i64w _⟩
    obtain ⟨k, rfl⟩ : ∃ m, k = m + 1 := ⟨k - 1, by clear ht; omega⟩
    rw [spec_DrawTornLeaf.j0, if_pos rfl, sum_spec hx.1 hx.2, Option.bind_some, e2, Option.bind_some]
  | false =>
    obtain ⟨u, q', t', e2, hu, k0, k1⟩ := among_ok hb s h0 (by omega) (xs := ([(-1), 0, 1, 100, 5000, 4000000, 4000001] : List Int)) (by decide) (by decide)
    refine ⟨u, fun k hk => ?_, ?_⟩
    · obtain ⟨k, rfl⟩ : ∃ m, k = m + 1 := ⟨k - 1, by omega⟩
      rw [spec_DrawTornLeaf.j0, if_neg (by decide), e2, Option.bind_some]
    · simp only [List.mem_cons, List.not_mem_nil, or_false] at hu
      unfold I64
      omega
theorem drawTorn_ok {l : List Int} (hb : Bytes l) : ∃ x r : Int, (∀ k, 1 ≤ k → spec_DrawTornLeaf.f k l = some (x, r)) ∧ I64 x ∧ I64 r := by
  obtain ⟨x, p, s, e, hx, g0, g1⟩ := page_ok hb 0 (Int.le_refl _) (p := 0) (by omega)
  unfold spec_DrawTornLeaf.f
  by_cases c : 1 ≤ x ∧ x ≤ 2000
  · by_cases c2 : x > 1
    · obtain ⟨b, p', s', e2, k0, k1⟩ := one_ok hb s g0 (by omega) (n := 4) (by omega)
      obtain ⟨r, hr, hr2⟩ := drawTorn_j0 hb (b := !b) (x := x) (s := s') (fun _ => c) k0 (by omega)
      refine ⟨x, r, fun k hk => ?_, hx, hr2⟩
      rw [e, Option.bind_some]
      dsimp only
      rw [book_spec, Option.bind_some, decide_eq_true c, if_pos rfl, if_pos c2, e2, Option.bind_some]
      exact hr k hk
    · obtain ⟨r, hr, hr2⟩ := drawTorn_j0 hb (b := false) (x := x) (s := s) (fun h => by cases h) g0 (by omega)
      refine ⟨x, r, fun k hk => ?_, hx, hr2⟩
      rw [e, Option.bind_some]
      dsimp only
      rw [book_spec, Option.bind_some, decide_eq_true c, if_pos rfl, if_neg c2]
      exact hr k hk
  · obtain ⟨r, hr, hr2⟩ := drawTorn_j0 hb (b := false) (x := x) (s := s) (fun h => by cases h) g0 (by omega)
    refine ⟨x, r, fun k hk => ?_, hx, hr2⟩
    rw [e, Option.bind_some]
    dsimp only
    rw [book_spec, Option.bind_some, decide_eq_false c, if_neg (by decide)]
    exact hr k hk
theorem drawTwo_j0 {l : List Int} (hb : Bytes l) {b : Bool} {x p s : Int} (hx : b = true → 4 ≤ x ∧ x ≤ 2000) (h0 : 0 ≤ p) (h1 : p ≤ 1000) : ∃ r : Int, (∀ k, 1 ≤ k → spec_DrawCountTornTwo.j0 k x b l p s = some (x, r)) ∧ I64 r := by
  cases b with
  | true =>
    have hx := hx rfl
    have h2 : Int.tdiv x 2 = x / 2 := td (by omega)
    have w2 : wrap64 (x / 2) = x / 2 := w64 (by omega) (by omega)
    have ht : wrap64 (x / 2 - 1) ≤ 65536 := w64s (by clear w2; omega) (by clear w2; omega)
    obtain ⟨u, q', t', e2, hu, k0, k1⟩ := pick_ok hb s h0 (by omega) (n := wrap64 (x / 2 - 1)) ht
    have w1 : wrap64 (x / 2 - 1) = x / 2 - 1 := w64 (by clear w2; omega) (by clear w2; omega)
    have hu2 : u ≤ x / 2 := by rw [w1] at hu; clear w1 w2 ht e2; omega
    have w3 : wrap64 (1 + u) = 1 + u := w64 (by clear w1 w2 ht; omega) (by clear w1 w2 ht; omega)
    have w4 : wrap64 (x / 2 - (1 + u)) = x / 2 - (1 + u) := w64 (by clear w1 w2 w3 ht; omega) (by clear w1 w2 w3 ht; omega)
    have ht2 : wrap64 (x / 2 - (1 + u)) ≤ 65536 := by rw [w4]; clear w1 w2 w3 w4 ht; omega
    obtain ⟨u2, q2, t2, e3, hv, m0, m1⟩ := pick_ok hb t' k0 (by clear w1 w2 w3 w4 ht ht2; omega) (n := wrap64 (x / 2 - (1 + u))) ht2
    refine ⟨wrap64 ((wrap64 (sumV x - (wrap64 ((wrap64 (4 * (1 + u))) - 1)))) - (wrap64 ((wrap64 (4 * (wrap64 ((wrap64 ((1 + u) + 1)) + u2)))) - 1))), fun k hk => ?_, i64w _⟩
    obtain ⟨k, rfl⟩ : ∃ m, k = m + 1 := ⟨k - 1, by clear w1 w2 w3 w4 ht ht2; omega⟩
    rw [spec_DrawCountTornTwo.j0, if_pos rfl, h2, w2, e2, Option.bind_some]
    dsimp only
    rw [sum_spec (by clear w1 w2 w3 w4 ht ht2; omega) hx.2, Option.bind_some, w3, e3, Option.bind_some]
  | false =>
    obtain ⟨u, q', t', e2, hu, k0, k1⟩ := among_ok hb s h0 (by omega) (xs := ([(-1), 0, 1, 100, 5000, 4000000, 4000001] : List Int)) (by decide) (by decide)
    refine ⟨u, fun k hk => ?_, ?_⟩
    · obtain ⟨k, rfl⟩ : ∃ m, k = m + 1 := ⟨k - 1, by omega⟩
      rw [spec_DrawCountTornTwo.j0, if_neg (by decide), e2, Option.bind_some]
    · simp only [List.mem_cons, List.not_mem_nil, or_false] at hu
      unfold I64
      omega
theorem drawTwo_ok {l : List Int} (hb : Bytes l) : ∃ x r : Int, (∀ k, 1 ≤ k → spec_DrawFirstTornTwo.f k l = some (x, r)) ∧ I64 x ∧ I64 r := by
  obtain ⟨x, p, s, e, hx, g0, g1⟩ := page_ok hb 0 (Int.le_refl _) (p := 0) (by omega)
  unfold spec_DrawFirstTornTwo.f spec_DrawCountTornTwo.f
  by_cases c : 1 ≤ x ∧ x ≤ 2000
  · by_cases c2 : x > 3
    · obtain ⟨b, p', s', e2, k0, k1⟩ := one_ok hb s g0 (by omega) (n := 4) (by omega)
      obtain ⟨r, hr, hr2⟩ := drawTwo_j0 hb (b := !b) (x := x) (s := s') (fun _ => by omega) k0 (by omega)
      refine ⟨x, r, fun k hk => ?_, hx, hr2⟩
      rw [e, Option.bind_some]
      dsimp only
      rw [book_spec, Option.bind_some, decide_eq_true c, if_pos rfl, if_pos c2, e2, Option.bind_some]
      dsimp only
      rw [hr k hk, Option.bind_some]
    · obtain ⟨r, hr, hr2⟩ := drawTwo_j0 hb (b := false) (x := x) (s := s) (fun h => by cases h) g0 (by omega)
      refine ⟨x, r, fun k hk => ?_, hx, hr2⟩
      rw [e, Option.bind_some]
      dsimp only
      rw [book_spec, Option.bind_some, decide_eq_true c, if_pos rfl, if_neg c2, hr k hk, Option.bind_some]
  · obtain ⟨r, hr, hr2⟩ := drawTwo_j0 hb (b := false) (x := x) (s := s) (fun h => by cases h) g0 (by omega)
    refine ⟨x, r, fun k hk => ?_, hx, hr2⟩
    rw [e, Option.bind_some]
    dsimp only
    rw [book_spec, Option.bind_some, decide_eq_false c, if_neg (by decide), hr k hk, Option.bind_some]
theorem drawFrom_ok {l : List Int} (hb : Bytes l) : ∃ r : Int, (∀ k, 1 ≤ k → spec_DrawTornFromSum.f k l = some r) ∧ I64 r := by
  obtain ⟨b, p', s', e2, k0, k1⟩ := one_ok hb 0 (Int.le_refl _) (p := 0) (by omega) (n := 6) (by omega)
  by_cases c : b = true
  · obtain ⟨u, q', t', e3, hu, m0, m1⟩ := among_ok hb s' k0 (by omega) (xs := ([(-1), 0, 1, 2, 4000000, 4000001, 1999000] : List Int)) (by decide) (by decide)
    refine ⟨u, fun k _ => ?_, ?_⟩
    · unfold spec_DrawTornFromSum.f
      rw [e2, Option.bind_some]
      dsimp only
      rw [if_pos c, e3, Option.bind_some]
    · simp only [List.mem_cons, List.not_mem_nil, or_false] at hu
      unfold I64
      omega
  · obtain ⟨x, r, h, hx, hr⟩ := drawTorn_ok hb
    refine ⟨r, fun k hk => ?_, hr⟩
    unfold spec_DrawTornFromSum.f
    rw [e2, Option.bind_some]
    dsimp only
    rw [if_neg c, h k hk, Option.bind_some]
theorem drawCan_ok {l : List Int} (hb : Bytes l) : ∃ x y : Int, spec_DrawCanBeTorn.f l = some (x, y) := by
  unfold spec_DrawCanBeTorn.f
  obtain ⟨b, p', s', e2, k0, k1⟩ := one_ok hb 0 (Int.le_refl _) (p := 0) (by omega) (n := 6) (by omega)
  rw [e2, Option.bind_some]
  dsimp only
  by_cases c : b = true
  · rw [if_pos c]
    obtain ⟨u, q1, t1, e3, hu, m0, m1⟩ := among_ok hb s' k0 (by omega) (xs := ([(-1), 0, 3, 10, 3999, 4000, 4000000, 4000001] : List Int)) (by decide) (by decide)
    rw [e3, Option.bind_some]
    dsimp only
    obtain ⟨v, q2, t2, e4, hv, n0, n1⟩ := among_ok hb t1 m0 (by omega) (xs := ([0, 1, 2, 3, 4] : List Int)) (by decide) (by decide)
    rw [e4, Option.bind_some]
    exact ⟨_, _, rfl⟩
  · rw [if_neg c]
    obtain ⟨u, q1, t1, e3, hu, m0, m1⟩ := pick_ok hb s' k0 (by omega) (n := 250) (by omega)
    rw [e3, Option.bind_some]
    dsimp only
    obtain ⟨v, q2, t2, e4, hv, n0, n1⟩ := pick_ok hb t1 m0 (by omega) (n := 40) (by omega)
    rw [e4, Option.bind_some]
    dsimp only
    obtain ⟨y, q3, t3, e5, hy, o0, o1⟩ := pick_ok hb t2 n0 (by omega) (n := 3) (by omega)
    rw [e5, Option.bind_some]
    exact ⟨_, _, rfl⟩
theorem drawLeaf_ok {l : List Int} (hb : Bytes l) : ∃ x : Int, spec_DrawPagesOfLeaf.f l = some x := by
  unfold spec_DrawPagesOfLeaf.f spec_l1Cur_leaf.f
  obtain ⟨b, p', s', e2, k0, k1⟩ := one_ok hb 0 (Int.le_refl _) (p := 0) (by omega) (n := 9) (by omega)
  rw [e2, Option.bind_some]
  dsimp only
  by_cases c : b = true
  · rw [if_pos c]
    obtain ⟨u, q1, t1, e3, hu, m0, m1⟩ := among_ok hb s' k0 (by omega) (xs := ([(-1), 0, 1, 1000, 1001, 4611686018427387904] : List Int)) (by decide) (by decide)
    rw [e3, Option.bind_some, Option.bind_some]
    exact ⟨_, rfl⟩
  · rw [if_neg c]
    obtain ⟨u, q1, t1, e3, hu, m0, m1⟩ := pick_ok hb s' k0 (by omega) (n := 250) (by omega)
    rw [e3, Option.bind_some, Option.bind_some]
    exact ⟨_, rfl⟩
theorem drawFacing_ok {l : List Int} (hb : Bytes l) : ∃ x y : Int, spec_DrawFacingPage.f l = some (x, y) := by
  unfold spec_DrawFacingPage.f
  obtain ⟨x, p, s, e, hx, g0, g1⟩ := page_ok hb 0 (Int.le_refl _) (p := 0) (by omega)
  rw [e, Option.bind_some]
  dsimp only
  obtain ⟨m, hm⟩ : ∃ m, spec_l1Least.f x 3000 = some m := by unfold spec_l1Least.f; split <;> exact ⟨_, rfl⟩
  rw [hm, Option.bind_some]
  obtain ⟨v, q2, t2, e4, hv, n0, n1⟩ := pick_ok hb s g0 (by omega) (n := 4) (by omega)
  rw [e4, Option.bind_some]
  dsimp only
  obtain ⟨y, q3, t3, e5, hy, o0, o1⟩ := pick_ok hb t2 n0 (by omega) (n := 9) (by omega)
  rw [e5, Option.bind_some]
  exact ⟨_, _, rfl⟩
theorem tornV_nonneg (p r : Int) : 0 ≤ tornV p r := by unfold tornV; split <;> omega
/-- What a look through the books from x pages on tells, of a sum s. -/
def FromOk (s x : Int) (r : Int × Int × Bool) : Prop :=
  (r.2.2 = true → x ≤ r.1 ∧ r.1 ≤ 2000 ∧ r.2.1 = tornV r.1 (sumV r.1 - s) ∧ 0 < r.2.1 ∧ ∀ q, x ≤ q → q < r.1 → tornV q (sumV q - s) = 0) ∧
  (r.2.2 = false → r.1 = 0 ∧ r.2.1 = 0 ∧ ∀ q, x ≤ q → q ≤ 2000 → tornV q (sumV q - s) = 0)
theorem from_loop {s : Int} (hs0 : 0 ≤ s) (hs1 : s ≤ 4000000) (d : Nat) : ∀ x : Int, 1 ≤ x → x + d = 2001 →
    ∃ r : Int × Int × Bool, (∀ k, d < k → spec_TornFromSum.l0 k s x = some r ∧ impl_TornFromSum.l0 k s x = some r) ∧ FromOk s x r := by
  induction d with
  | zero =>
    intro x h1 hd
    refine ⟨(0, 0, false), fun k hk => ?_, ⟨(fun h => by cases h), fun _ => ⟨rfl, rfl, fun q _ _ => by omega⟩⟩⟩
    obtain ⟨k, rfl⟩ : ∃ m, k = m + 1 := ⟨k - 1, by omega⟩
    refine ⟨?_, ?_⟩
    · simp only [spec_TornFromSum.l0]; rw [if_neg (show ¬ x ≤ 2000 by omega)]
    · simp only [impl_TornFromSum.l0]; rw [if_neg (show ¬ x ≤ 2000 by omega)]
  | succ d ih =>
    intro x h1 hd
    have hb := sumV_bd h1 (show x ≤ 2000 by omega)
    by_cases c : tornV x (sumV x - s) > 0
    · refine ⟨(x, tornV x (sumV x - s), true), fun k hk => ?_, ⟨fun _ => ⟨by show x ≤ x; omega, by show x ≤ 2000; omega, rfl, c, fun q h0 h1 => by have h2 : q < x := h1; omega⟩, fun h => by cases h⟩⟩
      obtain ⟨k, rfl⟩ : ∃ m, k = m + 1 := ⟨k - 1, by omega⟩
      refine ⟨?_, ?_⟩
      · simp only [spec_TornFromSum.l0]
        rw [if_pos (show x ≤ 2000 by omega), sum_spec h1 (by omega)]
        simp only [Option.bind_some]
        rw [w64 (x := sumV x - s) (by omega) (by omega), torn_spec h1 (by omega) (by omega) (by omega)]
        simp only [Option.bind_some]
        rw [if_pos c]
      · simp only [impl_TornFromSum.l0]
        rw [if_pos (show x ≤ 2000 by omega), torn_impl h1 (by omega) hs0 (by omega)]
        simp only [Option.bind_some]
        rw [if_pos c]
    · have z : tornV x (sumV x - s) = 0 := by have := tornV_nonneg x (sumV x - s); omega
      obtain ⟨r, hr, hy, hn⟩ := ih (x + 1) (by omega) (by omega)
      have more : ∀ q, x ≤ q → (x + 1 ≤ q → tornV q (sumV q - s) = 0) → tornV q (sumV q - s) = 0 := by
        intro q h0 h
        by_cases e : q = x
        · rw [e]; exact z
        · exact h (by omega)
      refine ⟨r, fun k hk => ?_, ⟨fun h => ?_, fun h => ?_⟩⟩
      · obtain ⟨k, rfl⟩ : ∃ m, k = m + 1 := ⟨k - 1, by omega⟩
        have hk := hr k (by omega)
        refine ⟨?_, ?_⟩
        · simp only [spec_TornFromSum.l0]
          rw [if_pos (show x ≤ 2000 by omega), sum_spec h1 (by omega)]
          simp only [Option.bind_some]
          rw [w64 (x := sumV x - s) (by omega) (by omega), torn_spec h1 (by omega) (by omega) (by omega), w64 (x := x + 1) (by omega) (by omega)]
          simp only [Option.bind_some]
          rw [if_neg c]
          exact hk.1
        · simp only [impl_TornFromSum.l0]
          rw [if_pos (show x ≤ 2000 by omega), torn_impl h1 (by omega) hs0 (by omega), w64 (x := x + 1) (by omega) (by omega)]
          simp only [Option.bind_some]
          rw [if_neg c]
          exact hk.2
      · obtain ⟨a, b, c1, d1, e1⟩ := hy h
        exact ⟨by omega, b, c1, d1, fun q h0 h1 => more q h0 fun h2 => e1 q h2 h1⟩
      · obtain ⟨a, b, e1⟩ := hn h
        exact ⟨a, b, fun q h0 h1 => more q h0 fun h2 => e1 q h2 h1⟩
theorem from_both {s : Int} (hs0 : 1 ≤ s) (hs1 : s ≤ 4000000) : ∃ r : Int × Int × Bool, Ev (fun k => spec_TornFromSum.f k s) r ∧ Ev (fun k => impl_TornFromSum.f k s) r ∧ FromOk s 1 r := by
  obtain ⟨r, hr, hy⟩ := from_loop (s := s) (by omega) hs1 2000 1 (by omega) (by omega)
  have hi : 1 ≤ s ∧ s ≤ 4000000 := ⟨hs0, hs1⟩
  have z : tornV 1 (sumV 1 - s) = 0 := by unfold tornV; rw [if_neg (by rintro ⟨_, _, h⟩; have : (1:Int) / 2 = 0 := rfl; omega)]
  refine ⟨r, ⟨2001, fun k hk => ?_⟩, ⟨2001, fun k hk => ?_⟩, hy⟩
  · have h2 := (hr (k + 1) (by omega)).1
    simp only [spec_TornFromSum.l0] at h2
    rw [if_pos (by omega), sum_spec (by omega) (by omega)] at h2
    simp only [Option.bind_some] at h2
    have hb := sumV_bd (a := 1) (by omega) (by omega)
    rw [w64 (x := sumV 1 - s) (by omega) (by omega), torn_spec (by omega) (by omega) (by omega) (by omega), z] at h2
    simp only [Option.bind_some] at h2
    rw [if_neg (by omega), w64 (by omega) (by omega)] at h2
    simp only [spec_TornFromSum.f, in_spec, hi, and_self, decide_true, Option.bind_some, if_true]
    exact h2
  · simp only [impl_TornFromSum.f, in_impl, hi, and_self, decide_true, Option.bind_some, if_true]
    exact (hr k (by omega)).2
/-- Can so many leaves have this sum? -/
def canV (s n : Int) : Bool := decide (if n = 1 then 3 ≤ s ∧ s ≤ 3999 ∧ (s + 1) % 4 = 0 else if n = 2 then 10 ≤ s ∧ s ≤ 7994 ∧ (s + 2) % 4 = 0 else 21 ≤ s ∧ s ≤ 11985 ∧ (s + 3) % 4 = 0)
theorem can_spec {s n : Int} (h0 : 0 ≤ s) (h1 : s ≤ 4000000) (h2 : 1 ≤ n) (h3 : n ≤ 3) (k : Nat) (hk : 5 ≤ k) : spec_CanBeTorn.f k s n = some (canV s n, true) := by
  obtain ⟨k, rfl⟩ : ∃ m, k = m + 1 := ⟨k - 1, by omega⟩
  have hs : 0 ≤ s ∧ s ≤ 4000000 := ⟨h0, h1⟩
  have hn : 1 ≤ n ∧ n ≤ 3 := ⟨h2, h3⟩
  simp only [spec_CanBeTorn.f, spec_CanBeTorn.j0, in_spec, hs, hn, and_self, decide_true, Option.bind_some, if_true, Bool.not_true]
  rw [if_neg (by decide), w64 (x := s + n) (by omega) (by omega), tm (by omega), td (a := s + n) (by omega), w64 (x := (s + n) / 4) (by omega) (by omega)]
  have h : n = 1 ∨ n = 2 ∨ n = 3 := by omega
  rcases h with rfl | rfl | rfl
  · rw [show wrap64 (Int.tdiv (wrap64 (1 * wrap64 (1 + 1))) 2) = 1 by decide +kernel, show wrap64 (wrap64 (1 * 1000) - wrap64 (Int.tdiv (wrap64 (1 * wrap64 (1 - 1))) 2)) = 1000 by decide +kernel]
    by_cases c : (s + 1) % 4 = 0
    · rw [if_pos c]; simp only [canV, if_true, Option.some.injEq, Prod.mk.injEq, and_true, decide_eq_decide]; omega
    · rw [if_neg c]; simp [canV, c]
  · rw [show wrap64 (Int.tdiv (wrap64 (2 * wrap64 (2 + 1))) 2) = 3 by decide +kernel, show wrap64 (wrap64 (2 * 1000) - wrap64 (Int.tdiv (wrap64 (2 * wrap64 (2 - 1))) 2)) = 1999 by decide +kernel]
    by_cases c : (s + 2) % 4 = 0
    · rw [if_pos c]; simp only [canV, if_neg (show ¬ (2 : Int) = 1 by decide), if_true, Option.some.injEq, Prod.mk.injEq, and_true, decide_eq_decide]; omega
    · rw [if_neg c]; simp [canV, c]
  · rw [show wrap64 (Int.tdiv (wrap64 (3 * wrap64 (3 + 1))) 2) = 6 by decide +kernel, show wrap64 (wrap64 (3 * 1000) - wrap64 (Int.tdiv (wrap64 (3 * wrap64 (3 - 1))) 2)) = 2997 by decide +kernel]
    by_cases c : (s + 3) % 4 = 0
    · rw [if_pos c]; simp only [canV, if_neg (show ¬ (3 : Int) = 1 by decide), if_neg (show ¬ (3 : Int) = 2 by decide), Option.some.injEq, Prod.mk.injEq, and_true, decide_eq_decide]; omega
    · rw [if_neg c]; simp [canV, c]
theorem can_end {s a b : Int} (n : Int) (h0 : 0 ≤ s) (h1 : s ≤ 4000000) (ha : a = 3 ∧ b = 3999 ∧ n = 1 ∨ a = 10 ∧ b = 7994 ∧ n = 2 ∨ a = 21 ∧ b = 11985 ∧ n = 3) :
    ((some (decide (a ≤ s ∧ s ≤ b))).bind fun t106 => (if t106 = true then (some (((Int.tmod (wrap64 (s - a)) 4) == 0), true)) else (some (false, true)))) = some (canV s n, true) := by
  simp only [Option.bind_some]
  by_cases c : a ≤ s ∧ s ≤ b
  · rw [w64 (x := s - a) (by omega) (by omega), tm (by omega)]
    simp only [c, and_self, decide_true, if_true, Option.some.injEq, Prod.mk.injEq, and_true]
    unfold canV
    rcases ha with ⟨rfl, rfl, rfl⟩ | ⟨rfl, rfl, rfl⟩ | ⟨rfl, rfl, rfl⟩
    · rw [Bool.eq_iff_iff]; simp; omega
    · rw [Bool.eq_iff_iff]; simp; omega
    · rw [Bool.eq_iff_iff]; simp; omega
  · simp only [c, decide_false, Option.some.injEq, Prod.mk.injEq, and_true]
    rw [if_neg (by decide)]
    simp only [Option.some.injEq, Prod.mk.injEq, and_true]
    unfold canV
    rcases ha with ⟨rfl, rfl, rfl⟩ | ⟨rfl, rfl, rfl⟩ | ⟨rfl, rfl, rfl⟩
    · rw [Bool.eq_iff_iff]; simp; omega
    · rw [Bool.eq_iff_iff]; simp; omega
    · rw [Bool.eq_iff_iff]; simp; omega
theorem can_impl {s n : Int} (h0 : 0 ≤ s) (h1 : s ≤ 4000000) (h2 : 1 ≤ n) (h3 : n ≤ 3) (k : Nat) (hk : 5 ≤ k) : impl_CanBeTorn.f k s n = some (canV s n, true) := by
  obtain ⟨k, rfl⟩ : ∃ m, k = m + 5 := ⟨k - 5, by omega⟩
  have hs : 0 ≤ s ∧ s ≤ 4000000 := ⟨h0, h1⟩
  have hn : 1 ≤ n ∧ n ≤ 3 := ⟨h2, h3⟩
  simp only [impl_CanBeTorn.f, impl_CanBeTorn.j0, in_impl, hs, hn, and_self, decide_true, Option.bind_some, if_true, Bool.not_true]
  rw [if_neg (by decide)]
  have h : n = 1 ∨ n = 2 ∨ n = 3 := by omega
  rcases h with rfl | rfl | rfl
  · rw [← can_end (a := 3) (b := 3999) 1 h0 h1 (by omega)]
    simp only [impl_CanBeTorn.l0, in_impl, w64, Int.reduceAdd, Int.reduceMul, Int.reduceSub, Int.reduceLT, Int.reduceLE, Int.reduceNeg, ↓reduceIte]
  · rw [← can_end (a := 10) (b := 7994) 2 h0 h1 (by omega)]
    simp only [impl_CanBeTorn.l0, in_impl, w64, Int.reduceAdd, Int.reduceMul, Int.reduceSub, Int.reduceLT, Int.reduceLE, Int.reduceNeg, ↓reduceIte]
  · rw [← can_end (a := 21) (b := 11985) 3 h0 h1 (by omega)]
    simp only [impl_CanBeTorn.l0, in_impl, w64, Int.reduceAdd, Int.reduceMul, Int.reduceSub, Int.reduceLT, Int.reduceLE, Int.reduceNeg, ↓reduceIte]
theorem xor_tab : ∀ n : Nat, n < 2001 → Go.bits .xor .i64 (n : Int) 1 = if n % 2 = 0 then (n : Int) + 1 else (n : Int) - 1 := by decide +kernel
theorem xor1 {a : Int} (h0 : 0 ≤ a) (h1 : a ≤ 2000) : Go.bits .xor .i64 a 1 = if a % 2 = 0 then a + 1 else a - 1 := by
  obtain ⟨n, rfl⟩ := Int.eq_ofNat_of_zero_le h0
  rw [xor_tab n (by omega)]
  by_cases h : n % 2 = 0
  · rw [if_pos h, if_pos (by omega)]
  · rw [if_neg h, if_neg (by omega)]
theorem leaf_impl (a : Int) : impl_isLeaf.f a = some (decide (1 ≤ a ∧ a ≤ 1000)) := by simp [impl_isLeaf.f, in_impl]
theorem leaf_spec (a : Int) : spec_bpLeaf.f a = some (decide (1 ≤ a ∧ a ≤ 1000)) := by simp [spec_bpLeaf.f, in_spec]
theorem lp_impl {a : Int} (h : 1 ≤ a ∧ a ≤ 2000) : impl_LeafOfPage.f a = some ((a + 1) / 2, true) := by
  unfold impl_LeafOfPage.f
  rw [book_impl, decide_eq_true h, Option.bind_some, if_pos rfl, w64 (x := a + 1) (by omega) (by omega), td (by omega), w64 (by omega) (by omega)]
theorem rp_impl {a : Int} (h : 1 ≤ a ∧ a ≤ 2000) : impl_IsRightPage.f a = some (decide (a % 2 = 1), true) := by
  unfold impl_IsRightPage.f
  rw [book_impl, decide_eq_true h, Option.bind_some, if_pos rfl, tm (by omega)]
  rfl
theorem sl_impl {a : Int} (h : 1 ≤ a ∧ a ≤ 1000) : impl_SumOfLeaf.f a = some (4 * a - 1, true) := by
  unfold impl_SumOfLeaf.f
  rw [leaf_impl, decide_eq_true h, Option.bind_some, if_pos rfl, w64 (x := 4 * a) (by omega) (by omega), w64 (by omega) (by omega)]
theorem sl_impl' {a : Int} (h : ¬ (1 ≤ a ∧ a ≤ 1000)) : impl_SumOfLeaf.f a = some (0, false) := by
  unfold impl_SumOfLeaf.f
  rw [leaf_impl, decide_eq_false h, Option.bind_some, if_neg (by decide)]
theorem sl_both (a : Int) : spec_SumOfLeaf.f a = impl_SumOfLeaf.f a := by
  unfold impl_SumOfLeaf.f spec_SumOfLeaf.f
  rw [leaf_impl, leaf_spec]
theorem pl_both (a : Int) : spec_PagesOfLeaf.f a = impl_PagesOfLeaf.f a := by
  unfold impl_PagesOfLeaf.f spec_PagesOfLeaf.f
  rw [leaf_impl, leaf_spec]
theorem pl_impl {a : Int} (h : 1 ≤ a ∧ a ≤ 1000) : impl_PagesOfLeaf.f a = some (2 * a - 1, 2 * a, true) := by
  unfold impl_PagesOfLeaf.f
  rw [leaf_impl, decide_eq_true h, Option.bind_some, if_pos rfl, w64 (x := 2 * a) (by omega) (by omega), w64 (by omega) (by omega)]
theorem pl_impl' {a : Int} (h : ¬ (1 ≤ a ∧ a ≤ 1000)) : impl_PagesOfLeaf.f a = some (0, 0, false) := by
  unfold impl_PagesOfLeaf.f
  rw [leaf_impl, decide_eq_false h, Option.bind_some, if_neg (by decide)]
def backV (a : Int) : Int := if a % 2 = 1 then a + 1 else a - 1
theorem bk_impl {a : Int} (hb : 1 ≤ a ∧ a ≤ 2000) : impl_BackOfPage.f a = some (backV a, true) := by
  unfold impl_BackOfPage.f
  rw [book_impl, decide_eq_true hb, Option.bind_some, if_pos rfl, w64 (x := a - 1) (by omega) (by omega), xor1 (by omega) (by omega)]
  unfold backV
  by_cases c : a % 2 = 1
  · rw [if_pos (show (a - 1) % 2 = 0 by omega), if_pos c, w64 (by omega) (by omega), show a - 1 + 1 + 1 = a + 1 by omega]
  · rw [if_neg (show ¬ (a - 1) % 2 = 0 by omega), if_neg c, w64 (by omega) (by omega), show a - 1 - 1 + 1 = a - 1 by omega]
theorem bk_impl' {a : Int} (hb : ¬ (1 ≤ a ∧ a ≤ 2000)) : impl_BackOfPage.f a = some (0, false) := by
  unfold impl_BackOfPage.f
  rw [book_impl, decide_eq_false hb, Option.bind_some, if_neg (by decide)]
theorem bk_spec (a : Int) : spec_BackOfPage.f a = impl_BackOfPage.f a := by
  by_cases hb : 1 ≤ a ∧ a ≤ 2000
  · rw [bk_impl hb]
    unfold spec_BackOfPage.f backV
    rw [book_spec, decide_eq_true hb, Option.bind_some, if_pos rfl, tm (by omega), w64 (x := a + 1) (by omega) (by omega), w64 (x := a - 1) (by omega) (by omega)]
    by_cases c : a % 2 = 1
    · rw [if_pos c, if_pos c]
    · rw [if_neg c, if_neg c]
  · rw [bk_impl' hb]
    unfold spec_BackOfPage.f
    rw [book_spec, decide_eq_false hb, Option.bind_some, if_neg (by decide)]
theorem ip_both (a b : Int) : spec_IsPage.f a b = impl_IsPage.f a b := by
  unfold spec_IsPage.f impl_IsPage.f
  rw [book_spec, book_impl, in_spec, in_impl]
theorem ip_impl {a : Int} (b : Int) (hb : 1 ≤ a ∧ a ≤ 2000) : impl_IsPage.f a b = some (decide (1 ≤ b ∧ b ≤ a), true) := by
  unfold impl_IsPage.f
  rw [book_impl, in_impl, decide_eq_true hb, Option.bind_some, if_pos rfl, Option.bind_some]
theorem ip_impl' {a : Int} (b : Int) (hb : ¬ (1 ≤ a ∧ a ≤ 2000)) : impl_IsPage.f a b = some (false, false) := by
  unfold impl_IsPage.f
  rw [book_impl, decide_eq_false hb, Option.bind_some, if_neg (by decide)]
def faceV (b : Int) : Int := if b % 2 = 0 then b + 1 else b - 1
theorem fp_impl {a b : Int} (ha : 1 ≤ a ∧ a ≤ 2000) (hb : 1 ≤ b ∧ b ≤ a) (hc : 1 ≤ faceV b ∧ faceV b ≤ a) : impl_FacingPage.f a b = some (faceV b, true) := by
  unfold impl_FacingPage.f
  rw [book_impl, decide_eq_true ha, Option.bind_some, if_pos rfl, in_impl, decide_eq_true hb, Option.bind_some, if_pos rfl, xor1 (by omega) (by omega)]
  change ((impl_within.f (faceV b) 1 a).bind fun t293 => if t293 = true then some (faceV b, true) else some (0, false)) = _
  rw [in_impl, decide_eq_true hc, Option.bind_some, if_pos rfl]
theorem fp_impl' {a b : Int} (h : ¬ ((1 ≤ a ∧ a ≤ 2000) ∧ (1 ≤ b ∧ b ≤ a) ∧ 1 ≤ faceV b ∧ faceV b ≤ a)) : impl_FacingPage.f a b = some (0, false) := by
  unfold impl_FacingPage.f
  by_cases ha : 1 ≤ a ∧ a ≤ 2000
  · rw [book_impl, decide_eq_true ha, Option.bind_some, if_pos rfl]
    by_cases hb : 1 ≤ b ∧ b ≤ a
    · have hc : ¬ (1 ≤ faceV b ∧ faceV b ≤ a) := fun q => h ⟨ha, hb, q⟩
      rw [in_impl, decide_eq_true hb, Option.bind_some, if_pos rfl, xor1 (by omega) (by omega)]
      change ((impl_within.f (faceV b) 1 a).bind fun t293 => if t293 = true then some (faceV b, true) else some (0, false)) = _
      rw [in_impl, decide_eq_false hc, Option.bind_some, if_neg (by decide)]
    · rw [in_impl, decide_eq_false hb, Option.bind_some, if_neg (by decide)]
  · rw [book_impl, decide_eq_false ha, Option.bind_some, if_neg (by decide)]
theorem fp_spec (a b : Int) (k : Nat) : spec_FacingPage.f (k + 1) a b = impl_FacingPage.f a b := by
  by_cases ha : 1 ≤ a ∧ a ≤ 2000
  · by_cases hb : 1 ≤ b ∧ b ≤ a
    · unfold spec_FacingPage.f
      rw [book_spec, decide_eq_true ha, Option.bind_some, if_pos rfl, in_spec, decide_eq_true hb, Option.bind_some, Bool.not_true, spec_FacingPage.j0, if_neg (by decide), tm (by omega), w64 (x := b + 1) (by omega) (by omega), w64 (x := b - 1) (by omega) (by omega)]
      by_cases c : b % 2 = 0
      · rw [if_pos c, in_spec]
        have e : faceV b = b + 1 := by unfold faceV; rw [if_pos c]
        by_cases d : 1 ≤ b + 1 ∧ b + 1 ≤ a
        · rw [fp_impl ha hb (by rw [e]; exact d), decide_eq_true d, Option.bind_some, if_pos rfl, e]
        · rw [fp_impl' (fun q => d (by rw [e] at q; exact q.2.2)), decide_eq_false d, Option.bind_some, if_neg (by decide)]
      · rw [if_neg c, in_spec]
        have e : faceV b = b - 1 := by unfold faceV; rw [if_neg c]
        by_cases d : 1 ≤ b - 1 ∧ b - 1 ≤ a
        · rw [fp_impl ha hb (by rw [e]; exact d), decide_eq_true d, Option.bind_some, if_pos rfl, e]
        · rw [fp_impl' (fun q => d (by rw [e] at q; exact q.2.2)), decide_eq_false d, Option.bind_some, if_neg (by decide)]
    · rw [fp_impl' (fun q => hb q.2.1)]
      unfold spec_FacingPage.f
      rw [book_spec, decide_eq_true ha, Option.bind_some, if_pos rfl, in_spec, decide_eq_false hb, Option.bind_some, Bool.not_false, spec_FacingPage.j0, if_pos rfl]
  · rw [fp_impl' (fun q => ha q.1)]
    unfold spec_FacingPage.f
    rw [book_spec, decide_eq_false ha, Option.bind_some, if_neg (by decide), spec_FacingPage.j0, if_pos rfl]
theorem j9_ok {k : Nat} {x y : Int} {b : Bool} (h : impl_BackOfPage.f x = some (y, b)) : laws_FnLeavesTorn.j9 (k + 1) x y b = some true := by
  by_cases hb : 1 ≤ x ∧ x ≤ 2000
  · rw [bk_impl hb] at h
    simp only [Option.some.injEq, Prod.mk.injEq] at h
    obtain ⟨rfl, rfl⟩ := h
    have hy : 1 ≤ backV x ∧ backV x ≤ 2000 := by unfold backV; split <;> omega
    have e : (x + 1) / 2 = (backV x + 1) / 2 := by unfold backV; split <;> omega
    have n : ¬ backV x = x := by unfold backV; split <;> omega
    rw [laws_FnLeavesTorn.j9, if_pos rfl, lp_impl hb, Option.bind_some, lp_impl hy, Option.bind_some]
    dsimp only
    rw [if_pos rfl, if_pos rfl, if_pos e, if_neg n]
  · rw [bk_impl' hb] at h
    simp only [Option.some.injEq, Prod.mk.injEq] at h
    obtain ⟨rfl, rfl⟩ := h
    rw [laws_FnLeavesTorn.j9, if_neg (by decide)]
theorem j8_ok {k : Nat} {v x f y : Int} {fb b is la : Bool} (h : impl_BackOfPage.f x = some (y, b)) (hf : impl_FacingPage.f v x = some (f, fb)) (hi : impl_IsPage.f v x = some (is, la)) :
    laws_FnLeavesTorn.j8 (k + 2) v x f fb y b is la = some true := by
  by_cases c : (1 ≤ v ∧ v ≤ 2000) ∧ (1 ≤ x ∧ x ≤ v) ∧ 1 ≤ faceV x ∧ faceV x ≤ v
  · obtain ⟨c1, c2, c3⟩ := c
    rw [fp_impl c1 c2 c3] at hf
    rw [ip_impl x c1, decide_eq_true c2] at hi
    simp only [Option.some.injEq, Prod.mk.injEq] at hf hi
    obtain ⟨rfl, rfl⟩ := hf
    obtain ⟨rfl, rfl⟩ := hi
    have e : faceV (faceV x) = x := by unfold faceV; split <;> split <;> omega
    have n : ¬ faceV x = x := by unfold faceV; split <;> omega
    have g := fp_impl (a := v) (b := faceV x) c1 c3 (by rw [e]; exact c2)
    rw [e] at g
    rw [laws_FnLeavesTorn.j8, if_pos rfl, g, Option.bind_some]
    dsimp only
    rw [if_pos rfl, if_pos rfl, if_pos rfl, if_pos rfl, if_neg n]
    exact j9_ok h
  · rw [fp_impl' c] at hf
    simp only [Option.some.injEq, Prod.mk.injEq] at hf
    obtain ⟨rfl, rfl⟩ := hf
    rw [laws_FnLeavesTorn.j8, if_neg (by decide)]
    exact j9_ok h
theorem j7_ok {k : Nat} {l a c s v x f y : Int} {ob fb b is la sb : Bool} (h : impl_BackOfPage.f x = some (y, b)) (hf : impl_FacingPage.f v x = some (f, fb)) (hi : impl_IsPage.f v x = some (is, la))
    (hp : impl_PagesOfLeaf.f l = some (a, c, ob)) (hs : impl_SumOfLeaf.f l = some (s, sb)) : laws_FnLeavesTorn.j7 (k + 3) l a c ob s v x f fb y b is la = some true := by
  by_cases hl : 1 ≤ l ∧ l ≤ 1000
  · rw [pl_impl hl] at hp
    rw [sl_impl hl] at hs
    simp only [Option.some.injEq, Prod.mk.injEq] at hp hs
    obtain ⟨rfl, rfl, rfl⟩ := hp
    obtain ⟨rfl, rfl⟩ := hs
    have g1 : 1 ≤ 2 * l - 1 ∧ 2 * l - 1 ≤ 2000 := by omega
    have g2 : 1 ≤ 2 * l ∧ 2 * l ≤ 2000 := by omega
    have w1 : wrap64 (2 * l - 1 + 1) = 2 * l := by rw [w64 (by omega) (by omega)]; omega
    have w2 : wrap64 (2 * l - 1 + 2 * l) = 4 * l - 1 := by rw [w64 (by omega) (by omega)]; omega
    have d1 : (2 * l - 1 + 1) / 2 = l := by clear w1 w2; omega
    have d2 : (2 * l + 1) / 2 = l := by clear w1 w2; omega
    have d3 : (2 * l - 1) % 2 = 1 := by clear w1 w2; omega
    have d4 : ¬ 2 * l % 2 = 1 := by clear w1 w2; omega
    rw [laws_FnLeavesTorn.j7, if_pos rfl, lp_impl g1, Option.bind_some, lp_impl g2, Option.bind_some, rp_impl g1, Option.bind_some, rp_impl g2, Option.bind_some, w1, w2, d1, d2, decide_eq_true d3, decide_eq_false d4]
    dsimp only
    rw [if_pos rfl, if_pos rfl, if_pos rfl, if_pos rfl, if_pos rfl, if_pos rfl, if_pos rfl, if_pos rfl, if_pos rfl, if_neg (by decide)]
    exact j8_ok h hf hi
  · rw [pl_impl' hl] at hp
    simp only [Option.some.injEq, Prod.mk.injEq] at hp
    obtain ⟨rfl, rfl, rfl⟩ := hp
    rw [laws_FnLeavesTorn.j7, if_neg (by decide)]
    exact j8_ok h hf hi
/-- What the reference holds at the leaf x: the first pair, and how many there were; a leaf is the first of a pair just from lo to hi. -/
def twoS (lo hi B x : Int) : Int × Int × Int := if x ≤ lo ∨ hi < lo then (0, 0, 0) else (lo, B - lo, (if x - 1 ≤ hi then x - 1 else hi) - lo + 1)
theorem two_spec_loop {p r lo hi B : Int} (h0 : 1 ≤ p) (h1 : p ≤ 2000) (hr0 : -5000000 ≤ r) (hr1 : r ≤ 5000000) (hlo : 1 ≤ lo)
    (H : ∀ x, 1 ≤ x → x ≤ p / 2 → (lo ≤ x ∧ x ≤ hi → tornV p (r - (4 * x - 1)) = B - x ∧ B - x > x) ∧ (¬ (lo ≤ x ∧ x ≤ hi) → tornV p (r - (4 * x - 1)) ≤ x)) (d : Nat) :
    ∀ x, 1 ≤ x → x + d = p / 2 + 1 → ∀ k, d < k →
      spec_bpTwo.l0 k p r (twoS lo hi B x).1 (twoS lo hi B x).2.1 (twoS lo hi B x).2.2 x = some (twoS lo hi B (p / 2 + 1)) := by
  induction d with
  | zero =>
    intro x h2 h3 k hk
    obtain ⟨k, rfl⟩ : ∃ m, k = m + 1 := ⟨k - 1, by omega⟩
    rw [spec_bpTwo.l0, td (a := p) (by omega), w64 (x := p / 2) (by omega) (by omega), if_neg (by omega)]
    have : x = p / 2 + 1 := by omega
    rw [this]
  | succ d ih =>
    intro x h2 h3 k hk
    obtain ⟨k, rfl⟩ : ∃ m, k = m + 1 := ⟨k - 1, by omega⟩
    have g := ih (x + 1) (by omega) (by omega) k (by omega)
    rw [spec_bpTwo.l0, td (a := p) (by omega), w64 (x := p / 2) (by omega) (by omega), if_pos (by omega), w64 (x := 4 * x) (by omega) (by omega), w64 (x := 4 * x - 1) (by omega) (by omega),
      w64 (x := r - (4 * x - 1)) (by omega) (by omega), torn_spec h0 h1 (by omega) (by omega)]
    simp only [Option.bind_some]
    rw [w64 (x := x + 1) (by omega) (by omega)]
    obtain ⟨H1, H2⟩ := H x h2 (by omega)
    by_cases c : lo ≤ x ∧ x ≤ hi
    · obtain ⟨H3, H4⟩ := H1 c
      rw [H3, if_neg (by omega)]
      have e1 : twoS lo hi B (x + 1) = (lo, B - lo, x - lo + 1) := by
        unfold twoS
        rw [if_neg (by omega), if_pos (by omega)]
        congr 2; omega
      rw [e1] at g
      by_cases z : x = lo
      · have e0 : twoS lo hi B x = (0, 0, 0) := by unfold twoS; rw [if_pos (by omega)]
        rw [e0, if_pos rfl, w64 (by decide) (by decide), z]
        rw [z] at g
        have : lo - lo + 1 = (0 : Int) + 1 := by omega
        simp only at g ⊢
        rw [this] at g
        exact g
      · have e0 : twoS lo hi B x = (lo, B - lo, x - 1 - lo + 1) := by
          unfold twoS
          rw [if_neg (by omega), if_pos (by omega)]
        rw [e0]
        simp only at g ⊢
        rw [if_neg (by omega), w64 (x := x - 1 - lo + 1 + 1) (by omega) (by omega)]
        have : x - 1 - lo + 1 + 1 = x - lo + 1 := by omega
        rw [this]
        exact g
    · have H3 := H2 c
      rw [if_pos H3]
      have e : twoS lo hi B (x + 1) = twoS lo hi B x := by
        unfold twoS
        by_cases z : x ≤ lo ∨ hi < lo
        · rw [if_pos z, if_pos (by omega)]
        · rw [if_neg z, if_neg (by omega), if_neg (by omega)]
          by_cases y : x - 1 ≤ hi
          · rw [if_pos y]
            have : x - 1 = hi := by omega
            rw [this]
          · rw [if_neg y]
      rw [e] at g
      exact g
/-- What the program holds at the leaf x: how many, and the first one. -/
theorem two_impl_loop {p B lo hi : Int} (h0 : 1 ≤ p) (h1 : p ≤ 2000) (hB0 : 1 ≤ B) (hB1 : B ≤ 1000000) (hlo : lo = if B - p / 2 ≤ 1 then 1 else B - p / 2) (hhi : hi = (B - 1) / 2) (d : Nat) :
    ∀ x, 1 ≤ x → x + d = hi + 1 → ∀ k, d < k →
      impl_tornTwo.l0 k p B (twoS lo hi B x).2.2 (twoS lo hi B x).1 x = some ((twoS lo hi B (hi + 1)).2.2, (twoS lo hi B (hi + 1)).1, B - (twoS lo hi B (hi + 1)).1) := by
  induction d with
  | zero =>
    intro x h2 h3 k hk
    obtain ⟨k, rfl⟩ : ∃ m, k = m + 1 := ⟨k - 1, by omega⟩
    rw [impl_tornTwo.l0, w64 (x := B - x) (by omega) (by omega), if_neg (by omega)]
    have e : x = hi + 1 := by omega
    rw [e]
    have hb : 0 ≤ (twoS lo hi B (hi + 1)).1 ∧ (twoS lo hi B (hi + 1)).1 ≤ 2000000 := by
      unfold twoS
      by_cases z : hi + 1 ≤ lo ∨ hi < lo
      · rw [if_pos z]; exact ⟨by decide, by decide⟩
      · rw [if_neg z]
        show 0 ≤ lo ∧ lo ≤ 2000000
        omega
    rw [w64 (x := B - _) (by omega) (by omega)]
  | succ d ih =>
    intro x h2 h3 k hk
    obtain ⟨k, rfl⟩ : ∃ m, k = m + 1 := ⟨k - 1, by omega⟩
    have g := ih (x + 1) (by omega) (by omega) k (by omega)
    rw [impl_tornTwo.l0, w64 (x := B - x) (by omega) (by omega), if_pos (by omega), w64 (x := 2 * (B - x)) (by omega) (by omega), w64 (x := x + 1) (by omega) (by omega)]
    by_cases c : lo ≤ x
    · rw [if_pos (show 2 * (B - x) ≤ p by split at hlo <;> omega)]
      have e1 : twoS lo hi B (x + 1) = (lo, B - lo, x - lo + 1) := by
        unfold twoS
        rw [if_neg (by omega), if_pos (by omega)]
        congr 2; omega
      rw [e1] at g
      by_cases z : x = lo
      · have e0 : twoS lo hi B x = (0, 0, 0) := by unfold twoS; rw [if_pos (by omega)]
        rw [e0, if_pos rfl, w64 (by decide) (by decide), z]
        rw [z] at g
        have : lo - lo + 1 = (0 : Int) + 1 := by omega
        simp only at g ⊢
        rw [this] at g
        exact g
      · have e0 : twoS lo hi B x = (lo, B - lo, x - 1 - lo + 1) := by
          unfold twoS
          rw [if_neg (by omega), if_pos (by omega)]
        rw [e0]
        simp only at g ⊢
        rw [if_neg (by omega), w64 (x := x - 1 - lo + 1 + 1) (by omega) (by omega)]
        have : x - 1 - lo + 1 + 1 = x - lo + 1 := by omega
        rw [this]
        exact g
    · rw [if_neg (show ¬ 2 * (B - x) ≤ p by split at hlo <;> omega)]
      have e : twoS lo hi B (x + 1) = twoS lo hi B x := by
        unfold twoS
        rw [if_pos (by omega), if_pos (by omega)]
      rw [e] at g
      exact g
/-- The first pair of leaves that make r, and how many pairs there are. -/
def loV (p B : Int) : Int := if B - p / 2 ≤ 1 then 1 else B - p / 2
def twoV (p r : Int) : Int × Int × Int :=
  if 0 < r ∧ (r + 2) % 4 = 0 ∧ loV p ((r + 2) / 4) ≤ ((r + 2) / 4 - 1) / 2 then
    (loV p ((r + 2) / 4), (r + 2) / 4 - loV p ((r + 2) / 4), ((r + 2) / 4 - 1) / 2 - loV p ((r + 2) / 4) + 1) else (0, 0, 0)
theorem two_spec {p s : Int} (h0 : 1 ≤ p) (h1 : p ≤ 2000) (hs0 : 0 ≤ s) (hs1 : s ≤ 4000000) (k : Nat) (hk : 1001 ≤ k) : spec_bpTwo.f k p s = some (twoV p (sumV p - s)) := by
  have hb := sumV_bd h0 h1
  unfold spec_bpTwo.f
  rw [sum_spec h0 h1]
  simp only [Option.bind_some]
  rw [w64 (x := sumV p - s) (by omega) (by omega)]
  generalize hr : sumV p - s = r
  by_cases c : 0 < r ∧ (r + 2) % 4 = 0
  · have hlo : loV p ((r + 2) / 4) = if (r + 2) / 4 - p / 2 ≤ 1 then 1 else (r + 2) / 4 - p / 2 := rfl
    have hlo1 : 1 ≤ loV p ((r + 2) / 4) := by rw [hlo]; split <;> omega
    have g := two_spec_loop (p := p) (r := r) (lo := loV p ((r + 2) / 4)) (hi := ((r + 2) / 4 - 1) / 2) (B := (r + 2) / 4) h0 h1 (by omega) (by omega) hlo1 (by
      intro x h2 h3
      have ht : tornV p (r - (4 * x - 1)) = if 3 ≤ r - (4 * x - 1) ∧ (r - (4 * x - 1) + 1) % 4 = 0 ∧ (r - (4 * x - 1) + 1) / 4 ≤ p / 2 then (r - (4 * x - 1) + 1) / 4 else 0 := rfl
      refine ⟨fun h => ?_, fun h => ?_⟩
      · rw [ht, if_pos (by split at hlo <;> omega)]
        omega
      · rw [ht]
        split
        · split at hlo <;> omega
        · omega) (p / 2).toNat 1 (by omega) (by omega) k (by omega)
    have e0 : twoS (loV p ((r + 2) / 4)) (((r + 2) / 4 - 1) / 2) ((r + 2) / 4) 1 = (0, 0, 0) := by unfold twoS; rw [if_pos (by omega)]
    rw [e0] at g
    rw [g]
    congr 1
    unfold twoS twoV
    by_cases z : loV p ((r + 2) / 4) ≤ ((r + 2) / 4 - 1) / 2
    · rw [if_neg (by split at hlo <;> omega), if_pos (show 0 < r ∧ (r + 2) % 4 = 0 ∧ loV p ((r + 2) / 4) ≤ ((r + 2) / 4 - 1) / 2 from ⟨c.1, c.2, z⟩)]
      congr 3
      split
      · split at hlo <;> omega
      · omega
    · rw [if_pos (by omega), if_neg (fun h => z h.2.2)]
  · have g := two_spec_loop (p := p) (r := r) (lo := 1) (hi := 0) (B := 0) h0 h1 (by omega) (by omega) (by omega) (by
      intro x h2 h3
      refine ⟨fun h => by omega, fun _ => ?_⟩
      unfold tornV
      rw [if_neg (by omega)]
      omega) (p / 2).toNat 1 (by omega) (by omega) k (by omega)
    have e0 : ∀ y, twoS 1 0 0 y = (0, 0, 0) := fun y => by unfold twoS; rw [if_pos (by omega)]
    rw [e0, e0] at g
    rw [g]
    congr 1
    unfold twoV
    rw [if_neg (fun h => c ⟨h.1, h.2.1⟩)]
theorem two_impl {p s : Int} (h0 : 1 ≤ p) (h1 : p ≤ 2000) (hs0 : 0 ≤ s) (hs1 : s ≤ 4000000) : ∃ b, ∀ k, 600000 ≤ k → impl_tornTwo.f k p s = some ((twoV p (sumV p - s)).2.2, (twoV p (sumV p - s)).1, b) ∧ ((twoV p (sumV p - s)).2.2 ≠ 0 → b = (twoV p (sumV p - s)).2.1) := by
  have hb := sumV_bd h0 h1
  generalize hr : sumV p - s = r
  have hf : ∀ k, impl_tornTwo.f k p s = if 0 ≤ r then impl_tornTwo.j0 k p ((r + 2) / 4) (decide (¬ (r + 2) % 4 = 0)) else impl_tornTwo.j0 k p (wrap64 (Int.tdiv (wrap64 (r + 2)) 4)) true := by
    intro k
    unfold impl_tornTwo.f
    rw [sum_impl h0 h1]
    simp only [Option.bind_some]
    rw [w64 (x := sumV p - s) (by omega) (by omega), hr]
    by_cases c : s > sumV p
    · rw [if_pos c, if_neg (by omega)]
    · rw [if_neg c, if_pos (by omega), w64 (x := r + 2) (by omega) (by omega), td (by omega), w64 (x := (r + 2) / 4) (by omega) (by omega), w64 (x := 4 * ((r + 2) / 4)) (by omega) (by omega), w64 (x := 4 * ((r + 2) / 4) - 2) (by omega) (by omega)]
      congr 1
      rw [Bool.eq_iff_iff]
      simp only [bne_iff_ne, decide_eq_true_eq]
      omega
  by_cases c : 0 < r ∧ (r + 2) % 4 = 0
  · have hlo : loV p ((r + 2) / 4) = if (r + 2) / 4 - p / 2 ≤ 1 then 1 else (r + 2) / 4 - p / 2 := rfl
    have hlo1 : 1 ≤ loV p ((r + 2) / 4) := by rw [hlo]; split <;> omega
    have e0 : twoS (loV p ((r + 2) / 4)) (((r + 2) / 4 - 1) / 2) ((r + 2) / 4) 1 = (0, 0, 0) := by unfold twoS; rw [if_pos (by omega)]
    have ee : (twoS (loV p ((r + 2) / 4)) (((r + 2) / 4 - 1) / 2) ((r + 2) / 4) (((r + 2) / 4 - 1) / 2 + 1)) = twoV p r := by
      unfold twoS twoV
      by_cases z : loV p ((r + 2) / 4) ≤ ((r + 2) / 4 - 1) / 2
      · rw [if_neg (by omega), if_pos (show 0 < r ∧ (r + 2) % 4 = 0 ∧ loV p ((r + 2) / 4) ≤ ((r + 2) / 4 - 1) / 2 from ⟨c.1, c.2, z⟩), if_pos (by omega)]
        congr 3; omega
      · rw [if_pos (by omega), if_neg (fun h => z h.2.2)]
    refine ⟨(r + 2) / 4 - (twoV p r).1, fun k hk => ⟨?_, fun hz => ?_⟩⟩
    · obtain ⟨k, rfl⟩ : ∃ m, k = m + 1 := ⟨k - 1, by omega⟩
      have g := two_impl_loop h0 h1 (B := (r + 2) / 4) (by omega) (by omega) hlo rfl (((r + 2) / 4 - 1) / 2).toNat 1 (by omega) (by omega) k (by omega)
      rw [e0, ee] at g
      rw [hf, if_pos (by omega), decide_eq_false (by omega), impl_tornTwo.j0, if_neg (by decide)]
      exact g
    · unfold twoV at hz ⊢
      by_cases z : 0 < r ∧ (r + 2) % 4 = 0 ∧ loV p ((r + 2) / 4) ≤ ((r + 2) / 4 - 1) / 2
      · rw [if_pos z]
      · rw [if_neg z] at hz
        exact absurd rfl hz
  · have e : twoV p r = (0, 0, 0) := by unfold twoV; rw [if_neg (fun h => c ⟨h.1, h.2.1⟩)]
    refine ⟨0, fun k hk => ⟨?_, fun hz => by rw [e] at hz; exact absurd rfl hz⟩⟩
    obtain ⟨k, rfl⟩ : ∃ m, k = m + 1 := ⟨k - 1, by omega⟩
    rw [e, hf]
    by_cases z : 0 ≤ r
    · rw [if_pos z, decide_eq_true (show ¬ (r + 2) % 4 = 0 by omega), impl_tornTwo.j0, if_pos rfl]
    · rw [if_neg z, impl_tornTwo.j0, if_pos rfl]
theorem tl_impl {p s : Int} (hp : 1 ≤ p ∧ p ≤ 2000) (hs : 0 ≤ s ∧ s ≤ 4000000) : impl_TornLeaf.f p s = some (tornV p (sumV p - s), decide (tornV p (sumV p - s) > 0)) := by
  unfold impl_TornLeaf.f
  rw [book_impl, decide_eq_true hp, Option.bind_some, if_pos rfl, if_neg (show ¬ s < 0 by omega), torn_impl hp.1 hp.2 hs.1 (by omega), Option.bind_some]
theorem tl_spec {p s : Int} (hp : 1 ≤ p ∧ p ≤ 2000) (hs : 0 ≤ s ∧ s ≤ 4000000) : spec_TornLeaf.f p s = some (tornV p (sumV p - s), decide (tornV p (sumV p - s) > 0)) := by
  have hS := sumV_bd hp.1 hp.2
  unfold spec_TornLeaf.f spec_bpLeft.f
  rw [book_spec, decide_eq_true hp, Option.bind_some, if_pos rfl, in_spec, decide_eq_true hs, Option.bind_some, Option.bind_some, if_pos rfl, sum_spec hp.1 hp.2, Option.bind_some, w64 (x := sumV p - s) (by omega) (by omega), torn_spec hp.1 hp.2 (by omega) (by omega), Option.bind_some]
theorem tl_impl' {p s : Int} (h : ¬ ((1 ≤ p ∧ p ≤ 2000) ∧ 0 ≤ s ∧ s ≤ 4000000)) (hs : I64 s) : impl_TornLeaf.f p s = some (0, false) := by
  unfold impl_TornLeaf.f
  by_cases hp : 1 ≤ p ∧ p ≤ 2000
  · rw [book_impl, decide_eq_true hp, Option.bind_some, if_pos rfl]
    by_cases c : s < 0
    · rw [if_pos c]
    · have hS := sumV_bd hp.1 hp.2
      have c2 : ¬ s ≤ 4000000 := fun q => h ⟨hp, by omega, q⟩
      have z : tornV p (sumV p - s) = 0 := by unfold tornV; rw [if_neg (by omega)]
      rw [if_neg c, torn_impl hp.1 hp.2 (by omega) hs.2, Option.bind_some, z]
      rfl
  · rw [book_impl, decide_eq_false hp, Option.bind_some, if_neg (by decide)]
theorem tl_spec' {p s : Int} (h : ¬ ((1 ≤ p ∧ p ≤ 2000) ∧ 0 ≤ s ∧ s ≤ 4000000)) : spec_TornLeaf.f p s = some (0, false) := by
  unfold spec_TornLeaf.f spec_bpLeft.f
  by_cases hp : 1 ≤ p ∧ p ≤ 2000
  · rw [book_spec, decide_eq_true hp, Option.bind_some, if_pos rfl, in_spec, decide_eq_false (fun q => h ⟨hp, q⟩), Option.bind_some, Option.bind_some, if_neg (by decide)]
  · rw [book_spec, decide_eq_false hp, Option.bind_some, if_neg (by decide), Option.bind_some, if_neg (by decide)]
/-- What the answer of the look through all books tells. -/
def FromT (s p t : Int) (ok : Bool) : Prop :=
  ok = true → (0 ≤ s ∧ s ≤ 4000000) ∧ (1 ≤ p ∧ p ≤ 2000) ∧ t = tornV p (sumV p - s) ∧ 0 < t ∧ ∀ q, 1 ≤ q → q < p → tornV q (sumV q - s) = 0
theorem j6_ok {k : Nat} {s p t l a c sl v x f y : Int} {ob fb b is la sb : Bool} (hF : FromT s p t true) (h : impl_BackOfPage.f x = some (y, b)) (hf : impl_FacingPage.f v x = some (f, fb)) (hi : impl_IsPage.f v x = some (is, la))
    (hp : impl_PagesOfLeaf.f l = some (a, c, ob)) (hs : impl_SumOfLeaf.f l = some (sl, sb)) : laws_FnLeavesTorn.j6 (k + 4) s p l a c ob sl v x f fb y b is la false = some true := by
  obtain ⟨f1, f2, f3, f4, f5⟩ := hF rfl
  rw [laws_FnLeavesTorn.j6, if_neg (by decide)]
  by_cases c : p > 2
  · have w : wrap64 (p - 1) = p - 1 := w64 (by omega) (by omega)
    rw [if_pos c, w, tl_impl (p := p - 1) (by clear w; omega) f1, Option.bind_some, f5 (p - 1) (by clear w; omega) (by clear w; omega)]
    dsimp only
    rw [if_neg (by decide)]
    exact j7_ok h hf hi hp hs
  · rw [if_neg c]
    exact j7_ok h hf hi hp hs
theorem j5_ok {k : Nat} {s p t l a c sl v x f y : Int} {ok ob fb b is la sb : Bool} (hF : FromT s p t ok) (h : impl_BackOfPage.f x = some (y, b)) (hf : impl_FacingPage.f v x = some (f, fb)) (hi : impl_IsPage.f v x = some (is, la))
    (hp : impl_PagesOfLeaf.f l = some (a, c, ob)) (hs : impl_SumOfLeaf.f l = some (sl, sb)) : laws_FnLeavesTorn.j5 (k + 5) s p t ok l a c ob sl v x f fb y b is la = some true := by
  cases ok with
  | true =>
    obtain ⟨f1, f2, f3, f4, f5⟩ := hF rfl
    have e : decide (tornV p (sumV p - s) > 0) = true := decide_eq_true (by rw [← f3]; exact f4)
    rw [laws_FnLeavesTorn.j5, if_pos rfl, tl_impl f2 f1, Option.bind_some, e]
    dsimp only
    rw [if_pos rfl, ← f3, bne_self_eq_false]
    exact j6_ok hF h hf hi hp hs
  | false =>
    rw [laws_FnLeavesTorn.j5, if_neg (by decide)]
    exact j7_ok h hf hi hp hs
/-- What the answer about two torn leaves tells. -/
def TwoT (u left x y n : Int) (ok : Bool) : Prop :=
  ok = true → (1 ≤ u ∧ u ≤ 2000) ∧ 1 ≤ x ∧ x < y ∧ 2 * y ≤ u ∧ 4 * x - 1 + (4 * y - 1) + left = sumV u ∧ (0 ≤ n ∧ 2 * n ≤ u / 2)
theorem sp_impl {p : Int} (hp : 1 ≤ p ∧ p ≤ 2000) : impl_SumOfPages.f p = some (sumV p, true) := by
  unfold impl_SumOfPages.f
  rw [book_impl, decide_eq_true hp, Option.bind_some, if_pos rfl, sum_impl hp.1 hp.2, Option.bind_some]
theorem sp_impl' {p : Int} (hp : ¬ (1 ≤ p ∧ p ≤ 2000)) : impl_SumOfPages.f p = some (0, false) := by
  unfold impl_SumOfPages.f
  rw [book_impl, decide_eq_false hp, Option.bind_some, if_neg (by decide)]
theorem sp_both (p : Int) : spec_SumOfPages.f p = impl_SumOfPages.f p := by
  unfold impl_SumOfPages.f spec_SumOfPages.f spec_bpSum.f impl_sumOf.f
  rw [book_impl, book_spec]
theorem lb_impl {p : Int} (hp : 1 ≤ p ∧ p ≤ 2000) : impl_LeavesOfBook.f p = some ((p + 1) / 2, true) := by
  unfold impl_LeavesOfBook.f
  rw [book_impl, decide_eq_true hp, Option.bind_some, if_pos rfl, w64 (x := p + 1) (by omega) (by omega), td (by omega), w64 (by omega) (by omega)]
theorem lb_impl' {p : Int} (hp : ¬ (1 ≤ p ∧ p ≤ 2000)) : impl_LeavesOfBook.f p = some (0, false) := by
  unfold impl_LeavesOfBook.f
  rw [book_impl, decide_eq_false hp, Option.bind_some, if_neg (by decide)]
theorem lb_both (p : Int) : spec_LeavesOfBook.f p = impl_LeavesOfBook.f p := by
  unfold impl_LeavesOfBook.f spec_LeavesOfBook.f
  rw [book_impl, book_spec]
theorem j4_ok {k : Nat} {u left x1 x2 n s p t l a c sl v x f y : Int} {five ok ob fb b is la sb : Bool} (hT : TwoT u left x1 x2 n five) (hF : FromT s p t ok) (h : impl_BackOfPage.f x = some (y, b)) (hf : impl_FacingPage.f v x = some (f, fb)) (hi : impl_IsPage.f v x = some (is, la))
    (hp : impl_PagesOfLeaf.f l = some (a, c, ob)) (hs : impl_SumOfLeaf.f l = some (sl, sb)) : laws_FnLeavesTorn.j4 (k + 10) u left x1 x2 five n s p t ok l a c ob sl v x f fb y b is la false = some true := by
  cases five with
  | true =>
    obtain ⟨t1, t2, t3, t4, t5, t6, t7⟩ := hT rfl
    have hS := sumV_bd t1.1 t1.2
    have e1 : wrap64 (4 * x1 - 1 + (4 * x2 - 1)) = 4 * x1 - 1 + (4 * x2 - 1) := w64 (by omega) (by omega)
    have e2 : wrap64 (4 * x1 - 1 + (4 * x2 - 1) + left) = sumV u := by rw [t5]; exact w64 (by clear e1; omega) (by clear e1; omega)
    have e3 : ¬ wrap64 (2 * x2) > u := by rw [w64 (by clear e1 e2; omega) (by clear e1 e2; omega)]; clear e1 e2; omega
    have e4 : ¬ wrap64 (2 * n) > wrap64 (Int.tdiv u 2) := by
      rw [td (by clear e1 e2 e3; omega), w64 (x := 2 * n) (by clear e1 e2 e3; omega) (by clear e1 e2 e3; omega), w64 (x := u / 2) (by clear e1 e2 e3; omega) (by clear e1 e2 e3; omega)]
      clear e1 e2 e3; omega
    have c1 : ¬ x1 < 1 := by clear e1 e2 e3 e4; omega
    have c2 : ¬ x1 ≥ x2 := by clear e1 e2 e3 e4; omega
    have g1 := sl_impl (a := x1) (by clear e1 e2 e3 e4; omega)
    have g2 := sl_impl (a := x2) (by clear e1 e2 e3 e4; omega)
    have g3 := can_impl (s := 4 * x1 - 1 + (4 * x2 - 1)) (n := 2) (by clear e1 e2 e3 e4; omega) (by clear e1 e2 e3 e4; omega) (by decide) (by decide) (k + 9) (by omega)
    have g4 : canV (4 * x1 - 1 + (4 * x2 - 1)) 2 = true := by
      unfold canV
      refine decide_eq_true ?_
      rw [if_neg (by decide), if_pos rfl]
      clear e1 e2 e3 e4 g1 g2 g3
      omega
    rw [g4] at g3
    rw [laws_FnLeavesTorn.j4, if_neg (by decide), if_pos rfl, g1, Option.bind_some, g2, Option.bind_some, sp_impl t1, Option.bind_some]
    dsimp only
    rw [e1, g3, Option.bind_some]
    dsimp only
    rw [if_neg c1, if_neg c2, if_neg e3, if_pos rfl, if_pos rfl, if_pos rfl, if_pos e2, if_pos rfl, if_pos rfl, if_neg e4]
    exact j5_ok hF h hf hi hp hs
  | false =>
    rw [laws_FnLeavesTorn.j4, if_neg (by decide), if_neg (by decide)]
    exact j5_ok hF h hf hi hp hs
theorem twoV_T {u s : Int} (hu : 1 ≤ u ∧ u ≤ 2000) : TwoT u s (twoV u (sumV u - s)).1 (twoV u (sumV u - s)).2.1 (twoV u (sumV u - s)).2.2 (decide ((twoV u (sumV u - s)).2.2 > 0)) := by
  intro h
  have h := of_decide_eq_true h
  unfold twoV at h ⊢
  split at h
  · rename_i c
    rw [if_pos c]
    dsimp only at h ⊢
    obtain ⟨c1, c2, c3⟩ := c
    generalize sumV u = S at *
    unfold loV at *
    split at c3 <;> (refine ⟨hu, ?_, ?_, ?_, ?_, ?_, ?_⟩ <;> omega)
  · exact absurd h (by decide)
theorem two_all (u left : Int) : ∃ (x y n : Int) (five seven : Bool), (∀ k, spec_FirstTornTwo.f (k + 600010) u left = some (x, y, five) ∧ impl_FirstTornTwo.f (k + 600010) u left = some (x, y, five) ∧ spec_CountTornTwo.f (k + 600010) u left = some (n, seven) ∧ impl_CountTornTwo.f (k + 600010) u left = some (n, seven)) ∧
    (seven = true → five = decide (n > 0)) ∧ (seven = false → five = false) ∧ TwoT u left x y n five := by
  by_cases hb : 1 ≤ u ∧ u ≤ 2000
  · by_cases hc : 0 ≤ left ∧ left ≤ 4000000
    · obtain ⟨b, h2⟩ := two_impl hb.1 hb.2 hc.1 hc.2
      refine ⟨(twoV u (sumV u - left)).1, (twoV u (sumV u - left)).2.1, (twoV u (sumV u - left)).2.2, decide ((twoV u (sumV u - left)).2.2 > 0), true, fun k => ⟨?_, ?_, ?_, ?_⟩, fun _ => rfl, (fun h => by cases h), twoV_T hb⟩
      · unfold spec_FirstTornTwo.f spec_bpLeft.f
        rw [book_spec, decide_eq_true hb, Option.bind_some, if_pos rfl, in_spec, decide_eq_true hc, Option.bind_some, Option.bind_some, if_pos rfl, two_spec hb.1 hb.2 hc.1 hc.2 (k + 600010) (by omega), Option.bind_some]
      · obtain ⟨g1, g2⟩ := h2 (k + 600009) (by omega)
        unfold impl_FirstTornTwo.f
        rw [book_impl, decide_eq_true hb, Option.bind_some, if_pos rfl, in_impl, decide_eq_true hc, Option.bind_some, Bool.not_true, impl_FirstTornTwo.j0, if_neg (by decide), g1, Option.bind_some]
        dsimp only
        by_cases e : (twoV u (sumV u - left)).2.2 = 0
        · have z : twoV u (sumV u - left) = (0, 0, 0) := by
            unfold twoV at e ⊢
            split at e
            · exact absurd e (by dsimp only; omega)
            · rename_i c; rw [if_neg c]
          rw [if_pos e, z]
          rfl
        · have p : (twoV u (sumV u - left)).2.2 > 0 := by
            unfold twoV at e ⊢
            split at e
            · rename_i c; rw [if_pos c]; dsimp only; omega
            · exact absurd rfl e
          rw [if_neg e, g2 e, decide_eq_true p]
      · unfold spec_CountTornTwo.f spec_bpLeft.f
        rw [book_spec, decide_eq_true hb, Option.bind_some, if_pos rfl, in_spec, decide_eq_true hc, Option.bind_some, Option.bind_some, if_pos rfl, two_spec hb.1 hb.2 hc.1 hc.2 (k + 600010) (by omega), Option.bind_some]
      · unfold impl_CountTornTwo.f
        rw [book_impl, decide_eq_true hb, Option.bind_some, if_pos rfl, in_impl, decide_eq_true hc, Option.bind_some, if_pos rfl, (h2 (k + 600010) (by omega)).1, Option.bind_some]
    · refine ⟨0, 0, 0, false, false, fun k => ⟨?_, ?_, ?_, ?_⟩, (fun h => by cases h), fun _ => rfl, fun h => by cases h⟩
      · unfold spec_FirstTornTwo.f spec_bpLeft.f
        rw [book_spec, decide_eq_true hb, Option.bind_some, if_pos rfl, in_spec, decide_eq_false hc, Option.bind_some, Option.bind_some, if_neg (by decide)]
      · unfold impl_FirstTornTwo.f
        rw [book_impl, decide_eq_true hb, Option.bind_some, if_pos rfl, in_impl, decide_eq_false hc, Option.bind_some, Bool.not_false, impl_FirstTornTwo.j0, if_pos rfl]
      · unfold spec_CountTornTwo.f spec_bpLeft.f
        rw [book_spec, decide_eq_true hb, Option.bind_some, if_pos rfl, in_spec, decide_eq_false hc, Option.bind_some, Option.bind_some, if_neg (by decide)]
      · unfold impl_CountTornTwo.f
        rw [book_impl, decide_eq_true hb, Option.bind_some, if_pos rfl, in_impl, decide_eq_false hc, Option.bind_some, if_neg (by decide)]
  · refine ⟨0, 0, 0, false, false, fun k => ⟨?_, ?_, ?_, ?_⟩, (fun h => by cases h), fun _ => rfl, fun h => by cases h⟩
    · unfold spec_FirstTornTwo.f spec_bpLeft.f
      rw [book_spec, decide_eq_false hb, Option.bind_some, if_neg (by decide), Option.bind_some, if_neg (by decide)]
    · unfold impl_FirstTornTwo.f
      rw [book_impl, decide_eq_false hb, Option.bind_some, if_neg (by decide), impl_FirstTornTwo.j0, if_pos rfl]
    · unfold spec_CountTornTwo.f spec_bpLeft.f
      rw [book_spec, decide_eq_false hb, Option.bind_some, if_neg (by decide), Option.bind_some, if_neg (by decide)]
    · unfold impl_CountTornTwo.f
      rw [book_impl, decide_eq_false hb, Option.bind_some, if_neg (by decide)]
theorem from_all (s : Int) : ∃ (p t : Int) (ok : Bool), Ev (fun k => spec_TornFromSum.f k s) (p, t, ok) ∧ Ev (fun k => impl_TornFromSum.f k s) (p, t, ok) ∧ FromT s p t ok ∧ ((1 ≤ s ∧ s ≤ 4000000) → ok = false → ∀ q, 1 ≤ q → q ≤ 2000 → tornV q (sumV q - s) = 0) := by
  by_cases h : 1 ≤ s ∧ s ≤ 4000000
  · obtain ⟨⟨p, t, ok⟩, h1, h2, h3, h4⟩ := from_both h.1 h.2
    dsimp only at h3 h4
    refine ⟨p, t, ok, h1, h2, fun e => ?_, fun _ e => (h4 e).2.2⟩
    obtain ⟨g1, g2, g3, g4, g5⟩ := h3 e
    exact ⟨by omega, ⟨g1, g2⟩, g3, g4, g5⟩
  · refine ⟨0, 0, false, ⟨0, fun k _ => ?_⟩, ⟨0, fun k _ => ?_⟩, (fun e => by cases e), fun q => absurd q h⟩
    · show spec_TornFromSum.f k s = _
      unfold spec_TornFromSum.f
      rw [in_spec, decide_eq_false h, Option.bind_some, if_neg (by decide)]
    · show impl_TornFromSum.f k s = _
      unfold impl_TornFromSum.f
      rw [in_impl, decide_eq_false h, Option.bind_some, if_neg (by decide)]
theorem can_all (s n : Int) : ∃ r : Bool × Bool, ∀ k, 10 ≤ k → spec_CanBeTorn.f k s n = some r ∧ impl_CanBeTorn.f k s n = some r := by
  by_cases h : (0 ≤ s ∧ s ≤ 4000000) ∧ 1 ≤ n ∧ n ≤ 3
  · exact ⟨(canV s n, true), fun k hk => ⟨can_spec h.1.1 h.1.2 h.2.1 h.2.2 k (by omega), can_impl h.1.1 h.1.2 h.2.1 h.2.2 k (by omega)⟩⟩
  · refine ⟨(false, false), fun k hk => ?_⟩
    obtain ⟨k, rfl⟩ : ∃ m, k = m + 1 := ⟨k - 1, by omega⟩
    unfold spec_CanBeTorn.f impl_CanBeTorn.f
    simp only [spec_CanBeTorn.j0, impl_CanBeTorn.j0, in_spec, in_impl]
    by_cases h0 : 0 ≤ s ∧ s ≤ 4000000
    · have h1 : ¬ (1 ≤ n ∧ n ≤ 3) := fun q => h ⟨h0, q⟩
      simp [h0, h1]
    · simp [h0]
theorem j3_ok {l : List Int} (hb : Bytes l) : Ev (fun k => laws_FnLeavesTorn.j3 k l) true := by
  obtain ⟨u, left, d1, _, _⟩ := drawTwo_ok hb
  obtain ⟨rest, d2, _⟩ := drawFrom_ok hb
  obtain ⟨total, many, d3⟩ := drawCan_ok hb
  obtain ⟨lf, d4⟩ := drawLeaf_ok hb
  obtain ⟨v, x, d5⟩ := drawFacing_ok hb
  obtain ⟨x1, x2, n, five, seven, t1, t2, t3, t4⟩ := two_all u left
  obtain ⟨p, t, ok, ⟨K1, f1⟩, ⟨K2, f2⟩, f3, _⟩ := from_all rest
  obtain ⟨r, c1⟩ := can_all total many
  obtain ⟨a, c, ob, p1⟩ : ∃ a c ob, impl_PagesOfLeaf.f lf = some (a, c, ob) := by
    by_cases q : 1 ≤ lf ∧ lf ≤ 1000
    · exact ⟨_, _, _, pl_impl q⟩
    · exact ⟨_, _, _, pl_impl' q⟩
  have s1 : ∃ sl, impl_SumOfLeaf.f lf = some (sl, ob) := by
    by_cases q : 1 ≤ lf ∧ lf ≤ 1000
    · rw [pl_impl q] at p1
      simp only [Option.some.injEq, Prod.mk.injEq] at p1
      rw [← p1.2.2]; exact ⟨_, sl_impl q⟩
    · rw [pl_impl' q] at p1
      simp only [Option.some.injEq, Prod.mk.injEq] at p1
      rw [← p1.2.2]; exact ⟨_, sl_impl' q⟩
  obtain ⟨sl, s1⟩ := s1
  obtain ⟨f, fb, hf⟩ : ∃ f fb, impl_FacingPage.f v x = some (f, fb) := by
    by_cases q : (1 ≤ v ∧ v ≤ 2000) ∧ (1 ≤ x ∧ x ≤ v) ∧ 1 ≤ faceV x ∧ faceV x ≤ v
    · exact ⟨_, _, fp_impl q.1 q.2.1 q.2.2⟩
    · exact ⟨_, _, fp_impl' q⟩
  obtain ⟨y, b, hy⟩ : ∃ y b, impl_BackOfPage.f x = some (y, b) := by
    by_cases q : 1 ≤ x ∧ x ≤ 2000
    · exact ⟨_, _, bk_impl q⟩
    · exact ⟨_, _, bk_impl' q⟩
  obtain ⟨is, la, hi⟩ : ∃ is la, impl_IsPage.f v x = some (is, la) := by
    by_cases q : 1 ≤ v ∧ v ≤ 2000
    · exact ⟨_, _, ip_impl x q⟩
    · exact ⟨_, _, ip_impl' x q⟩
  dsimp only at f1 f2
  refine ⟨K1 + K2 + 600020, fun k hk => ?_⟩
  obtain ⟨m, rfl⟩ : ∃ m, k = m + 600010 + 1 := ⟨k - 600011, by omega⟩
  obtain ⟨g1, g2, g3, g4⟩ := t1 m
  obtain ⟨g5, g6⟩ := c1 (m + 600010) (by omega)
  have g7 := fp_spec v x (m + 600009)
  rw [hf] at g7
  have J := j4_ok (k := m + 600000) t4 f3 hy hf hi p1 s1
  dsimp only
  rw [laws_FnLeavesTorn.j3, d1 _ (by omega), Option.bind_some]
  dsimp only
  rw [g2, Option.bind_some, g1, Option.bind_some, g4, Option.bind_some, g3, Option.bind_some, d2 _ (by omega), Option.bind_some, f2 _ (by omega), Option.bind_some, f1 _ (by omega), Option.bind_some, d3, Option.bind_some]
  dsimp only
  rw [g6, Option.bind_some, g5, Option.bind_some, d4, Option.bind_some, p1, Option.bind_some, pl_both, p1, Option.bind_some, s1, Option.bind_some, sl_both, s1, Option.bind_some, d5, Option.bind_some]
  dsimp only
  rw [hf, Option.bind_some, g7, Option.bind_some, hy, Option.bind_some, bk_spec, hy, Option.bind_some, hi, Option.bind_some, ip_both, hi, Option.bind_some]
  simp only [bne_self_eq_false, Bool.false_eq_true, if_false, if_true]
  cases seven with
  | true =>
    rw [if_pos rfl, t2 rfl, bne_self_eq_false, if_neg (by decide), ← t2 rfl]
    exact J
  | false =>
    obtain rfl := t3 rfl
    rw [if_neg (by decide), bne_self_eq_false, if_neg (by decide)]
    exact J
theorem big_ok {a b : List Int} : ∃ t, laws_big.f a b = some t := by
  unfold laws_big.f
  split
  · exact ⟨_, rfl⟩
  · exact ⟨_, rfl⟩
theorem j2_ok {l : List Int} (hb : Bytes l) {p s : Int} (hp : 1 ≤ p ∧ p ≤ 2000) (hs : 0 ≤ s ∧ s ≤ 4000000) (ht : 0 < tornV p (sumV p - s)) : Ev (fun k => laws_FnLeavesTorn.j2 k l p s (tornV p (sumV p - s)) false) true := by
  obtain ⟨K, hK⟩ := j3_ok hb
  obtain ⟨q, t, ok, _, ⟨M, f2⟩, f3, f4⟩ := from_all s
  dsimp only at hK f2
  refine ⟨K + M + 1, fun k hk => ?_⟩
  obtain ⟨k, rfl⟩ : ∃ m, k = m + 1 := ⟨k - 1, by omega⟩
  show laws_FnLeavesTorn.j2 (k + 1) l p s (tornV p (sumV p - s)) false = some true
  rw [laws_FnLeavesTorn.j2, if_neg (by decide)]
  by_cases c : s > 0
  · rw [if_pos c, f2 k (by omega), Option.bind_some]
    dsimp only
    cases ok with
    | true =>
      obtain ⟨g1, g2, g3, g4, g5⟩ := f3 rfl
      have e1 : ¬ q > p := fun e => by have := g5 p hp.1 e; omega
      rw [if_pos rfl, if_neg e1]
      by_cases e2 : q = p
      · rw [if_pos e2, if_pos (by rw [g3, e2])]
        exact hK k (by omega)
      · rw [if_neg e2]
        exact hK k (by omega)
    | false =>
      have := f4 ⟨by omega, hs.2⟩ rfl p hp.1 hp.2
      omega
  · rw [if_neg c]
    exact hK k (by omega)
theorem tornV_pos {p r : Int} (h : 0 < tornV p r) : 4 * tornV p r - 1 = r ∧ 2 * tornV p r ≤ p := by
  unfold tornV at h ⊢
  split at h
  · rename_i c
    rw [if_pos c]
    omega
  · exact absurd h (by decide)
theorem j1_ok {l : List Int} (hb : Bytes l) {p s leaf all : Int} {ok : Bool} (h : ok = true → (1 ≤ p ∧ p ≤ 2000) ∧ (0 ≤ s ∧ s ≤ 4000000) ∧ leaf = tornV p (sumV p - s) ∧ 0 < leaf ∧ all = sumV p) :
    Ev (fun k => laws_FnLeavesTorn.j1 k l p s leaf ok all false) true := by
  cases ok with
  | true =>
    obtain ⟨h1, h2, h3, h4, h5⟩ := h rfl
    have hS := sumV_bd h1.1 h1.2
    obtain ⟨K, hK⟩ := j2_ok hb h1 h2 (by rw [← h3]; exact h4)
    rw [← h3] at hK
    have g := tornV_pos (p := p) (r := sumV p - s) (by rw [← h3]; exact h4)
    rw [← h3] at g
    refine ⟨K + 10, fun k hk => ?_⟩
    obtain ⟨k, rfl⟩ : ∃ m, k = m + 1 := ⟨k - 1, by omega⟩
    have g1 := sl_impl (a := leaf) (by omega)
    have g2 : impl_CanBeTorn.f k (4 * leaf - 1) 1 = some (true, true) := by
      rw [can_impl (s := 4 * leaf - 1) (n := 1) (by omega) (by omega) (by decide) (by decide) k (by omega)]
      have e : canV (4 * leaf - 1) 1 = true := by
        unfold canV
        refine decide_eq_true ?_
        rw [if_pos rfl]
        omega
      rw [e]
    have c1 : ¬ leaf < 1 := by omega
    have c2 : ¬ wrap64 (2 * leaf) > p := by rw [w64 (by omega) (by omega)]; omega
    have c3 : wrap64 (4 * leaf - 1 + s) = all := by rw [g.1, show sumV p - s + s = sumV p by omega, h5]; exact w64 (by clear c2; omega) (by clear c2; omega)
    show laws_FnLeavesTorn.j1 (k + 1) l p s leaf true all false = some true
    rw [laws_FnLeavesTorn.j1, if_neg (by decide), if_pos rfl, g1, Option.bind_some]
    dsimp only
    rw [g2, Option.bind_some]
    dsimp only
    rw [if_neg c1, if_neg c2, if_pos rfl, if_pos c3, if_pos rfl, Bool.not_true]
    exact hK k (by clear c2 c3; omega)
  | false =>
    obtain ⟨K, hK⟩ := j3_ok hb
    refine ⟨K + 10, fun k hk => ?_⟩
    obtain ⟨k, rfl⟩ : ∃ m, k = m + 1 := ⟨k - 1, by omega⟩
    show laws_FnLeavesTorn.j1 (k + 1) l p s leaf false all false = some true
    rw [laws_FnLeavesTorn.j1, if_neg (by decide), if_neg (by decide)]
    exact hK k (by omega)
theorem sumV_two {p : Int} : sumV p * 2 = p * (p + 1) := by
  unfold sumV
  have h : (p * (p + 1)) % 2 = 0 := by
    rcases Int.emod_two_eq p with e | e
    · rw [Int.mul_emod, e]; simp
    · rw [Int.mul_emod, show (p + 1) % 2 = 0 by omega]; simp
  omega
theorem j0_ok {l : List Int} (hb : Bytes l) {p s leaf all lv : Int} {ok one : Bool} (h : ok = true → (1 ≤ p ∧ p ≤ 2000) ∧ (0 ≤ s ∧ s ≤ 4000000) ∧ leaf = tornV p (sumV p - s) ∧ 0 < leaf ∧ all = sumV p)
    (h1 : one = true → (1 ≤ p ∧ p ≤ 2000) ∧ all = sumV p ∧ lv = (p + 1) / 2) : Ev (fun k => laws_FnLeavesTorn.j0 k l p s leaf ok all one lv false) true := by
  obtain ⟨K, hK⟩ := j1_ok hb h
  refine ⟨K + 1, fun k hk => ?_⟩
  obtain ⟨k, rfl⟩ : ∃ m, k = m + 1 := ⟨k - 1, by omega⟩
  show laws_FnLeavesTorn.j0 (k + 1) l p s leaf ok all one lv false = some true
  have J : laws_FnLeavesTorn.j1 k l p s leaf ok all false = some true := hK k (by omega)
  rw [laws_FnLeavesTorn.j0, if_neg (by decide)]
  cases one with
  | true =>
    obtain ⟨g1, g2, g3⟩ := h1 rfl
    have hS := sumV_bd g1.1 g1.2
    have e0 : wrap64 (p + 1) = p + 1 := w64 (by omega) (by omega)
    have t := sumV_two (p := p)
    have e1 : wrap64 (all * 2) = wrap64 (p * (p + 1)) := by rw [g2, t]
    have e2 : wrap64 (lv * 2) = lv * 2 := w64 (by clear e0 e1 t; omega) (by clear e0 e1 t; omega)
    have e3 : ¬ lv * 2 < p := by clear e0 e1 e2 t; omega
    have e4 : decide (lv * 2 > p + 1) = false := decide_eq_false (by clear e0 e1 e2 t; omega)
    rw [if_pos rfl, e0, if_pos e1, e2, if_neg e3, e4]
    exact J
  | false =>
    rw [if_neg (by decide)]
    exact J

/-- YOURS: ∀ (l0 : List Int) (l1 : List Int), l0.length ≤ maxLen → l0.length * 1 ≤ 140737488351232 → (∀ x ∈ l0, (Lit.int .u8 x).wf = true) → l1.length ≤ maxLen → l1.length * 1 ≤ 140737488351232 → (∀ x ∈ l1, (Lit.int .u8 x).wf = true) → ∃ k, laws_FnLeavesTorn.f k l0 l1 = some true
What it reaches (each with k first where it has rounds; `.mono`: more rounds tell the same; `.l0`, ..: its loops, with `.mono_l`): laws_big.f, spec_l1Cur_next.f, spec_l1Cur_pick.f, spec_l1Cur_among.f, spec_l1Cur_one.f, spec_l1Cur_page.f, spec_l1In.f, spec_bpBook.f, spec_bpSum.f, spec_DrawTornLeaf.f, impl_within.f, impl_isBook.f, impl_sumOf.f, impl_tornLeaf.f, impl_TornLeaf.f, spec_bpLeft.f, spec_bpTorn.f, spec_TornLeaf.f, impl_SumOfPages.f, spec_SumOfPages.f, impl_LeavesOfBook.f, spec_LeavesOfBook.f, impl_isLeaf.f, impl_SumOfLeaf.f, impl_CanBeTorn.f, impl_TornFromSum.f, spec_DrawCountTornTwo.f, spec_DrawFirstTornTwo.f, impl_tornTwo.f, impl_FirstTornTwo.f, spec_bpTwo.f, spec_FirstTornTwo.f, impl_CountTornTwo.f, spec_CountTornTwo.f, spec_DrawTornFromSum.f, spec_TornFromSum.f, spec_DrawCanBeTorn.f, spec_CanBeTorn.f, spec_l1Cur_leaf.f, spec_DrawPagesOfLeaf.f, impl_PagesOfLeaf.f, spec_bpLeaf.f, spec_PagesOfLeaf.f, spec_SumOfLeaf.f, spec_l1Least.f, spec_DrawFacingPage.f, impl_FacingPage.f, spec_FacingPage.f, impl_BackOfPage.f, spec_BackOfPage.f, impl_IsPage.f, spec_IsPage.f, impl_LeafOfPage.f, impl_IsRightPage.f, laws_FnLeavesTorn.f -/
theorem FnLeavesTorn : laws_FnLeavesTorn.Pure := by
  intro l0 l1 _ _ h0 _ _ h1
  have hb0 := bytes_of h0
  have hb1 := bytes_of h1
  obtain ⟨bg, hbg⟩ := big_ok (a := l0) (b := l1)
  cases bg with
  | true => exact ⟨0, by unfold laws_FnLeavesTorn.f; rw [hbg, Option.bind_some, if_pos rfl]⟩
  | false =>
    obtain ⟨p, s, d, hp, hs⟩ := drawTorn_ok hb0
    by_cases c : 1 ≤ p ∧ p ≤ 2000
    · have e1 := sp_impl c
      have e2 := lb_impl c
      by_cases c2 : 0 ≤ s ∧ s ≤ 4000000
      · obtain ⟨K, hK⟩ := j0_ok hb1 (p := p) (s := s) (leaf := tornV p (sumV p - s)) (all := sumV p) (lv := (p + 1) / 2) (ok := decide (tornV p (sumV p - s) > 0)) (one := true) (fun e => ⟨c, c2, rfl, of_decide_eq_true e, rfl⟩) (fun _ => ⟨c, rfl, rfl⟩)
        refine ⟨K + 1, ?_⟩
        have J : laws_FnLeavesTorn.j0 (K + 1) l1 p s (tornV p (sumV p - s)) (decide (tornV p (sumV p - s) > 0)) (sumV p) true ((p + 1) / 2) false = some true := hK (K + 1) (by omega)
        unfold laws_FnLeavesTorn.f
        rw [hbg, Option.bind_some, if_neg (by decide), d _ (by omega), Option.bind_some]
        dsimp only
        rw [tl_impl c c2, Option.bind_some, tl_spec c c2, Option.bind_some, e1, Option.bind_some, sp_both, e1, Option.bind_some, e2, Option.bind_some, lb_both, e2, Option.bind_some]
        simp only [bne_self_eq_false, Bool.false_eq_true, if_false, if_true, Bool.not_true]
        split <;> exact J
      · obtain ⟨K, hK⟩ := j0_ok hb1 (p := p) (s := s) (leaf := 0) (all := sumV p) (lv := (p + 1) / 2) (ok := false) (one := true) (fun e => by cases e) (fun _ => ⟨c, rfl, rfl⟩)
        refine ⟨K + 1, ?_⟩
        have J : laws_FnLeavesTorn.j0 (K + 1) l1 p s 0 false (sumV p) true ((p + 1) / 2) false = some true := hK (K + 1) (by omega)
        unfold laws_FnLeavesTorn.f
        rw [hbg, Option.bind_some, if_neg (by decide), d _ (by omega), Option.bind_some]
        dsimp only
        rw [tl_impl' (fun q => c2 q.2) hs, Option.bind_some, tl_spec' (fun q => c2 q.2), Option.bind_some, e1, Option.bind_some, sp_both, e1, Option.bind_some, e2, Option.bind_some, lb_both, e2, Option.bind_some]
        simp only [bne_self_eq_false, Bool.false_eq_true, if_false, if_true]
        exact J
    · have e1 := sp_impl' c
      have e2 := lb_impl' c
      obtain ⟨K, hK⟩ := j0_ok hb1 (p := p) (s := s) (leaf := 0) (all := 0) (lv := 0) (ok := false) (one := false) (fun e => by cases e) (fun e => by cases e)
      refine ⟨K + 1, ?_⟩
      have J : laws_FnLeavesTorn.j0 (K + 1) l1 p s 0 false 0 false 0 false = some true := hK (K + 1) (by omega)
      unfold laws_FnLeavesTorn.f
      rw [hbg, Option.bind_some, if_neg (by decide), d _ (by omega), Option.bind_some]
      dsimp only
      rw [tl_impl' (fun q => c q.1) hs, Option.bind_some, tl_spec' (fun q => c q.1), Option.bind_some, e1, Option.bind_some, sp_both, e1, Option.bind_some, e2, Option.bind_some, lb_both, e2, Option.bind_some]
      simp only [bne_self_eq_false, Bool.false_eq_true, if_false, if_true]
      exact J

end Go.Proofs.Ytjkfgeigicljpaa.Pure
