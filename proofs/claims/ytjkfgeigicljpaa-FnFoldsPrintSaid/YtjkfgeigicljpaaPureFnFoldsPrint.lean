/- The program's FnFoldsPrint returns what the reference's FnFoldsPrint returns: the plain statement, over numbers and lists, for all arguments; each number of its Go kind, each string and slice within the reader's bounds. -/
import Derived.Test.YtjkfgeigicljpaaPFnFoldsPrintx10
namespace Go.Proofs.Ytjkfgeigicljpaa.Pure
open Go.RowKit Go.Proofs.Ytjkfgeigicljpaa.PFnFoldsPrint Go.Proofs.YtjkfgeigicljpaaW.PrintWords Go.Proofs.YtjkfgeigicljpaaW.PrintLast
set_option linter.unusedVariables false
set_option linter.unusedSimpArgs false

theorem w64 {x : Int} (h0 : -9223372036854775808 ≤ x) (h1 : x ≤ 9223372036854775807) : wrap64 x = x := by unfold wrap64; omega
theorem td {a b : Int} (h : 0 ≤ a) : Int.tdiv a b = a / b := Int.tdiv_eq_ediv_of_nonneg h
theorem tm {a b : Int} (h : 0 ≤ a) : Int.tmod a b = a % b := Int.tmod_eq_emod_of_nonneg h
theorem wf64 {n : Int} (h : (Lit.int .i64 n).wf = true) : -9223372036854775808 ≤ n ∧ n ≤ 9223372036854775807 := by
  simp [Lit.wf, IntKind.min, IntKind.max, IntKind.signed, IntKind.bits] at h
  omega
theorem and255 (x : Int) : 0 ≤ wrap64 (Go.bits .and .u64 x 255) ∧ wrap64 (Go.bits .and .u64 x 255) ≤ 255 := by
  have e : ∃ n : Nat, n ≤ 255 ∧ Go.bits .and .u64 x 255 = IntKind.u64.wrap (n : Int) := by
    refine ⟨(BitVec.ofInt IntKind.u64.bits x &&& BitVec.ofInt IntKind.u64.bits 255).toNat, ?_, rfl⟩
    rw [BitVec.toNat_and]
    refine Nat.le_trans Nat.and_le_right ?_
    decide
  obtain ⟨n, hn, e⟩ := e
  have w : IntKind.u64.wrap (n : Int) = (n : Int) := by
    simp [IntKind.wrap, IntKind.signed, IntKind.bits]
    omega
  rw [e, w, w64 (by omega) (by omega)]
  omega
/-- The bytes that a draw reads. -/
def Bytes (l : List Int) : Prop := ∀ x ∈ l, 0 ≤ x ∧ x ≤ 255
theorem bytes_of {l : List Int} (h : ∀ x ∈ l, (Lit.int .u8 x).wf = true) : Bytes l := by
  intro x hx
  have := h x hx
  simp [Lit.wf, IntKind.min, IntKind.max, IntKind.signed, IntKind.bits] at this
  omega
theorem rd_byte {l : List Int} (h : Bytes l) (i : Int) : 0 ≤ rd l i ∧ rd l i ≤ 255 := by
  unfold rd
  rw [List.getD_eq_getElem?_getD]
  cases e : l[i.toNat]? with
  | none => simp
  | some v => exact h v (List.mem_of_getElem? e)
theorem next_ok {l : List Int} (hb : Bytes l) {p : Int} (s : Int) (h0 : 0 ≤ p) (h1 : p ≤ 1000000000) : ∃ v p' s', spec_l1Cur_next.f l p s = some (v, p', s') ∧ (0 ≤ v ∧ v ≤ 255) ∧ 0 ≤ p' ∧ p' ≤ p + 1 := by
  have hp : wrap64 (p + 1) = p + 1 := w64 (by omega) (by omega)
  have hr := rd_byte hb p
  have hw : wrap64 (rd l p) = rd l p := w64 (by omega) (by omega)
  unfold spec_l1Cur_next.f
  rw [hp, hw]
  by_cases c : p < (l.length : Int)
  · rw [if_pos c, if_pos h0, if_pos (show p + 1 ≤ (l.length : Int) by clear hp hw; omega)]
    exact ⟨_, _, _, rfl, hr, by clear hp hw; omega, by clear hp hw; omega⟩
  · rw [if_neg c, if_neg (show ¬ p + 1 ≤ (l.length : Int) by clear hp hw; omega)]
    exact ⟨_, _, _, rfl, and255 _, by clear hp hw; omega, by clear hp hw; omega⟩
theorem tmod_bd {a n : Int} (h : 0 ≤ a) (hn : 1 ≤ n) : 0 ≤ Int.tmod a n ∧ Int.tmod a n < n := by
  rw [tm h]
  exact ⟨Int.emod_nonneg _ (by omega), Int.emod_lt_of_pos _ (by omega)⟩
theorem pick_ok {l : List Int} (hb : Bytes l) {p n : Int} (s : Int) (h0 : 0 ≤ p) (h1 : p ≤ 1000000) (_hn : n ≤ 65536) : ∃ v p' s', spec_l1Cur_pick.f l p s n = some (v, p', s') ∧ (0 ≤ v ∧ (v < n ∨ v = 0)) ∧ 0 ≤ p' ∧ p' ≤ p + 2 := by
  unfold spec_l1Cur_pick.f
  by_cases c : n ≤ 1
  · rw [if_pos c]
    exact ⟨_, _, _, rfl, ⟨Int.le_refl _, .inr rfl⟩, h0, by omega⟩
  · rw [if_neg c]
    obtain ⟨v, p', s', e, hv, g0, g1⟩ := next_ok hb s h0 (by omega)
    rw [e, Option.bind_some]
    have n0 : ¬ n = 0 := by omega
    dsimp only
    by_cases c2 : n > 200
    · rw [if_pos c2]
      obtain ⟨u, q', t', e2, hu, k0, k1⟩ := next_ok hb s' g0 (by omega)
      rw [e2, Option.bind_some, if_neg n0]
      have w1 : wrap64 (v * 256) = v * 256 := w64 (by omega) (by omega)
      have w2 : wrap64 (v * 256 + u) = v * 256 + u := w64 (by omega) (by omega)
      dsimp only
      rw [w1, w2]
      have m := tmod_bd (a := v * 256 + u) (n := n) (by clear w1 w2; omega) (by clear w1 w2; omega)
      exact ⟨_, _, _, rfl, ⟨m.1, .inl m.2⟩, k0, by clear w1 w2; omega⟩
    · rw [if_neg c2, if_neg n0]
      have m := tmod_bd (a := v) (n := n) hv.1 (by omega)
      exact ⟨_, _, _, rfl, ⟨m.1, .inl m.2⟩, g0, by omega⟩
theorem among_ok {l : List Int} (hb : Bytes l) {p : Int} (s : Int) (h0 : 0 ≤ p) (h1 : p ≤ 1000000) {xs : List Int} (x0 : 1 ≤ xs.length) (x1 : xs.length ≤ 1000) :
    ∃ v p' s', spec_l1Cur_among.f l p s xs = some (v, p', s') ∧ v ∈ xs ∧ 0 ≤ p' ∧ p' ≤ p + 2 := by
  unfold spec_l1Cur_among.f
  obtain ⟨v, p', s', e, hv, g0, g1⟩ := pick_ok hb s h0 h1 (n := (xs.length : Int)) (by omega)
  rw [e, Option.bind_some]
  have c : v < (xs.length : Int) := by omega
  dsimp only
  rw [if_pos hv.1, if_pos c]
  refine ⟨_, _, _, rfl, ?_, g0, g1⟩
  unfold rd
  rw [List.getD_eq_getElem?_getD, List.getElem?_eq_getElem (show v.toNat < xs.length by omega)]
  exact List.getElem_mem _
theorem one_ok {l : List Int} (hb : Bytes l) {p n : Int} (s : Int) (h0 : 0 ≤ p) (h1 : p ≤ 1000000) (hn : n ≤ 65536) : ∃ v p' s', spec_l1Cur_one.f l p s n = some (v, p', s') ∧ 0 ≤ p' ∧ p' ≤ p + 2 := by
  unfold spec_l1Cur_one.f
  obtain ⟨v, p', s', e, hv, g0, g1⟩ := pick_ok hb s h0 h1 hn
  rw [e, Option.bind_some]
  exact ⟨_, _, _, rfl, g0, g1⟩
theorem most_ok (a b : Int) : spec_l1Most.f a b = some (if a > b then a else b) := by unfold spec_l1Most.f; split <;> rfl
theorem least_ok (a b : Int) : spec_l1Least.f a b = some (if a < b then a else b) := by unfold spec_l1Least.f; split <;> rfl
theorem least20 (a : Int) : (if (if a > 0 then a else 0) < 20 then (if a > 0 then a else 0) else 20) ≤ 20 ∧ 0 ≤ (if (if a > 0 then a else 0) < 20 then (if a > 0 then a else 0) else 20) := by
  by_cases h : a > 0
  · rw [if_pos h]; by_cases h2 : a < 20
    · rw [if_pos h2]; omega
    · rw [if_neg h2]; omega
  · rw [if_neg h]; decide
theorem sheets_draw {l : List Int} (hb : Bytes l) : ∃ n p s, spec_l1Cur_sheets.f l 0 0 = some (n, p, s) ∧ 0 ≤ p ∧ p ≤ 10 := by
  unfold spec_l1Cur_sheets.f
  obtain ⟨b, p', s', e, g0, g1⟩ := one_ok hb (p := 0) 0 (by decide) (by decide) (n := 12) (by decide)
  rw [e, Option.bind_some]
  dsimp only
  cases b with
  | true =>
    obtain ⟨v, q', t', e2, _, k0, k1⟩ := among_ok hb s' g0 (by omega) (xs := ([0, (-1), 100, 101, 4611686018427387904] : List Int)) (by decide) (by decide)
    rw [if_pos rfl, e2, Option.bind_some]
    exact ⟨_, _, _, rfl, k0, by show q' ≤ 10; omega⟩
  | false =>
    obtain ⟨v, q', t', e2, _, k0, k1⟩ := pick_ok hb s' g0 (by omega) (n := 8) (by decide)
    rw [if_neg (by decide), e2, Option.bind_some]
    exact ⟨_, _, _, rfl, k0, by show q' ≤ 10; omega⟩
theorem w_small {x : Int} (h0 : 0 ≤ x) (h1 : x ≤ 1000) : wrap64 x ≤ 65536 := by rw [w64 (by omega) (by omega)]; omega
theorem drawSide_ok {l : List Int} (hb : Bytes l) : ∃ n s b, spec_DrawSideOfSheet.f l = some (n, s, b) := by
  unfold spec_DrawSideOfSheet.f
  obtain ⟨n, p, s, e, g0, g1⟩ := sheets_draw hb
  rw [e, Option.bind_some]
  dsimp only
  rw [most_ok, Option.bind_some, least_ok, Option.bind_some]
  have h20 := least20 n
  generalize (if (if n > 0 then n else 0) < 20 then (if n > 0 then n else 0) else 20) = m at h20
  obtain ⟨v, p1, s1, e1, _, k0, k1⟩ := pick_ok hb s g0 (by omega) (n := wrap64 (m + 2)) (w_small (by omega) (by omega))
  rw [e1, Option.bind_some]
  dsimp only
  obtain ⟨v2, p2, s2, e2, _, k2, k3⟩ := pick_ok hb s1 k0 (by omega) (n := 9) (by decide)
  rw [e2, Option.bind_some]
  dsimp only
  obtain ⟨b, p3, s3, e3, _, _⟩ := one_ok hb (p := p2) s2 k2 (by omega) (n := 2) (by decide)
  rw [e3, Option.bind_some]
  exact ⟨_, _, _, rfl⟩
theorem drawPlace_ok {l : List Int} (hb : Bytes l) : ∃ n p, spec_DrawPlaceOfPage.f l = some (n, p) := by
  unfold spec_DrawPlaceOfPage.f
  obtain ⟨n, p, s, e, g0, g1⟩ := sheets_draw hb
  rw [e, Option.bind_some]
  dsimp only
  rw [most_ok, Option.bind_some, least_ok, Option.bind_some]
  have h20 := least20 n
  generalize (if (if n > 0 then n else 0) < 20 then (if n > 0 then n else 0) else 20) = m at h20
  have w4 : wrap64 (4 * m) = 4 * m := w64 (by omega) (by omega)
  rw [w4]
  obtain ⟨v, p1, s1, e1, _, k0, k1⟩ := pick_ok hb s g0 (by clear w4; omega) (n := wrap64 (4 * m + 2)) (w_small (by clear w4; omega) (by clear w4; omega))
  rw [e1, Option.bind_some]
  dsimp only
  obtain ⟨v2, p2, s2, e2, _, k2, k3⟩ := pick_ok hb s1 k0 (by clear w4; omega) (n := 9) (by decide)
  rw [e2, Option.bind_some]
  exact ⟨_, _, rfl⟩
theorem drawPartners_ok {l : List Int} (hb : Bytes l) : ∃ a b n, spec_DrawSheetOfPartners.f l = some (a, b, n) := by
  unfold spec_DrawSheetOfPartners.f
  obtain ⟨n, p, e⟩ := drawPlace_ok hb
  rw [e, Option.bind_some]
  dsimp only
  obtain ⟨b, p3, s3, e3, g0, g1⟩ := one_ok hb (p := 4) 0 (by decide) (by decide) (n := 4) (by decide)
  rw [e3, Option.bind_some]
  dsimp only
  cases b with
  | true =>
    obtain ⟨v2, p2, s2, e2, _, k2, k3⟩ := pick_ok hb s3 g0 (by omega) (n := 20) (by decide)
    rw [if_pos rfl, e2, Option.bind_some]
    exact ⟨_, _, _, rfl⟩
  | false =>
    rw [if_neg (by decide), most_ok, Option.bind_some, least_ok, Option.bind_some]
    exact ⟨_, _, _, rfl⟩
theorem bookSize_ok {l : List Int} (hb : Bytes l) : ∃ n p s, spec_l1Cur_bookSize.f l 0 0 = some (n, p, s) ∧ 0 ≤ p ∧ p ≤ 10 := by
  unfold spec_l1Cur_bookSize.f
  obtain ⟨b, p', s', e, g0, g1⟩ := one_ok hb (p := 0) 0 (by decide) (by decide) (n := 12) (by decide)
  rw [e, Option.bind_some]
  dsimp only
  cases b with
  | true =>
    obtain ⟨v, q', t', e2, _, k0, k1⟩ := among_ok hb s' g0 (by omega) (xs := ([0, (-1), 2000, 2001, 4611686018427387904] : List Int)) (by decide) (by decide)
    rw [if_pos rfl, e2, Option.bind_some]
    exact ⟨_, _, _, rfl, k0, by show q' ≤ 10; omega⟩
  | false =>
    obtain ⟨v, q', t', e2, _, k0, k1⟩ := pick_ok hb s' g0 (by omega) (n := 70) (by decide)
    rw [if_neg (by decide), e2, Option.bind_some]
    exact ⟨_, _, _, rfl, k0, by show q' ≤ 10; omega⟩
theorem drawFor_ok {l : List Int} (hb : Bytes l) : ∃ n, spec_DrawSheetsFor.f l = some n := by
  unfold spec_DrawSheetsFor.f
  obtain ⟨n, p, s, e, _, _⟩ := bookSize_ok hb
  rw [e, Option.bind_some]
  exact ⟨_, rfl⟩
theorem in_spec (a b c : Int) : spec_l1In.f a b c = some (decide (b ≤ a ∧ a ≤ c)) := by
  unfold spec_l1In.f; by_cases h : b ≤ a <;> simp [h]
theorem in_impl (a b c : Int) : impl_within.f a b c = some (decide (b ≤ a ∧ a ≤ c)) := by
  unfold impl_within.f; by_cases h : b ≤ a <;> simp [h]
theorem sheets_spec (a : Int) : spec_foSheets.f a = some (decide (1 ≤ a ∧ a ≤ 100)) := by simp [spec_foSheets.f, in_spec]
theorem page_spec (n p : Int) : spec_foPage.f n p = some (decide ((1 ≤ n ∧ n ≤ 100) ∧ 1 ≤ p ∧ p ≤ 4 * n)) := by
  unfold spec_foPage.f
  rw [sheets_spec]
  by_cases h : 1 ≤ n ∧ n ≤ 100
  · rw [w64 (x := 4 * n) (by omega) (by omega), in_spec]; simp [h]
  · simp [h]
/-- Both pages of a side. -/
def sideV (n s : Int) (back : Bool) : Int × Int := if back = true then (2 * s, 4 * n + 1 - 2 * s) else (4 * n + 2 - 2 * s, 2 * s - 1)
theorem side_spec {n s : Int} {back : Bool} (h0 : 1 ≤ n) (h1 : n ≤ 100) (h2 : 1 ≤ s) (h3 : s ≤ n) : spec_foSide.f n s back = some (sideV n s back) := by
  unfold spec_foSide.f sideV
  rw [w64 (x := 2 * s) (by omega) (by omega), w64 (x := 4 * n) (by omega) (by omega), w64 (x := 4 * n + 1) (by omega) (by omega), w64 (x := 4 * n + 2) (by omega) (by omega), w64 (by omega) (by omega), w64 (by omega) (by omega), w64 (by omega) (by omega)]
  cases back <;> simp
/-- The sheet of a page, whether on its back, and whether on its right side. -/
def placeV (n p : Int) : Int × Bool × Bool :=
  if p ≤ 2 * n then (if p % 2 = 1 then ((p + 1) / 2, false, true) else (p / 2, true, false))
  else (if p % 2 = 0 then ((4 * n + 2 - p) / 2, false, false) else ((4 * n + 1 - p) / 2, true, true))
theorem place_l1 {n p x : Int} (h0 : 1 ≤ n) (h1 : n ≤ 100) (h2 : 1 ≤ p) (h3 : p ≤ 4 * n) (h4 : 1 ≤ x) (h5 : x ≤ n) (k : Nat) :
    spec_PlaceOfPage.l1 (k + 3) n p x [false, true] 2 0 = if (placeV n p).1 = x then some ((placeV n p).1, (placeV n p).2.1, (placeV n p).2.2, true) else spec_PlaceOfPage.l0 k n p (x + 1) := by
  have r0 : rdOf false [false, true] 0 = false := rfl
  have r1 : rdOf false [false, true] 1 = true := rfl
  have l2 : (([false, true] : List Bool).length : Int) = 2 := rfl
  rw [spec_PlaceOfPage.l1, if_pos (by decide), if_pos (by decide), l2, if_pos (by decide), r0, side_spec h0 h1 h4 h5]
  simp only [Option.bind_some]
  rw [show sideV n x false = (4 * n + 2 - 2 * x, 2 * x - 1) from rfl]
  by_cases c1 : 4 * n + 2 - 2 * x = p
  · have e : placeV n p = (x, false, false) := by
      unfold placeV
      rw [if_neg (by omega), if_pos (by omega)]
      exact Prod.ext (by show _ / 2 = x; omega) rfl
    rw [if_pos c1, e, if_pos rfl]
    have : (2 * x - 1 == p) = false := by rw [beq_eq_false_iff_ne]; omega
    simp only [this]
  · rw [if_neg c1]
    by_cases c2 : 2 * x - 1 = p
    · have e : placeV n p = (x, false, true) := by
        unfold placeV
        rw [if_pos (by omega), if_pos (by omega)]
        exact Prod.ext (by show _ / 2 = x; omega) rfl
      rw [if_pos c2, e, if_pos rfl]
      have : (2 * x - 1 == p) = true := by rw [beq_iff_eq]; omega
      simp only [this]
    · rw [if_neg c2, w64 (x := 0 + 1) (by decide) (by decide)]
      rw [spec_PlaceOfPage.l1, if_pos (by decide), if_pos (by decide), l2, if_pos (by decide), show (0 : Int) + 1 = 1 from rfl, r1, side_spec h0 h1 h4 h5]
      simp only [Option.bind_some]
      rw [show sideV n x true = (2 * x, 4 * n + 1 - 2 * x) from rfl]
      by_cases c3 : 2 * x = p
      · have e : placeV n p = (x, true, false) := by
          unfold placeV
          rw [if_pos (by omega), if_neg (by omega)]
          exact Prod.ext (by show _ / 2 = x; omega) rfl
        rw [if_pos c3, e, if_pos rfl]
        have : (4 * n + 1 - 2 * x == p) = false := by rw [beq_eq_false_iff_ne]; omega
        simp only [this]
      · rw [if_neg c3]
        by_cases c4 : 4 * n + 1 - 2 * x = p
        · have e : placeV n p = (x, true, true) := by
            unfold placeV
            rw [if_neg (by omega), if_neg (by omega)]
            exact Prod.ext (by show _ / 2 = x; omega) rfl
          rw [if_pos c4, e, if_pos rfl]
          have : (4 * n + 1 - 2 * x == p) = true := by rw [beq_iff_eq]; omega
          simp only [this]
        · have e : ¬ (placeV n p).1 = x := by
            unfold placeV
            split <;> split <;> simp only <;> omega
          rw [if_neg c4, if_neg e, w64 (x := 1 + 1) (by decide) (by decide), spec_PlaceOfPage.l1, if_neg (by decide), w64 (x := x + 1) (by omega) (by omega)]
theorem placeV_in {n p : Int} (h0 : 1 ≤ n) (h2 : 1 ≤ p) (h3 : p ≤ 4 * n) : 1 ≤ (placeV n p).1 ∧ (placeV n p).1 ≤ n := by
  unfold placeV
  split <;> split <;> simp only <;> omega
theorem place_l0 {n p : Int} (h0 : 1 ≤ n) (h1 : n ≤ 100) (h2 : 1 ≤ p) (h3 : p ≤ 4 * n) (d : Nat) : ∀ x : Int, 1 ≤ x → x + d = (placeV n p).1 → ∀ k, 4 * d + 4 ≤ k →
    spec_PlaceOfPage.l0 k n p x = some ((placeV n p).1, (placeV n p).2.1, (placeV n p).2.2, true) := by
  have hp := placeV_in h0 h2 h3
  induction d with
  | zero =>
    intro x h4 h5 k hk
    obtain ⟨k, rfl⟩ : ∃ m, k = m + 4 := ⟨k - 4, by omega⟩
    rw [spec_PlaceOfPage.l0, if_pos (by omega)]
    simp only [Option.bind_some]
    rw [show (([false, true] : List Bool).length : Int) = 2 from rfl, place_l1 h0 h1 h2 h3 h4 (by omega), if_pos (by omega)]
  | succ d ih =>
    intro x h4 h5 k hk
    obtain ⟨k, rfl⟩ : ∃ m, k = m + 4 := ⟨k - 4, by omega⟩
    rw [spec_PlaceOfPage.l0, if_pos (by omega)]
    simp only [Option.bind_some]
    rw [show (([false, true] : List Bool).length : Int) = 2 from rfl, place_l1 h0 h1 h2 h3 h4 (by omega), if_neg (by omega)]
    exact ih (x + 1) (by omega) (by omega) k (by omega)
theorem place_spec {n p : Int} (h0 : 1 ≤ n) (h1 : n ≤ 100) (h2 : 1 ≤ p) (h3 : p ≤ 4 * n) (k : Nat) (hk : 404 ≤ k) :
    spec_PlaceOfPage.f k n p = some ((placeV n p).1, (placeV n p).2.1, (placeV n p).2.2, true) := by
  have hb : (1 ≤ n ∧ n ≤ 100) ∧ 1 ≤ p ∧ p ≤ 4 * n := ⟨⟨h0, h1⟩, h2, h3⟩
  have hp := placeV_in h0 h2 h3
  unfold spec_PlaceOfPage.f
  rw [page_spec, decide_eq_true hb]
  simp only [Option.bind_some, if_true]
  exact place_l0 h0 h1 h2 h3 ((placeV n p).1 - 1).toNat 1 (by omega) (by omega) k (by omega)
theorem sheets_impl (a : Int) : impl_isSheets.f a = some (decide (1 ≤ a ∧ a ≤ 100)) := by simp [impl_isSheets.f, in_impl]
theorem page_impl (n p : Int) : impl_isPageOf.f n p = some (decide ((1 ≤ n ∧ n ≤ 100) ∧ 1 ≤ p ∧ p ≤ 4 * n)) := by
  unfold impl_isPageOf.f
  rw [sheets_impl]
  by_cases h : 1 ≤ n ∧ n ≤ 100
  · rw [w64 (x := 4 * n) (by omega) (by omega), in_impl]; simp [h]
  · simp [h]
theorem side_impl {n s : Int} {back : Bool} (h0 : 1 ≤ n) (h1 : n ≤ 100) (h2 : 1 ≤ s) (h3 : s ≤ n) : impl_side.f n s back = some (sideV n s back) := by
  unfold impl_side.f sideV
  rw [w64 (x := 2 * s) (by omega) (by omega), w64 (x := 4 * n) (by omega) (by omega), w64 (x := 2 * s - 1) (by omega) (by omega), w64 (x := 2 * s - 1 + 1) (by omega) (by omega), w64 (x := 4 * n - 2 * s) (by omega) (by omega), w64 (x := 4 * n - 2 * s + 2) (by omega) (by omega), w64 (by omega) (by omega)]
  cases back
  · simp; omega
  · simp; omega
theorem place_impl {n p : Int} (h0 : 1 ≤ n) (h1 : n ≤ 100) (h2 : 1 ≤ p) (h3 : p ≤ 4 * n) : impl_PlaceOfPage.f n p = some ((placeV n p).1, (placeV n p).2.1, (placeV n p).2.2, true) := by
  have hb : (1 ≤ n ∧ n ≤ 100) ∧ 1 ≤ p ∧ p ≤ 4 * n := ⟨⟨h0, h1⟩, h2, h3⟩
  have hp := placeV_in h0 h2 h3
  have hm : mn p (4 * n + 1 - p) = if 4 * n + 1 - p < p then 4 * n + 1 - p else p := rfl
  have hm0 : 1 ≤ mn p (4 * n + 1 - p) ∧ mn p (4 * n + 1 - p) ≤ 400 := by rw [hm]; split <;> omega
  have hs : (mn p (4 * n + 1 - p) + 1) / 2 = (placeV n p).1 := by
    unfold placeV
    by_cases d : 4 * n + 1 - p < p
    · rw [if_pos d] at hm
      rw [if_neg (by omega)]
      split <;> simp only <;> omega
    · rw [if_neg d] at hm
      rw [if_pos (by omega)]
      split <;> simp only <;> omega
  unfold impl_PlaceOfPage.f
  rw [page_impl, decide_eq_true hb]
  simp only [Option.bind_some, if_true]
  rw [w64 (x := 4 * n) (by omega) (by omega), w64 (x := 4 * n + 1) (by omega) (by omega), w64 (x := 4 * n + 1 - p) (by omega) (by omega), w64 (x := mn p (4 * n + 1 - p) + 1) (by omega) (by omega), td (by omega), w64 (by omega) (by omega), hs]
  generalize hv : placeV n p = v at hp
  obtain ⟨s, b, r⟩ := v
  simp only at hp ⊢
  unfold impl_PlaceOfPage.g0 impl_PlaceOfPage.g1
  rw [side_impl h0 h1 hp.1 hp.2, side_impl h0 h1 hp.1 hp.2]
  simp only [Option.bind_some]
  rw [show sideV n s false = (4 * n + 2 - 2 * s, 2 * s - 1) from rfl, show sideV n s true = (2 * s, 4 * n + 1 - 2 * s) from rfl]
  unfold placeV at hv
  by_cases c1 : p ≤ 2 * n
  · rw [if_pos c1] at hv
    by_cases c2 : p % 2 = 1
    · rw [if_pos c2] at hv
      simp only [Prod.mk.injEq] at hv
      obtain ⟨e1, rfl, rfl⟩ := hv
      rw [if_neg (by show ¬ 4 * n + 2 - 2 * s = p; omega), if_pos (by show 2 * s - 1 = p; omega), show (2 * s - 1 == p) = true by rw [beq_iff_eq]; omega]
    · rw [if_neg c2] at hv
      simp only [Prod.mk.injEq] at hv
      obtain ⟨e1, rfl, rfl⟩ := hv
      rw [if_neg (by show ¬ 4 * n + 2 - 2 * s = p; omega), if_neg (by show ¬ 2 * s - 1 = p; omega), if_pos (by show 2 * s = p; omega), show (4 * n + 1 - 2 * s == p) = false by rw [beq_eq_false_iff_ne]; omega]
  · rw [if_neg c1] at hv
    by_cases c2 : p % 2 = 0
    · rw [if_pos c2] at hv
      simp only [Prod.mk.injEq] at hv
      obtain ⟨e1, rfl, rfl⟩ := hv
      rw [if_pos (by show 4 * n + 2 - 2 * s = p; omega), show (2 * s - 1 == p) = false by rw [beq_eq_false_iff_ne]; omega]
    · rw [if_neg c2] at hv
      simp only [Prod.mk.injEq] at hv
      obtain ⟨e1, rfl, rfl⟩ := hv
      rw [if_neg (by show ¬ 4 * n + 2 - 2 * s = p; omega), if_neg (by show ¬ 2 * s - 1 = p; omega), if_neg (by show ¬ 2 * s = p; omega), if_pos (by show 4 * n + 1 - 2 * s = p; omega), show (4 * n + 1 - 2 * s == p) = true by rw [beq_iff_eq]; omega]

/-- The pages of a sheet in the order of printing. -/
def sheet4 (n x : Int) : List Int := [4 * n + 2 - 2 * x, 2 * x - 1, 2 * x, 4 * n + 1 - 2 * x]
def ordV (n x : Int) : Nat → List Int
  | 0 => []
  | d + 1 => sheet4 n x ++ ordV n (x + 1) d
theorem ordV_length (n x : Int) (d : Nat) : (ordV n x d).length = 4 * d := by
  induction d generalizing x with
  | zero => rfl
  | succ d ih => simp [ordV, sheet4, ih]; omega
theorem sheet_impl {n s : Int} (h0 : 1 ≤ n) (h1 : n ≤ 100) (h2 : 1 ≤ s) (h3 : s ≤ n) : impl_pagesOfSheet.f n s = some (sheet4 n s) := by
  unfold impl_pagesOfSheet.f
  rw [side_impl h0 h1 h2 h3, side_impl h0 h1 h2 h3]
  simp [sideV, sheet4]
theorem order_l1 {n x : Int} (h0 : 1 ≤ n) (h1 : n ≤ 100) (h2 : 1 ≤ x) (h3 : x ≤ n) (acc : List Int) (ha : acc.length ≤ 1000) (k : Nat) :
    spec_PrintOrder.l1 (k + 3) n acc x [false, true] 2 0 = spec_PrintOrder.l0 k n (acc ++ sheet4 n x) (x + 1) := by
  have r0 : rdOf false [false, true] 0 = false := rfl
  have r1 : rdOf false [false, true] 1 = true := rfl
  have l2 : (([false, true] : List Bool).length : Int) = 2 := rfl
  rw [spec_PrintOrder.l1, if_pos (by decide), if_pos (by decide), l2, if_pos (by decide), r0, side_spec h0 h1 h2 h3]
  simp only [Option.bind_some]
  rw [if_pos (by simp; omega), w64 (x := 0 + 1) (by decide) (by decide)]
  rw [spec_PrintOrder.l1, if_pos (by decide), if_pos (by decide), l2, if_pos (by decide), show (0 : Int) + 1 = 1 from rfl, r1, side_spec h0 h1 h2 h3]
  simp only [Option.bind_some]
  rw [if_pos (by simp; omega), w64 (x := 1 + 1) (by decide) (by decide)]
  rw [spec_PrintOrder.l1, if_neg (by decide), w64 (x := x + 1) (by omega) (by omega)]
  simp [sideV, sheet4]
theorem order_l0 {n : Int} (h0 : 1 ≤ n) (h1 : n ≤ 100) (d : Nat) : ∀ (acc : List Int) (x : Int), 1 ≤ x → x + d = n + 1 → acc.length + 4 * d ≤ 1000 → ∀ k, 4 * d < k →
    spec_PrintOrder.l0 k n acc x = some (acc ++ ordV n x d, true) := by
  induction d with
  | zero =>
    intro acc x h2 h3 ha k hk
    obtain ⟨k, rfl⟩ : ∃ m, k = m + 1 := ⟨k - 1, by omega⟩
    rw [spec_PrintOrder.l0, if_neg (by omega)]
    simp [ordV]
  | succ d ih =>
    intro acc x h2 h3 ha k hk
    obtain ⟨k, rfl⟩ : ∃ m, k = m + 4 := ⟨k - 4, by omega⟩
    rw [spec_PrintOrder.l0, if_pos (by omega)]
    simp only [Option.bind_some]
    rw [show (([false, true] : List Bool).length : Int) = 2 from rfl, order_l1 h0 h1 h2 (by omega) acc (by omega), ih _ (x + 1) (by omega) (by omega) (by simp [sheet4]; omega) k (by omega)]
    simp [ordV]
theorem order_i0 {n : Int} (h0 : 1 ≤ n) (h1 : n ≤ 100) (d : Nat) : ∀ (acc : List Int) (x : Int), 1 ≤ x → x + d = n + 1 → acc.length + 4 * d ≤ 1000 → ∀ k, d < k →
    impl_PrintOrder.l0 k n acc x = some (acc ++ ordV n x d, true) := by
  induction d with
  | zero =>
    intro acc x h2 h3 ha k hk
    obtain ⟨k, rfl⟩ : ∃ m, k = m + 1 := ⟨k - 1, by omega⟩
    rw [impl_PrintOrder.l0, if_neg (by omega)]
    simp [ordV]
  | succ d ih =>
    intro acc x h2 h3 ha k hk
    obtain ⟨k, rfl⟩ : ∃ m, k = m + 1 := ⟨k - 1, by omega⟩
    rw [impl_PrintOrder.l0, if_pos (by omega), sheet_impl h0 h1 h2 (by omega)]
    simp only [Option.bind_some]
    rw [if_pos (by simp [sheet4]; omega), w64 (x := x + 1) (by omega) (by omega), ih _ (x + 1) (by omega) (by omega) (by simp [sheet4]; omega) k (by omega)]
    simp [ordV]
theorem order_spec {n : Int} (h0 : 1 ≤ n) (h1 : n ≤ 100) (k : Nat) (hk : 400 < k) : spec_PrintOrder.f k n = some (ordV n 1 n.toNat, true) := by
  have hb : 1 ≤ n ∧ n ≤ 100 := ⟨h0, h1⟩
  unfold spec_PrintOrder.f
  rw [sheets_spec, decide_eq_true hb]
  simp only [Option.bind_some, if_true]
  rw [order_l0 h0 h1 n.toNat [] 1 (by omega) (by omega) (by simp; omega) k (by omega)]
  simp
theorem order_impl {n : Int} (h0 : 1 ≤ n) (h1 : n ≤ 100) (k : Nat) (hk : 400 < k) : impl_PrintOrder.f k n = some (ordV n 1 n.toNat, true) := by
  have hb : 1 ≤ n ∧ n ≤ 100 := ⟨h0, h1⟩
  unfold impl_PrintOrder.f
  rw [sheets_impl, decide_eq_true hb]
  simp only [Option.bind_some, if_true]
  rw [order_i0 h0 h1 n.toNat [] 1 (by omega) (by omega) (by simp; omega) k (by omega)]
  simp
def sheetIn (n x : Int) : List Int := [4 * n + 2 - 2 * x, 2 * x - 1, 2 * x, 4 * n + 1 - 2 * x]
theorem sheetin_impl {n s : Int} (h0 : 1 ≤ n) (h1 : n ≤ 100) (h2 : 1 ≤ s) (h3 : s ≤ n) : impl_pagesOfSheet.f n s = some (sheetIn n s) := by
  unfold impl_pagesOfSheet.f
  rw [side_impl h0 h1 h2 h3, side_impl h0 h1 h2 h3]
  simp [sideV, sheetIn]
theorem contains4 (a b c d x : Int) (k : Nat) (hk : 5 ≤ k) : slices_Contains_int_int.f k [a, b, c, d] x = some (decide (x = a ∨ x = b ∨ x = c ∨ x = d)) := by
  obtain ⟨k, rfl⟩ : ∃ m, k = m + 5 := ⟨k - 5, by omega⟩
  have l4 : (([a, b, c, d] : List Int).length : Int) = 4 := rfl
  unfold slices_Contains_int_int.f slices_Index_int_int.f
  rw [l4]
  rw [slices_Index_int_int.l0, if_pos (by decide), if_pos (by decide), l4, if_pos (by decide), show rd [a, b, c, d] 0 = a from rfl]
  by_cases c1 : x = a
  · rw [if_pos c1]; simp [c1]
  rw [if_neg c1, w64 (x := 0 + 1) (by decide) (by decide), show (0 : Int) + 1 = 1 from rfl]
  rw [slices_Index_int_int.l0, if_pos (by decide), if_pos (by decide), l4, if_pos (by decide), show rd [a, b, c, d] 1 = b from rfl]
  by_cases c2 : x = b
  · rw [if_pos c2]; simp [c2]
  rw [if_neg c2, w64 (x := 1 + 1) (by decide) (by decide), show (1 : Int) + 1 = 2 from rfl]
  rw [slices_Index_int_int.l0, if_pos (by decide), if_pos (by decide), l4, if_pos (by decide), show rd [a, b, c, d] 2 = c from rfl]
  by_cases c3 : x = c
  · rw [if_pos c3]; simp [c3]
  rw [if_neg c3, w64 (x := 2 + 1) (by decide) (by decide), show (2 : Int) + 1 = 3 from rfl]
  rw [slices_Index_int_int.l0, if_pos (by decide), if_pos (by decide), l4, if_pos (by decide), show rd [a, b, c, d] 3 = d from rfl]
  by_cases c4 : x = d
  · rw [if_pos c4]; simp [c4]
  rw [if_neg c4, w64 (x := 3 + 1) (by decide) (by decide), show (3 : Int) + 1 = 4 from rfl]
  rw [slices_Index_int_int.l0, if_neg (by decide)]
  simp [c1, c2, c3, c4]
theorem contains_sheet {n s x : Int} (h0 : 1 ≤ n) (h2 : 1 ≤ s) (h3 : s ≤ n) (h4 : 1 ≤ x) (h5 : x ≤ 4 * n) (k : Nat) (hk : 5 ≤ k) :
    slices_Contains_int_int.f k (sheetIn n s) x = some (decide ((placeV n x).1 = s)) := by
  unfold sheetIn
  rw [contains4 _ _ _ _ _ k hk]
  congr 1
  rw [decide_eq_decide]
  unfold placeV
  split <;> split <;> simp only <;> omega
def withV (n s x : Int) : Nat → List Int
  | 0 => []
  | d + 1 => if (placeV n x).1 = s then withV n s (x + 1) d else x :: withV n s (x + 1) d
theorem withV_length (n s x : Int) (d : Nat) : (withV n s x d).length ≤ d := by
  induction d generalizing x with
  | zero => simp [withV]
  | succ d ih => have := ih (x + 1); unfold withV; split <;> simp <;> omega
theorem without_s0 {n s : Int} (h0 : 1 ≤ n) (h1 : n ≤ 100) (d : Nat) : ∀ (acc : List Int) (x : Int), 1 ≤ x → x + d = 4 * n + 1 → acc.length + d ≤ 1000 → ∀ k, 404 + d < k →
    spec_PagesWithout.l0 k n s acc x = some (acc ++ withV n s x d, true) := by
  induction d with
  | zero =>
    intro acc x h2 h3 ha k hk
    obtain ⟨k, rfl⟩ : ∃ m, k = m + 1 := ⟨k - 1, by omega⟩
    rw [spec_PagesWithout.l0, w64 (x := 4 * n) (by omega) (by omega), if_neg (by omega)]
    simp [withV]
  | succ d ih =>
    intro acc x h2 h3 ha k hk
    obtain ⟨k, rfl⟩ : ∃ m, k = m + 1 := ⟨k - 1, by omega⟩
    rw [spec_PagesWithout.l0, w64 (x := 4 * n) (by omega) (by omega), if_pos (by omega), place_spec h0 h1 h2 (by omega) k (by omega)]
    simp only [Option.bind_some]
    unfold withV
    by_cases c : (placeV n x).1 = s
    · rw [if_pos c, if_pos c, w64 (x := x + 1) (by omega) (by omega)]
      exact ih acc (x + 1) (by omega) (by omega) (by omega) k (by omega)
    · rw [if_neg c, if_neg c, if_pos (show acc.length < 17592186044416 by omega), w64 (x := x + 1) (by omega) (by omega), ih _ (x + 1) (by omega) (by omega) (by simp; omega) k (by omega)]
      simp
theorem without_i0 {n s : Int} (h0 : 1 ≤ n) (h1 : n ≤ 100) (hs : 1 ≤ s) (hs1 : s ≤ n) (d : Nat) : ∀ (acc : List Int) (x : Int), 1 ≤ x → x + d = 4 * n + 1 → acc.length + d ≤ 1000 → ∀ k, 5 + d < k →
    impl_PagesWithout.l0 k n s acc x = some (acc ++ withV n s x d, true) := by
  induction d with
  | zero =>
    intro acc x h2 h3 ha k hk
    obtain ⟨k, rfl⟩ : ∃ m, k = m + 1 := ⟨k - 1, by omega⟩
    rw [impl_PagesWithout.l0, w64 (x := 4 * n) (by omega) (by omega), if_neg (by omega)]
    simp [withV]
  | succ d ih =>
    intro acc x h2 h3 ha k hk
    obtain ⟨k, rfl⟩ : ∃ m, k = m + 1 := ⟨k - 1, by omega⟩
    rw [impl_PagesWithout.l0, w64 (x := 4 * n) (by omega) (by omega), if_pos (by omega), sheetin_impl h0 h1 hs hs1]
    simp only [Option.bind_some]
    rw [contains_sheet h0 hs hs1 h2 (by omega) k (by omega)]
    simp only [Option.bind_some]
    unfold withV
    by_cases c : (placeV n x).1 = s
    · rw [decide_eq_true c, if_pos rfl, if_pos c, w64 (x := x + 1) (by omega) (by omega)]
      exact ih acc (x + 1) (by omega) (by omega) (by omega) k (by omega)
    · rw [decide_eq_false c, if_neg (by decide), if_neg c, if_pos (show acc.length < 17592186044416 by omega), w64 (x := x + 1) (by omega) (by omega), ih _ (x + 1) (by omega) (by omega) (by simp; omega) k (by omega)]
      simp
theorem without_spec {n s : Int} (h0 : 1 ≤ n) (h1 : n ≤ 100) (hs : 1 ≤ s) (hs1 : s ≤ n) (k : Nat) (hk : 1000 < k) : spec_PagesWithout.f k n s = some (withV n s 1 (4 * n).toNat, true) := by
  obtain ⟨k, rfl⟩ : ∃ m, k = m + 1 := ⟨k - 1, by omega⟩
  have hb : 1 ≤ n ∧ n ≤ 100 := ⟨h0, h1⟩
  have hc : 1 ≤ s ∧ s ≤ n := ⟨hs, hs1⟩
  unfold spec_PagesWithout.f
  rw [sheets_spec, in_spec, decide_eq_true hb, decide_eq_true hc]
  simp only [Option.bind_some, if_true, Bool.not_true, spec_PagesWithout.j0]
  rw [if_neg (by decide), without_s0 h0 h1 (4 * n).toNat [] 1 (by omega) (by omega) (by simp; omega) k (by omega)]
  simp
theorem without_impl {n s : Int} (h0 : 1 ≤ n) (h1 : n ≤ 100) (hs : 1 ≤ s) (hs1 : s ≤ n) (k : Nat) (hk : 1000 < k) : impl_PagesWithout.f k n s = some (withV n s 1 (4 * n).toNat, true) := by
  obtain ⟨k, rfl⟩ : ∃ m, k = m + 1 := ⟨k - 1, by omega⟩
  have hb : 1 ≤ n ∧ n ≤ 100 := ⟨h0, h1⟩
  have hc : 1 ≤ s ∧ s ≤ n := ⟨hs, hs1⟩
  unfold impl_PagesWithout.f
  rw [sheets_impl, in_impl, decide_eq_true hb, decide_eq_true hc]
  simp only [Option.bind_some, if_true, Bool.not_true, impl_PagesWithout.j0]
  rw [if_neg (by decide), without_i0 h0 h1 hs hs1 (4 * n).toNat [] 1 (by omega) (by omega) (by simp; omega) k (by omega)]
  simp
theorem fobook_spec (a : Int) : spec_foBook.f a = some (decide (1 ≤ a ∧ a ≤ 2000)) := by simp [spec_foBook.f, in_spec]
theorem isbook_impl (a : Int) : impl_isBook.f a = some (decide (1 ≤ a ∧ a ≤ 2000)) := by simp [impl_isBook.f, in_impl]
theorem sideF_ok {n s : Int} {b : Bool} (h : 1 ≤ n ∧ n ≤ 100) (h2 : 1 ≤ s ∧ s ≤ n) : impl_SideOfSheet.f n s b = some ((sideV n s b).1, (sideV n s b).2, true) ∧ spec_SideOfSheet.f n s b = some ((sideV n s b).1, (sideV n s b).2, true) := by
  unfold impl_SideOfSheet.f spec_SideOfSheet.f
  rw [sheets_spec, sheets_impl, in_spec, in_impl, decide_eq_true h, decide_eq_true h2, Option.bind_some, Option.bind_some, Option.bind_some, Option.bind_some, if_pos rfl, if_pos rfl, if_pos rfl, if_pos rfl, side_spec h.1 h.2 h2.1 h2.2, side_impl h.1 h.2 h2.1 h2.2]
  exact ⟨rfl, rfl⟩
theorem sideF_no {n s : Int} {b : Bool} (h : ¬ ((1 ≤ n ∧ n ≤ 100) ∧ 1 ≤ s ∧ s ≤ n)) : impl_SideOfSheet.f n s b = some (0, 0, false) ∧ spec_SideOfSheet.f n s b = some (0, 0, false) := by
  unfold impl_SideOfSheet.f spec_SideOfSheet.f
  rw [sheets_spec, sheets_impl, in_spec, in_impl]
  by_cases h1 : 1 ≤ n ∧ n ≤ 100
  · have h2 : ¬ (1 ≤ s ∧ s ≤ n) := fun q => h ⟨h1, q⟩
    rw [decide_eq_true h1, decide_eq_false h2]
    exact ⟨rfl, rfl⟩
  · rw [decide_eq_false h1]
    exact ⟨rfl, rfl⟩
theorem order_no {n : Int} (h : ¬ (1 ≤ n ∧ n ≤ 100)) (k : Nat) : impl_PrintOrder.f k n = some ([], false) ∧ spec_PrintOrder.f k n = some ([], false) := by
  unfold spec_PrintOrder.f impl_PrintOrder.f
  rw [sheets_spec, sheets_impl, decide_eq_false h]
  exact ⟨rfl, rfl⟩
theorem mid_ok {n : Int} (h : 1 ≤ n ∧ n ≤ 100) : impl_MiddlePages.f n = some (2 * n, 2 * n + 1, true) ∧ spec_MiddlePages.f n = some (2 * n, 2 * n + 1, true) := by
  unfold impl_MiddlePages.f spec_MiddlePages.f
  have w1 : wrap64 (2 * n) = 2 * n := w64 (by omega) (by omega)
  have w2 : wrap64 (2 * n + 1) = 2 * n + 1 := w64 (by clear w1; omega) (by clear w1; omega)
  rw [sheets_spec, sheets_impl, decide_eq_true h, w1, w2]
  exact ⟨rfl, rfl⟩
theorem mid_no {n : Int} (h : ¬ (1 ≤ n ∧ n ≤ 100)) : impl_MiddlePages.f n = some (0, 0, false) ∧ spec_MiddlePages.f n = some (0, 0, false) := by
  unfold impl_MiddlePages.f spec_MiddlePages.f
  rw [sheets_spec, sheets_impl, decide_eq_false h]
  exact ⟨rfl, rfl⟩
theorem without_no {n s : Int} (h : ¬ ((1 ≤ n ∧ n ≤ 100) ∧ 1 ≤ s ∧ s ≤ n)) (k : Nat) (hk : 1 ≤ k) : impl_PagesWithout.f k n s = some ([], false) ∧ spec_PagesWithout.f k n s = some ([], false) := by
  obtain ⟨k, rfl⟩ : ∃ m, k = m + 1 := ⟨k - 1, by omega⟩
  unfold spec_PagesWithout.f impl_PagesWithout.f
  rw [sheets_spec, sheets_impl, in_spec, in_impl]
  by_cases h1 : 1 ≤ n ∧ n ≤ 100
  · have h2 : ¬ (1 ≤ s ∧ s ≤ n) := fun q => h ⟨h1, q⟩
    rw [decide_eq_true h1, decide_eq_false h2]
    exact ⟨rfl, rfl⟩
  · rw [decide_eq_false h1]
    exact ⟨rfl, rfl⟩
theorem place_no {n p : Int} (h : ¬ ((1 ≤ n ∧ n ≤ 100) ∧ 1 ≤ p ∧ p ≤ 4 * n)) (k : Nat) : impl_PlaceOfPage.f n p = some (0, false, false, false) ∧ spec_PlaceOfPage.f k n p = some (0, false, false, false) := by
  unfold spec_PlaceOfPage.f impl_PlaceOfPage.f
  rw [page_spec, page_impl, decide_eq_false h]
  exact ⟨rfl, rfl⟩
theorem partner_ok {n p : Int} (h : (1 ≤ n ∧ n ≤ 100) ∧ 1 ≤ p ∧ p ≤ 4 * n) : impl_PartnerPage.f n p = some (4 * n + 1 - p, true) ∧ spec_PartnerPage.f n p = some (4 * n + 1 - p, true) := by
  unfold impl_PartnerPage.f spec_PartnerPage.f
  have w1 : wrap64 (4 * n) = 4 * n := w64 (by omega) (by omega)
  have w2 : wrap64 (4 * n + 1) = 4 * n + 1 := w64 (by clear w1; omega) (by clear w1; omega)
  have w3 : wrap64 (4 * n + 1 - p) = 4 * n + 1 - p := w64 (by clear w1 w2; omega) (by clear w1 w2; omega)
  rw [page_spec, page_impl, decide_eq_true h, w1, w2, w3]
  exact ⟨rfl, rfl⟩
theorem partner_no {n p : Int} (h : ¬ ((1 ≤ n ∧ n ≤ 100) ∧ 1 ≤ p ∧ p ≤ 4 * n)) : impl_PartnerPage.f n p = some (0, false) ∧ spec_PartnerPage.f n p = some (0, false) := by
  unfold impl_PartnerPage.f spec_PartnerPage.f
  rw [page_spec, page_impl, decide_eq_false h]
  exact ⟨rfl, rfl⟩
theorem ofpartners_ok {n a b : Int} (h : (1 ≤ n ∧ n ≤ 100) ∧ 1 ≤ a ∧ a ≤ 4 * n) (h2 : a + b = 4 * n + 1) (k : Nat) (hk : 404 ≤ k) : impl_SheetOfPartners.f a b n = some ((placeV n a).1, true) ∧ spec_SheetOfPartners.f k a b n = some ((placeV n a).1, true) := by
  have hc : (1 ≤ n ∧ n ≤ 100) ∧ 1 ≤ b ∧ b ≤ 4 * n := by omega
  unfold spec_SheetOfPartners.f impl_SheetOfPartners.f
  rw [page_spec, page_spec, page_impl, page_impl]
  have w1 : wrap64 (a + b) = a + b := w64 (by omega) (by omega)
  have w2 : wrap64 (4 * n) = 4 * n := w64 (by clear w1; omega) (by clear w1; omega)
  have w3 : wrap64 (4 * n + 1) = 4 * n + 1 := w64 (by clear w1 w2; omega) (by clear w1 w2; omega)
  rw [w1, w2, w3]
  clear w1 w2 w3
  have e : wrap64 (Int.tdiv (wrap64 ((mn a b) + 1)) 2) = (placeV n a).1 := by
    have hm : mn a b = if b < a then b else a := rfl
    have hm0 : 1 ≤ mn a b ∧ mn a b ≤ 400 := by rw [hm]; split <;> omega
    rw [w64 (x := mn a b + 1) (by omega) (by omega), td (by omega), w64 (by omega) (by omega)]
    unfold placeV
    by_cases d : b < a
    · rw [if_pos d] at hm
      rw [if_neg (by omega)]
      split <;> simp only <;> omega
    · rw [if_neg d] at hm
      rw [if_pos (by omega)]
      split <;> simp only <;> omega
  rw [e]
  simp only [decide_eq_true h, decide_eq_true hc, Option.bind_some, if_true, if_pos h2, place_spec h.1.1 h.1.2 h.2.1 h.2.2 k hk]
  exact ⟨trivial, trivial⟩
theorem ofpartners_any (n a b : Int) : ∃ r, impl_SheetOfPartners.f a b n = some r ∧ ∀ k, 404 ≤ k → spec_SheetOfPartners.f k a b n = some r := by
  by_cases h : ((1 ≤ n ∧ n ≤ 100) ∧ 1 ≤ a ∧ a ≤ 4 * n) ∧ a + b = 4 * n + 1
  · exact ⟨_, (ofpartners_ok h.1 h.2 404 (by decide)).1, fun k hk => (ofpartners_ok h.1 h.2 k hk).2⟩
  · refine ⟨(0, false), ?_⟩
    unfold spec_SheetOfPartners.f impl_SheetOfPartners.f
    simp only [page_spec, page_impl]
    by_cases h1 : (1 ≤ n ∧ n ≤ 100) ∧ 1 ≤ a ∧ a ≤ 4 * n
    · by_cases h2 : (1 ≤ n ∧ n ≤ 100) ∧ 1 ≤ b ∧ b ≤ 4 * n
      · have w1 : wrap64 (a + b) = a + b := w64 (by omega) (by omega)
        have w2 : wrap64 (4 * n) = 4 * n := w64 (by clear w1; omega) (by clear w1; omega)
        have w3 : wrap64 (4 * n + 1) = 4 * n + 1 := w64 (by clear w1 w2; omega) (by clear w1 w2; omega)
        have h3 : ¬ a + b = 4 * n + 1 := fun q => h ⟨h1, q⟩
        rw [decide_eq_true h1, decide_eq_true h2, w1, w2, w3, if_neg h3]
        exact ⟨rfl, fun k _ => by simp only [Option.bind_some, if_true, if_neg h3]⟩
      · rw [decide_eq_true h1, decide_eq_false h2]
        exact ⟨rfl, fun k _ => rfl⟩
    · rw [decide_eq_false h1]
      exact ⟨rfl, fun k _ => rfl⟩
theorem for_ok {n : Int} (h : 1 ≤ n ∧ n ≤ 2000) : impl_SheetsFor.f n = some ((n + 3) / 4, true) ∧ spec_SheetsFor.f n = some ((n + 3) / 4, true) ∧ impl_BlankPages.f n = some (4 * ((n + 3) / 4) - n, true) ∧ spec_BlankPages.f n = some (4 * ((n + 3) / 4) - n, true) := by
  have w1 : wrap64 (n + 3) = n + 3 := w64 (by omega) (by omega)
  have w2 : wrap64 ((n + 3) / 4) = (n + 3) / 4 := w64 (by clear w1; omega) (by clear w1; omega)
  have w3 : wrap64 (4 * ((n + 3) / 4)) = 4 * ((n + 3) / 4) := w64 (by clear w1 w2; omega) (by clear w1 w2; omega)
  have w4 : wrap64 (4 * ((n + 3) / 4) - n) = 4 * ((n + 3) / 4) - n := w64 (by clear w1 w2 w3; omega) (by clear w1 w2 w3; omega)
  have t : Int.tdiv (n + 3) 4 = (n + 3) / 4 := td (by clear w1 w2 w3 w4; omega)
  have e : impl_SheetsFor.f n = some ((n + 3) / 4, true) := by
    unfold impl_SheetsFor.f
    rw [isbook_impl, decide_eq_true h, w1, t, w2]
    rfl
  refine ⟨e, ?_, ?_, ?_⟩
  · unfold spec_SheetsFor.f
    rw [fobook_spec, decide_eq_true h, w1, t, w2]
    rfl
  · unfold impl_BlankPages.f
    rw [e, Option.bind_some]
    dsimp only
    rw [if_pos rfl, w3, w4]
  · unfold spec_BlankPages.f
    rw [fobook_spec, decide_eq_true h, w1, t, w2, Int.mul_comm, w3, w4]
    rfl
theorem for_no {n : Int} (h : ¬ (1 ≤ n ∧ n ≤ 2000)) : impl_SheetsFor.f n = some (0, false) ∧ spec_SheetsFor.f n = some (0, false) ∧ impl_BlankPages.f n = some (0, false) ∧ spec_BlankPages.f n = some (0, false) := by
  have e : impl_SheetsFor.f n = some (0, false) := by
    unfold impl_SheetsFor.f
    rw [isbook_impl, decide_eq_false h]
    rfl
  refine ⟨e, ?_, ?_, ?_⟩
  · unfold spec_SheetsFor.f
    rw [fobook_spec, decide_eq_false h]
    rfl
  · unfold impl_BlankPages.f
    rw [e, Option.bind_some]
    rfl
  · unfold spec_BlankPages.f
    rw [fobook_spec, decide_eq_false h]
    rfl
theorem same_l0 (l : List Int) (hl : l.length ≤ 1000000) (d : Nat) : ∀ i : Nat, i + d = l.length → ∀ k, d < k → laws_fSame.l0 k l l (l.length : Int) (i : Int) = some true := by
  induction d with
  | zero =>
    intro i hi k hk
    obtain ⟨k, rfl⟩ : ∃ m, k = m + 1 := ⟨k - 1, by omega⟩
    rw [laws_fSame.l0, if_neg (by omega)]
  | succ d ih =>
    intro i hi k hk
    obtain ⟨k, rfl⟩ : ∃ m, k = m + 1 := ⟨k - 1, by omega⟩
    rw [laws_fSame.l0, if_pos (by omega), if_pos (by omega), if_pos (by omega), if_pos (by omega), if_pos rfl, w64 (x := (i : Int) + 1) (by omega) (by omega)]
    exact ih (i + 1) (by omega) k (by omega)
theorem same_self (l : List Int) (hl : l.length ≤ 1000000) (k : Nat) (hk : l.length < k) : laws_fSame.f k l l = some true := by
  unfold laws_fSame.f
  rw [if_pos rfl]
  exact same_l0 l hl l.length 0 (by omega) k hk
theorem has_l0 (l : List Int) (x : Int) (hl : l.length ≤ 1000000) (d : Nat) : ∀ i : Nat, i + d = l.length → (∀ j : Nat, i ≤ j → j < l.length → ¬ rd l (j : Int) = x) → ∀ k, d < k → laws_fHas.l0 k x l (l.length : Int) (i : Int) = some false := by
  induction d with
  | zero =>
    intro i hi _ k hk
    obtain ⟨k, rfl⟩ : ∃ m, k = m + 1 := ⟨k - 1, by omega⟩
    rw [laws_fHas.l0, if_neg (by omega)]
  | succ d ih =>
    intro i hi h k hk
    obtain ⟨k, rfl⟩ : ∃ m, k = m + 1 := ⟨k - 1, by omega⟩
    rw [laws_fHas.l0, if_pos (by omega), if_pos (by omega), if_pos (by omega), if_neg (h i (by omega) (by omega)), w64 (x := (i : Int) + 1) (by omega) (by omega)]
    exact ih (i + 1) (by omega) (fun j hj hj2 => h j (by omega) hj2) k (by omega)
theorem has_no (l : List Int) (x : Int) (hl : l.length ≤ 1000000) (h : ∀ j : Nat, j < l.length → ¬ rd l (j : Int) = x) (k : Nat) (hk : l.length < k) : laws_fHas.f k l x = some false := by
  unfold laws_fHas.f
  exact has_l0 l x hl l.length 0 (by omega) (fun j _ hj => h j hj) k hk
theorem rd_nat (l : List Int) (i : Nat) : rd l (i : Int) = l.getD i 0 := by
  unfold rd
  rfl
theorem rises_l0 (l : List Int) (hl : l.length ≤ 1000000) (h : ∀ j : Nat, j + 1 < l.length → rd l (j : Int) < rd l ((j + 1 : Nat) : Int)) (d : Nat) : ∀ i : Nat, i + 1 + d = l.length → ∀ k, d < k → laws_fRises.l0 k l ((i + 1 : Nat) : Int) = some true := by
  induction d with
  | zero =>
    intro i hi k hk
    obtain ⟨k, rfl⟩ : ∃ m, k = m + 1 := ⟨k - 1, by omega⟩
    rw [laws_fRises.l0, if_neg (by omega)]
  | succ d ih =>
    intro i hi k hk
    obtain ⟨k, rfl⟩ : ∃ m, k = m + 1 := ⟨k - 1, by omega⟩
    have g := h i (by omega)
    have w1 : wrap64 (((i + 1 : Nat) : Int) - 1) = (i : Int) := by rw [show ((i + 1 : Nat) : Int) - 1 = (i : Int) by omega]; exact w64 (by omega) (by omega)
    have w2 : wrap64 (((i + 1 : Nat) : Int) + 1) = ((i + 1 + 1 : Nat) : Int) := by rw [show ((i + 1 : Nat) : Int) + 1 = ((i + 1 + 1 : Nat) : Int) by omega]; exact w64 (by clear w1; omega) (by clear w1; omega)
    rw [laws_fRises.l0, if_pos (by clear w1 w2; omega), w1, w2, if_pos (by clear w1 w2; omega), if_pos (by clear w1 w2; omega), if_pos (by clear w1 w2; omega), if_neg (by clear w1 w2; omega)]
    exact ih (i + 1) (by clear w1 w2; omega) k (by clear w1 w2; omega)
theorem rises_ok (l : List Int) (hl : l.length ≤ 1000000) (h : ∀ j : Nat, j + 1 < l.length → rd l (j : Int) < rd l ((j + 1 : Nat) : Int)) (k : Nat) (hk : l.length < k) : laws_fRises.f k l = some true := by
  unfold laws_fRises.f
  cases l with
  | nil =>
    obtain ⟨k, rfl⟩ : ∃ m, k = m + 1 := ⟨k - 1, by omega⟩
    rw [laws_fRises.l0, if_neg (by decide)]
  | cons a t => exact rises_l0 (a :: t) hl h t.length 0 (by simp; omega) k (by simp at hk; omega)
/-- The page at a place of the order of printing. -/
def ordAt (n : Int) (i : Nat) : Int := if i % 4 = 0 then 4 * n - 2 * ((i / 4 : Nat) : Int) else if i % 4 = 1 then 2 * ((i / 4 : Nat) : Int) + 1 else if i % 4 = 2 then 2 * ((i / 4 : Nat) : Int) + 2 else 4 * n - 1 - 2 * ((i / 4 : Nat) : Int)
theorem ordV_get (n : Int) (d : Nat) : ∀ (q : Nat) (i : Nat), i < 4 * d → (ordV n ((q : Int) + 1) d).getD i 0 = ordAt n (4 * q + i) := by
  induction d with
  | zero => intro q i hi; omega
  | succ d ih =>
    intro q i hi
    have e : ordV n ((q : Int) + 1) (d + 1) = (4 * n + 2 - 2 * ((q : Int) + 1)) :: (2 * ((q : Int) + 1) - 1) :: (2 * ((q : Int) + 1)) :: (4 * n + 1 - 2 * ((q : Int) + 1)) :: ordV n ((q : Int) + 1 + 1) d := by
      simp [ordV, sheet4]
    rw [e]
    match i, hi with
    | 0, _ => rw [List.getD_cons_zero]; unfold ordAt; rw [if_pos (by omega)]; omega
    | 1, _ => rw [List.getD_cons_succ, List.getD_cons_zero]; unfold ordAt; rw [if_neg (by omega), if_pos (by omega)]; omega
    | 2, _ => rw [List.getD_cons_succ, List.getD_cons_succ, List.getD_cons_zero]; unfold ordAt; rw [if_neg (by omega), if_neg (by omega), if_pos (by omega)]; omega
    | 3, _ => rw [List.getD_cons_succ, List.getD_cons_succ, List.getD_cons_succ, List.getD_cons_zero]; unfold ordAt; rw [if_neg (by omega), if_neg (by omega), if_neg (by omega)]; omega
    | j + 4, hj =>
      rw [List.getD_cons_succ, List.getD_cons_succ, List.getD_cons_succ, List.getD_cons_succ]
      have g := ih (q + 1) j (by omega)
      rw [show ((q + 1 : Nat) : Int) + 1 = (q : Int) + 1 + 1 by omega] at g
      rw [g, show 4 * (q + 1) + j = 4 * q + (j + 4) by omega]
theorem ord_rd {n : Int} (h0 : 1 ≤ n) (i : Nat) (h : (i : Int) < 4 * n) : rd (ordV n 1 n.toNat) (i : Int) = ordAt n i := by
  rw [rd_nat]
  have g := ordV_get n n.toNat 0 i (by omega)
  rw [show ((0 : Nat) : Int) + 1 = 1 by decide, show 4 * 0 + i = i by omega] at g
  exact g
theorem ordAt_bd {n : Int} (h0 : 1 ≤ n) (i : Nat) (h : (i : Int) < 4 * n) : 1 ≤ ordAt n i ∧ ordAt n i ≤ 4 * n := by
  unfold ordAt
  split
  · omega
  · split
    · omega
    · split <;> omega
theorem ordAt_inj {n : Int} (h0 : 1 ≤ n) (i j : Nat) (hi : (i : Int) < 4 * n) (hj : (j : Int) < 4 * n) (h : ordAt n i = ordAt n j) : i = j := by
  have ei : i % 4 = 0 ∨ i % 4 = 1 ∨ i % 4 = 2 ∨ i % 4 = 3 := by omega
  have ej : j % 4 = 0 ∨ j % 4 = 1 ∨ j % 4 = 2 ∨ j % 4 = 3 := by omega
  unfold ordAt at h
  rcases ei with e | e | e | e <;> rcases ej with f | f | f | f <;> simp only [e, f] at h <;> simp at h <;> omega
theorem ordAt_odd {n : Int} (i : Nat) (h : i % 2 = 1) : ordAt n (i - 1) + ordAt n i = 4 * n + 1 := by
  have ei : i % 4 = 1 ∨ i % 4 = 3 := by omega
  have q : (i - 1) / 4 = i / 4 := by omega
  unfold ordAt
  rw [q]
  rcases ei with e | e
  · rw [if_pos (show (i - 1) % 4 = 0 by omega), if_neg (show ¬ i % 4 = 0 by omega), if_pos e]; omega
  · rw [if_neg (show ¬ (i - 1) % 4 = 0 by omega), if_neg (show ¬ (i - 1) % 4 = 1 by omega), if_pos (show (i - 1) % 4 = 2 by omega), if_neg (show ¬ i % 4 = 0 by omega), if_neg (show ¬ i % 4 = 1 by omega), if_neg (show ¬ i % 4 = 2 by omega)]; omega
theorem take_getD (l : List Int) (i j : Nat) (h : j < i) : (l.take i).getD j 0 = l.getD j 0 := by
  rw [List.getD_eq_getElem?_getD, List.getD_eq_getElem?_getD, List.getElem?_take, if_pos h]
theorem placeV_iff {n s x : Int} (h0 : 1 ≤ n) (h2 : 1 ≤ s ∧ s ≤ n) (hx : 1 ≤ x ∧ x ≤ 4 * n) : (placeV n x).1 = s ↔ (x = 2 * s - 1 ∨ x = 2 * s ∨ x = 4 * n + 1 - 2 * s ∨ x = 4 * n + 2 - 2 * s) := by
  unfold placeV
  split <;> split <;> simp only <;> omega
def inR (x : Int) (d : Nat) (c : Int) : Nat := if x ≤ c ∧ c < x + d then 1 else 0
theorem inR_succ (x : Int) (d : Nat) (c : Int) : inR x (d + 1) c = (if x = c then 1 else 0) + inR (x + 1) d c := by
  unfold inR
  by_cases h : x = c
  · rw [if_pos h, if_pos (by omega), if_neg (by omega)]
  · rw [if_neg h]
    by_cases h2 : x + 1 ≤ c ∧ c < x + 1 + d
    · rw [if_pos h2, if_pos (by omega)]
    · rw [if_neg h2, if_neg (by omega)]
theorem withV_len {n s : Int} (h0 : 1 ≤ n) (h2 : 1 ≤ s ∧ s ≤ n) (d : Nat) : ∀ x : Int, 1 ≤ x → x + d = 4 * n + 1 →
    (withV n s x d).length + (inR x d (2 * s - 1) + inR x d (2 * s) + inR x d (4 * n + 1 - 2 * s) + inR x d (4 * n + 2 - 2 * s)) = d := by
  induction d with
  | zero =>
    intro x h3 h4
    unfold inR
    rw [if_neg (by omega), if_neg (by omega), if_neg (by omega), if_neg (by omega)]
    rfl
  | succ d ih =>
    intro x h3 h4
    have g := ih (x + 1) (by omega) (by omega)
    rw [inR_succ, inR_succ, inR_succ, inR_succ]
    unfold withV
    by_cases c : (placeV n x).1 = s
    · rw [if_pos c]
      have e := (placeV_iff h0 h2 (x := x) (by omega)).mp c
      rcases e with e | e | e | e
      · rw [if_pos e, if_neg (by omega), if_neg (by omega), if_neg (by omega)]; omega
      · rw [if_neg (by omega), if_pos e, if_neg (by omega), if_neg (by omega)]; omega
      · rw [if_neg (by omega), if_neg (by omega), if_pos e, if_neg (by omega)]; omega
      · rw [if_neg (by omega), if_neg (by omega), if_neg (by omega), if_pos e]; omega
    · rw [if_neg c]
      have e := fun q => c ((placeV_iff h0 h2 (x := x) (by omega)).mpr q)
      rw [if_neg (fun q => e (.inl q)), if_neg (fun q => e (.inr (.inl q))), if_neg (fun q => e (.inr (.inr (.inl q)))), if_neg (fun q => e (.inr (.inr (.inr q)))), List.length_cons]
      omega
theorem withV_len4 {n s : Int} (h0 : 1 ≤ n) (h2 : 1 ≤ s ∧ s ≤ n) : ((withV n s 1 (4 * n).toNat).length : Int) = 4 * n - 4 := by
  have g := withV_len h0 h2 (4 * n).toNat 1 (by omega) (by omega)
  unfold inR at g
  rw [if_pos (by omega), if_pos (by omega), if_pos (by omega), if_pos (by omega)] at g
  omega
theorem withV_get {n s : Int} (d : Nat) : ∀ (x : Int) (j : Nat), j < (withV n s x d).length → (x ≤ (withV n s x d).getD j 0 ∧ (withV n s x d).getD j 0 < x + d ∧ ¬ (placeV n ((withV n s x d).getD j 0)).1 = s) ∧ (∀ i : Nat, i < j → (withV n s x d).getD i 0 < (withV n s x d).getD j 0) := by
  induction d with
  | zero => intro x j hj; simp [withV] at hj
  | succ d ih =>
    intro x j hj
    unfold withV at hj ⊢
    by_cases c : (placeV n x).1 = s
    · rw [if_pos c] at hj ⊢
      obtain ⟨⟨g1, g2, g3⟩, g4⟩ := ih (x + 1) j hj
      exact ⟨⟨by omega, by omega, g3⟩, g4⟩
    · rw [if_neg c] at hj ⊢
      cases j with
      | zero =>
        rw [List.getD_cons_zero]
        exact ⟨⟨by omega, by omega, c⟩, fun i hi => by omega⟩
      | succ j =>
        rw [List.length_cons] at hj
        rw [List.getD_cons_succ]
        obtain ⟨⟨g1, g2, g3⟩, g4⟩ := ih (x + 1) j (by omega)
        refine ⟨⟨by omega, by omega, g3⟩, fun i hi => ?_⟩
        cases i with
        | zero => rw [List.getD_cons_zero]; omega
        | succ i => rw [List.getD_cons_succ]; exact g4 i (by omega)
theorem big_ok {a b : List Int} : ∃ t, laws_big.f a b = some t := by
  unfold laws_big.f
  split
  · exact ⟨_, rfl⟩
  · exact ⟨_, rfl⟩
theorem placeV_side {n p : Int} (h : (1 ≤ n ∧ n ≤ 100) ∧ 1 ≤ p ∧ p ≤ 4 * n) : ((placeV n p).2.2 = true → (sideV n (placeV n p).1 (placeV n p).2.1).2 = p) ∧ ((placeV n p).2.2 = false → (sideV n (placeV n p).1 (placeV n p).2.1).1 = p) ∧ (placeV n p).2.2 = decide (p % 2 = 1) := by
  unfold placeV sideV
  by_cases c : p ≤ 2 * n
  · rw [if_pos c]
    by_cases c2 : p % 2 = 1
    · rw [if_pos c2]; exact ⟨fun _ => by simp only [Bool.false_eq_true, if_false]; omega, fun q => by simp at q, (decide_eq_true c2).symm⟩
    · rw [if_neg c2]; exact ⟨fun q => by simp at q, fun _ => by simp only [if_true]; omega, (decide_eq_false c2).symm⟩
  · rw [if_neg c]
    by_cases c2 : p % 2 = 0
    · rw [if_pos c2]; exact ⟨fun q => by simp at q, fun _ => by simp only [Bool.false_eq_true, if_false]; omega, (decide_eq_false (by omega)).symm⟩
    · rw [if_neg c2]; exact ⟨fun _ => by simp only [if_true]; omega, fun q => by simp at q, (decide_eq_true (by omega)).symm⟩
/-- What follows the checks of a place: sheets for so many pages. -/
def forT (n : Int) (e : Int) (ok : Bool) (b : Int) : Prop := ok = true → (1 ≤ n ∧ n ≤ 2000) ∧ e = (n + 3) / 4 ∧ b = 4 * ((n + 3) / 4) - n
theorem for_end {n e b : Int} {ok : Bool} (h : forT n e ok b) : (if ok = true then (if (wrap64 ((wrap64 (4 * e)) - b)) = n then (if b < 0 then (some false) else (if b > 3 then (some false) else (some true))) else (some false)) else (some true)) = some true := by
  cases ok with
  | false => rfl
  | true =>
    obtain ⟨h1, h2, h3⟩ := h rfl
    have w1 : wrap64 (4 * e) = 4 * e := w64 (by omega) (by omega)
    have w2 : wrap64 (4 * e - b) = n := by rw [show 4 * e - b = n by clear w1; omega]; exact w64 (by clear w1; omega) (by clear w1; omega)
    rw [if_pos rfl, w1, w2, if_pos rfl, if_neg (by clear w1 w2; omega), if_neg (by clear w1 w2; omega)]
theorem j8_ok {n e b : Int} {ok : Bool} (h : forT n e ok b) (k : Nat) (hk : 1 ≤ k) : laws_FnFoldsPrint.j8 k n e ok b false = some true := by
  obtain ⟨k, rfl⟩ : ∃ m, k = m + 1 := ⟨k - 1, by omega⟩
  rw [laws_FnFoldsPrint.j8, if_neg (by decide)]
  exact for_end h
theorem j7_ok {s p n e b : Int} {okf : Bool} (h : forT n e okf b) (k : Nat) (hk : 2 ≤ k) (c : (1 ≤ s ∧ s ≤ 100) ∧ 1 ≤ p ∧ p ≤ 4 * s) : laws_FnFoldsPrint.j7 k s p (placeV s p).1 (placeV s p).2.1 (placeV s p).2.2 true (4 * s + 1 - p) n e okf b false = some true := by
  obtain ⟨k, rfl⟩ : ∃ m, k = m + 1 := ⟨k - 1, by omega⟩
  have pin := placeV_in (n := s) (p := p) (by omega) (by omega) (by omega)
  have e1 := (partner_ok (n := s) (p := 4 * s + 1 - p) (by omega)).1
  have e2 := (sideF_ok (n := s) (s := (placeV s p).1) (b := (placeV s p).2.1) c.1 pin).1
  obtain ⟨g1, g2, g3⟩ := placeV_side c
  have e3 : 4 * s + 1 - (4 * s + 1 - p) = p := by omega
  have tmp : Int.tmod p 2 = p % 2 := tm (by omega)
  have e4 : ((placeV s p).2.2 != ((Int.tmod p 2) == 1)) = false := by
    rw [tmp, g3]
    by_cases q : p % 2 = 1
    · rw [decide_eq_true q, q]; rfl
    · rw [decide_eq_false q, beq_eq_false_iff_ne.mpr q]; rfl
  have J := j8_ok h k (by omega)
  rw [laws_FnFoldsPrint.j7, if_neg (by decide), if_pos rfl, e1, Option.bind_some, e2, Option.bind_some]
  dsimp only
  rw [if_pos rfl, e3, if_pos rfl, if_pos rfl, e4]
  cases hv : (placeV s p).2.2 with
  | true => rw [if_pos rfl, if_pos (g1 hv)]; exact J
  | false => rw [if_neg (by decide), if_pos (g2 hv)]; exact J
theorem j7_no {s p n e b at_ pa : Int} {be sd okf : Bool} (h : forT n e okf b) (k : Nat) (hk : 1 ≤ k) : laws_FnFoldsPrint.j7 k s p at_ be sd false pa n e okf b false = some true := by
  obtain ⟨k, rfl⟩ : ∃ m, k = m + 1 := ⟨k - 1, by omega⟩
  rw [laws_FnFoldsPrint.j7, if_neg (by decide), if_neg (by decide)]
  exact for_end h
theorem for_any (n : Int) : ∃ e b ok, forT n e ok b ∧ impl_SheetsFor.f n = some (e, ok) ∧ spec_SheetsFor.f n = some (e, ok) ∧ impl_BlankPages.f n = some (b, ok) ∧ spec_BlankPages.f n = some (b, ok) := by
  by_cases h : 1 ≤ n ∧ n ≤ 2000
  · obtain ⟨a, b, c, d⟩ := for_ok h
    exact ⟨_, _, true, fun _ => ⟨h, rfl, rfl⟩, a, b, c, d⟩
  · obtain ⟨a, b, c, d⟩ := for_no h
    exact ⟨_, _, false, (fun q => by cases q), a, b, c, d⟩
theorem j6_ok {l : List Int} (hb : Bytes l) : Ev (fun k => laws_FnFoldsPrint.j6 k l) true := by
  obtain ⟨s, p, d1⟩ := drawPlace_ok hb
  obtain ⟨a, b, m, d2⟩ := drawPartners_ok hb
  obtain ⟨n, d3⟩ := drawFor_ok hb
  obtain ⟨⟨x, y⟩, q1, q2⟩ := ofpartners_any m a b
  obtain ⟨e, bl, okf, ht, f1, f2, f3, f4⟩ := for_any n
  refine ⟨1000, fun k hk => ?_⟩
  obtain ⟨k, rfl⟩ : ∃ t, k = t + 1 := ⟨k - 1, by omega⟩
  show laws_FnFoldsPrint.j6 (k + 1) l = some true
  rw [laws_FnFoldsPrint.j6, d1, Option.bind_some]
  dsimp only
  by_cases c : (1 ≤ s ∧ s ≤ 100) ∧ 1 ≤ p ∧ p ≤ 4 * s
  · have J := j7_ok ht k (by omega) c
    rw [place_impl c.1.1 c.1.2 c.2.1 c.2.2, Option.bind_some, place_spec c.1.1 c.1.2 c.2.1 c.2.2 k (by omega), Option.bind_some, (partner_ok c).1, Option.bind_some, (partner_ok c).2, Option.bind_some, d2, Option.bind_some]
    dsimp only
    rw [q1, Option.bind_some, q2 k (by omega), Option.bind_some, d3, Option.bind_some, f1, Option.bind_some, f2, Option.bind_some, f3, Option.bind_some, f4, Option.bind_some]
    dsimp only
    simp only [bne_self_eq_false, Bool.false_eq_true, if_false, if_true]
    exact J
  · have J := j7_no (s := s) (p := p) (at_ := 0) (pa := 0) (be := false) (sd := false) ht k (by omega)
    rw [(place_no c k).1, Option.bind_some, (place_no c k).2, Option.bind_some, (partner_no c).1, Option.bind_some, (partner_no c).2, Option.bind_some, d2, Option.bind_some]
    dsimp only
    rw [q1, Option.bind_some, q2 k (by omega), Option.bind_some, d3, Option.bind_some, f1, Option.bind_some, f2, Option.bind_some, f3, Option.bind_some, f4, Option.bind_some]
    dsimp only
    simp only [bne_self_eq_false, Bool.false_eq_true, if_false, if_true]
    exact J
theorem side_facts {n s : Int} {b : Bool} (h : 1 ≤ n ∧ n ≤ 100) (h2 : 1 ≤ s ∧ s ≤ n) :
    (1 ≤ (sideV n s b).1 ∧ (sideV n s b).1 ≤ 4 * n) ∧ (1 ≤ (sideV n s b).2 ∧ (sideV n s b).2 ≤ 4 * n) ∧ (sideV n s b).1 + (sideV n s b).2 = 4 * n + 1 ∧ (sideV n s b).1 % 2 = 0 ∧ (sideV n s b).2 % 2 = 1 ∧ placeV n (sideV n s b).1 = (s, b, false) ∧ placeV n (sideV n s b).2 = (s, b, true) := by
  cases b with
  | false =>
    have e : sideV n s false = (4 * n + 2 - 2 * s, 2 * s - 1) := rfl
    rw [e]
    dsimp only
    refine ⟨by omega, by omega, by omega, by omega, by omega, ?_, ?_⟩
    · unfold placeV
      rw [if_neg (by omega), if_pos (by omega)]
      exact Prod.ext (by show _ / 2 = s; omega) rfl
    · unfold placeV
      rw [if_pos (by omega), if_pos (by omega)]
      exact Prod.ext (by show _ / 2 = s; omega) rfl
  | true =>
    have e : sideV n s true = (2 * s, 4 * n + 1 - 2 * s) := rfl
    rw [e]
    dsimp only
    refine ⟨by omega, by omega, by omega, by omega, by omega, ?_, ?_⟩
    · unfold placeV
      rw [if_pos (by omega), if_neg (by omega)]
      exact Prod.ext (by show _ / 2 = s; omega) rfl
    · unfold placeV
      rw [if_neg (by omega), if_neg (by omega)]
      exact Prod.ext (by show _ / 2 = s; omega) rfl
theorem j5_ok {l : List Int} (hb : Bytes l) {n s : Int} {b : Bool} (h : 1 ≤ n ∧ n ≤ 100) (h2 : 1 ≤ s ∧ s ≤ n) : Ev (fun k => laws_FnFoldsPrint.j5 k l n (sideV n s b).1 (sideV n s b).2 (withV n s 1 (4 * n).toNat) false) true := by
  obtain ⟨K, hK⟩ := j6_ok hb
  obtain ⟨s1, s2, s3, s4, s5, s6, s7⟩ := side_facts (b := b) h h2
  have hlen := withV_len4 h.1 h2
  have hget := withV_get (n := n) (s := s) (4 * n).toNat 1
  generalize hw : withV n s 1 (4 * n).toNat = W at hlen hget
  have rises : ∀ j : Nat, j + 1 < W.length → rd W (j : Int) < rd W ((j + 1 : Nat) : Int) := by
    intro j hj
    rw [rd_nat, rd_nat]
    exact (hget (j + 1) hj).2 j (by omega)
  have no : ∀ x : Int, (placeV n x).1 = s → ∀ j : Nat, j < W.length → ¬ rd W (j : Int) = x := by
    intro x hx j hj e
    rw [rd_nat] at e
    have := (hget j hj).1.2.2
    rw [e] at this
    exact this hx
  refine ⟨K + 1000, fun k hk => ?_⟩
  obtain ⟨k, rfl⟩ : ∃ t, k = t + 1 := ⟨k - 1, by omega⟩
  have J : laws_FnFoldsPrint.j6 k l = some true := hK k (by omega)
  have w1 : wrap64 (4 * n) = 4 * n := w64 (by omega) (by omega)
  have w2 : wrap64 (4 * n - 4) = 4 * n - 4 := w64 (by clear w1; omega) (by clear w1; omega)
  show laws_FnFoldsPrint.j5 (k + 1) l n (sideV n s b).1 (sideV n s b).2 W false = some true
  rw [laws_FnFoldsPrint.j5, if_neg (by decide), w1, w2, if_pos hlen, rises_ok W (by clear w1 w2; omega) rises k (by clear w1 w2; omega), Option.bind_some, if_pos rfl,
    has_no W _ (by clear w1 w2; omega) (no _ (by rw [s6])) k (by clear w1 w2; omega), Option.bind_some, if_neg (by decide),
    has_no W _ (by clear w1 w2; omega) (no _ (by rw [s7])) k (by clear w1 w2; omega), Option.bind_some, if_neg (by decide)]
  exact J
theorem ordAt_0 (n : Int) (q : Nat) : ordAt n (4 * q) = 4 * n - 2 * (q : Int) := by
  unfold ordAt
  rw [if_pos (show 4 * q % 4 = 0 by omega), show 4 * q / 4 = q by omega]
theorem ordAt_1 (n : Int) (q : Nat) : ordAt n (4 * q + 1) = 2 * (q : Int) + 1 := by
  unfold ordAt
  rw [if_neg (show ¬ (4 * q + 1) % 4 = 0 by omega), if_pos (show (4 * q + 1) % 4 = 1 by omega), show (4 * q + 1) / 4 = q by omega]
theorem ordAt_2 (n : Int) (q : Nat) : ordAt n (4 * q + 2) = 2 * (q : Int) + 2 := by
  unfold ordAt
  rw [if_neg (show ¬ (4 * q + 2) % 4 = 0 by omega), if_neg (show ¬ (4 * q + 2) % 4 = 1 by omega), if_pos (show (4 * q + 2) % 4 = 2 by omega), show (4 * q + 2) / 4 = q by omega]
theorem ordAt_3 (n : Int) (q : Nat) : ordAt n (4 * q + 3) = 4 * n - 1 - 2 * (q : Int) := by
  unfold ordAt
  rw [if_neg (show ¬ (4 * q + 3) % 4 = 0 by omega), if_neg (show ¬ (4 * q + 3) % 4 = 1 by omega), if_neg (show ¬ (4 * q + 3) % 4 = 2 by omega), show (4 * q + 3) / 4 = q by omega]
theorem ord_at {n s : Int} {b : Bool} (h : 1 ≤ n ∧ n ≤ 100) (h2 : 1 ≤ s ∧ s ≤ n) : rd (ordV n 1 n.toNat) (if b = true then 4 * (s - 1) + 2 else 4 * (s - 1)) = (sideV n s b).1 ∧ rd (ordV n 1 n.toNat) ((if b = true then 4 * (s - 1) + 2 else 4 * (s - 1)) + 1) = (sideV n s b).2 := by
  obtain ⟨q, rfl⟩ : ∃ q : Nat, s = (q : Int) + 1 := ⟨(s - 1).toNat, by omega⟩
  cases b with
  | false =>
    rw [if_neg (by decide), show (4 : Int) * ((q : Int) + 1 - 1) = ((4 * q : Nat) : Int) by omega, show ((4 * q : Nat) : Int) + 1 = ((4 * q + 1 : Nat) : Int) by omega, ord_rd h.1 _ (by omega), ord_rd h.1 _ (by omega), ordAt_0, ordAt_1]
    exact ⟨by show _ = 4 * n + 2 - 2 * ((q : Int) + 1); omega, by show _ = 2 * ((q : Int) + 1) - 1; omega⟩
  | true =>
    rw [if_pos rfl, show (4 : Int) * ((q : Int) + 1 - 1) + 2 = ((4 * q + 2 : Nat) : Int) by omega, show ((4 * q + 2 : Nat) : Int) + 1 = ((4 * q + 3 : Nat) : Int) by omega, ord_rd h.1 _ (by omega), ord_rd h.1 _ (by omega), ordAt_2, ordAt_3]
    exact ⟨by show _ = 2 * ((q : Int) + 1); omega, by show _ = 4 * n + 1 - 2 * ((q : Int) + 1); omega⟩
theorem ord_len {n : Int} (h : 1 ≤ n ∧ n ≤ 100) : ((ordV n 1 n.toNat).length : Int) = 4 * n := by
  rw [ordV_length]
  omega
theorem j4_ok {l : List Int} (hb : Bytes l) {n s : Int} {b : Bool} (h : 1 ≤ n ∧ n ≤ 100) (h2 : 1 ≤ s ∧ s ≤ n) :
    Ev (fun k => laws_FnFoldsPrint.j4 k l n s b (sideV n s b).1 (sideV n s b).2 (ordV n 1 n.toNat) (withV n s 1 (4 * n).toNat) s b false true s b true true (sideV n s b).2 true s true (if b = true then 4 * (s - 1) + 2 else 4 * (s - 1))) true := by
  obtain ⟨K, hK⟩ := j5_ok hb (b := b) h h2
  obtain ⟨s1, s2, s3, s4, s5, s6, s7⟩ := side_facts (b := b) h h2
  obtain ⟨o1, o2⟩ := ord_at (b := b) h h2
  have ol := ord_len h
  have hat : 0 ≤ (if b = true then 4 * (s - 1) + 2 else 4 * (s - 1)) ∧ (if b = true then 4 * (s - 1) + 2 else 4 * (s - 1)) + 1 < 4 * n := by split <;> omega
  refine ⟨K + 10, fun k hk => ?_⟩
  obtain ⟨k, rfl⟩ : ∃ t, k = t + 1 := ⟨k - 1, by omega⟩
  have J : laws_FnFoldsPrint.j5 k l n (sideV n s b).1 (sideV n s b).2 (withV n s 1 (4 * n).toNat) false = some true := hK k (by omega)
  have t1 : Int.tmod (sideV n s b).1 2 = 0 := by rw [tm (by omega)]; exact s4
  have t2 : Int.tmod (sideV n s b).2 2 = 1 := by rw [tm (by omega)]; exact s5
  show laws_FnFoldsPrint.j4 (k + 1) l n s b (sideV n s b).1 (sideV n s b).2 (ordV n 1 n.toNat) (withV n s 1 (4 * n).toNat) s b false true s b true true (sideV n s b).2 true s true (if b = true then 4 * (s - 1) + 2 else 4 * (s - 1)) = some true
  generalize (if b = true then 4 * (s - 1) + 2 else 4 * (s - 1)) = at_ at o1 o2 hat
  generalize ordV n 1 n.toNat = O at o1 o2 ol
  have w1 : wrap64 (at_ + 1) = at_ + 1 := w64 (by omega) (by omega)
  rw [laws_FnFoldsPrint.j4, if_pos t1, if_pos t2, if_pos rfl, if_pos rfl, bne_self_eq_false, if_neg (by decide), if_neg (by decide), if_pos rfl, if_pos rfl, if_neg (by decide), if_pos rfl, if_pos rfl, if_pos rfl, if_pos rfl, if_pos rfl,
    if_pos hat.1, if_pos (by clear w1; omega), if_pos o1, w1, if_pos (by clear w1; omega), if_pos (by clear w1; omega), o2, bne_self_eq_false]
  exact J
theorem j3_ok {l : List Int} (hb : Bytes l) {n s lo hi : Int} {b ok : Bool} {O W : List Int} (h : ok = true → (1 ≤ n ∧ n ≤ 100) ∧ (1 ≤ s ∧ s ≤ n) ∧ lo = (sideV n s b).1 ∧ hi = (sideV n s b).2 ∧ O = ordV n 1 n.toNat ∧ W = withV n s 1 (4 * n).toNat) :
    Ev (fun k => laws_FnFoldsPrint.j3 k l n s b lo hi ok O W) true := by
  cases ok with
  | false =>
    obtain ⟨K, hK⟩ := j6_ok hb
    refine ⟨K + 1, fun k hk => ?_⟩
    obtain ⟨k, rfl⟩ : ∃ t, k = t + 1 := ⟨k - 1, by omega⟩
    show laws_FnFoldsPrint.j3 (k + 1) l n s b lo hi false O W = some true
    rw [laws_FnFoldsPrint.j3, if_neg (by decide)]
    exact hK k (by omega)
  | true =>
    obtain ⟨h1, h2, rfl, rfl, rfl, rfl⟩ := h rfl
    obtain ⟨K, hK⟩ := j4_ok hb (b := b) h1 h2
    obtain ⟨s1, s2, s3, s4, s5, s6, s7⟩ := side_facts (b := b) h1 h2
    refine ⟨K + 500, fun k hk => ?_⟩
    obtain ⟨k, rfl⟩ : ∃ t, k = t + 1 := ⟨k - 1, by omega⟩
    have J := hK k (by omega)
    have pl := place_impl h1.1 h1.2 s1.1 s1.2
    have pr := place_impl h1.1 h1.2 s2.1 s2.2
    have pa := (partner_ok (n := n) (p := (sideV n s b).1) ⟨h1, s1⟩).1
    have po := (ofpartners_ok (n := n) (a := (sideV n s b).1) (b := (sideV n s b).2) ⟨h1, s1⟩ s3 404 (by decide)).1
    rw [s6] at pl po
    rw [s7] at pr
    rw [show 4 * n + 1 - (sideV n s b).1 = (sideV n s b).2 by omega] at pa
    have w1 : wrap64 (s - 1) = s - 1 := w64 (by omega) (by omega)
    have w2 : wrap64 (4 * (s - 1)) = 4 * (s - 1) := w64 (by clear w1; omega) (by clear w1; omega)
    have w3 : wrap64 (4 * (s - 1) + 2) = 4 * (s - 1) + 2 := w64 (by clear w1 w2; omega) (by clear w1 w2; omega)
    show laws_FnFoldsPrint.j3 (k + 1) l n s b (sideV n s b).1 (sideV n s b).2 true (ordV n 1 n.toNat) (withV n s 1 (4 * n).toNat) = some true
    rw [laws_FnFoldsPrint.j3, if_pos rfl, pl, Option.bind_some, pr, Option.bind_some, pa, Option.bind_some, po, Option.bind_some]
    dsimp only at J ⊢
    rw [w1, w2, w3]
    cases b with
    | true => rw [if_pos rfl] at J ⊢; exact J
    | false => rw [if_neg (by decide)] at J ⊢; exact J
theorem l0_ok {l : List Int} {n s lo hi : Int} {b ok : Bool} {W : List Int} (h : 1 ≤ n ∧ n ≤ 100) {K : Nat} (hK : ∀ k, K ≤ k → laws_FnFoldsPrint.j3 k l n s b lo hi ok (ordV n 1 n.toNat) W = some true) (d : Nat) :
    ∀ i : Nat, (i : Int) + d = 4 * n → ∀ k, K + 500 + d < k → laws_FnFoldsPrint.l0 k l n s b lo hi ok (ordV n 1 n.toNat) W (ordV n 1 n.toNat) (4 * n) (i : Int) = some true := by
  have ol := ord_len h
  induction d with
  | zero =>
    intro i hi k hk
    obtain ⟨k, rfl⟩ : ∃ t, k = t + 1 := ⟨k - 1, by omega⟩
    rw [laws_FnFoldsPrint.l0, if_neg (by omega)]
    exact hK k (by omega)
  | succ d ih =>
    intro i hi k hk
    obtain ⟨k, rfl⟩ : ∃ t, k = t + 1 := ⟨k - 1, by omega⟩
    have J := ih (i + 1) (by omega) k (by omega)
    have hi4 : (i : Int) < 4 * n := by omega
    have o1 := ord_rd h.1 i hi4
    have ob := ordAt_bd h.1 i hi4
    have w1 : wrap64 (4 * n) = 4 * n := w64 (by omega) (by omega)
    have w2 : wrap64 (4 * n + 1) = 4 * n + 1 := w64 (by clear w1; omega) (by clear w1; omega)
    have w3 : wrap64 ((i : Int) + 1) = ((i + 1 : Nat) : Int) := by rw [show (i : Int) + 1 = ((i + 1 : Nat) : Int) by omega]; exact w64 (by clear w1 w2; omega) (by clear w1 w2; omega)
    have hn : laws_fHas.f k ((ordV n 1 n.toNat).take i) (ordAt n i) = some false := by
      clear w1 w2 w3
      have tl : ((ordV n 1 n.toNat).take i).length = i := by rw [List.length_take]; omega
      refine has_no _ _ (by omega) (fun j hj => ?_) k (by omega)
      rw [tl] at hj
      rw [rd_nat, take_getD _ _ _ hj, ← rd_nat, ord_rd h.1 j (by omega)]
      intro e
      have := ordAt_inj h.1 j i (by omega) hi4 e
      omega
    rw [laws_FnFoldsPrint.l0, if_pos hi4, if_pos (by clear w1 w2 w3; omega), ol, if_pos hi4, o1, if_neg (by clear w1 w2 w3; omega), w1, if_neg (by clear w1 w2 w3; omega), if_pos (by clear w1 w2 w3; omega), Int.toNat_natCast, hn, Option.bind_some, if_neg (by decide), w2, w3]
    have t : Int.tmod (i : Int) 2 = ((i % 2 : Nat) : Int) := by rw [tm (by clear w1 w2 w3; omega)]; clear w1 w2 w3; omega
    rw [t]
    by_cases c : i % 2 = 1
    · have o2 := ordAt_odd (n := n) i c
      have w4 : wrap64 ((i : Int) - 1) = ((i - 1 : Nat) : Int) := by rw [show (i : Int) - 1 = ((i - 1 : Nat) : Int) by clear w1 w2 w3; omega]; exact w64 (by clear w1 w2 w3; omega) (by clear w1 w2 w3; omega)
      have w5 : wrap64 (ordAt n (i - 1) + ordAt n i) = 4 * n + 1 := by rw [o2]; exact w2
      rw [if_pos (by clear w1 w2 w3 w4 w5; omega), w4, if_pos (by clear w1 w2 w3 w4 w5; omega), if_pos (by clear w1 w2 w3 w4 w5; omega), ord_rd h.1 (i - 1) (by clear w1 w2 w3 w4 w5; omega), w5, if_pos rfl]
      exact J
    · rw [if_neg (by clear w1 w2 w3; omega)]
      exact J
theorem j0_no {l : List Int} (hb : Bytes l) {n s lo hi m1 m2 : Int} {b : Bool} {O W : List Int} : Ev (fun k => laws_FnFoldsPrint.j0 k l n s b lo hi false O false m1 m2 W false) true := by
  obtain ⟨K, hK⟩ := j3_ok hb (n := n) (s := s) (lo := lo) (hi := hi) (b := b) (ok := false) (O := O) (W := W) (fun q => by cases q)
  refine ⟨K + 1, fun k hk => ?_⟩
  obtain ⟨k, rfl⟩ : ∃ t, k = t + 1 := ⟨k - 1, by omega⟩
  show laws_FnFoldsPrint.j0 (k + 1) l n s b lo hi false O false m1 m2 W false = some true
  rw [laws_FnFoldsPrint.j0, if_neg (by decide), if_neg (by decide)]
  exact hK k (by omega)
theorem j0_ok {l : List Int} (hb : Bytes l) {n s lo hi : Int} {b ok : Bool} {W : List Int} (h : 1 ≤ n ∧ n ≤ 100) (h3 : ok = true → (1 ≤ s ∧ s ≤ n) ∧ lo = (sideV n s b).1 ∧ hi = (sideV n s b).2 ∧ W = withV n s 1 (4 * n).toNat) :
    Ev (fun k => laws_FnFoldsPrint.j0 k l n s b lo hi ok (ordV n 1 n.toNat) true (2 * n) (2 * n + 1) W false) true := by
  obtain ⟨K, hK⟩ := j3_ok hb (n := n) (s := s) (lo := lo) (hi := hi) (b := b) (ok := ok) (O := ordV n 1 n.toNat) (W := W) (fun q => ⟨h, (h3 q).1, (h3 q).2.1, (h3 q).2.2.1, rfl, (h3 q).2.2.2⟩)
  have hL := l0_ok h hK (4 * n).toNat 0 (by omega)
  have ol := ord_len h
  refine ⟨K + 1000, fun k hk => ?_⟩
  obtain ⟨k, rfl⟩ : ∃ t, k = t + 2 := ⟨k - 2, by omega⟩
  have J := hL k (by omega)
  have w1 : wrap64 (4 * n) = 4 * n := w64 (by omega) (by omega)
  have w2 : wrap64 (2 * n) = 2 * n := w64 (by clear w1; omega) (by clear w1; omega)
  have w3 : wrap64 (2 * n + 1) = 2 * n + 1 := w64 (by clear w1 w2; omega) (by clear w1 w2; omega)
  show laws_FnFoldsPrint.j0 (k + 2) l n s b lo hi ok (ordV n 1 n.toNat) true (2 * n) (2 * n + 1) W false = some true
  rw [laws_FnFoldsPrint.j0, if_neg (by decide), if_pos rfl, w1, if_pos ol, w3, if_pos rfl, w2, bne_self_eq_false, laws_FnFoldsPrint.j1, if_neg (by decide), ol]
  exact J

/-- YOURS: ∀ (l0 : List Int) (l1 : List Int), l0.length ≤ maxLen → l0.length * 1 ≤ 140737488351232 → (∀ x ∈ l0, (Lit.int .u8 x).wf = true) → l1.length ≤ maxLen → l1.length * 1 ≤ 140737488351232 → (∀ x ∈ l1, (Lit.int .u8 x).wf = true) → ∃ k, laws_FnFoldsPrint.f k l0 l1 = some true
What it reaches (each with k first where it has rounds; `.mono`: more rounds tell the same; `.l0`, ..: its loops, with `.mono_l`): laws_big.f, laws_fSame.f, laws_fRises.f, spec_l1Cur_next.f, spec_l1Cur_pick.f, spec_l1Least.f, spec_l1Most.f, spec_l1Cur_among.f, spec_l1Cur_one.f, spec_l1Cur_sheets.f, spec_DrawSideOfSheet.f, impl_within.f, impl_isSheets.f, impl_side.f, impl_SideOfSheet.f, spec_l1In.f, spec_foSheets.f, spec_foSide.f, spec_SideOfSheet.f, impl_pagesOfSheet.f, impl_PrintOrder.f, spec_PrintOrder.f, impl_MiddlePages.f, spec_MiddlePages.f, slices_Index_int_int.f, slices_Contains_int_int.f, impl_PagesWithout.f, spec_foPage.f, spec_PlaceOfPage.f, spec_PagesWithout.f, laws_fHas.f, impl_isPageOf.f, impl_PlaceOfPage.f, impl_PartnerPage.f, impl_SheetOfPartners.f, spec_DrawPlaceOfPage.f, spec_PartnerPage.f, spec_DrawSheetOfPartners.f, spec_SheetOfPartners.f, spec_l1Cur_bookSize.f, spec_DrawSheetsFor.f, impl_isBook.f, impl_SheetsFor.f, spec_foBook.f, spec_SheetsFor.f, impl_BlankPages.f, spec_BlankPages.f, laws_FnFoldsPrint.f -/
theorem FnFoldsPrint : laws_FnFoldsPrint.Pure := by
  intro l0 l1 _ _ h0 _ _ h1
  have hb0 := bytes_of h0
  have hb1 := bytes_of h1
  obtain ⟨bg, hbg⟩ := big_ok (a := l0) (b := l1)
  cases bg with
  | true => exact ⟨0, by unfold laws_FnFoldsPrint.f; rw [hbg, Option.bind_some, if_pos rfl]⟩
  | false =>
    obtain ⟨n, s, b, d⟩ := drawSide_ok hb0
    by_cases c : 1 ≤ n ∧ n ≤ 100
    · have e1 := mid_ok c
      by_cases c2 : 1 ≤ s ∧ s ≤ n
      · have e2 := sideF_ok (b := b) c c2
        obtain ⟨K, hK⟩ := j0_ok hb1 (n := n) (s := s) (lo := (sideV n s b).1) (hi := (sideV n s b).2) (b := b) (ok := true) (W := withV n s 1 (4 * n).toNat) c (fun _ => ⟨c2, rfl, rfl, rfl⟩)
        refine ⟨K + 2000, ?_⟩
        have J : laws_FnFoldsPrint.j0 (K + 2000) l1 n s b (sideV n s b).1 (sideV n s b).2 true (ordV n 1 n.toNat) true (2 * n) (2 * n + 1) (withV n s 1 (4 * n).toNat) false = some true := hK (K + 2000) (by omega)
        have hl1 := ord_len c
        have hl2 := withV_len4 c.1 c2
        unfold laws_FnFoldsPrint.f
        rw [hbg, Option.bind_some, if_neg (by decide), d, Option.bind_some]
        dsimp only
        rw [e2.1, Option.bind_some, e2.2, Option.bind_some, order_impl c.1 c.2 _ (by omega), Option.bind_some, order_spec c.1 c.2 _ (by omega), Option.bind_some, e1.1, Option.bind_some, e1.2, Option.bind_some, without_impl c.1 c.2 c2.1 c2.2 _ (by omega), Option.bind_some, without_spec c.1 c.2 c2.1 c2.2 _ (by omega), Option.bind_some]
        dsimp only
        rw [same_self (ordV n 1 n.toNat) (by omega) _ (by omega), same_self (withV n s 1 (4 * n).toNat) (by omega) _ (by omega)]
        simp only [Option.bind_some, bne_self_eq_false, Bool.false_eq_true, if_false, if_true, Bool.not_true]
        exact J
      · have e2 := sideF_no (b := b) (n := n) (s := s) (fun q => c2 q.2)
        obtain ⟨K, hK⟩ := j0_ok hb1 (n := n) (s := s) (lo := 0) (hi := 0) (b := b) (ok := false) (W := []) c (fun q => by cases q)
        refine ⟨K + 2000, ?_⟩
        have J : laws_FnFoldsPrint.j0 (K + 2000) l1 n s b 0 0 false (ordV n 1 n.toNat) true (2 * n) (2 * n + 1) [] false = some true := hK (K + 2000) (by omega)
        have hl1 := ord_len c
        have e3 := without_no (n := n) (s := s) (fun q => c2 q.2) (K + 2000) (by omega)
        unfold laws_FnFoldsPrint.f
        rw [hbg, Option.bind_some, if_neg (by decide), d, Option.bind_some]
        dsimp only
        rw [e2.1, Option.bind_some, e2.2, Option.bind_some, order_impl c.1 c.2 _ (by omega), Option.bind_some, order_spec c.1 c.2 _ (by omega), Option.bind_some, e1.1, Option.bind_some, e1.2, Option.bind_some, e3.1, Option.bind_some, e3.2, Option.bind_some]
        dsimp only
        rw [same_self (ordV n 1 n.toNat) (by omega) _ (by omega), same_self [] (by decide) _ (by simp)]
        simp only [Option.bind_some, bne_self_eq_false, Bool.false_eq_true, if_false, if_true, Bool.not_true]
        exact J
    · have e1 := mid_no c
      have e2 := sideF_no (b := b) (n := n) (s := s) (fun q => c q.1)
      obtain ⟨K, hK⟩ := j0_no hb1 (n := n) (s := s) (lo := 0) (hi := 0) (m1 := 0) (m2 := 0) (b := b) (O := []) (W := [])
      refine ⟨K + 2000, ?_⟩
      have J : laws_FnFoldsPrint.j0 (K + 2000) l1 n s b 0 0 false [] false 0 0 [] false = some true := hK (K + 2000) (by omega)
      have e3 := without_no (n := n) (s := s) (fun q => c q.1) (K + 2000) (by omega)
      have e4 := order_no c (K + 2000)
      unfold laws_FnFoldsPrint.f
      rw [hbg, Option.bind_some, if_neg (by decide), d, Option.bind_some]
      dsimp only
      rw [e2.1, Option.bind_some, e2.2, Option.bind_some, e4.1, Option.bind_some, e4.2, Option.bind_some, e1.1, Option.bind_some, e1.2, Option.bind_some, e3.1, Option.bind_some, e3.2, Option.bind_some]
      dsimp only
      rw [same_self [] (by decide) _ (by simp)]
      simp only [Option.bind_some, bne_self_eq_false, Bool.false_eq_true, if_false, if_true, Bool.not_true]
      exact J

end Go.Proofs.Ytjkfgeigicljpaa.Pure
