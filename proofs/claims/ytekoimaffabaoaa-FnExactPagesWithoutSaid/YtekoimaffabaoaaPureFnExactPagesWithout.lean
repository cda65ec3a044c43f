/- The program's PagesWithout returns what the reference's PagesWithout returns: the plain statement, over numbers and lists, for all arguments; each number of its Go kind, each string and slice within the reader's bounds. -/
import Derived.Test.YtekoimaffabaoaaPFnExactPagesWithoutx3
namespace Go.Proofs.Ytekoimaffabaoaa.Pure
open Go.RowKit Go.Proofs.Ytekoimaffabaoaa.PFnExactPagesWithout Go.Proofs.YtekoimaffabaoaaW.PrintWords Go.Proofs.YtekoimaffabaoaaW.PrintLast
set_option linter.unusedVariables false
set_option linter.unusedSimpArgs false

theorem w64 {x : Int} (h0 : -9223372036854775808 ≤ x) (h1 : x ≤ 9223372036854775807) : wrap64 x = x := by unfold wrap64; omega
theorem td {a b : Int} (h : 0 ≤ a) : Int.tdiv a b = a / b := Int.tdiv_eq_ediv_of_nonneg h
theorem tm {a b : Int} (h : 0 ≤ a) : Int.tmod a b = a % b := Int.tmod_eq_emod_of_nonneg h
theorem wf64 {n : Int} (h : (Lit.int .i64 n).wf = true) : -9223372036854775808 ≤ n ∧ n ≤ 9223372036854775807 := by
  simp [Lit.wf, IntKind.min, IntKind.max, IntKind.signed, IntKind.bits] at h
  omega
theorem eq_loop (l : List Int) (hl : l.length ≤ 1000000) (d : Nat) : ∀ (x : Int), 0 ≤ x → x + d = l.length → ∀ k, d < k → laws_eqIntS.l0 k l l x = some true := by
  induction d with
  | zero =>
    intro x h0 hd k hk
    obtain ⟨k, rfl⟩ : ∃ m, k = m + 1 := ⟨k - 1, by omega⟩
    simp only [laws_eqIntS.l0]
    rw [if_neg (show ¬ x < (l.length : Int) by omega)]
  | succ d ih =>
    intro x h0 hd k hk
    obtain ⟨k, rfl⟩ : ∃ m, k = m + 1 := ⟨k - 1, by omega⟩
    have hx : x < (l.length : Int) := by omega
    rw [laws_eqIntS.l0, if_pos hx, if_pos h0, if_pos hx, if_pos rfl, w64 (x := x + 1) (by omega) (by omega)]
    exact ih (x + 1) (by omega) (by omega) k (by omega)
theorem eq_self (l : List Int) (hl : l.length ≤ 1000000) (k : Nat) (hk : l.length < k) : laws_eqIntS.f k l l = some true := by
  unfold laws_eqIntS.f
  rw [if_pos rfl]
  exact eq_loop l hl l.length 0 (by omega) (by omega) k hk
theorem mark_loop (d : Nat) : ∀ (l : List Int) (x v : Int), l.length ≤ 1000000 → 0 ≤ x → x + d = l.length → 0 ≤ v → v + d ≤ 1000001 →
    ∃ l' : List Int, (∀ k, d < k → laws_markIntS.l0 k l v x = some (v + d, l')) ∧ l'.length = l.length ∧
      ∀ i : Nat, ((i : Int) < x → l'.getD i 0 = l.getD i 0) ∧ (x ≤ i → i < l.length → l'.getD i 0 = v + (i - x)) := by
  induction d with
  | zero =>
    intro l x v hl h0 hd h1 h2
    refine ⟨l, fun k hk => ?_, rfl, fun i => ⟨fun _ => rfl, fun h3 h4 => by omega⟩⟩
    obtain ⟨k, rfl⟩ : ∃ m, k = m + 1 := ⟨k - 1, by omega⟩
    simp only [laws_markIntS.l0]
    rw [if_neg (show ¬ x < (l.length : Int) by omega)]
    simp
  | succ d ih =>
    intro l x v hl h0 hd h1 h2
    obtain ⟨l', hk', hlen, hg⟩ := ih (l.set x.toNat v) (x + 1) (v + 1) (by simpa using hl) (by omega) (by simp; omega) (by omega) (by omega)
    rw [List.length_set] at hlen hg
    refine ⟨l', fun k hk => ?_, hlen, fun i => ?_⟩
    · obtain ⟨k, rfl⟩ : ∃ m, k = m + 1 := ⟨k - 1, by omega⟩
      simp only [laws_markIntS.l0]
      rw [if_pos (show x < (l.length : Int) by omega), if_pos h0, w64 (x := v + 1) (by omega) (by omega), w64 (x := x + 1) (by omega) (by omega), hk' k (by omega)]
      have e : v + 1 + (d : Int) = v + ((d + 1 : Nat) : Int) := by omega
      rw [e]
    · obtain ⟨g1, g2⟩ := hg i
      refine ⟨fun h => ?_, fun h3 h4 => ?_⟩
      · rw [g1 (by omega)]
        rw [List.getD_eq_getElem?_getD, List.getD_eq_getElem?_getD, List.getElem?_set_ne (by omega)]
      · by_cases e : (i : Int) = x
        · rw [g1 (by omega)]
          have : x.toNat = i := by omega
          rw [this, List.getD_eq_getElem?_getD, List.getElem?_set_self h4, Option.getD_some]
          omega
        · rw [g2 (by omega) h4]; omega
theorem held_loop (l : List Int) (hl : l.length ≤ 1000000) (d : Nat) : ∀ (x v : Int), 0 ≤ x → x + d = l.length → 0 ≤ v → v + d ≤ 1000001 →
    (∀ i : Nat, x ≤ i → i < l.length → l.getD i 0 = v + (i - x)) → ∀ k, d < k → laws_heldIntS.l0 k l v x = some (v + d) := by
  induction d with
  | zero =>
    intro x v h0 hd h1 h2 hg k hk
    obtain ⟨k, rfl⟩ : ∃ m, k = m + 1 := ⟨k - 1, by omega⟩
    simp only [laws_heldIntS.l0]
    rw [if_neg (show ¬ x < (l.length : Int) by omega)]
    simp
  | succ d ih =>
    intro x v h0 hd h1 h2 hg k hk
    obtain ⟨k, rfl⟩ : ∃ m, k = m + 1 := ⟨k - 1, by omega⟩
    simp only [laws_heldIntS.l0]
    have e : rd l x = v := by
      unfold rd
      rw [hg x.toNat (by omega) (by omega)]; omega
    rw [if_pos (show x < (l.length : Int) by omega), if_pos h0, if_pos e, w64 (x := v + 1) (by omega) (by omega), w64 (x := x + 1) (by omega) (by omega),
      ih (x + 1) (v + 1) (by omega) (by omega) (by omega) (by omega) (fun i h3 h4 => by rw [hg i (by omega) h4]; omega) k (by omega)]
    have e : v + 1 + (d : Int) = v + ((d + 1 : Nat) : Int) := by omega
    rw [e]
theorem marks (l : List Int) (hl : l.length ≤ 1000000) : ∃ l' : List Int, ∀ k, l.length < k → laws_markIntS.f k l 1 = some (1 + (l.length : Int), l') ∧ laws_heldIntS.f k l' 1 = some (1 + (l.length : Int)) := by
  obtain ⟨l', hm, hlen, hg⟩ := mark_loop l.length l 0 1 hl (by omega) (by omega) (by omega) (by omega)
  refine ⟨l', fun k hk => ⟨hm k hk, ?_⟩⟩
  unfold laws_heldIntS.f
  exact held_loop l' (by omega) l.length 0 1 (by omega) (by omega) (by omega) (by omega) (fun i h3 h4 => (hg i).2 h3 (by omega)) k hk
theorem in_spec (a b c : Int) : spec_l1In.f a b c = some (decide (b ≤ a ∧ a ≤ c)) := by
  unfold spec_l1In.f; by_cases h : b ≤ a <;> simp [h]
theorem in_impl (a b c : Int) : impl_within.f a b c = some (decide (b ≤ a ∧ a ≤ c)) := by
  unfold impl_within.f; by_cases h : b ≤ a <;> simp [h]
theorem sheets_spec (a : Int) : spec_foSheets.f a = some (decide (1 ≤ a ∧ a ≤ 100)) := by simp [spec_foSheets.f, in_spec]
theorem page_spec (n p : Int) : spec_foPage.f n p = some (decide ((1 ≤ n ∧ n ≤ 100) ∧ 1 ≤ p ∧ p ≤ 4 * n)) := by
  unfold spec_foPage.f
  rw [sheets_spec]
  by_cases h : 1 ≤ n ∧ n ≤ 100
  · rw [w64 (x := 4 * n) (by omega) (by omega), in_spec]; simp [h]
  · simp [h]
/-- Both pages of a side. -/
def sideV (n s : Int) (back : Bool) : Int × Int := if back = true then (2 * s, 4 * n + 1 - 2 * s) else (4 * n + 2 - 2 * s, 2 * s - 1)
theorem side_spec {n s : Int} {back : Bool} (h0 : 1 ≤ n) (h1 : n ≤ 100) (h2 : 1 ≤ s) (h3 : s ≤ n) : spec_foSide.f n s back = some (sideV n s back) := by
  unfold spec_foSide.f sideV
  rw [w64 (x := 2 * s) (by omega) (by omega), w64 (x := 4 * n) (by omega) (by omega), w64 (x := 4 * n + 1) (by omega) (by omega), w64 (x := 4 * n + 2) (by omega) (by omega), w64 (by omega) (by omega), w64 (by omega) (by omega), w64 (by omega) (by omega)]
  cases back <;> simp
/-- The sheet of a page, whether on its back, and whether on its right side. -/
def placeV (n p : Int) : Int × Bool × Bool :=
  if p ≤ 2 * n then (if p % 2 = 1 then ((p + 1) / 2, false, true) else (p / 2, true, false))
  else (if p % 2 = 0 then ((4 * n + 2 - p) / 2, false, false) else ((4 * n + 1 - p) / 2, true, true))
theorem place_l1 {n p x : Int} (h0 : 1 ≤ n) (h1 : n ≤ 100) (h2 : 1 ≤ p) (h3 : p ≤ 4 * n) (h4 : 1 ≤ x) (h5 : x ≤ n) (k : Nat) :
    spec_PlaceOfPage.l1 (k + 3) n p x [false, true] 2 0 = if (placeV n p).1 = x then some ((placeV n p).1, (placeV n p).2.1, (placeV n p).2.2, true) else spec_PlaceOfPage.l0 k n p (x + 1) := by
  have r0 : rdOf false [false, true] 0 = false := rfl
  have r1 : rdOf false [false, true] 1 = true := rfl
  have l2 : (([false, true] : List Bool).length : Int) = 2 := rfl
  rw [spec_PlaceOfPage.l1, if_pos (by decide), if_pos (by decide), l2, if_pos (by decide), r0, side_spec h0 h1 h4 h5]
  simp only [Option.bind_some]
  rw [show sideV n x false = (4 * n + 2 - 2 * x, 2 * x - 1) from rfl]
  by_cases c1 : 4 * n + 2 - 2 * x = p
  · have e : placeV n p = (x, false, false) := by
      unfold placeV
      rw [if_neg (by omega), if_pos (by omega)]
      exact Prod.ext (by show _ / 2 = x; omega) rfl
    rw [if_pos c1, e, if_pos rfl]
    have : (2 * x - 1 == p) = false := by rw [beq_eq_false_iff_ne]; omega
    simp only [this]
  · rw [if_neg c1]
    by_cases c2 : 2 * x - 1 = p
    · have e : placeV n p = (x, false, true) := by
        unfold placeV
        rw [if_pos (by omega), if_pos (by omega)]
        exact Prod.ext (by show _ / 2 = x; omega) rfl
      rw [if_pos c2, e, if_pos rfl]
      have : (2 * x - 1 == p) = true := by rw [beq_iff_eq]; omega
      simp only [this]
    · rw [if_neg c2, w64 (x := 0 + 1) (by decide) (by decide)]
      rw [spec_PlaceOfPage.l1, if_pos (by decide), if_pos (by decide), l2, if_pos (by decide), show (0 : Int) + 1 = 1 from rfl, r1, side_spec h0 h1 h4 h5]
      simp only [Option.bind_some]
      rw [show sideV n x true = (2 * x, 4 * n + 1 - 2 * x) from rfl]
      by_cases c3 : 2 * x = p
      · have e : placeV n p = (x, true, false) := by
          unfold placeV
          rw [if_pos (by omega), if_neg (by omega)]
          exact Prod.ext (by show _ / 2 = x; omega) rfl
        rw [if_pos c3, e, if_pos rfl]
        have : (4 * n + 1 - 2 * x == p) = false := by rw [beq_eq_false_iff_ne]; omega
        simp only [this]
      · rw [if_neg c3]
        by_cases c4 : 4 * n + 1 - 2 * x = p
        · have e : placeV n p = (x, true, true) := by
            unfold placeV
            rw [if_neg (by omega), if_neg (by omega)]
            exact Prod.ext (by show _ / 2 = x; omega) rfl
          rw [if_pos c4, e, if_pos rfl]
          have : (4 * n + 1 - 2 * x == p) = true := by rw [beq_iff_eq]; omega
          simp only [this]
        · have e : ¬ (placeV n p).1 = x := by
            unfold placeV
            split <;> split <;> simp only <;> omega
          rw [if_neg c4, if_neg e, w64 (x := 1 + 1) (by decide) (by decide), spec_PlaceOfPage.l1, if_neg (by decide), w64 (x := x + 1) (by omega) (by omega)]
theorem placeV_in {n p : Int} (h0 : 1 ≤ n) (h2 : 1 ≤ p) (h3 : p ≤ 4 * n) : 1 ≤ (placeV n p).1 ∧ (placeV n p).1 ≤ n := by
  unfold placeV
  split <;> split <;> simp only <;> omega
theorem place_l0 {n p : Int} (h0 : 1 ≤ n) (h1 : n ≤ 100) (h2 : 1 ≤ p) (h3 : p ≤ 4 * n) (d : Nat) : ∀ x : Int, 1 ≤ x → x + d = (placeV n p).1 → ∀ k, 4 * d + 4 ≤ k →
    spec_PlaceOfPage.l0 k n p x = some ((placeV n p).1, (placeV n p).2.1, (placeV n p).2.2, true) := by
  have hp := placeV_in h0 h2 h3
  induction d with
  | zero =>
    intro x h4 h5 k hk
    obtain ⟨k, rfl⟩ : ∃ m, k = m + 4 := ⟨k - 4, by omega⟩
    rw [spec_PlaceOfPage.l0, if_pos (by omega)]
    simp only [Option.bind_some]
    rw [show (([false, true] : List Bool).length : Int) = 2 from rfl, place_l1 h0 h1 h2 h3 h4 (by omega), if_pos (by omega)]
  | succ d ih =>
    intro x h4 h5 k hk
    obtain ⟨k, rfl⟩ : ∃ m, k = m + 4 := ⟨k - 4, by omega⟩
    rw [spec_PlaceOfPage.l0, if_pos (by omega)]
    simp only [Option.bind_some]
    rw [show (([false, true] : List Bool).length : Int) = 2 from rfl, place_l1 h0 h1 h2 h3 h4 (by omega), if_neg (by omega)]
    exact ih (x + 1) (by omega) (by omega) k (by omega)
theorem place_spec {n p : Int} (h0 : 1 ≤ n) (h1 : n ≤ 100) (h2 : 1 ≤ p) (h3 : p ≤ 4 * n) (k : Nat) (hk : 404 ≤ k) :
    spec_PlaceOfPage.f k n p = some ((placeV n p).1, (placeV n p).2.1, (placeV n p).2.2, true) := by
  have hb : (1 ≤ n ∧ n ≤ 100) ∧ 1 ≤ p ∧ p ≤ 4 * n := ⟨⟨h0, h1⟩, h2, h3⟩
  have hp := placeV_in h0 h2 h3
  unfold spec_PlaceOfPage.f
  rw [page_spec, decide_eq_true hb]
  simp only [Option.bind_some, if_true]
  exact place_l0 h0 h1 h2 h3 ((placeV n p).1 - 1).toNat 1 (by omega) (by omega) k (by omega)
theorem sheets_impl (a : Int) : impl_isSheets.f a = some (decide (1 ≤ a ∧ a ≤ 100)) := by simp [impl_isSheets.f, in_impl]
theorem side_impl {n s : Int} {back : Bool} (h0 : 1 ≤ n) (h1 : n ≤ 100) (h2 : 1 ≤ s) (h3 : s ≤ n) : impl_side.f n s back = some (sideV n s back) := by
  unfold impl_side.f sideV
  rw [w64 (x := 2 * s) (by omega) (by omega), w64 (x := 4 * n) (by omega) (by omega), w64 (x := 2 * s - 1) (by omega) (by omega), w64 (x := 2 * s - 1 + 1) (by omega) (by omega), w64 (x := 4 * n - 2 * s) (by omega) (by omega), w64 (x := 4 * n - 2 * s + 2) (by omega) (by omega), w64 (by omega) (by omega)]
  cases back
  · simp; omega
  · simp; omega
def sheetIn (n x : Int) : List Int := [4 * n + 2 - 2 * x, 2 * x - 1, 2 * x, 4 * n + 1 - 2 * x]
theorem sheetin_impl {n s : Int} (h0 : 1 ≤ n) (h1 : n ≤ 100) (h2 : 1 ≤ s) (h3 : s ≤ n) : impl_pagesOfSheet.f n s = some (sheetIn n s) := by
  unfold impl_pagesOfSheet.f
  rw [side_impl h0 h1 h2 h3, side_impl h0 h1 h2 h3]
  simp [sideV, sheetIn]
theorem contains4 (a b c d x : Int) (k : Nat) (hk : 5 ≤ k) : slices_Contains_int_int.f k [a, b, c, d] x = some (decide (x = a ∨ x = b ∨ x = c ∨ x = d)) := by
  obtain ⟨k, rfl⟩ : ∃ m, k = m + 5 := ⟨k - 5, by omega⟩
  have l4 : (([a, b, c, d] : List Int).length : Int) = 4 := rfl
  unfold slices_Contains_int_int.f slices_Index_int_int.f
  rw [l4]
  rw [slices_Index_int_int.l0, if_pos (by decide), if_pos (by decide), l4, if_pos (by decide), show rd [a, b, c, d] 0 = a from rfl]
  by_cases c1 : x = a
  · rw [if_pos c1]; simp [c1]
  rw [if_neg c1, w64 (x := 0 + 1) (by decide) (by decide), show (0 : Int) + 1 = 1 from rfl]
  rw [slices_Index_int_int.l0, if_pos (by decide), if_pos (by decide), l4, if_pos (by decide), show rd [a, b, c, d] 1 = b from rfl]
  by_cases c2 : x = b
  · rw [if_pos c2]; simp [c2]
  rw [if_neg c2, w64 (x := 1 + 1) (by decide) (by decide), show (1 : Int) + 1 = 2 from rfl]
  rw [slices_Index_int_int.l0, if_pos (by decide), if_pos (by decide), l4, if_pos (by decide), show rd [a, b, c, d] 2 = c from rfl]
  by_cases c3 : x = c
  · rw [if_pos c3]; simp [c3]
  rw [if_neg c3, w64 (x := 2 + 1) (by decide) (by decide), show (2 : Int) + 1 = 3 from rfl]
  rw [slices_Index_int_int.l0, if_pos (by decide), if_pos (by decide), l4, if_pos (by decide), show rd [a, b, c, d] 3 = d from rfl]
  by_cases c4 : x = d
  · rw [if_pos c4]; simp [c4]
  rw [if_neg c4, w64 (x := 3 + 1) (by decide) (by decide), show (3 : Int) + 1 = 4 from rfl]
  rw [slices_Index_int_int.l0, if_neg (by decide)]
  simp [c1, c2, c3, c4]
theorem contains_sheet {n s x : Int} (h0 : 1 ≤ n) (h2 : 1 ≤ s) (h3 : s ≤ n) (h4 : 1 ≤ x) (h5 : x ≤ 4 * n) (k : Nat) (hk : 5 ≤ k) :
    slices_Contains_int_int.f k (sheetIn n s) x = some (decide ((placeV n x).1 = s)) := by
  unfold sheetIn
  rw [contains4 _ _ _ _ _ k hk]
  congr 1
  rw [decide_eq_decide]
  unfold placeV
  split <;> split <;> simp only <;> omega
def withV (n s x : Int) : Nat → List Int
  | 0 => []
  | d + 1 => if (placeV n x).1 = s then withV n s (x + 1) d else x :: withV n s (x + 1) d
theorem withV_length (n s x : Int) (d : Nat) : (withV n s x d).length ≤ d := by
  induction d generalizing x with
  | zero => simp [withV]
  | succ d ih => have := ih (x + 1); unfold withV; split <;> simp <;> omega
theorem without_s0 {n s : Int} (h0 : 1 ≤ n) (h1 : n ≤ 100) (d : Nat) : ∀ (acc : List Int) (x : Int), 1 ≤ x → x + d = 4 * n + 1 → acc.length + d ≤ 1000 → ∀ k, 404 + d < k →
    spec_PagesWithout.l0 k n s acc x = some (acc ++ withV n s x d, true) := by
  induction d with
  | zero =>
    intro acc x h2 h3 ha k hk
    obtain ⟨k, rfl⟩ : ∃ m, k = m + 1 := ⟨k - 1, by omega⟩
    rw [spec_PagesWithout.l0, w64 (x := 4 * n) (by omega) (by omega), if_neg (by omega)]
    simp [withV]
  | succ d ih =>
    intro acc x h2 h3 ha k hk
    obtain ⟨k, rfl⟩ : ∃ m, k = m + 1 := ⟨k - 1, by omega⟩
    rw [spec_PagesWithout.l0, w64 (x := 4 * n) (by omega) (by omega), if_pos (by omega), place_spec h0 h1 h2 (by omega) k (by omega)]
    simp only [Option.bind_some]
    unfold withV
    by_cases c : (placeV n x).1 = s
    · rw [if_pos c, if_pos c, w64 (x := x + 1) (by omega) (by omega)]
      exact ih acc (x + 1) (by omega) (by omega) (by omega) k (by omega)
    · rw [if_neg c, if_neg c, if_pos (show acc.length < 17592186044416 by omega), w64 (x := x + 1) (by omega) (by omega), ih _ (x + 1) (by omega) (by omega) (by simp; omega) k (by omega)]
      simp
theorem without_i0 {n s : Int} (h0 : 1 ≤ n) (h1 : n ≤ 100) (hs : 1 ≤ s) (hs1 : s ≤ n) (d : Nat) : ∀ (acc : List Int) (x : Int), 1 ≤ x → x + d = 4 * n + 1 → acc.length + d ≤ 1000 → ∀ k, 5 + d < k →
    impl_PagesWithout.l0 k n s acc x = some (acc ++ withV n s x d, true) := by
  induction d with
  | zero =>
    intro acc x h2 h3 ha k hk
    obtain ⟨k, rfl⟩ : ∃ m, k = m + 1 := ⟨k - 1, by omega⟩
    rw [impl_PagesWithout.l0, w64 (x := 4 * n) (by omega) (by omega), if_neg (by omega)]
    simp [withV]
  | succ d ih =>
    intro acc x h2 h3 ha k hk
    obtain ⟨k, rfl⟩ : ∃ m, k = m + 1 := ⟨k - 1, by omega⟩
    rw [impl_PagesWithout.l0, w64 (x := 4 * n) (by omega) (by omega), if_pos (by omega), sheetin_impl h0 h1 hs hs1]
    simp only [Option.bind_some]
    rw [contains_sheet h0 hs hs1 h2 (by omega) k (by omega)]
    simp only [Option.bind_some]
    unfold withV
    by_cases c : (placeV n x).1 = s
    · rw [decide_eq_true c, if_pos rfl, if_pos c, w64 (x := x + 1) (by omega) (by omega)]
      exact ih acc (x + 1) (by omega) (by omega) (by omega) k (by omega)
    · rw [decide_eq_false c, if_neg (by decide), if_neg c, if_pos (show acc.length < 17592186044416 by omega), w64 (x := x + 1) (by omega) (by omega), ih _ (x + 1) (by omega) (by omega) (by simp; omega) k (by omega)]
      simp
theorem without_spec {n s : Int} (h0 : 1 ≤ n) (h1 : n ≤ 100) (hs : 1 ≤ s) (hs1 : s ≤ n) (k : Nat) (hk : 1000 < k) : spec_PagesWithout.f k n s = some (withV n s 1 (4 * n).toNat, true) := by
  obtain ⟨k, rfl⟩ : ∃ m, k = m + 1 := ⟨k - 1, by omega⟩
  have hb : 1 ≤ n ∧ n ≤ 100 := ⟨h0, h1⟩
  have hc : 1 ≤ s ∧ s ≤ n := ⟨hs, hs1⟩
  unfold spec_PagesWithout.f
  rw [sheets_spec, in_spec, decide_eq_true hb, decide_eq_true hc]
  simp only [Option.bind_some, if_true, Bool.not_true, spec_PagesWithout.j0]
  rw [if_neg (by decide), without_s0 h0 h1 (4 * n).toNat [] 1 (by omega) (by omega) (by simp; omega) k (by omega)]
  simp
theorem without_impl {n s : Int} (h0 : 1 ≤ n) (h1 : n ≤ 100) (hs : 1 ≤ s) (hs1 : s ≤ n) (k : Nat) (hk : 1000 < k) : impl_PagesWithout.f k n s = some (withV n s 1 (4 * n).toNat, true) := by
  obtain ⟨k, rfl⟩ : ∃ m, k = m + 1 := ⟨k - 1, by omega⟩
  have hb : 1 ≤ n ∧ n ≤ 100 := ⟨h0, h1⟩
  have hc : 1 ≤ s ∧ s ≤ n := ⟨hs, hs1⟩
  unfold impl_PagesWithout.f
  rw [sheets_impl, in_impl, decide_eq_true hb, decide_eq_true hc]
  simp only [Option.bind_some, if_true, Bool.not_true, impl_PagesWithout.j0]
  rw [if_neg (by decide), without_i0 h0 h1 hs hs1 (4 * n).toNat [] 1 (by omega) (by omega) (by simp; omega) k (by omega)]
  simp

/-- YOURS: ∀ (a0 : Int) (a1 : Int), (Lit.int .i64 a0).wf = true → (Lit.int .i64 a1).wf = true → ∃ k, laws_FnExactPagesWithout.f k a0 a1 = some true
What it reaches (each with k first where it has rounds; `.mono`: more rounds tell the same; `.l0`, ..: its loops, with `.mono_l`): laws_eqIntS.f, laws_markIntS.f, laws_heldIntS.f, spec_l1In.f, spec_foSheets.f, spec_foPage.f, spec_foSide.f, spec_PlaceOfPage.f, spec_PagesWithout.f, impl_within.f, impl_isSheets.f, impl_side.f, impl_pagesOfSheet.f, slices_Index_int_int.f, slices_Contains_int_int.f, impl_PagesWithout.f, laws_FnExactPagesWithout.f -/
theorem FnExactPagesWithout : laws_FnExactPagesWithout.Pure := by
  intro a0 a1 w0 w1
  have hb : ∃ r : List Int × Bool, ∃ K, r.1.length ≤ 1000000 ∧ ∀ k, K ≤ k → spec_PagesWithout.f k a0 a1 = some r ∧ impl_PagesWithout.f k a0 a1 = some r := by
    by_cases hb : (1 ≤ a0 ∧ a0 ≤ 100) ∧ 1 ≤ a1 ∧ a1 ≤ a0
    · refine ⟨(withV a0 a1 1 (4 * a0).toNat, true), 2000, ?_, fun k hk => ⟨without_spec hb.1.1 hb.1.2 hb.2.1 hb.2.2 k (by omega), without_impl hb.1.1 hb.1.2 hb.2.1 hb.2.2 k (by omega)⟩⟩
      have := withV_length a0 a1 1 (4 * a0).toNat
      show (withV a0 a1 1 (4 * a0).toNat).length ≤ _
      omega
    · refine ⟨([], false), 1, by simp, fun k hk => ?_⟩
      obtain ⟨k, rfl⟩ : ∃ m, k = m + 1 := ⟨k - 1, by omega⟩
      unfold spec_PagesWithout.f impl_PagesWithout.f
      rw [sheets_spec, sheets_impl, in_spec, in_impl]
      simp only [spec_PagesWithout.j0, impl_PagesWithout.j0]
      by_cases hc : 1 ≤ a0 ∧ a0 ≤ 100
      · have hd : ¬ (1 ≤ a1 ∧ a1 ≤ a0) := fun h => hb ⟨hc, h⟩
        rw [decide_eq_true hc, decide_eq_false hd]
        simp
      · rw [decide_eq_false hc]
        simp
  obtain ⟨⟨l, ok⟩, K, hl, h⟩ := hb
  obtain ⟨l', hm⟩ := marks l hl
  obtain ⟨M, hM1, hM2⟩ : ∃ M, K ≤ M ∧ l.length < M := ⟨K + l.length + 1, by omega, by omega⟩
  refine ⟨M + 2, ?_⟩
  unfold laws_FnExactPagesWithout.f
  rw [(h (M + 2) (by omega)).1, (h (M + 2) (by omega)).2]
  simp only [Option.bind_some]
  rw [eq_self l hl (M + 2) (by omega)]
  simp only [Option.bind_some, if_true, bne_self_eq_false]
  simp only [laws_FnExactPagesWithout.j0]
  rw [if_neg (by decide), (hm (M + 1) (by omega)).1]
  simp only [Option.bind_some]
  rw [(hm (M + 1) (by omega)).2]
  simp only [Option.bind_some]
  rw [if_neg (show ¬ (1 + (l.length : Int)) < 0 by omega), if_pos trivial, (h (M + 1) (by omega)).2]
  simp only [Option.bind_some]
  rw [eq_self l hl (M + 1) (by omega)]
  simp only [Option.bind_some, if_true, bne_self_eq_false]
  simp only [laws_FnExactPagesWithout.j1]
  rw [if_neg (by decide), (hm M (by omega)).2]
  simp only [Option.bind_some]
  rw [if_neg (show ¬ (1 + (l.length : Int)) < 0 by omega), if_pos trivial]

end Go.Proofs.Ytekoimaffabaoaa.Pure
