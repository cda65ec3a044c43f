/- The program's PrintOrder returns what the reference's PrintOrder returns: the plain statement, over numbers and lists, for all arguments; each number of its Go kind, each string and slice within the reader's bounds. -/
import Derived.Test.YtekoimaffabaoaaPFnExactPrintOrderx2
namespace Go.Proofs.Ytekoimaffabaoaa.Pure
open Go.RowKit Go.Proofs.Ytekoimaffabaoaa.PFnExactPrintOrder Go.Proofs.YtekoimaffabaoaaW.PrintWords Go.Proofs.YtekoimaffabaoaaW.PrintLast
set_option linter.unusedVariables false
set_option linter.unusedSimpArgs false

theorem w64 {x : Int} (h0 : -9223372036854775808 ≤ x) (h1 : x ≤ 9223372036854775807) : wrap64 x = x := by unfold wrap64; omega
theorem td {a b : Int} (h : 0 ≤ a) : Int.tdiv a b = a / b := Int.tdiv_eq_ediv_of_nonneg h
theorem tm {a b : Int} (h : 0 ≤ a) : Int.tmod a b = a % b := Int.tmod_eq_emod_of_nonneg h
theorem wf64 {n : Int} (h : (Lit.int .i64 n).wf = true) : -9223372036854775808 ≤ n ∧ n ≤ 9223372036854775807 := by
  simp [Lit.wf, IntKind.min, IntKind.max, IntKind.signed, IntKind.bits] at h
  omega
theorem in_spec (a b c : Int) : spec_l1In.f a b c = some (decide (b ≤ a ∧ a ≤ c)) := by
  unfold spec_l1In.f; by_cases h : b ≤ a <;> simp [h]
theorem in_impl (a b c : Int) : impl_within.f a b c = some (decide (b ≤ a ∧ a ≤ c)) := by
  unfold impl_within.f; by_cases h : b ≤ a <;> simp [h]
theorem sheets_spec (a : Int) : spec_foSheets.f a = some (decide (1 ≤ a ∧ a ≤ 100)) := by simp [spec_foSheets.f, in_spec]
theorem sheets_impl (a : Int) : impl_isSheets.f a = some (decide (1 ≤ a ∧ a ≤ 100)) := by simp [impl_isSheets.f, in_impl]
/-- Both pages of a side. -/
def sideV (n s : Int) (back : Bool) : Int × Int := if back = true then (2 * s, 4 * n + 1 - 2 * s) else (4 * n + 2 - 2 * s, 2 * s - 1)
theorem side_spec {n s : Int} {back : Bool} (h0 : 1 ≤ n) (h1 : n ≤ 100) (h2 : 1 ≤ s) (h3 : s ≤ n) : spec_foSide.f n s back = some (sideV n s back) := by
  unfold spec_foSide.f sideV
  rw [w64 (x := 2 * s) (by omega) (by omega), w64 (x := 4 * n) (by omega) (by omega), w64 (x := 4 * n + 1) (by omega) (by omega), w64 (x := 4 * n + 2) (by omega) (by omega), w64 (by omega) (by omega), w64 (by omega) (by omega), w64 (by omega) (by omega)]
  cases back <;> simp
theorem side_impl {n s : Int} {back : Bool} (h0 : 1 ≤ n) (h1 : n ≤ 100) (h2 : 1 ≤ s) (h3 : s ≤ n) : impl_side.f n s back = some (sideV n s back) := by
  unfold impl_side.f sideV
  rw [w64 (x := 2 * s) (by omega) (by omega), w64 (x := 4 * n) (by omega) (by omega), w64 (x := 2 * s - 1) (by omega) (by omega), w64 (x := 2 * s - 1 + 1) (by omega) (by omega), w64 (x := 4 * n - 2 * s) (by omega) (by omega), w64 (x := 4 * n - 2 * s + 2) (by omega) (by omega), w64 (by omega) (by omega)]
  cases back
  · simp; omega
  · simp; omega
theorem eq_loop (l : List Int) (hl : l.length ≤ 1000000) (d : Nat) : ∀ (x : Int), 0 ≤ x → x + d = l.length → ∀ k, d < k → laws_eqIntS.l0 k l l x = some true := by
  induction d with
  | zero =>
    intro x h0 hd k hk
    obtain ⟨k, rfl⟩ : ∃ m, k = m + 1 := ⟨k - 1, by omega⟩
    simp only [laws_eqIntS.l0]
    rw [if_neg (show ¬ x < (l.length : Int) by omega)]
  | succ d ih =>
    intro x h0 hd k hk
    obtain ⟨k, rfl⟩ : ∃ m, k = m + 1 := ⟨k - 1, by omega⟩
    have hx : x < (l.length : Int) := by omega
    rw [laws_eqIntS.l0, if_pos hx, if_pos h0, if_pos hx, if_pos rfl, w64 (x := x + 1) (by omega) (by omega)]
    exact ih (x + 1) (by omega) (by omega) k (by omega)
theorem eq_self (l : List Int) (hl : l.length ≤ 1000000) (k : Nat) (hk : l.length < k) : laws_eqIntS.f k l l = some true := by
  unfold laws_eqIntS.f
  rw [if_pos rfl]
  exact eq_loop l hl l.length 0 (by omega) (by omega) k hk
theorem mark_loop (d : Nat) : ∀ (l : List Int) (x v : Int), l.length ≤ 1000000 → 0 ≤ x → x + d = l.length → 0 ≤ v → v + d ≤ 1000001 →
    ∃ l' : List Int, (∀ k, d < k → laws_markIntS.l0 k l v x = some (v + d, l')) ∧ l'.length = l.length ∧
      ∀ i : Nat, ((i : Int) < x → l'.getD i 0 = l.getD i 0) ∧ (x ≤ i → i < l.length → l'.getD i 0 = v + (i - x)) := by
  induction d with
  | zero =>
    intro l x v hl h0 hd h1 h2
    refine ⟨l, fun k hk => ?_, rfl, fun i => ⟨fun _ => rfl, fun h3 h4 => by omega⟩⟩
    obtain ⟨k, rfl⟩ : ∃ m, k = m + 1 := ⟨k - 1, by omega⟩
    simp only [laws_markIntS.l0]
    rw [if_neg (show ¬ x < (l.length : Int) by omega)]
    simp
  | succ d ih =>
    intro l x v hl h0 hd h1 h2
    obtain ⟨l', hk', hlen, hg⟩ := ih (l.set x.toNat v) (x + 1) (v + 1) (by simpa using hl) (by omega) (by simp; omega) (by omega) (by omega)
    rw [List.length_set] at hlen hg
    refine ⟨l', fun k hk => ?_, hlen, fun i => ?_⟩
    · obtain ⟨k, rfl⟩ : ∃ m, k = m + 1 := ⟨k - 1, by omega⟩
      simp only [laws_markIntS.l0]
      rw [if_pos (show x < (l.length : Int) by omega), if_pos h0, w64 (x := v + 1) (by omega) (by omega), w64 (x := x + 1) (by omega) (by omega), hk' k (by omega)]
      have e : v + 1 + (d : Int) = v + ((d + 1 : Nat) : Int) := by omega
      rw [e]
    · obtain ⟨g1, g2⟩ := hg i
      refine ⟨fun h => ?_, fun h3 h4 => ?_⟩
      · rw [g1 (by omega)]
        rw [List.getD_eq_getElem?_getD, List.getD_eq_getElem?_getD, List.getElem?_set_ne (by omega)]
      · by_cases e : (i : Int) = x
        · rw [g1 (by omega)]
          have : x.toNat = i := by omega
          rw [this, List.getD_eq_getElem?_getD, List.getElem?_set_self h4, Option.getD_some]
          omega
        · rw [g2 (by omega) h4]; omega
theorem held_loop (l : List Int) (hl : l.length ≤ 1000000) (d : Nat) : ∀ (x v : Int), 0 ≤ x → x + d = l.length → 0 ≤ v → v + d ≤ 1000001 →
    (∀ i : Nat, x ≤ i → i < l.length → l.getD i 0 = v + (i - x)) → ∀ k, d < k → laws_heldIntS.l0 k l v x = some (v + d) := by
  induction d with
  | zero =>
    intro x v h0 hd h1 h2 hg k hk
    obtain ⟨k, rfl⟩ : ∃ m, k = m + 1 := ⟨k - 1, by omega⟩
    simp only [laws_heldIntS.l0]
    rw [if_neg (show ¬ x < (l.length : Int) by omega)]
    simp
  | succ d ih =>
    intro x v h0 hd h1 h2 hg k hk
    obtain ⟨k, rfl⟩ : ∃ m, k = m + 1 := ⟨k - 1, by omega⟩
    simp only [laws_heldIntS.l0]
    have e : rd l x = v := by
      unfold rd
      rw [hg x.toNat (by omega) (by omega)]; omega
    rw [if_pos (show x < (l.length : Int) by omega), if_pos h0, if_pos e, w64 (x := v + 1) (by omega) (by omega), w64 (x := x + 1) (by omega) (by omega),
      ih (x + 1) (v + 1) (by omega) (by omega) (by omega) (by omega) (fun i h3 h4 => by rw [hg i (by omega) h4]; omega) k (by omega)]
    have e : v + 1 + (d : Int) = v + ((d + 1 : Nat) : Int) := by omega
    rw [e]
theorem marks (l : List Int) (hl : l.length ≤ 1000000) : ∃ l' : List Int, ∀ k, l.length < k → laws_markIntS.f k l 1 = some (1 + (l.length : Int), l') ∧ laws_heldIntS.f k l' 1 = some (1 + (l.length : Int)) := by
  obtain ⟨l', hm, hlen, hg⟩ := mark_loop l.length l 0 1 hl (by omega) (by omega) (by omega) (by omega)
  refine ⟨l', fun k hk => ⟨hm k hk, ?_⟩⟩
  unfold laws_heldIntS.f
  exact held_loop l' (by omega) l.length 0 1 (by omega) (by omega) (by omega) (by omega) (fun i h3 h4 => (hg i).2 h3 (by omega)) k hk
/-- The pages of a sheet in the order of printing. -/
def sheet4 (n x : Int) : List Int := [4 * n + 2 - 2 * x, 2 * x - 1, 2 * x, 4 * n + 1 - 2 * x]
def ordV (n x : Int) : Nat → List Int
  | 0 => []
  | d + 1 => sheet4 n x ++ ordV n (x + 1) d
theorem ordV_length (n x : Int) (d : Nat) : (ordV n x d).length = 4 * d := by
  induction d generalizing x with
  | zero => rfl
  | succ d ih => simp [ordV, sheet4, ih]; omega
theorem sheet_impl {n s : Int} (h0 : 1 ≤ n) (h1 : n ≤ 100) (h2 : 1 ≤ s) (h3 : s ≤ n) : impl_pagesOfSheet.f n s = some (sheet4 n s) := by
  unfold impl_pagesOfSheet.f
  rw [side_impl h0 h1 h2 h3, side_impl h0 h1 h2 h3]
  simp [sideV, sheet4]
theorem order_l1 {n x : Int} (h0 : 1 ≤ n) (h1 : n ≤ 100) (h2 : 1 ≤ x) (h3 : x ≤ n) (acc : List Int) (ha : acc.length ≤ 1000) (k : Nat) :
    spec_PrintOrder.l1 (k + 3) n acc x [false, true] 2 0 = spec_PrintOrder.l0 k n (acc ++ sheet4 n x) (x + 1) := by
  have r0 : rdOf false [false, true] 0 = false := rfl
  have r1 : rdOf false [false, true] 1 = true := rfl
  have l2 : (([false, true] : List Bool).length : Int) = 2 := rfl
  rw [spec_PrintOrder.l1, if_pos (by decide), if_pos (by decide), l2, if_pos (by decide), r0, side_spec h0 h1 h2 h3]
  simp only [Option.bind_some]
  rw [if_pos (by simp; omega), w64 (x := 0 + 1) (by decide) (by decide)]
  rw [spec_PrintOrder.l1, if_pos (by decide), if_pos (by decide), l2, if_pos (by decide), show (0 : Int) + 1 = 1 from rfl, r1, side_spec h0 h1 h2 h3]
  simp only [Option.bind_some]
  rw [if_pos (by simp; omega), w64 (x := 1 + 1) (by decide) (by decide)]
  rw [spec_PrintOrder.l1, if_neg (by decide), w64 (x := x + 1) (by omega) (by omega)]
  simp [sideV, sheet4]
theorem order_l0 {n : Int} (h0 : 1 ≤ n) (h1 : n ≤ 100) (d : Nat) : ∀ (acc : List Int) (x : Int), 1 ≤ x → x + d = n + 1 → acc.length + 4 * d ≤ 1000 → ∀ k, 4 * d < k →
    spec_PrintOrder.l0 k n acc x = some (acc ++ ordV n x d, true) := by
  induction d with
  | zero =>
    intro acc x h2 h3 ha k hk
    obtain ⟨k, rfl⟩ : ∃ m, k = m + 1 := ⟨k - 1, by omega⟩
    rw [spec_PrintOrder.l0, if_neg (by omega)]
    simp [ordV]
  | succ d ih =>
    intro acc x h2 h3 ha k hk
    obtain ⟨k, rfl⟩ : ∃ m, k = m + 4 := ⟨k - 4, by omega⟩
    rw [spec_PrintOrder.l0, if_pos (by omega)]
    simp only [Option.bind_some]
    rw [show (([false, true] : List Bool).length : Int) = 2 from rfl, order_l1 h0 h1 h2 (by omega) acc (by omega), ih _ (x + 1) (by omega) (by omega) (by simp [sheet4]; omega) k (by omega)]
    simp [ordV]
theorem order_i0 {n : Int} (h0 : 1 ≤ n) (h1 : n ≤ 100) (d : Nat) : ∀ (acc : List Int) (x : Int), 1 ≤ x → x + d = n + 1 → acc.length + 4 * d ≤ 1000 → ∀ k, d < k →
    impl_PrintOrder.l0 k n acc x = some (acc ++ ordV n x d, true) := by
  induction d with
  | zero =>
    intro acc x h2 h3 ha k hk
    obtain ⟨k, rfl⟩ : ∃ m, k = m + 1 := ⟨k - 1, by omega⟩
    rw [impl_PrintOrder.l0, if_neg (by omega)]
    simp [ordV]
  | succ d ih =>
    intro acc x h2 h3 ha k hk
    obtain ⟨k, rfl⟩ : ∃ m, k = m + 1 := ⟨k - 1, by omega⟩
    rw [impl_PrintOrder.l0, if_pos (by omega), sheet_impl h0 h1 h2 (by omega)]
    simp only [Option.bind_some]
    rw [if_pos (by simp [sheet4]; omega), w64 (x := x + 1) (by omega) (by omega), ih _ (x + 1) (by omega) (by omega) (by simp [sheet4]; omega) k (by omega)]
    simp [ordV]
theorem order_spec {n : Int} (h0 : 1 ≤ n) (h1 : n ≤ 100) (k : Nat) (hk : 400 < k) : spec_PrintOrder.f k n = some (ordV n 1 n.toNat, true) := by
  have hb : 1 ≤ n ∧ n ≤ 100 := ⟨h0, h1⟩
  unfold spec_PrintOrder.f
  rw [sheets_spec, decide_eq_true hb]
  simp only [Option.bind_some, if_true]
  rw [order_l0 h0 h1 n.toNat [] 1 (by omega) (by omega) (by simp; omega) k (by omega)]
  simp
theorem order_impl {n : Int} (h0 : 1 ≤ n) (h1 : n ≤ 100) (k : Nat) (hk : 400 < k) : impl_PrintOrder.f k n = some (ordV n 1 n.toNat, true) := by
  have hb : 1 ≤ n ∧ n ≤ 100 := ⟨h0, h1⟩
  unfold impl_PrintOrder.f
  rw [sheets_impl, decide_eq_true hb]
  simp only [Option.bind_some, if_true]
  rw [order_i0 h0 h1 n.toNat [] 1 (by omega) (by omega) (by simp; omega) k (by omega)]
  simp

/-- YOURS: ∀ (a0 : Int), (Lit.int .i64 a0).wf = true → ∃ k, laws_FnExactPrintOrder.f k a0 = some true
What it reaches (each with k first where it has rounds; `.mono`: more rounds tell the same; `.l0`, ..: its loops, with `.mono_l`): laws_eqIntS.f, laws_markIntS.f, laws_heldIntS.f, spec_foSide.f, spec_l1In.f, spec_foSheets.f, spec_PrintOrder.f, impl_within.f, impl_isSheets.f, impl_side.f, impl_pagesOfSheet.f, impl_PrintOrder.f, laws_FnExactPrintOrder.f -/
theorem FnExactPrintOrder : laws_FnExactPrintOrder.Pure := by
  intro a0 w0
  have hb : ∃ r : List Int × Bool, ∃ K, r.1.length ≤ 1000000 ∧ ∀ k, K ≤ k → spec_PrintOrder.f k a0 = some r ∧ impl_PrintOrder.f k a0 = some r := by
    by_cases hb : 1 ≤ a0 ∧ a0 ≤ 100
    · refine ⟨(ordV a0 1 a0.toNat, true), 1000, ?_, fun k hk => ⟨order_spec hb.1 hb.2 k (by omega), order_impl hb.1 hb.2 k (by omega)⟩⟩
      have := ordV_length a0 1 a0.toNat
      show (ordV a0 1 a0.toNat).length ≤ _
      omega
    · refine ⟨([], false), 0, by simp, fun k _ => ?_⟩
      unfold spec_PrintOrder.f impl_PrintOrder.f
      rw [sheets_spec, sheets_impl]
      simp [hb]
  obtain ⟨⟨l, ok⟩, K, hl, h⟩ := hb
  obtain ⟨l', hm⟩ := marks l hl
  obtain ⟨M, hM1, hM2⟩ : ∃ M, K ≤ M ∧ l.length < M := ⟨K + l.length + 1, by omega, by omega⟩
  refine ⟨M + 2, ?_⟩
  unfold laws_FnExactPrintOrder.f
  rw [(h (M + 2) (by omega)).1, (h (M + 2) (by omega)).2]
  simp only [Option.bind_some]
  rw [eq_self l hl (M + 2) (by omega)]
  simp only [Option.bind_some, if_true, bne_self_eq_false]
  simp only [laws_FnExactPrintOrder.j0]
  rw [if_neg (by decide), (hm (M + 1) (by omega)).1]
  simp only [Option.bind_some]
  rw [(hm (M + 1) (by omega)).2]
  simp only [Option.bind_some]
  rw [if_neg (show ¬ (1 + (l.length : Int)) < 0 by omega), if_pos trivial, (h (M + 1) (by omega)).2]
  simp only [Option.bind_some]
  rw [eq_self l hl (M + 1) (by omega)]
  simp only [Option.bind_some, if_true, bne_self_eq_false]
  simp only [laws_FnExactPrintOrder.j1]
  rw [if_neg (by decide), (hm M (by omega)).2]
  simp only [Option.bind_some]
  rw [if_neg (show ¬ (1 + (l.length : Int)) < 0 by omega), if_pos trivial]

end Go.Proofs.Ytekoimaffabaoaa.Pure
