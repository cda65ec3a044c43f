/- The program's PagesText returns what the reference's PagesText returns: the plain statement, over numbers and lists, for all arguments; each number of its Go kind, each string and slice within the reader's bounds. -/
import Derived.Test.YtjaeddckoocgbaaDoorPFnExactPagesTextx5
namespace Go.Proofs.YtjaeddckoocgbaaDoor.Pure
open Go.RowKit Go.Proofs.YtjaeddckoocgbaaDoor.PFnExactPagesText Go.Proofs.YtjaeddckoocgbaaDoorW.PrintWords Go.Proofs.YtjaeddckoocgbaaDoorW.PrintLast
set_option linter.unusedVariables false
set_option linter.unusedSimpArgs false

theorem w64 {x : Int} (h0 : -9223372036854775808 ≤ x) (h1 : x ≤ 9223372036854775807) : wrap64 x = x := by unfold wrap64; omega
theorem td {a b : Int} (h : 0 ≤ a) : Int.tdiv a b = a / b := Int.tdiv_eq_ediv_of_nonneg h
theorem tm {a b : Int} (h : 0 ≤ a) : Int.tmod a b = a % b := Int.tmod_eq_emod_of_nonneg h
theorem wf64 {n : Int} (h : (Lit.int .i64 n).wf = true) : -9223372036854775808 ≤ n ∧ n ≤ 9223372036854775807 := by
  simp [Lit.wf, IntKind.min, IntKind.max, IntKind.signed, IntKind.bits] at h
  omega
theorem ba_append (a b : List UInt8) : ((⟨a.toArray⟩ : ByteArray) ++ (⟨b.toArray⟩ : ByteArray)) = ⟨(a ++ b).toArray⟩ := by
  simp [ByteArray.mk_append_mk]
theorem ba_size (a : List UInt8) : (⟨a.toArray⟩ : ByteArray).size = a.length := by simp [ByteArray.size]
theorem dec_len (k : Nat) : ∀ n : Nat, n < 10 ^ (k + 1) → (Lib.decDigits n).length ≤ k + 1 := by
  induction k with
  | zero =>
    intro n h
    rw [Lib.decDigits_one (by simpa using h)]
    simp
  | succ k ih =>
    intro n h
    by_cases h2 : n < 10
    · rw [Lib.decDigits_one h2]; simp
    · have h3 : n / 10 < 10 ^ (k + 1) := by
        rw [Nat.pow_succ] at h
        omega
      have := ih (n / 10) h3
      rw [Lib.decDigits, dif_neg h2]
      simp
      omega
theorem dec_le (n : Nat) (h : n ≤ 1000000000000000000) : (Lib.decDigits n).length ≤ 21 := by
  have := dec_len 18 n (by omega)
  omega
theorem dec_pos (n : Nat) : 1 ≤ (Lib.decDigits n).length := by
  rw [Lib.decDigits]
  split <;> simp
theorem digit_str (d : Nat) (h : d < 10) : strOfNums [wrap64 (48 + (d : Int)) % 256] = ⟨[UInt8.ofNat (48 + d)].toArray⟩ := by
  rw [w64 (by omega) (by omega)]
  have e : ((48 : Int) + d) % 256 = ((48 + d : Nat) : Int) := by omega
  rw [e]
  simp only [strOfNums, List.map_cons, List.map_nil, Int.toNat_natCast]
theorem num_spec (k : Nat) : ∀ n : Nat, n < 10 ^ (k + 1) → n < 1000000000000000000 → ∀ j, k < j → spec_l1Num.f j (n : Int) = some ⟨(Lib.decDigits n).toArray⟩ := by
  induction k with
  | zero =>
    intro n h h1 j hj
    obtain ⟨j, rfl⟩ : ∃ m, j = m + 1 := ⟨j - 1, by omega⟩
    have h2 : n < 10 := by simpa using h
    rw [spec_l1Num.f, if_pos (by omega), digit_str n h2, Lib.decDigits_one h2]
  | succ k ih =>
    intro n h h1 j hj
    obtain ⟨j, rfl⟩ : ∃ m, j = m + 1 := ⟨j - 1, by omega⟩
    rw [spec_l1Num.f]
    by_cases h2 : n < 10
    · rw [if_pos (by omega), digit_str n h2, Lib.decDigits_one h2]
    · have e1 : wrap64 (Int.tdiv (n : Int) 10) = ((n / 10 : Nat) : Int) := by rw [td (by omega), w64 (by omega) (by omega)]; omega
      have e2 : Int.tmod (n : Int) 10 = ((n % 10 : Nat) : Int) := by rw [tm (by omega)]; omega
      have h3 : n / 10 < 10 ^ (k + 1) := by
        rw [Nat.pow_succ] at h
        omega
      rw [if_neg (by omega), e1, e2, ih (n / 10) h3 (by omega) j (by omega)]
      simp only [Option.bind_some]
      rw [digit_str (n % 10) (by omega), ba_append, ba_size, ba_size]
      have hd : Lib.decDigits n = Lib.decDigits (n / 10) ++ [UInt8.ofNat (48 + n % 10)] := by rw [Lib.decDigits, dif_neg h2]
      rw [← hd]
      have hl := dec_le (n / 10) (by omega)
      rw [if_pos (by simp; omega)]
/-- A page's number as the reference writes it. -/
theorem num_nat {n : Nat} (h1 : n ≤ 9999) (k : Nat) (hk : 4 ≤ k) : spec_l1Num.f k (n : Int) = some ⟨(Lib.decDigits n).toArray⟩ :=
  num_spec 3 n (by omega) (by omega) k (by omega)
theorem itoa_nat {n : Nat} (h1 : n ≤ 9999) : strconv_Itoa.f (n : Int) = some ⟨(Lib.decDigits n).toArray⟩ := by
  unfold strconv_Itoa.f
  rw [if_pos (by omega), if_pos (by omega), Lib.itoa_nonneg]
def Ev {α : Type} (f : Nat → Option α) (r : α) : Prop := ∃ K, ∀ k, K ≤ k → f k = some r
theorem Ev.step {α : Type} {f g : Nat → Option α} {r : α} (h : Ev g r) (e : ∀ k, 4 ≤ k → f (k + 1) = g k) : Ev f r := by
  obtain ⟨K, hK⟩ := h
  refine ⟨K + 5, fun k hk => ?_⟩
  obtain ⟨k, rfl⟩ : ∃ m, k = m + 1 := ⟨k - 1, by omega⟩
  rw [e k (by omega), hK k (by omega)]
theorem Ev.fin {α : Type} {f : Nat → Option α} {r : α} (e : ∀ k, f (k + 1) = some r) : Ev f r := by
  refine ⟨1, fun k hk => ?_⟩
  obtain ⟨k, rfl⟩ : ∃ m, k = m + 1 := ⟨k - 1, by omega⟩
  exact e k
theorem w64n {n : Nat} (h : n ≤ 2000000) : wrap64 ((n : Nat) : Int) = (n : Int) := w64 (by omega) (by omega)
theorem w_add {n m : Nat} (h : n + m ≤ 2000000) : wrap64 ((n : Int) + (m : Int)) = ((n + m : Nat) : Int) := by
  rw [show (n : Int) + (m : Int) = ((n + m : Nat) : Int) by omega]
  exact w64n h
theorem w_suc {n : Nat} (h : n ≤ 1999999) : wrap64 ((n : Int) + 1) = ((n + 1 : Nat) : Int) := w_add (m := 1) (by omega)
theorem w_sub {n d : Nat} (h : d ≤ 2000000) : wrap64 (((n + d : Nat) : Int) - (n : Int)) = (d : Int) := by
  rw [show ((n + d : Nat) : Int) - (n : Int) = ((d : Nat) : Int) by omega]
  exact w64n h
-- the steps of the reference's text
theorem s0_in {k : Nat} {l : List Int} {s : ByteArray} {i : Int} (h : i < (l.length : Int)) : spec_bpText.l0 (k + 1) l s i = spec_bpText.l1 k l s i i := by rw [spec_bpText.l0, if_pos h]
theorem s0_out {k : Nat} {l : List Int} {s : ByteArray} {i : Int} (h : ¬ i < (l.length : Int)) : spec_bpText.l0 (k + 1) l s i = some s := by rw [spec_bpText.l0, if_neg h]
theorem s1_go {k : Nat} {l : List Int} {s : ByteArray} {i x y z : Int} (hy : wrap64 (x + 1) = y) (h1 : y < (l.length : Int)) (h2 : 0 ≤ y) (h3 : 0 ≤ x) (h4 : x < (l.length : Int)) (hz : wrap64 (rd l x + 1) = z) (h5 : rd l y = z) :
    spec_bpText.l1 (k + 1) l s i x = spec_bpText.l1 k l s i y := by
  rw [spec_bpText.l1, hy, hz, if_pos h1, if_pos h2, if_pos h3, if_pos h4, if_pos h5]
theorem s1_stop {k : Nat} {l : List Int} {s : ByteArray} {i x y z : Int} (hy : wrap64 (x + 1) = y) (h2 : 0 ≤ y) (h3 : 0 ≤ x) (h4 : x < (l.length : Int)) (hz : wrap64 (rd l x + 1) = z) (h5 : y < (l.length : Int) → rd l y ≠ z) :
    spec_bpText.l1 (k + 1) l s i x = spec_bpText.j2 k l s i x := by
  rw [spec_bpText.l1, hy, hz]
  by_cases c : y < (l.length : Int)
  · rw [if_pos c, if_pos h2, if_pos h3, if_pos h4, if_neg (h5 c)]
  · rw [if_neg c]
theorem s2_zero {k : Nat} {l : List Int} {s : ByteArray} {i e : Int} (h : ¬ i > 0) : spec_bpText.j2 (k + 1) l s i e = spec_bpText.j3 k l s i e := by rw [spec_bpText.j2, if_neg h]
theorem s2_pos {k : Nat} {l : List Int} {s : ByteArray} {i e : Int} (h : i > 0) (hs : s.size + 1 ≤ 9223372036854775807) : spec_bpText.j2 (k + 1) l s i e = spec_bpText.j3 k l (s ++ (⟨#[44]⟩ : ByteArray)) i e := by
  rw [spec_bpText.j2, if_pos h, if_pos hs]
theorem s3_one {k : Nat} {l : List Int} {s t : ByteArray} {i e e1 : Int} (hd : wrap64 (e - i) = 0) (h0 : 0 ≤ i) (h1 : i < (l.length : Int)) (hn : spec_l1Num.f k (rd l i) = some t) (hs : s.size + t.size ≤ 9223372036854775807) (he : wrap64 (e + 1) = e1) :
    spec_bpText.j3 (k + 1) l s i e = spec_bpText.l0 k l (s ++ t) e1 := by
  rw [spec_bpText.j3, if_pos hd, if_pos h0, if_pos h1, hn, Option.bind_some, if_pos hs, he]
theorem s3_two {k : Nat} {l : List Int} {s t u : ByteArray} {i e e1 d : Int} (hd : wrap64 (e - i) = d) (d0 : d ≠ 0) (d1 : d = 1) (h0 : 0 ≤ i) (h1 : i < (l.length : Int)) (h2 : 0 ≤ e) (h3 : e < (l.length : Int)) (hn : spec_l1Num.f k (rd l i) = some t) (hm : spec_l1Num.f k (rd l e) = some u)
    (hs : t.size + 1 ≤ 9223372036854775807) (hs2 : (t ++ (⟨#[44]⟩ : ByteArray)).size + u.size ≤ 9223372036854775807) (hs3 : s.size + ((t ++ (⟨#[44]⟩ : ByteArray)) ++ u).size ≤ 9223372036854775807) (he : wrap64 (e + 1) = e1) :
    spec_bpText.j3 (k + 1) l s i e = spec_bpText.l0 k l (s ++ ((t ++ (⟨#[44]⟩ : ByteArray)) ++ u)) e1 := by
  rw [spec_bpText.j3, hd, if_neg d0, if_pos d1, if_pos h0, if_pos h1, hn, Option.bind_some, if_pos hs, if_pos h2, if_pos h3, hm, Option.bind_some, if_pos hs2, if_pos hs3, he]
theorem s3_more {k : Nat} {l : List Int} {s t u : ByteArray} {i e e1 d : Int} (hd : wrap64 (e - i) = d) (d0 : d ≠ 0) (d1 : d ≠ 1) (h0 : 0 ≤ i) (h1 : i < (l.length : Int)) (h2 : 0 ≤ e) (h3 : e < (l.length : Int)) (hn : spec_l1Num.f k (rd l i) = some t) (hm : spec_l1Num.f k (rd l e) = some u)
    (hs : t.size + 1 ≤ 9223372036854775807) (hs2 : (t ++ (⟨#[45]⟩ : ByteArray)).size + u.size ≤ 9223372036854775807) (hs3 : s.size + ((t ++ (⟨#[45]⟩ : ByteArray)) ++ u).size ≤ 9223372036854775807) (he : wrap64 (e + 1) = e1) :
    spec_bpText.j3 (k + 1) l s i e = spec_bpText.l0 k l (s ++ ((t ++ (⟨#[45]⟩ : ByteArray)) ++ u)) e1 := by
  rw [spec_bpText.j3, hd, if_neg d0, if_neg d1, if_pos h0, if_pos h1, hn, Option.bind_some, if_pos hs, if_pos h2, if_pos h3, hm, Option.bind_some, if_pos hs2, if_pos hs3, he]
-- the steps of the program's text
theorem i0_in {k : Nat} {l : List Int} {s : List ByteArray} {i : Int} (h : i < (l.length : Int)) : impl_pagesText.l0 (k + 1) l s i = impl_pagesText.l1 k l s i i := by rw [impl_pagesText.l0, if_pos h]
theorem i0_out {k : Nat} {l : List Int} {s : List ByteArray} {i : Int} {r : ByteArray} (h : ¬ i < (l.length : Int)) (hr : strings_Join.f s (⟨#[44]⟩ : ByteArray) = some r) : impl_pagesText.l0 (k + 1) l s i = some r := by
  rw [impl_pagesText.l0, if_neg h, hr, Option.bind_some]
theorem i1_go {k : Nat} {l : List Int} {s : List ByteArray} {i x y z : Int} (hy : wrap64 (x + 1) = y) (h1 : y < (l.length : Int)) (h2 : 0 ≤ y) (h3 : 0 ≤ x) (h4 : x < (l.length : Int)) (hz : wrap64 (rd l x + 1) = z) (h5 : rd l y = z) :
    impl_pagesText.l1 (k + 1) l s i x = impl_pagesText.l1 k l s i y := by
  rw [impl_pagesText.l1, hy, hz, if_pos h1, if_pos h2, if_pos h3, if_pos h4, if_pos h5]
theorem i1_stop {k : Nat} {l : List Int} {s : List ByteArray} {i x y z : Int} (hy : wrap64 (x + 1) = y) (h2 : 0 ≤ y) (h3 : 0 ≤ x) (h4 : x < (l.length : Int)) (hz : wrap64 (rd l x + 1) = z) (h5 : y < (l.length : Int) → rd l y ≠ z) :
    impl_pagesText.l1 (k + 1) l s i x = impl_pagesText.j2 k l s i x := by
  rw [impl_pagesText.l1, hy, hz]
  by_cases c : y < (l.length : Int)
  · rw [if_pos c, if_pos h2, if_pos h3, if_pos h4, if_neg (h5 c)]
  · rw [if_neg c]
theorem i2_few {k : Nat} {l : List Int} {s : List ByteArray} {t : ByteArray} {i e i1 i2 : Int} (hw : wrap64 (i + 2) = i2) (h : e < i2) (h0 : 0 ≤ i) (h1 : i < (l.length : Int)) (hn : strconv_Itoa.f (rd l i) = some t) (hl : s.length < 8796093022208) (hi : wrap64 (i + 1) = i1) :
    impl_pagesText.j2 (k + 1) l s i e = impl_pagesText.l0 k l (s ++ [t]) i1 := by
  rw [impl_pagesText.j2, hw, if_pos h, if_pos h0, if_pos h1, hn, Option.bind_some, if_pos hl, hi]
theorem i2_more {k : Nat} {l : List Int} {s : List ByteArray} {t u : ByteArray} {i e e1 i2 : Int} (hw : wrap64 (i + 2) = i2) (h : ¬ e < i2) (h0 : 0 ≤ i) (h1 : i < (l.length : Int)) (h2 : 0 ≤ e) (h3 : e < (l.length : Int)) (hn : strconv_Itoa.f (rd l i) = some t) (hm : strconv_Itoa.f (rd l e) = some u)
    (hs : t.size + 1 ≤ 9223372036854775807) (hs2 : (t ++ (⟨#[45]⟩ : ByteArray)).size + u.size ≤ 9223372036854775807) (hl : s.length < 8796093022208) (he : wrap64 (e + 1) = e1) :
    impl_pagesText.j2 (k + 1) l s i e = impl_pagesText.l0 k l (s ++ [(t ++ (⟨#[45]⟩ : ByteArray)) ++ u]) e1 := by
  rw [impl_pagesText.j2, hw, if_neg h, if_pos h0, if_pos h1, hn, Option.bind_some, if_pos hs, if_pos h2, if_pos h3, hm, Option.bind_some, if_pos hs2, if_pos hl, he]
/-- From x on the pages rise by ones, up to e, and no further. -/
def Run (l : List Int) (x e : Nat) : Prop :=
  (∀ j : Nat, x ≤ j → j < e → rd l ((j + 1 : Nat) : Int) = wrap64 (rd l (j : Int) + 1)) ∧ (((e + 1 : Nat) : Int) < (l.length : Int) → rd l ((e + 1 : Nat) : Int) ≠ wrap64 (rd l (e : Int) + 1)) ∧ e < l.length ∧ x ≤ e
theorem run_ex (l : List Int) (d : Nat) : ∀ x : Nat, x + d + 1 = l.length → ∃ e, Run l x e := by
  induction d with
  | zero => intro x h; exact ⟨x, fun j h1 h2 => by omega, fun h2 => by omega, by omega, Nat.le_refl _⟩
  | succ d ih =>
    intro x h
    by_cases c : rd l ((x + 1 : Nat) : Int) = wrap64 (rd l (x : Int) + 1)
    · obtain ⟨e, g1, g2, g3, g4⟩ := ih (x + 1) (by omega)
      refine ⟨e, fun j h1 h2 => ?_, g2, g3, by omega⟩
      by_cases q : j = x
      · rw [q]; exact c
      · exact g1 j (by omega) h2
    · exact ⟨x, fun j h1 h2 => by omega, fun _ => c, by omega, Nat.le_refl _⟩
theorem s_run {l : List Int} {s : ByteArray} {i : Int} {r : ByteArray} (hl : l.length ≤ 20) (d : Nat) : ∀ x e : Nat, x + d = e → Run l x e → Ev (fun k => spec_bpText.j2 k l s i (e : Int)) r → Ev (fun k => spec_bpText.l1 k l s i (x : Int)) r := by
  induction d with
  | zero =>
    intro x e h hr he
    obtain rfl : x = e := by omega
    obtain ⟨_, g2, g3, _⟩ := hr
    have q : (x : Int) < (l.length : Int) := by omega
    exact he.step fun k _ => s1_stop (w_suc (by omega)) (Int.natCast_nonneg _) (Int.natCast_nonneg _) q rfl g2
  | succ d ih =>
    intro x e h hr he
    have hx : x < e := by omega
    obtain ⟨g1, g2, g3, g4⟩ := hr
    have g := ih (x + 1) e (by omega) ⟨fun j h1 h2 => g1 j (by omega) h2, g2, g3, by omega⟩ he
    have q : (x : Int) < (l.length : Int) := by omega
    have q1 : ((x + 1 : Nat) : Int) < (l.length : Int) := by omega
    exact g.step fun k _ => s1_go (w_suc (by omega)) q1 (Int.natCast_nonneg _) (Int.natCast_nonneg _) q rfl (g1 x (Nat.le_refl _) hx)
theorem i_run {l : List Int} {s : List ByteArray} {i : Int} {r : ByteArray} (hl : l.length ≤ 20) (d : Nat) : ∀ x e : Nat, x + d = e → Run l x e → Ev (fun k => impl_pagesText.j2 k l s i (e : Int)) r → Ev (fun k => impl_pagesText.l1 k l s i (x : Int)) r := by
  induction d with
  | zero =>
    intro x e h hr he
    obtain rfl : x = e := by omega
    obtain ⟨_, g2, g3, _⟩ := hr
    have q : (x : Int) < (l.length : Int) := by omega
    exact he.step fun k _ => i1_stop (w_suc (by omega)) (Int.natCast_nonneg _) (Int.natCast_nonneg _) q rfl g2
  | succ d ih =>
    intro x e h hr he
    have hx : x < e := by omega
    obtain ⟨g1, g2, g3, g4⟩ := hr
    have g := ih (x + 1) e (by omega) ⟨fun j h1 h2 => g1 j (by omega) h2, g2, g3, by omega⟩ he
    have q : (x : Int) < (l.length : Int) := by omega
    have q1 : ((x + 1 : Nat) : Int) < (l.length : Int) := by omega
    exact g.step fun k _ => i1_go (w_suc (by omega)) q1 (Int.natCast_nonneg _) (Int.natCast_nonneg _) q rfl (g1 x (Nat.le_refl _) hx)
abbrev mk (w : List UInt8) : ByteArray := ⟨w.toArray⟩
def Cm (W : List (List UInt8)) : List UInt8 := (W.map (fun w => (44 : UInt8) :: w)).flatten
theorem Cm_append (A B : List (List UInt8)) : Cm (A ++ B) = Cm A ++ Cm B := by simp [Cm]
theorem Cm_join : ∀ (W : List (List UInt8)), W ≠ [] → (44 : UInt8) :: Lib.join W [44] = Cm W
  | [], h => absurd rfl h
  | [a], _ => by simp [Cm, Lib.join, List.intercalate]
  | a :: b :: t, _ => by
    have g := Cm_join (b :: t) (by simp)
    have e : Lib.join (a :: b :: t) [44] = a ++ ((44 : UInt8) :: Lib.join (b :: t) [44]) := by
      simp [Lib.join, List.intercalate, List.intersperse]
    rw [e, g]
    simp [Cm]
theorem mk_app (a b : List UInt8) : mk a ++ mk b = mk (a ++ b) := ba_append a b
theorem mk_44 (a : List UInt8) : mk a ++ (⟨#[44]⟩ : ByteArray) = mk (a ++ [44]) := ba_append a [44]
theorem mk_45 (a : List UInt8) : mk a ++ (⟨#[45]⟩ : ByteArray) = mk (a ++ [45]) := ba_append a [45]
theorem mk_size (a : List UInt8) : (mk a).size = a.length := ba_size a
/-- One run of pages: the words W; the reference's piece p is the words with commas between. -/
theorem run_words {l : List Int} (hl : l.length ≤ 20) (hv : ∀ i : Nat, i < l.length → ∃ n : Nat, n ≤ 9999 ∧ rd l (i : Int) = (n : Int)) {i : Nat} (hi : i < l.length) :
    ∃ (e : Nat) (W : List (List UInt8)) (p : List UInt8), i ≤ e ∧ e < l.length ∧ W ≠ [] ∧ W.length ≤ e + 1 - i ∧ Cm W = 44 :: p ∧ p.length ≤ 50 ∧
      (∀ (s r : ByteArray), Ev (fun k => spec_bpText.j2 k l s (i : Int) (e : Int)) r → Ev (fun k => spec_bpText.l1 k l s (i : Int) (i : Int)) r) ∧
      (∀ (S : List UInt8) (r : ByteArray), S.length ≤ 10000 → Ev (fun k => spec_bpText.l0 k l (mk (S ++ p)) ((e + 1 : Nat) : Int)) r → Ev (fun k => spec_bpText.j3 k l (mk S) (i : Int) (e : Int)) r) ∧
      (∀ (ws : List ByteArray) (r : ByteArray), ws.length ≤ 10000 → Ev (fun k => impl_pagesText.l0 k l (ws ++ W.map mk) ((e + 1 : Nat) : Int)) r → Ev (fun k => impl_pagesText.l0 k l ws (i : Int)) r) := by
  obtain ⟨e, hr⟩ := run_ex l (l.length - i - 1) i (by omega)
  have hr' := hr
  obtain ⟨g1, g2, g3, g4⟩ := hr'
  obtain ⟨n, hn, en⟩ := hv i hi
  obtain ⟨m, hm, em⟩ := hv e g3
  have n1 : strconv_Itoa.f (rd l (i : Int)) = some (mk (Lib.decDigits n)) := by rw [en]; exact itoa_nat hn
  have m1 : strconv_Itoa.f (rd l (e : Int)) = some (mk (Lib.decDigits m)) := by rw [em]; exact itoa_nat hm
  have n2 : ∀ k, 4 ≤ k → spec_l1Num.f k (rd l (i : Int)) = some (mk (Lib.decDigits n)) := fun k hk => by rw [en]; exact num_nat hn k hk
  have m2 : ∀ k, 4 ≤ k → spec_l1Num.f k (rd l (e : Int)) = some (mk (Lib.decDigits m)) := fun k hk => by rw [em]; exact num_nat hm k hk
  have n3 := dec_le n (by omega)
  have m3 := dec_le m (by omega)
  clear en em hv
  have i0 : (0 : Int) ≤ (i : Int) := Int.natCast_nonneg _
  have e0 : (0 : Int) ≤ (e : Int) := Int.natCast_nonneg _
  have i1 : (i : Int) < (l.length : Int) := by omega
  have e1 : (e : Int) < (l.length : Int) := by omega
  have i3 : wrap64 ((i : Int) + 2) = ((i + 2 : Nat) : Int) := w_add (m := 2) (by omega)
  have i4 : wrap64 ((i : Int) + 1) = ((i + 1 : Nat) : Int) := w_suc (by omega)
  have e4 : wrap64 ((e : Int) + 1) = ((e + 1 : Nat) : Int) := w_suc (by omega)
  obtain ⟨d, rfl⟩ : ∃ d, e = i + d := ⟨e - i, by clear i3 i4 e4; omega⟩
  have dd : wrap64 (((i + d : Nat) : Int) - (i : Int)) = (d : Int) := w_sub (by clear i3 i4 e4; omega)
  have run1 := fun (s r : ByteArray) => s_run (s := s) (i := (i : Int)) (r := r) hl d i (i + d) rfl hr
  have run2 := fun (ws : List ByteArray) (r : ByteArray) => i_run (s := ws) (i := (i : Int)) (r := r) hl d i (i + d) rfl hr
  have hb : (9223372036854775807 : Nat) = 9223372036854775807 := rfl
  generalize hD : Lib.decDigits n = D at *
  generalize hM : Lib.decDigits m = M at *
  match d with
  | 0 =>
    refine ⟨i + 0, [D], D, Nat.le_refl _, g3, by simp, by simp, by simp [Cm], by omega, run1, fun S r hS h => ?_, fun ws r hw h => ?_⟩
    · rw [← mk_app] at h
      exact h.step fun k hk => s3_one (by rw [dd]; rfl) i0 i1 (n2 k hk) (by rw [mk_size, mk_size]; clear dd i3 i4 e4; omega) e4
    · have a := h.step (f := fun k => impl_pagesText.j2 k l ws (i : Int) ((i + 0 : Nat) : Int)) fun k _ => i2_few i3 (by clear dd i3 i4 e4; omega) i0 i1 n1 (by clear dd i3 i4 e4; omega) i4
      exact (run2 ws r a).step fun k _ => i0_in i1
  | 1 =>
    refine ⟨i + 1, [D, M], D ++ 44 :: M, by omega, g3, by simp, by simp; omega, by simp [Cm], by simp; omega, run1, fun S r hS h => ?_, fun ws r hw h => ?_⟩
    · have q : mk (S ++ (D ++ 44 :: M)) = mk S ++ ((mk D ++ (⟨#[44]⟩ : ByteArray)) ++ mk M) := by
        rw [mk_44, mk_app, mk_app]; simp
      rw [q] at h
      exact h.step fun k hk => s3_two dd (by decide) (by rfl) i0 i1 e0 e1 (n2 k hk) (m2 k hk) (by rw [mk_size]; clear dd i3 i4 e4; omega) (by rw [mk_44, mk_size, mk_size]; simp; clear dd i3 i4 e4; omega) (by rw [mk_44, mk_app, mk_size, mk_size]; simp; clear dd i3 i4 e4; omega) e4
    · have r1 : Run l (i + 1) (i + 1) := ⟨fun j h1 h2 => absurd h2 (Nat.not_lt.mpr h1), g2, g3, Nat.le_refl _⟩
      have i5 : wrap64 (((i + 1 : Nat) : Int) + 2) = ((i + 1 + 2 : Nat) : Int) := w_add (m := 2) (by clear dd i3 i4 e4; omega)
      have q : ws ++ [D, M].map mk = (ws ++ [mk D]) ++ [mk M] := by simp
      rw [q] at h
      have a := h.step (f := fun k => impl_pagesText.j2 k l (ws ++ [mk D]) ((i + 1 : Nat) : Int) ((i + 1 : Nat) : Int)) fun k _ => i2_few i5 (by clear dd i3 i4 e4 i5; omega) e0 e1 m1 (by simp; clear dd i3 i4 e4 i5; omega) e4
      have b := (i_run hl 0 (i + 1) (i + 1) rfl r1 a).step (f := fun k => impl_pagesText.l0 k l (ws ++ [mk D]) ((i + 1 : Nat) : Int)) fun k _ => i0_in e1
      have c := b.step (f := fun k => impl_pagesText.j2 k l ws (i : Int) ((i + 1 : Nat) : Int)) fun k _ => i2_few i3 (by clear dd i3 i4 e4 i5; omega) i0 i1 n1 (by clear dd i3 i4 e4 i5; omega) i4
      exact (run2 ws r c).step fun k _ => i0_in i1
  | d + 2 =>
    refine ⟨i + (d + 2), [D ++ 45 :: M], D ++ 45 :: M, by omega, g3, by simp, by simp; omega, by simp [Cm], by simp; omega, run1, fun S r hS h => ?_, fun ws r hw h => ?_⟩
    · have q : mk (S ++ (D ++ 45 :: M)) = mk S ++ ((mk D ++ (⟨#[45]⟩ : ByteArray)) ++ mk M) := by
        rw [mk_45, mk_app, mk_app]; simp
      rw [q] at h
      exact h.step fun k hk => s3_more dd (by clear dd i3 i4 e4; omega) (by clear dd i3 i4 e4; omega) i0 i1 e0 e1 (n2 k hk) (m2 k hk) (by rw [mk_size]; clear dd i3 i4 e4; omega) (by rw [mk_45, mk_size, mk_size]; simp; clear dd i3 i4 e4; omega) (by rw [mk_45, mk_app, mk_size, mk_size]; simp; clear dd i3 i4 e4; omega) e4
    · have q : ws ++ [D ++ 45 :: M].map mk = ws ++ [(mk D ++ (⟨#[45]⟩ : ByteArray)) ++ mk M] := by
        rw [mk_45, mk_app]; simp
      rw [q] at h
      have a := h.step (f := fun k => impl_pagesText.j2 k l ws (i : Int) ((i + (d + 2) : Nat) : Int)) fun k _ => i2_more i3 (by clear dd i3 i4 e4; omega) i0 i1 e0 e1 n1 m1 (by rw [mk_size]; clear dd i3 i4 e4; omega) (by rw [mk_45, mk_size, mk_size]; simp; clear dd i3 i4 e4; omega) (by clear dd i3 i4 e4; omega) e4
      exact (run2 ws r a).step fun k _ => i0_in i1
/-- From a later page on. -/
theorem rest_words {l : List Int} (hl : l.length ≤ 20) (hv : ∀ i : Nat, i < l.length → ∃ n : Nat, n ≤ 9999 ∧ rd l (i : Int) = (n : Int)) (m : Nat) : ∀ i : Nat, l.length - i ≤ m → 1 ≤ i → i ≤ l.length →
    ∃ W : List (List UInt8), W.length ≤ l.length - i ∧ (Cm W).length ≤ 60 * (l.length - i) ∧
      (∀ S : List UInt8, S.length ≤ 60 * i → Ev (fun k => spec_bpText.l0 k l (mk S) (i : Int)) (mk (S ++ Cm W))) ∧
      (∀ (ws : List ByteArray) (r : ByteArray), ws.length ≤ i → strings_Join.f (ws ++ W.map mk) (⟨#[44]⟩ : ByteArray) = some r → Ev (fun k => impl_pagesText.l0 k l ws (i : Int)) r) := by
  induction m with
  | zero =>
    intro i h1 h2 h3
    have q : ¬ (i : Int) < (l.length : Int) := by omega
    refine ⟨[], by simp, by simp [Cm], fun S _ => ?_, fun ws r _ h => ?_⟩
    · rw [show S ++ Cm [] = S by simp [Cm]]
      exact Ev.fin fun k => s0_out q
    · exact Ev.fin fun k => i0_out q (by simpa using h)
  | succ m ih =>
    intro i h1 h2 h3
    by_cases c : i = l.length
    · have q : ¬ (i : Int) < (l.length : Int) := by omega
      refine ⟨[], by simp, by simp [Cm], fun S _ => ?_, fun ws r _ h => ?_⟩
      · rw [show S ++ Cm [] = S by simp [Cm]]
        exact Ev.fin fun k => s0_out q
      · exact Ev.fin fun k => i0_out q (by simpa using h)
    · have hi : i < l.length := by omega
      obtain ⟨e, W, p, a1, a2, a3, a4, a5, a6, a7, a8, a9⟩ := run_words hl hv hi
      obtain ⟨V, b1, b2, b3, b4⟩ := ih (e + 1) (by omega) (by omega) (by omega)
      have q : (i : Int) < (l.length : Int) := by omega
      have q2 : (i : Int) > 0 := by omega
      refine ⟨W ++ V, by simp; omega, by rw [Cm_append, a5]; simp; omega, fun S hS => ?_, fun ws r hw h => ?_⟩
      · have x := b3 ((S ++ [44]) ++ p) (by simp; omega)
        have e1 : (S ++ [44]) ++ p ++ Cm V = S ++ Cm (W ++ V) := by rw [Cm_append, a5]; simp
        rw [e1] at x
        have y := a8 (S ++ [44]) _ (by simp; omega) x
        have z := y.step (f := fun k => spec_bpText.j2 k l (mk S) (i : Int) (e : Int)) fun k _ => by
          have g := s2_pos (k := k) (l := l) (s := mk S) (e := (e : Int)) q2 (by rw [mk_size]; omega)
          rw [mk_44] at g
          exact g
        exact (a7 _ _ z).step fun k _ => s0_in q
      · exact a9 ws r (by omega) (b4 _ r (by simp; omega) (by rw [← h]; simp))
theorem join_mk (W : List (List UInt8)) : strings_Join.all (W.map mk) (⟨#[44]⟩ : ByteArray) = Lib.join W [44] := by
  unfold strings_Join.all
  have e : (W.map mk).map (·.data.toList) = W := by simp [mk, Function.comp_def]
  rw [e]
theorem both_text {l : List Int} (h0 : 1 ≤ l.length) (hl : l.length ≤ 20) (hv : ∀ i : Nat, i < l.length → ∃ n : Nat, n ≤ 9999 ∧ rd l (i : Int) = (n : Int)) :
    ∃ r : ByteArray, Ev (fun k => spec_bpText.f k l) r ∧ Ev (fun k => impl_pagesText.f k l) r := by
  obtain ⟨e, W, p, a1, a2, a3, a4, a5, a6, a7, a8, a9⟩ := run_words hl hv (i := 0) (by omega)
  obtain ⟨V, b1, b2, b3, b4⟩ := rest_words hl hv l.length (e + 1) (by omega) (by omega) (by omega)
  have q : ((0 : Nat) : Int) < (l.length : Int) := by omega
  have x := b3 p (by omega)
  have y := a8 [] _ (by simp) (by simpa using x)
  have z := y.step (f := fun k => spec_bpText.j2 k l (mk []) ((0 : Nat) : Int) (e : Int)) fun k _ => s2_zero (by omega)
  have s := (a7 _ _ z).step (f := fun k => spec_bpText.l0 k l (mk []) ((0 : Nat) : Int)) fun k _ => s0_in q
  have j : Lib.join (W ++ V) [44] = p ++ Cm V := by
    have g := Cm_join (W ++ V) (by simp [a3])
    rw [Cm_append, a5] at g
    simpa using g
  refine ⟨mk (p ++ Cm V), s, ?_⟩
  refine a9 [] _ (by simp) (b4 _ _ ?_ ?_)
  · simp; omega
  · rw [List.nil_append, ← List.map_append]
    unfold strings_Join.f
    rw [join_mk, j, if_pos (by simp; omega), if_pos (by simp; omega)]
theorem in_spec (a b c : Int) : spec_l1In.f a b c = some (decide (b ≤ a ∧ a ≤ c)) := by
  unfold spec_l1In.f; by_cases h : b ≤ a <;> simp [h]
theorem in_impl (a b c : Int) : impl_within.f a b c = some (decide (b ≤ a ∧ a ≤ c)) := by
  unfold impl_within.f; by_cases h : b ≤ a <;> simp [h]
theorem p_end {k : Nat} {l : List Int} {a b n x : Int} (h : ¬ x < n) : spec_l1Rising.l0 (k + 1) l a b l n x = some true := by rw [spec_l1Rising.l0, if_neg h]
theorem p_bad {k : Nat} {l : List Int} {a b n x : Int} (h : x < n) (h0 : 0 ≤ x) (h1 : x < (l.length : Int)) (hb : ¬ (a ≤ rd l x ∧ rd l x ≤ b)) : spec_l1Rising.l0 (k + 1) l a b l n x = some false := by
  rw [spec_l1Rising.l0, if_pos h, if_pos h0, if_pos h1, in_spec, Option.bind_some, decide_eq_false hb, if_neg (by decide)]
theorem p_first {k : Nat} {l : List Int} {a b n x y : Int} (h : x < n) (h0 : 0 ≤ x) (h1 : x < (l.length : Int)) (hb : a ≤ rd l x ∧ rd l x ≤ b) (hx : ¬ x > 0) (hy : wrap64 (x + 1) = y) :
    spec_l1Rising.l0 (k + 1) l a b l n x = spec_l1Rising.l0 k l a b l n y := by
  rw [spec_l1Rising.l0, if_pos h, if_pos h0, if_pos h1, in_spec, Option.bind_some, decide_eq_true hb, if_pos rfl, if_neg hx, hy]
theorem p_fall {k : Nat} {l : List Int} {a b n x z : Int} (h : x < n) (h0 : 0 ≤ x) (h1 : x < (l.length : Int)) (hb : a ≤ rd l x ∧ rd l x ≤ b) (hx : x > 0) (hz : wrap64 (x - 1) = z) (z0 : 0 ≤ z) (z1 : z < (l.length : Int)) (hf : rd l z ≥ rd l x) :
    spec_l1Rising.l0 (k + 1) l a b l n x = some false := by
  rw [spec_l1Rising.l0, if_pos h, if_pos h0, if_pos h1, in_spec, Option.bind_some, decide_eq_true hb, if_pos rfl, if_pos hx, hz, if_pos z0, if_pos z1, if_pos hf]
theorem p_rise {k : Nat} {l : List Int} {a b n x y z : Int} (h : x < n) (h0 : 0 ≤ x) (h1 : x < (l.length : Int)) (hb : a ≤ rd l x ∧ rd l x ≤ b) (hx : x > 0) (hz : wrap64 (x - 1) = z) (z0 : 0 ≤ z) (z1 : z < (l.length : Int)) (hf : ¬ rd l z ≥ rd l x) (hy : wrap64 (x + 1) = y) :
    spec_l1Rising.l0 (k + 1) l a b l n x = spec_l1Rising.l0 k l a b l n y := by
  rw [spec_l1Rising.l0, if_pos h, if_pos h0, if_pos h1, in_spec, Option.bind_some, decide_eq_true hb, if_pos rfl, if_pos hx, hz, if_pos z0, if_pos z1, if_neg hf, hy]
theorem q_fall {k : Nat} {l : List Int} {x z : Int} (h : x < (l.length : Int)) (h0 : 0 ≤ x) (hz : wrap64 (x - 1) = z) (z0 : 0 ≤ z) (z1 : z < (l.length : Int)) (hf : rd l z ≥ rd l x) : impl_arePages.l0 (k + 1) l x = some false := by
  rw [impl_arePages.l0, if_pos h, hz, if_pos z0, if_pos z1, if_pos h0, if_pos hf]
theorem q_rise {k : Nat} {l : List Int} {x y z : Int} (h : x < (l.length : Int)) (h0 : 0 ≤ x) (hz : wrap64 (x - 1) = z) (z0 : 0 ≤ z) (z1 : z < (l.length : Int)) (hf : ¬ rd l z ≥ rd l x) (hy : wrap64 (x + 1) = y) : impl_arePages.l0 (k + 1) l x = impl_arePages.l0 k l y := by
  rw [impl_arePages.l0, if_pos h, hz, if_pos z0, if_pos z1, if_pos h0, if_neg hf, hy]
theorem q_long {k : Nat} {l : List Int} {x : Int} (h : ¬ x < (l.length : Int)) (hn : ¬ (1 ≤ (l.length : Int) ∧ (l.length : Int) ≤ 20)) : impl_arePages.l0 (k + 1) l x = some false := by
  rw [impl_arePages.l0, if_neg h, in_impl, Option.bind_some, decide_eq_false hn, if_neg (by decide)]
theorem q_all {k : Nat} {l : List Int} {x : Int} (h : ¬ x < (l.length : Int)) (hn : 1 ≤ (l.length : Int) ∧ (l.length : Int) ≤ 20) : impl_arePages.l0 (k + 1) l x = impl_allWithin.f k l 1 2000 := by
  rw [impl_arePages.l0, if_neg h, in_impl, Option.bind_some, decide_eq_true hn, if_pos rfl]
  cases impl_allWithin.f k l 1 2000 <;> rfl
theorem a_end {k : Nat} {l : List Int} {a b n x : Int} (h : ¬ x < n) : impl_allWithin.l0 (k + 1) a b l n x = some true := by rw [impl_allWithin.l0, if_neg h]
theorem a_bad {k : Nat} {l : List Int} {a b n x : Int} (h : x < n) (h0 : 0 ≤ x) (h1 : x < (l.length : Int)) (hb : ¬ (a ≤ rd l x ∧ rd l x ≤ b)) : impl_allWithin.l0 (k + 1) a b l n x = some false := by
  rw [impl_allWithin.l0, if_pos h, if_pos h0, if_pos h1, in_impl, Option.bind_some, decide_eq_false hb, if_neg (by decide)]
theorem a_go {k : Nat} {l : List Int} {a b n x y : Int} (h : x < n) (h0 : 0 ≤ x) (h1 : x < (l.length : Int)) (hb : a ≤ rd l x ∧ rd l x ≤ b) (hy : wrap64 (x + 1) = y) : impl_allWithin.l0 (k + 1) a b l n x = impl_allWithin.l0 k a b l n y := by
  rw [impl_allWithin.l0, if_pos h, if_pos h0, if_pos h1, in_impl, Option.bind_some, decide_eq_true hb, if_pos rfl, hy]
def InB (l : List Int) (i : Nat) : Prop := 1 ≤ rd l (i : Int) ∧ rd l (i : Int) ≤ 2000
def Up (l : List Int) (i : Nat) : Prop := rd l ((i - 1 : Nat) : Int) < rd l (i : Int)
theorem w_pre {n : Nat} (h : 1 ≤ n) (h2 : n ≤ 2000000) : wrap64 ((n : Int) - 1) = ((n - 1 : Nat) : Int) := by
  rw [show (n : Int) - 1 = ((n - 1 : Nat) : Int) by omega]
  exact w64n (by omega)
theorem rising_ev {l : List Int} (hl : l.length ≤ 20) (d : Nat) : ∀ x : Nat, x + d = l.length →
    ∃ b : Bool, Ev (fun k => spec_l1Rising.l0 k l 1 2000 l (l.length : Int) (x : Int)) b ∧ (b = true ↔ ∀ i, x ≤ i → i < l.length → InB l i ∧ (1 ≤ i → Up l i)) := by
  induction d with
  | zero =>
    intro x h
    exact ⟨true, Ev.fin fun k => p_end (by omega), fun _ i h1 h2 => by omega, fun _ => rfl⟩
  | succ d ih =>
    intro x h
    obtain ⟨b, hb, hb2⟩ := ih (x + 1) (by omega)
    have q : (x : Int) < (l.length : Int) := by omega
    have q0 : (0 : Int) ≤ (x : Int) := Int.natCast_nonneg _
    have hx : x ≤ 20 := by omega
    by_cases c : InB l x
    · by_cases c1 : x = 0
      · have z : ¬ (x : Int) > 0 := by omega
        refine ⟨b, hb.step fun k _ => p_first q q0 q c z (w_suc (by omega)), hb2.trans ⟨fun g i h1 h2 => ?_, fun g i h1 h2 => g i (by omega) h2⟩⟩
        by_cases e : i = x
        · subst e; exact ⟨c, fun h3 => by omega⟩
        · exact g i (by omega) h2
      · have z : (x : Int) > 0 := by omega
        have z1 : ((x - 1 : Nat) : Int) < (l.length : Int) := by omega
        have w := w_pre (n := x) (by omega) (by omega)
        by_cases c2 : Up l x
        · refine ⟨b, hb.step fun k _ => p_rise q q0 q c z w (Int.natCast_nonneg _) z1 (Int.not_le.mpr c2) (w_suc (by omega)), hb2.trans ⟨fun g i h1 h2 => ?_, fun g i h1 h2 => g i (Nat.le_of_succ_le h1) h2⟩⟩
          by_cases e : i = x
          · subst e; exact ⟨c, fun _ => c2⟩
          · exact g i (Nat.lt_of_le_of_ne h1 (fun q => e q.symm)) h2
        · refine ⟨false, Ev.fin fun k => p_fall q q0 q c z w (Int.natCast_nonneg _) z1 (Int.not_lt.mp c2), fun g => by simp at g, fun g => ?_⟩
          exact absurd ((g x (Nat.le_refl _) (by clear w; omega)).2 (by clear w; omega)) c2
    · exact ⟨false, Ev.fin fun k => p_bad q q0 q c, fun g => by simp at g, fun g => absurd (g x (Nat.le_refl _) (by omega)).1 c⟩
theorem all_ev {l : List Int} (hl : l.length ≤ 20) (d : Nat) : ∀ x : Nat, x + d = l.length →
    ∃ b : Bool, Ev (fun k => impl_allWithin.l0 k 1 2000 l (l.length : Int) (x : Int)) b ∧ (b = true ↔ ∀ i, x ≤ i → i < l.length → InB l i) := by
  induction d with
  | zero =>
    intro x h
    exact ⟨true, Ev.fin fun k => a_end (by omega), fun _ i h1 h2 => by omega, fun _ => rfl⟩
  | succ d ih =>
    intro x h
    obtain ⟨b, hb, hb2⟩ := ih (x + 1) (by omega)
    have q : (x : Int) < (l.length : Int) := by omega
    have q0 : (0 : Int) ≤ (x : Int) := Int.natCast_nonneg _
    by_cases c : InB l x
    · refine ⟨b, hb.step fun k _ => a_go q q0 q c (w_suc (by omega)), hb2.trans ⟨fun g i h1 h2 => ?_, fun g i h1 h2 => g i (by omega) h2⟩⟩
      by_cases e : i = x
      · subst e; exact c
      · exact g i (by omega) h2
    · exact ⟨false, Ev.fin fun k => a_bad q q0 q c, fun g => by simp at g, fun g => absurd (g x (Nat.le_refl _) (by omega)) c⟩
theorem are_ev {l : List Int} (hl : l.length ≤ 1048576) (d : Nat) : ∀ x : Nat, 1 ≤ x → l.length ≤ x + d →
    ∃ b : Bool, Ev (fun k => impl_arePages.l0 k l (x : Int)) b ∧ (b = true ↔ (∀ i, x ≤ i → i < l.length → Up l i) ∧ (1 ≤ (l.length : Int) ∧ (l.length : Int) ≤ 20) ∧ ∀ i, i < l.length → InB l i) := by
  have last : ∀ x : Nat, l.length ≤ x → ∃ b : Bool, Ev (fun k => impl_arePages.l0 k l (x : Int)) b ∧ (b = true ↔ (∀ i, x ≤ i → i < l.length → Up l i) ∧ (1 ≤ (l.length : Int) ∧ (l.length : Int) ≤ 20) ∧ ∀ i, i < l.length → InB l i) := by
    intro x h
    have q : ¬ (x : Int) < (l.length : Int) := by omega
    by_cases c : 1 ≤ (l.length : Int) ∧ (l.length : Int) ≤ 20
    · obtain ⟨b, hb, hb2⟩ := all_ev (l := l) (by omega) l.length 0 (by omega)
      refine ⟨b, Ev.step (g := fun k => impl_allWithin.f k l 1 2000) hb fun k _ => q_all q c, hb2.trans ⟨fun g => ⟨fun i h1 h2 => by omega, c, fun i h2 => g i (Nat.zero_le _) h2⟩, fun g i _ h2 => g.2.2 i h2⟩⟩
    · exact ⟨false, Ev.fin fun k => q_long q c, fun g => by simp at g, fun g => absurd g.2.1 c⟩
  induction d with
  | zero => intro x h1 h; exact last x h
  | succ d ih =>
    intro x h0 h
    by_cases c0 : l.length ≤ x
    · exact last x c0
    clear last
    obtain ⟨b, hb, hb2⟩ := ih (x + 1) (by omega) (by omega)
    have q : (x : Int) < (l.length : Int) := by omega
    have q0 : (0 : Int) ≤ (x : Int) := Int.natCast_nonneg _
    have z1 : ((x - 1 : Nat) : Int) < (l.length : Int) := by omega
    have w := w_pre (n := x) (by omega) (by omega)
    have hx : x ≤ 1999999 := by clear w hb2; omega
    by_cases c2 : Up l x
    · refine ⟨b, hb.step fun k _ => q_rise q q0 w (Int.natCast_nonneg _) z1 (Int.not_le.mpr c2) (w_suc hx), hb2.trans ⟨fun g => ⟨fun i h1 h2 => ?_, g.2⟩, fun g => ⟨fun i h1 h2 => g.1 i (Nat.le_of_succ_le h1) h2, g.2⟩⟩⟩
      by_cases e : i = x
      · subst e; exact c2
      · exact g.1 i (Nat.lt_of_le_of_ne h1 (fun q => e q.symm)) h2
    · refine ⟨false, Ev.fin fun k => q_fall q q0 w (Int.natCast_nonneg _) z1 (Int.not_lt.mp c2), fun g => by simp at g, fun g => ?_⟩
      exact absurd (g.1 x (Nat.le_refl _) (by clear w; omega)) c2
theorem toInt_ev {l : List Int} (hl : l.length ≤ 1048576) (d : Nat) : ∀ (x : Nat) (m : List Int), x + d = l.length → m.length = l.length → (∀ i, i < x → m[i]? = l[i]?) → Ev (fun k => laws_toIntS.l0 k l m (x : Int)) l := by
  induction d with
  | zero =>
    intro x m h hm hg
    have q : ¬ (x : Int) < (l.length : Int) := by omega
    have e : m = l := by
      apply List.ext_getElem?
      intro i
      by_cases c : i < x
      · exact hg i c
      · rw [List.getElem?_eq_none (by omega), List.getElem?_eq_none (by omega)]
    subst e
    exact Ev.fin fun k => by rw [laws_toIntS.l0, if_neg q]
  | succ d ih =>
    intro x m h hm hg
    have q : (x : Int) < (l.length : Int) := by omega
    have q1 : (x : Int) < (m.length : Int) := by omega
    have hx : x < l.length := by omega
    have hx2 : x ≤ 1999999 := by omega
    have g := ih (x + 1) (m.set x (rd l (x : Int))) (by omega) (by simpa using hm) (fun i hi => by
      by_cases e : i = x
      · subst e
        rw [List.getElem?_set_self (by omega), List.getElem?_eq_getElem hx]
        simp [rd, List.getD_eq_getElem?_getD, List.getElem?_eq_getElem hx]
      · rw [List.getElem?_set_ne (fun q => e q.symm)]
        exact hg i (by omega))
    have w := w_suc hx2
    exact g.step fun k _ => by
      rw [laws_toIntS.l0, if_pos q, if_pos (Int.natCast_nonneg _), if_pos q1, w, Int.toNat_natCast]
theorem toInt_f {l : List Int} (hl : l.length ≤ 1048576) : Ev (fun k => laws_toIntS.f k l) l := by
  have g := toInt_ev hl l.length 0 (List.replicate l.length 0) (by omega) (by simp) (fun i hi => by omega)
  obtain ⟨K, hK⟩ := g
  refine ⟨K, fun k hk => ?_⟩
  simp only [laws_toIntS.f]
  rw [if_pos (Int.natCast_nonneg _), Int.toNat_natCast, if_pos (by omega)]
  exact hK k hk
theorem eqi_ev {l : List Int} (hl : l.length ≤ 1048576) (d : Nat) : ∀ x : Nat, x + d = l.length → Ev (fun k => laws_eqIntS.l0 k l l (x : Int)) true := by
  induction d with
  | zero =>
    intro x h
    have q : ¬ (x : Int) < (l.length : Int) := by omega
    exact Ev.fin fun k => by rw [laws_eqIntS.l0, if_neg q]
  | succ d ih =>
    intro x h
    have q : (x : Int) < (l.length : Int) := by omega
    have hx2 : x ≤ 1999999 := by omega
    have g := ih (x + 1) (by omega)
    have w := w_suc hx2
    exact g.step fun k _ => by
      rw [laws_eqIntS.l0, if_pos q, if_pos (Int.natCast_nonneg _), if_pos q, if_pos rfl, w]
theorem eqi_f {l : List Int} (hl : l.length ≤ 1048576) : Ev (fun k => laws_eqIntS.f k l l) true := by
  obtain ⟨K, hK⟩ := eqi_ev hl l.length 0 (by omega)
  refine ⟨K, fun k hk => ?_⟩
  show laws_eqIntS.f k l l = some true
  unfold laws_eqIntS.f
  rw [if_pos rfl]
  exact hK k hk
theorem list_ev {l : List Int} (hl : l.length ≤ 1048576) :
    ∃ b : Bool, Ev (fun k => spec_bpList.f k l) b ∧ Ev (fun k => impl_arePages.f k l) b ∧ (b = true → 1 ≤ l.length ∧ l.length ≤ 20 ∧ ∀ i, i < l.length → InB l i) := by
  obtain ⟨b, hb, hb2⟩ := are_ev hl l.length 1 (Nat.le_refl _) (by omega)
  refine ⟨b, ?_, hb, fun h => ?_⟩
  · by_cases c : 1 ≤ (l.length : Int) ∧ (l.length : Int) ≤ 20
    · obtain ⟨b', h1, h2⟩ := rising_ev (l := l) (by omega) l.length 0 (by omega)
      have e : b = b' := by
        rw [Bool.eq_iff_iff, hb2, h2]
        exact ⟨fun g i _ h => ⟨g.2.2 i h, fun h1 => g.1 i h1 h⟩, fun g => ⟨fun i h1 h => (g i (Nat.zero_le _) h).2 h1, c, fun i h => (g i (Nat.zero_le _) h).1⟩⟩
      rw [e]
      obtain ⟨K, hK⟩ := h1
      refine ⟨K, fun k hk => ?_⟩
      show spec_bpList.f k l = some b'
      unfold spec_bpList.f
      rw [in_spec, Option.bind_some, decide_eq_true c, if_pos rfl]
      have g : spec_l1Rising.f k l 1 2000 = some b' := hK k hk
      rw [g, Option.bind_some]
    · have e : b = false := by
        cases b with
        | false => rfl
        | true => exact absurd (hb2.1 rfl).2.1 c
      rw [e]
      refine ⟨0, fun k _ => ?_⟩
      show spec_bpList.f k l = some false
      unfold spec_bpList.f
      rw [in_spec, Option.bind_some, decide_eq_false c, if_neg (by decide)]
  · obtain ⟨_, g2, g3⟩ := hb2.1 h
    exact ⟨by omega, by omega, g3⟩
theorem text_ev {l : List Int} (hl : l.length ≤ 1048576) :
    ∃ r : ByteArray × Bool, Ev (fun k => spec_PagesText.f k l) r ∧ Ev (fun k => impl_PagesText.f k l) r := by
  obtain ⟨b, ⟨K, h1⟩, ⟨M, h2⟩, h3⟩ := list_ev hl
  dsimp only at h1 h2
  cases b with
  | false =>
    refine ⟨((⟨#[]⟩ : ByteArray), false), ⟨K, fun k hk => ?_⟩, ⟨M, fun k hk => ?_⟩⟩
    · show spec_PagesText.f k l = _
      unfold spec_PagesText.f
      rw [h1 k hk, Option.bind_some, if_neg (by decide)]
    · show impl_PagesText.f k l = _
      unfold impl_PagesText.f
      rw [h2 k hk, Option.bind_some, if_neg (by decide)]
  | true =>
    obtain ⟨g1, g2, g3⟩ := h3 rfl
    obtain ⟨r, ⟨K2, r1⟩, ⟨M2, r2⟩⟩ := both_text g1 g2 (fun i hi => ⟨(rd l (i : Int)).toNat, by have := g3 i hi; unfold InB at this; omega, by have := g3 i hi; unfold InB at this; omega⟩)
    dsimp only at r1 r2
    refine ⟨(r, true), ⟨K + K2, fun k hk => ?_⟩, ⟨M + M2, fun k hk => ?_⟩⟩
    · show spec_PagesText.f k l = _
      unfold spec_PagesText.f
      rw [h1 k (by omega), Option.bind_some, if_pos rfl, r1 k (by omega), Option.bind_some]
    · show impl_PagesText.f k l = _
      unfold impl_PagesText.f
      rw [h2 k (by omega), Option.bind_some, if_pos rfl, r2 k (by omega), Option.bind_some]
theorem law_j0 {k : Nat} {l m m2 : List Int} (h1 : laws_toIntS.f k l = some m) (h2 : laws_eqIntS.f k m2 m = some true) : laws_FnExactPagesText.j0 (k + 1) l m2 false = some true := by
  rw [laws_FnExactPagesText.j0, if_neg (by decide), h1, Option.bind_some, h2, Option.bind_some, if_pos rfl]

/-- YOURS: ∀ (l0 : List Int), l0.length ≤ maxLen → l0.length * 8 ≤ 140737488351232 → (∀ x ∈ l0, (Lit.int .i64 x).wf = true) → ∃ k, laws_FnExactPagesText.f k l0 = some true
What it reaches (each with k first where it has rounds; `.mono`: more rounds tell the same; `.l0`, ..: its loops, with `.mono_l`): spec_l1In.f, spec_l1Rising.f, spec_bpList.f, spec_l1Num.f, spec_bpText.f, spec_PagesText.f, laws_toIntS.f, impl_within.f, impl_allWithin.f, impl_arePages.f, strconv_Itoa.f, strings_Join.f, impl_pagesText.f, impl_PagesText.f, laws_eqIntS.f, laws_FnExactPagesText.f -/
theorem FnExactPagesText : laws_FnExactPagesText.Pure := by
  intro l _ _ _
  by_cases c : (l.length : Int) > 1048576
  · exact ⟨0, by unfold laws_FnExactPagesText.f; rw [if_pos c]⟩
  · have hl : l.length ≤ 1048576 := by omega
    obtain ⟨r, ⟨K1, h1⟩, ⟨K2, h2⟩⟩ := text_ev hl
    obtain ⟨K3, h3⟩ := toInt_f hl
    obtain ⟨K4, h4⟩ := eqi_f hl
    dsimp only at h1 h2 h3 h4
    refine ⟨K1 + K2 + K3 + K4 + 1, ?_⟩
    unfold laws_FnExactPagesText.f
    rw [if_neg c, h3 _ (by omega), Option.bind_some, h1 _ (by omega), Option.bind_some, Option.bind_some, h2 _ (by omega), Option.bind_some, if_pos rfl, bne_self_eq_false]
    exact law_j0 (h3 _ (by omega)) (h4 _ (by omega))

end Go.Proofs.YtjaeddckoocgbaaDoor.Pure
