import PyProof.Rows.All
import Wide.All
import OpenK.AllK
import Wide.FinOn
import HandS.ForMost
import HandS.Conv
import HandS.RevRange
import HandS.Zip
import HandS.Wide
import HandS.TupLe
import HandS.IsInst
import HandS.Exc
import HandS.ExcCtx
import HandS.HotCalls
import HandS.ExcInit
import HandS.ExcInitHot
import HandS.ExcIs
import HandS.ExcField
import HandS.WordsExc
import KE.GoesEnum
import HandS.Walk
import PySem.Challenge.RW_onesheetmore_k12_whole_rooms_both_ways
import KE.KExcIs
import HandS.Defaults
set_option linter.all false
namespace K12
/-! Sizes, rooms, left: the plain law. -/

/-- how often a size goes into the next one; 0 at the last -/
def rt (p : Nat) (w : Nat → Int) (i : Nat) : Int := if i + 1 < p then w (i + 1) / w i else 0

structure Row (p : Nat) (w : Nat → Int) : Prop where
  pos : 1 ≤ p
  le : p ≤ 4
  one : ∀ i, i < p → 1 ≤ w i
  big : ∀ i, i < p → w i < 1073741824
  dvd : ∀ i, i + 1 < p → w i ∣ w (i + 1)

section
variable {p : Nat} {w : Nat → Int} (R : Row p w)
include R
theorem Row.rt_nn (i : Nat) : 0 ≤ rt p w i := by
  unfold rt
  split
  · rename_i h
    exact Int.ediv_nonneg (by have := R.one (i + 1) h; omega) (by have := R.one i (by omega); omega)
  · exact Int.le_refl 0
theorem Row.rt_mul {i : Nat} (h : i + 1 < p) : rt p w i * w i = w (i + 1) := by
  unfold rt
  rw [if_pos h]
  exact Int.ediv_mul_cancel (R.dvd i h)
theorem Row.rt_one {i : Nat} (h : i + 1 < p) : 1 ≤ rt p w i := by
  have e := R.rt_mul h
  have h1 := R.one i (by omega)
  have h2 := R.one (i + 1) h
  have h3 := R.rt_nn i
  rcases Int.lt_or_le (rt p w i) 1 with h | h
  · have : rt p w i = 0 := by omega
    rw [this] at e
    omega
  · exact h
theorem Row.dvd_le {i j : Nat} (hij : i ≤ j) (hj : j < p) : w i ∣ w j := by
  induction j with
  | zero =>
    have : i = 0 := by omega
    subst this
    exact Int.dvd_refl _
  | succ j ih =>
    by_cases e : i = j + 1
    · subst e
      exact Int.dvd_refl _
    · exact Int.dvd_trans (ih (by omega) (by omega)) (R.dvd j hj)
theorem Row.quo {i j : Nat} (hij : i ≤ j) (hj : j < p) : w j / w i * w i = w j := Int.ediv_mul_cancel (R.dvd_le hij hj)
theorem Row.quo_pos {i j : Nat} (hij : i ≤ j) (hj : j < p) : 1 ≤ w j / w i := by
  have e := R.quo hij hj
  have h1 := R.one i (by omega)
  have h2 := R.one j hj
  have h3 : 0 ≤ w j / w i := Int.ediv_nonneg (by omega) (by omega)
  rcases Int.lt_or_le (w j / w i) 1 with h | h
  · have : w j / w i = 0 := by omega
    rw [this] at e
    omega
  · exact h
theorem Row.quo_le {i j : Nat} (hi : i < p) (hj : j < p) : w j / w i ≤ w j := Int.ediv_le_self _ (by have := R.one j hj; omega)
theorem Row.quo_self {i : Nat} (hi : i < p) : w i / w i = 1 := Int.ediv_self (by have := R.one i hi; omega)
/-- w j / w i = (w (i + 1) / w i) * (w j / w (i + 1)) -/
theorem Row.quo_step {i j : Nat} (hij : i + 1 ≤ j) (hj : j < p) : w j / w i = rt p w i * (w j / w (i + 1)) := by
  have e1 := R.quo (show i ≤ j by omega) hj
  have e2 := R.quo hij hj
  have e3 := R.rt_mul (show i + 1 < p by omega)
  have h1 := R.one i (by omega)
  apply Int.eq_of_mul_eq_mul_right (a := w i) (by omega)
  rw [e1, ← e2, ← e3]
  grind
end

/-! ### sums -/
def sm {α : Type} (f : α → Int) : List α → Int
  | [] => 0
  | a :: l => f a + sm f l
theorem sm_app {α : Type} (f : α → Int) : ∀ (l r : List α), sm f (l ++ r) = sm f l + sm f r
  | [], r => by show sm f r = 0 + sm f r; omega
  | a :: l, r => by
    show f a + sm f (l ++ r) = f a + sm f l + sm f r
    rw [sm_app f l r]; omega
theorem sm_take {α : Type} (f : α → Int) : ∀ {l : List α} {i : Nat} {a : α}, l[i]? = some a → sm f (l.take (i + 1)) = sm f (l.take i) + f a
  | [], i, a, h => by simp at h
  | b :: l, 0, a, h => by
    have e : b = a := by simpa using h
    subst e
    show f b + sm f (List.take 0 l) = 0 + f b
    rw [List.take_zero]; show f b + 0 = 0 + f b; omega
  | b :: l, i + 1, a, h => by
    have h2 : l[i]? = some a := by simpa using h
    show f b + sm f (l.take (i + 1)) = f b + sm f (l.take i) + f a
    rw [sm_take f h2]; omega
theorem sm_congr {α : Type} {f g : α → Int} : ∀ {l : List α}, (∀ a ∈ l, f a = g a) → sm f l = sm g l
  | [], _ => rfl
  | a :: l, h => by
    show f a + sm f l = g a + sm g l
    rw [h a List.mem_cons_self, sm_congr fun b hb => h b (List.mem_cons_of_mem _ hb)]
theorem sm_lin {α : Type} (f g : α → Int) (c : Int) : ∀ (l : List α), sm (fun a => f a + c * g a) l = sm f l + c * sm g l
  | [] => by show (0 : Int) = 0 + c * 0; omega
  | a :: l => by
    show f a + c * g a + sm (fun a => f a + c * g a) l = f a + sm f l + c * (g a + sm g l)
    rw [sm_lin f g c l]; grind
theorem sm_map {α β : Type} (f : β → Int) (k : α → β) : ∀ (l : List α), sm f (l.map k) = sm (fun a => f (k a)) l
  | [] => rfl
  | a :: l => by
    show f (k a) + sm f (l.map k) = f (k a) + sm (fun a => f (k a)) l
    rw [sm_map f k l]

/-! ### the least of the first ones -/
def minF (f : Nat → Int) : Nat → Int
  | 0 => f 0
  | i + 1 => min (minF f i) (f (i + 1))
theorem le_minF (f : Nat → Int) (v : Int) : ∀ i, v ≤ minF f i ↔ ∀ k, k ≤ i → v ≤ f k
  | 0 => ⟨fun h k hk => by have : k = 0 := by omega
                           subst this; exact h, fun h => h 0 (Nat.le_refl 0)⟩
  | i + 1 => by
    show v ≤ min (minF f i) (f (i + 1)) ↔ _
    rw [Int.le_min, le_minF f v i]
    constructor
    · rintro ⟨h1, h2⟩ k hk
      by_cases e : k = i + 1
      · subst e; exact h2
      · exact h1 k (by omega)
    · intro h
      exact ⟨fun k hk => h k (by omega), h (i + 1) (Nat.le_refl _)⟩
theorem minF_mem (f : Nat → Int) : ∀ i, ∃ k, k ≤ i ∧ minF f i = f k
  | 0 => ⟨0, Nat.le_refl 0, rfl⟩
  | i + 1 => by
    obtain ⟨k, hk, e⟩ := minF_mem f i
    show ∃ k, k ≤ i + 1 ∧ min (minF f i) (f (i + 1)) = f k
    rcases Int.le_total (minF f i) (f (i + 1)) with h | h
    · exact ⟨k, by omega, by rw [Int.min_eq_left h, e]⟩
    · exact ⟨i + 1, Nat.le_refl _, Int.min_eq_right h⟩
theorem minF_le (f : Nat → Int) {i k : Nat} (h : k ≤ i) : minF f i ≤ f k := (le_minF f _ i).mp (Int.le_refl _) k h
/-- the least of a list, from what is said of it -/
theorem minF_of {f : Nat → Int} {i : Nat} {ns : List Int} {m : Int} (e : ns = (List.range (i + 1)).map f) (h1 : m ∈ ns) (h2 : ∀ y, y ∈ ns → m ≤ y) : m = minF f i := by
  subst e
  apply Int.le_antisymm
  · rw [le_minF]
    intro k hk
    exact h2 _ (List.mem_map.mpr ⟨k, List.mem_range.mpr (by omega), rfl⟩)
  · obtain ⟨k, hk, rfl⟩ := List.mem_map.mp h1
    exact minF_le f (by have := List.mem_range.mp hk; omega)
theorem eq_of_le_iff {a b : Int} (h : ∀ v, v ≤ a ↔ v ≤ b) : a = b := Int.le_antisymm ((h a).mp (Int.le_refl a)) ((h b).mpr (Int.le_refl b))

/-! ### what is left, from the last band down: level 0 is above the last -/
/-- s: the bands' ratios (0 at the last), A: top bands' shares less wants -/
def lv (q : Nat) (w : Nat → Int) (s : Nat → Int) (A : Nat → Nat → Int) : Nat → Nat → Int
  | 0, _ => 0
  | d + 1, i => minF (fun k => (s (q - 1 - d) * lv q w s A d k + A (q - 1 - d) k) * w k) i / w i
/-- rooms less wants at level d -/
def spr (q : Nat) (w : Nat → Int) (s : Nat → Int) (A : Nat → Nat → Int) (d : Nat) (i : Nat) : Int := s (q - 1 - d) * lv q w s A d i + A (q - 1 - d) i
theorem lv_succ (q : Nat) (w s : Nat → Int) (A : Nat → Nat → Int) (d i : Nat) : lv q w s A (d + 1) i = minF (fun k => spr q w s A d k * w k) i / w i := rfl
/-- no wants exceed their rooms -/
def Fits (p q : Nat) (w : Nat → Int) (s : Nat → Int) (A : Nat → Nat → Int) : Prop := ∀ d, d < q → ∀ i, i < p → 0 ≤ spr q w s A d i

section
variable {p q : Nat} {w s : Nat → Int} {A : Nat → Nat → Int} (R : Row p w)
include R
theorem le_lv {d i : Nat} (hi : i < p) (v : Int) : v ≤ lv q w s A (d + 1) i ↔ ∀ k, k ≤ i → v * w i ≤ spr q w s A d k * w k := by
  rw [lv_succ, Int.le_ediv_iff_mul_le (by have := R.one i hi; omega), le_minF]
/-- the same, by quotients -/
theorem le_lv' {d i : Nat} (hi : i < p) (v : Int) : v ≤ lv q w s A (d + 1) i ↔ ∀ k, k ≤ i → v * (w i / w k) ≤ spr q w s A d k := by
  rw [le_lv R hi]
  constructor
  · intro h k hk
    have h1 := h k hk
    have h2 := R.one k (by omega)
    have e := R.quo hk hi
    apply Int.le_of_mul_le_mul_right (a := w k) _ (by omega)
    calc v * (w i / w k) * w k = v * (w i / w k * w k) := Int.mul_assoc _ _ _
      _ = v * w i := by rw [e]
      _ ≤ _ := h1
  · intro h k hk
    have h1 := h k hk
    have h2 := R.one k (by omega)
    have e := R.quo hk hi
    calc v * w i = v * (w i / w k * w k) := by rw [e]
      _ = v * (w i / w k) * w k := (Int.mul_assoc _ _ _).symm
      _ ≤ _ := Int.mul_le_mul_of_nonneg_right h1 (by omega)
theorem lv_le {d i : Nat} (hi : i < p) : lv q w s A (d + 1) i ≤ spr q w s A d i := by
  have h := (le_lv' R (q := q) (s := s) (A := A) (d := d) hi _).mp (Int.le_refl _) i (Nat.le_refl _)
  rw [R.quo_self hi, Int.mul_one] at h
  exact h
theorem lv_step {d i : Nat} (hi : i + 1 < p) : rt p w i * lv q w s A (d + 1) (i + 1) ≤ lv q w s A (d + 1) i := by
  rw [le_lv' R (by omega)]
  intro k hk
  have h := (le_lv' R (q := q) (s := s) (A := A) (d := d) hi _).mp (Int.le_refl _) k (by omega)
  have e : w (i + 1) / w k = rt p w i * (w i / w k) := by
    have e1 := R.quo (show k ≤ i + 1 by omega) hi
    have e2 := R.quo hk (show i < p by omega)
    have e3 := R.rt_mul hi
    have h1 := R.one k (by omega)
    apply Int.eq_of_mul_eq_mul_right (a := w k) (by omega)
    rw [e1, ← e3, ← e2]
    grind
  rw [e] at h
  have e' : rt p w i * lv q w s A (d + 1) (i + 1) * (w i / w k) = lv q w s A (d + 1) (i + 1) * (rt p w i * (w i / w k)) := by grind
  rw [e']
  exact h
theorem lv_nn (F : ∀ i, i < p → 0 ≤ spr q w s A d i) {i : Nat} (hi : i < p) : 0 ≤ lv q w s A (d + 1) i := by
  rw [le_lv' R hi]
  intro k hk
  rw [Int.zero_mul]
  exact F k (by omega)
end

/-! ### goes in, whichever way: splits of shares -/
/-- x, y: how many shares of a kind are split across, up (of the smallest: let go) -/
def Goes (p q : Nat) (r s : Nat → Int) (D : Nat → Nat → Int) : Prop :=
  ∃ x y : Nat → Nat → Int, (∀ a b, 0 ≤ x a b) ∧ (∀ a b, 0 ≤ y a b) ∧
    ∀ a b, a < p → b < q → x a b + y a b ≤ D a b + r a * x (a + 1) b + s b * y a (b + 1)
theorem Goes.turn {p q : Nat} {r s : Nat → Int} {D : Nat → Nat → Int} (h : Goes p q r s D) : Goes q p s r (fun b a => D a b) := by
  obtain ⟨x, y, hx, hy, h⟩ := h
  refine ⟨fun b a => y a b, fun b a => x a b, fun _ _ => hy _ _, fun _ _ => hx _ _, fun b a hb ha => ?_⟩
  have := h a b ha hb
  show y a b + x a b ≤ D a b + s b * y a (b + 1) + r a * x (a + 1) b
  omega
/-- partial sums from the last down: n is how many -/
def psum (p : Nat) (r : Nat → Int) (y : Nat → Int) : Nat → Int
  | 0 => 0
  | n + 1 => y (p - 1 - n) + r (p - 1 - n) * psum p r y n
theorem psum_at {p : Nat} {r y : Nat → Int} {i : Nat} (hi : i < p) : psum p r y (p - i) = y i + r i * psum p r y (p - (i + 1)) := by
  obtain ⟨n, hn⟩ : ∃ n, p - i = n + 1 := ⟨p - i - 1, by omega⟩
  have e1 : p - (i + 1) = n := by omega
  have e2 : p - 1 - n = i := by omega
  rw [hn, e1]
  show y (p - 1 - n) + r (p - 1 - n) * psum p r y n = _
  rw [e2]
theorem psum_nn {p : Nat} {r y : Nat → Int} (hr : ∀ i, 0 ≤ r i) (hy : ∀ i, 0 ≤ y i) : ∀ n, 0 ≤ psum p r y n
  | 0 => Int.le_refl 0
  | n + 1 => Int.add_nonneg (hy _) (Int.mul_nonneg (hr _) (psum_nn hr hy n))
/-- A by its steps: the sum over what is at least i -/
structure Steps (p q : Nat) (r : Nat → Int) (A D : Nat → Nat → Int) : Prop where
  last : ∀ b, b < q → A b p = 0
  step : ∀ b i, b < q → i < p → A b i = D i b + r i * A b (i + 1)

section
variable {p q : Nat} {w s : Nat → Int} {A D : Nat → Nat → Int} (R : Row p w) (S : Steps p q (rt p w) A D) (hs : ∀ b, 0 ≤ s b) (hs0 : s (q - 1) = 0)
include R S hs hs0
theorem goes_fits (G : Goes p q (rt p w) s D) : Fits p q w s A := by
  obtain ⟨x, y, hx, hy, h⟩ := G
  let Y : Nat → Nat → Int := fun b i => psum p (rt p w) (fun a => y a b) (p - i)
  have hY : ∀ b i, i < p → Y b i = y i b + rt p w i * Y b (i + 1) := fun b i hi => psum_at hi
  have hYp : ∀ b i, p ≤ i → Y b i = 0 := fun b i hi => by
    show psum p (rt p w) (fun a => y a b) (p - i) = 0
    have : p - i = 0 := by omega
    rw [this]; rfl
  have hYn : ∀ b i, 0 ≤ Y b i := fun b i => psum_nn R.rt_nn (fun a => hy a b) _
  -- a row's sums
  have row : ∀ b, b < q → ∀ n i, p - i = n → i ≤ p → (if i < p then x i b else 0) + Y b i ≤ A b i + s b * Y (b + 1) i := by
    intro b hb n
    induction n with
    | zero =>
      intro i e hi
      have hp : i = p := by omega
      subst hp
      rw [if_neg (by omega), hYp b _ (Nat.le_refl _), hYp (b + 1) _ (Nat.le_refl _), S.last b hb]
      omega
    | succ n ih =>
      intro i e hi
      have hip : i < p := by omega
      have h1 := ih (i + 1) (by omega) (by omega)
      have h2 := h i b hip hb
      have h3 := R.rt_nn i
      rw [if_pos hip, hY b i hip, hY (b + 1) i hip, S.step b i hb hip]
      have h4 : rt p w i * x (i + 1) b = rt p w i * (if i + 1 < p then x (i + 1) b else 0) := by
        split
        · rfl
        · rename_i hn
          have : rt p w i = 0 := by unfold rt; rw [if_neg hn]
          rw [this]; omega
      have h5 := Int.mul_le_mul_of_nonneg_left h1 h3
      rw [h4] at h2
      grind
  -- what is left bears what is split up
  have left : ∀ d, (∀ i, i < p → Y (q - 1 - d) i ≤ spr q w s A d i) → ∀ i, i < p → Y (q - 1 - d) i ≤ lv q w s A (d + 1) i := by
    intro d h0 i hi
    rw [le_lv' R hi]
    intro k hk
    refine Int.le_trans ?_ (h0 k (by omega))
    -- Y b i * (w i / w k) ≤ Y b k
    have aux : ∀ n k, i - k = n → k ≤ i → Y (q - 1 - d) i * (w i / w k) ≤ Y (q - 1 - d) k := by
      intro n
      induction n with
      | zero =>
        intro k e hk
        have : k = i := by omega
        subst this
        rw [R.quo_self (by omega), Int.mul_one]
        exact Int.le_refl _
      | succ n ih =>
        intro k e hk
        have h1 := ih (k + 1) (by omega) (by omega)
        rw [hY _ k (by omega), R.quo_step (show k + 1 ≤ i by omega) hi]
        have h2 := Int.mul_le_mul_of_nonneg_left h1 (R.rt_nn k)
        have h3 := hy k (q - 1 - d)
        grind
    exact aux _ k rfl hk
  -- down the bands
  have down : ∀ d, d < q → (∀ i, i < p → Y (q - 1 - d) i ≤ spr q w s A d i) := by
    intro d
    induction d with
    | zero =>
      intro hq i hi
      have h1 := row (q - 1) (by omega) (p - i) i rfl (by omega)
      have h2 := hx i (q - 1)
      rw [if_pos hi, hs0] at h1
      show Y (q - 1 - 0) i ≤ s (q - 1 - 0) * 0 + A (q - 1 - 0) i
      rw [Nat.sub_zero]
      omega
    | succ d ih =>
      intro hd i hi
      have h1 := row (q - 1 - (d + 1)) (by omega) (p - i) i rfl (by omega)
      have h2 := hx i (q - 1 - (d + 1))
      have e : q - 1 - (d + 1) + 1 = q - 1 - d := by omega
      rw [if_pos hi, e] at h1
      have h3 := left d (ih (by omega)) i hi
      have h4 := Int.mul_le_mul_of_nonneg_left h3 (hs (q - 1 - (d + 1)))
      unfold spr
      omega
  intro d hd i hi
  exact Int.le_trans (hYn _ _) (down d hd i hi)
theorem fits_goes (F : Fits p q w s A) : Goes p q (rt p w) s D := by
  -- left by the band; L b i
  let L : Nat → Nat → Int := fun b i => if b < q ∧ i < p then lv q w s A (q - b) i else 0
  have hL : ∀ b i, b < q → i < p → L b i = lv q w s A (q - b) i := fun b i hb hi => if_pos ⟨hb, hi⟩
  have hL0 : ∀ b i, ¬ (b < q ∧ i < p) → L b i = 0 := fun b i h => if_neg h
  have hsub : ∀ b, b < q → q - b = (q - 1 - b) + 1 := fun b hb => by omega
  have hd : ∀ b, b < q → q - 1 - (q - 1 - b) = b := fun b hb => by omega
  have nn : ∀ b i, 0 ≤ L b i := by
    intro b i
    by_cases h : b < q ∧ i < p
    · rw [hL b i h.1 h.2, hsub b h.1]
      exact lv_nn R (F _ (by omega)) h.2
    · rw [hL0 b i h]; exact Int.le_refl 0
  -- S b i, by the band
  have hS : ∀ b i, b < q → i < p → spr q w s A (q - 1 - b) i = s b * L (b + 1) i + A b i := by
    intro b i hb hi
    unfold spr
    rw [hd b hb]
    by_cases e : b + 1 < q
    · rw [hL (b + 1) i e hi, show q - (b + 1) = q - 1 - b by omega]
    · have : b = q - 1 := by omega
      subst this
      rw [hs0]; omega
  refine ⟨fun a b => if a < p ∧ b < q then s b * L (b + 1) a + A b a - L b a else 0, fun a b => L b a - rt p w a * L b (a + 1), fun a b => ?_, fun a b => ?_, fun a b ha hb => ?_⟩
  · show 0 ≤ (if a < p ∧ b < q then s b * L (b + 1) a + A b a - L b a else 0)
    split
    · rename_i h
      rw [← hS b a h.2 h.1, hL b a h.2 h.1, hsub b h.2]
      have := lv_le R (q := q) (s := s) (A := A) (d := q - 1 - b) h.1
      omega
    · exact Int.le_refl 0
  · show 0 ≤ L b a - rt p w a * L b (a + 1)
    by_cases h : b < q ∧ a + 1 < p
    · rw [hL b a h.1 (by omega), hL b (a + 1) h.1 h.2, hsub b h.1]
      have := lv_step R (q := q) (s := s) (A := A) (d := q - 1 - b) h.2
      omega
    · by_cases h2 : b < q
      · rw [hL0 b (a + 1) (fun z => h z)]
        have := nn b a
        omega
      · rw [hL0 b (a + 1) (fun z => h2 z.1)]
        have := nn b a
        omega
  · show (if a < p ∧ b < q then s b * L (b + 1) a + A b a - L b a else 0) + (L b a - rt p w a * L b (a + 1)) ≤ D a b + rt p w a * (if a + 1 < p ∧ b < q then s b * L (b + 1) (a + 1) + A b (a + 1) - L b (a + 1) else 0) + s b * (L (b + 1) a - rt p w a * L (b + 1) (a + 1))
    rw [if_pos ⟨ha, hb⟩]
    have e := S.step b a hb ha
    by_cases h : a + 1 < p
    · rw [if_pos ⟨h, hb⟩]
      grind
    · have e0 : rt p w a = 0 := by unfold rt; rw [if_neg h]
      rw [e0] at e
      rw [e0]
      grind
end
/-- THE TWO WAYS: no wants exceed rooms by heights exactly if none do by widths -/
theorem fits_both {p q : Nat} {w h : Nat → Int} {A B D : Nat → Nat → Int} (R : Row p w) (T : Row q h) (S : Steps p q (rt p w) A D) (S' : Steps q p (rt q h) B fun b a => D a b) :
    Fits p q w (rt q h) A ↔ Fits q p h (rt p w) B := by
  have z1 : rt q h (q - 1) = 0 := by unfold rt; rw [if_neg (by have := T.pos; omega)]
  have z2 : rt p w (p - 1) = 0 := by unfold rt; rw [if_neg (by have := R.pos; omega)]
  exact ⟨fun F => goes_fits T S' R.rt_nn z2 (fits_goes R S T.rt_nn z1 F).turn, fun F => goes_fits R S T.rt_nn z1 (fits_goes T S' R.rt_nn z2 F).turn⟩
end K12


set_option linter.all false
namespace K12
/-! The law's own reckonings: shares, staircases, strips. -/
abbrev Tri := Int × Int × Int
abbrev Ent := Nat × Nat × Int
/-- top parts of a side at the i-th size: as the program says, as the law says -/
def part (p : Nat) (w : Nat → Int) (side : Int) (i : Nat) : Int := if i + 1 < p then side / w i - side / w (i + 1) * (w (i + 1) / w i) else side / w i
def band (p : Nat) (w : Nat → Int) (side : Int) (i : Nat) : Int := if i + 1 = p then side / w i else side % w (i + 1) / w i
theorem part_eq {p : Nat} {w : Nat → Int} (side : Int) (i : Nat) : part p w side i = side / w i - side / w (i + 1) * rt p w i := by
  unfold part rt
  split
  · rfl
  · omega
theorem band_part {p : Nat} {w : Nat → Int} (R : Row p w) {side : Int} {i : Nat} (hi : i < p) : band p w side i = part p w side i := by
  unfold band
  split
  · rename_i h
    unfold part
    rw [if_neg (by omega)]
  · rename_i h
    have h1 : i + 1 < p := by omega
    rw [part_eq]
    have e := R.rt_mul h1
    have hw := R.one i (by omega)
    have h2 := Int.emod_add_ediv_mul side (w (i + 1))
    have h3 : side = side % w (i + 1) + (side / w (i + 1) * rt p w i) * w i := by
      rw [Int.mul_assoc, e]; exact h2.symm
    have h4 : side / w i = side % w (i + 1) / w i + side / w (i + 1) * rt p w i := by
      conv => lhs; rw [h3]
      exact Int.add_mul_ediv_right _ _ (by omega)
    omega
def top (q : Nat) (h w : Nat → Int) (st : List Tri) (b i : Nat) : Int := sm (fun t => t.2.2 * part q h t.2.1 b * (t.1 / w i)) st
def want (w : Nat → Int) (ld : List Ent) (b i : Nat) : Int := sm (fun t => if t.2.1 = b ∧ i ≤ t.1 then t.2.2 * (w t.1 / w i) else 0) ld
def Aof (q : Nat) (h w : Nat → Int) (st : List Tri) (ld : List Ent) (b i : Nat) : Int := top q h w st b i - want w ld b i
def Dof (p q : Nat) (h w : Nat → Int) (st : List Tri) (ld : List Ent) (i b : Nat) : Int :=
  sm (fun t => t.2.2 * part q h t.2.1 b * part p w t.1 i) st - sm (fun t => if t.2.1 = b ∧ t.1 = i then t.2.2 else 0) ld
def turnS (st : List Tri) : List Tri := st.map fun t => (t.2.1, t.1, t.2.2)
def turnL (ld : List Ent) : List Ent := ld.map fun t => (t.2.1, t.1, t.2.2)
/-- what a lot's kinds keep -/
def InL (p q : Nat) (ld : List Ent) : Prop := ∀ t ∈ ld, t.1 < p ∧ t.2.1 < q ∧ 1 ≤ t.2.2
theorem InL.turn {p q : Nat} {ld : List Ent} (h : InL p q ld) : InL q p (turnL ld) := by
  intro t ht
  obtain ⟨u, hu, rfl⟩ := List.mem_map.mp ht
  obtain ⟨h1, h2, h3⟩ := h u hu
  exact ⟨h2, h1, h3⟩
theorem lv_congr {q p : Nat} {w s : Nat → Int} {A B : Nat → Nat → Int} (h : ∀ b i, i < p → A b i = B b i) : ∀ d i, i < p → lv q w s A d i = lv q w s B d i
  | 0, _, _ => rfl
  | d + 1, i, hi => by
    have ih := lv_congr (q := q) (w := w) (s := s) h d
    apply congrArg (· / w i)
    have : ∀ n, n ≤ i → minF (fun k => (s (q - 1 - d) * lv q w s A d k + A (q - 1 - d) k) * w k) n = minF (fun k => (s (q - 1 - d) * lv q w s B d k + B (q - 1 - d) k) * w k) n := by
      intro n
      induction n with
      | zero =>
        intro _
        show (s (q - 1 - d) * lv q w s A d 0 + A (q - 1 - d) 0) * w 0 = (s (q - 1 - d) * lv q w s B d 0 + B (q - 1 - d) 0) * w 0
        rw [ih 0 (by omega), h _ 0 (by omega)]
      | succ n ihn =>
        intro hn
        show min _ _ = min _ _
        rw [ihn (by omega)]
        simp only
        rw [ih (n + 1) (by omega), h _ (n + 1) (by omega)]
    exact this i (Nat.le_refl i)
theorem fits_congr {q p : Nat} {w s : Nat → Int} {A B : Nat → Nat → Int} (h : ∀ b i, i < p → A b i = B b i) : Fits p q w s A ↔ Fits p q w s B := by
  have e : ∀ d i, i < p → spr q w s A d i = spr q w s B d i := fun d i hi => by
    unfold spr
    rw [lv_congr h d i hi, h _ i hi]
  exact ⟨fun F d hd i hi => by rw [← e d i hi]; exact F d hd i hi, fun F d hd i hi => by rw [e d i hi]; exact F d hd i hi⟩
theorem steps_of {p q : Nat} {w h : Nat → Int} {st : List Tri} {ld : List Ent} (R : Row p w) (L : InL p q ld) :
    Steps p q (rt p w) (fun b i => if i < p then Aof q h w st ld b i else 0) (Dof p q h w st ld) where
  last := fun b _ => if_neg (Nat.lt_irrefl p)
  step := fun b i hb hi => by
    show (if i < p then Aof q h w st ld b i else 0) = Dof p q h w st ld i b + rt p w i * (if i + 1 < p then Aof q h w st ld b (i + 1) else 0)
    rw [if_pos hi]
    have e1 : top q h w st b i = sm (fun t => t.2.2 * part q h t.2.1 b * part p w t.1 i) st + rt p w i * top q h w st b (i + 1) := by
      unfold top
      rw [← sm_lin]
      apply sm_congr
      intro t _
      rw [part_eq (p := p) (w := w) t.1 i]
      grind
    have e2 : want w ld b i = sm (fun t => if t.2.1 = b ∧ t.1 = i then t.2.2 else 0) ld + rt p w i * want w ld b (i + 1) := by
      unfold want
      rw [← sm_lin]
      apply sm_congr
      intro t ht
      obtain ⟨h1, h2, h3⟩ := L t ht
      by_cases hy : t.2.1 = b
      · rcases Nat.lt_trichotomy t.1 i with hx | hx | hx
        · rw [if_neg (by omega), if_neg (by omega), if_neg (by omega)]; omega
        · rw [if_pos ⟨hy, by omega⟩, if_pos ⟨hy, hx⟩, if_neg (by omega), hx, R.quo_self hi]; omega
        · rw [if_pos ⟨hy, by omega⟩, if_neg (by omega), if_pos ⟨hy, by omega⟩, R.quo_step (show i + 1 ≤ t.1 by omega) h1]
          grind
      · rw [if_neg (by omega), if_neg (by omega), if_neg (by omega)]; omega
    have e3 : rt p w i * (if i + 1 < p then Aof q h w st ld b (i + 1) else 0) = rt p w i * Aof q h w st ld b (i + 1) := by
      split
      · rfl
      · rename_i hn
        have : rt p w i = 0 := by unfold rt; rw [if_neg hn]
        rw [this]; omega
    rw [e3]
    unfold Aof Dof
    rw [e1, e2]
    grind
theorem dof_turn {p q : Nat} {w h : Nat → Int} {st : List Tri} {ld : List Ent} (i b : Nat) : Dof q p w h (turnS st) (turnL ld) b i = Dof p q h w st ld i b := by
  unfold Dof turnS turnL
  rw [sm_map, sm_map]
  have e1 : sm (fun a : Tri => (a.2.1, a.1, a.2.2).2.2 * part p w (a.2.1, a.1, a.2.2).2.1 i * part q h (a.2.1, a.1, a.2.2).1 b) st = sm (fun t => t.2.2 * part q h t.2.1 b * part p w t.1 i) st :=
    sm_congr fun t _ => by
      show t.2.2 * part p w t.1 i * part q h t.2.1 b = t.2.2 * part q h t.2.1 b * part p w t.1 i
      grind
  have e2 : sm (fun a : Ent => if (a.2.1, a.1, a.2.2).2.1 = i ∧ (a.2.1, a.1, a.2.2).1 = b then (a.2.1, a.1, a.2.2).2.2 else 0) ld = sm (fun t : Ent => if t.2.1 = b ∧ t.1 = i then t.2.2 else 0) ld :=
    sm_congr fun t _ => by
      show (if t.1 = i ∧ t.2.1 = b then t.2.2 else 0) = if t.2.1 = b ∧ t.1 = i then t.2.2 else 0
      by_cases h1 : t.1 = i
      · by_cases h2 : t.2.1 = b
        · rw [if_pos ⟨h1, h2⟩, if_pos ⟨h2, h1⟩]
        · rw [if_neg (fun z => h2 z.2), if_neg (fun z => h2 z.1)]
      · rw [if_neg (fun z => h1 z.1), if_neg (fun z => h1 z.2)]
  rw [e1, e2]
/-- rooms enough by heights, in the law's own words -/
abbrev FitsL (p q : Nat) (w h : Nat → Int) (st : List Tri) (ld : List Ent) : Prop := Fits p q w (rt q h) (Aof q h w st ld)
theorem both_ways {p q : Nat} {w h : Nat → Int} {st : List Tri} {ld : List Ent} (R : Row p w) (T : Row q h) (L : InL p q ld) :
    FitsL p q w h st ld ↔ FitsL q p h w (turnS st) (turnL ld) := by
  have S1 := steps_of (h := h) (st := st) R L
  have S2 := steps_of (h := w) (st := turnS st) T L.turn
  have e : (Dof q p w h (turnS st) (turnL ld)) = fun b a => Dof p q h w st ld a b := by
    funext b a
    exact dof_turn a b
  rw [e] at S2
  refine Iff.trans ?_ (Iff.trans (fits_both R T S1 S2) ?_)
  · exact fits_congr fun b i hi => (if_pos hi).symm
  · exact fits_congr fun b i hi => if_pos hi

/-! ### every staircase, one by one -/
/-- the ends of all staircases behind d bands -/
def ends (p q : Nat) (w s : Nat → Int) (T N : Nat → Nat → Int) : Nat → List (Nat × Int)
  | 0 => []
  | d + 1 => (if d = 0 then (List.range p).map (fun i => (i, T (q - 1) i - N (q - 1) i)) else []) ++
      (ends p q w s T N d).flatMap fun e => (List.range (p - e.1)).map fun j => (e.1 + j, e.2 / (w (e.1 + j) / w e.1) * s (q - 1 - d) + T (q - 1 - d) (e.1 + j) - N (q - 1 - d) (e.1 + j))
section
variable {p q : Nat} {w s : Nat → Int} {T N : Nat → Nat → Int} (R : Row p w) (hs : ∀ b, 0 ≤ s b)
include R
theorem quo_ediv {a : Int} {i k : Nat} (hk : k ≤ i) (hi : i < p) : a * w k / w i = a / (w i / w k) := by
  have e := R.quo hk hi
  have h1 := R.one k (by omega)
  conv => lhs; rw [← e]
  exact Int.mul_ediv_mul_of_pos_left _ _ (by omega)
include hs
theorem ends_le : ∀ d, d < q → (∀ e ∈ ends p q w s T N (d + 1), e.1 < p ∧ spr q w s (fun b i => T b i - N b i) d e.1 ≤ e.2) ∧ ∀ i, i < p → (i, spr q w s (fun b i => T b i - N b i) d i) ∈ ends p q w s T N (d + 1)
  | 0, hq => by
    have e0 : ends p q w s T N 1 = (List.range p).map (fun i => (i, T (q - 1) i - N (q - 1) i)) := by
      show (if 0 = 0 then (List.range p).map (fun i => (i, T (q - 1) i - N (q - 1) i)) else []) ++ List.flatMap _ [] = _
      rw [if_pos rfl]; simp
    have es : ∀ i, spr q w s (fun b i => T b i - N b i) 0 i = T (q - 1) i - N (q - 1) i := fun i => by
      show s (q - 1 - 0) * 0 + (T (q - 1 - 0) i - N (q - 1 - 0) i) = _
      rw [Nat.sub_zero]; omega
    rw [e0]
    constructor
    · intro e he
      obtain ⟨i, hi, rfl⟩ := List.mem_map.mp he
      exact ⟨List.mem_range.mp hi, by rw [es]; exact Int.le_refl _⟩
    · intro i hi
      rw [es]
      exact List.mem_map.mpr ⟨i, List.mem_range.mpr hi, rfl⟩
  | d + 1, hq => by
    obtain ⟨h1, h2⟩ := ends_le d (by omega)
    have e0 : ends p q w s T N (d + 2) = (ends p q w s T N (d + 1)).flatMap fun e => (List.range (p - e.1)).map fun j => (e.1 + j, e.2 / (w (e.1 + j) / w e.1) * s (q - 1 - (d + 1)) + T (q - 1 - (d + 1)) (e.1 + j) - N (q - 1 - (d + 1)) (e.1 + j)) := by
      show (if d + 1 = 0 then _ else []) ++ _ = _
      rw [if_neg (by omega)]; rfl
    rw [e0]
    have lo : ∀ (k i : Nat) (X : Int), k ≤ i → i < p → spr q w s (fun b i => T b i - N b i) d k ≤ X → lv q w s (fun b i => T b i - N b i) (d + 1) i ≤ X / (w i / w k) := by
      intro k i X hk hi hX
      have hp := R.quo_pos hk hi
      rw [Int.le_ediv_iff_mul_le (by omega)]
      exact Int.le_trans ((le_lv' R hi _).mp (Int.le_refl _) k hk) hX
    have es : ∀ i, spr q w s (fun b i => T b i - N b i) (d + 1) i = s (q - 1 - (d + 1)) * lv q w s (fun b i => T b i - N b i) (d + 1) i + (T (q - 1 - (d + 1)) i - N (q - 1 - (d + 1)) i) := fun i => rfl
    constructor
    · intro e he
      obtain ⟨e1, he1, he2⟩ := List.mem_flatMap.mp he
      obtain ⟨j, hj, rfl⟩ := List.mem_map.mp he2
      have hj := List.mem_range.mp hj
      obtain ⟨a1, a2⟩ := h1 e1 he1
      refine ⟨show e1.1 + j < p by omega, ?_⟩
      show spr q w s (fun b i => T b i - N b i) (d + 1) (e1.1 + j) ≤ e1.2 / (w (e1.1 + j) / w e1.1) * s (q - 1 - (d + 1)) + T (q - 1 - (d + 1)) (e1.1 + j) - N (q - 1 - (d + 1)) (e1.1 + j)
      have h3 := lo e1.1 (e1.1 + j) e1.2 (by omega) (by omega) a2
      have h4 := Int.mul_le_mul_of_nonneg_left h3 (hs (q - 1 - (d + 1)))
      rw [es, Int.mul_comm (e1.2 / (w (e1.1 + j) / w e1.1))]
      omega
    · intro i hi
      obtain ⟨k, hk, e⟩ := minF_mem (fun k => spr q w s (fun b i => T b i - N b i) d k * w k) i
      refine List.mem_flatMap.mpr ⟨_, h2 k (by omega), List.mem_map.mpr ⟨i - k, List.mem_range.mpr (show i - k < p - k by omega), ?_⟩⟩
      have e2 : k + (i - k) = i := by omega
      show (k + (i - k), spr q w s (fun b i => T b i - N b i) d k / (w (k + (i - k)) / w k) * s (q - 1 - (d + 1)) + T (q - 1 - (d + 1)) (k + (i - k)) - N (q - 1 - (d + 1)) (k + (i - k))) = _
      rw [e2, es, lv_succ, e]
      show (i, _) = (i, s (q - 1 - (d + 1)) * (spr q w s (fun b i => T b i - N b i) d k * w k / w i) + _)
      rw [quo_ediv R hk hi, Int.mul_comm (s (q - 1 - (d + 1)))]
      congr 1
      omega
/-- the least number of the staircases that end at i -/
theorem ends_rooms {d i : Nat} (hd : d < q) (hi : i < p) {m : Int} (h1 : m ∈ ((ends p q w s T N (d + 1)).filter fun e => decide (e.1 = i)).map (·.2)) (h2 : ∀ y, y ∈ ((ends p q w s T N (d + 1)).filter fun e => decide (e.1 = i)).map (·.2) → m ≤ y) :
    m = spr q w s (fun b i => T b i - N b i) d i := by
  obtain ⟨a1, a2⟩ := ends_le R hs (q := q) (T := T) (N := N) d hd
  apply Int.le_antisymm
  · exact h2 _ (List.mem_map.mpr ⟨_, List.mem_filter.mpr ⟨a2 i hi, decide_eq_true rfl⟩, rfl⟩)
  · obtain ⟨e, he, rfl⟩ := List.mem_map.mp h1
    obtain ⟨h3, h4⟩ := List.mem_filter.mp he
    have h5 := of_decide_eq_true h4
    rw [← h5]
    exact (a1 e h3).2
theorem ends_rooms_ne {d i : Nat} (hd : d < q) (hi : i < p) : 0 < (((ends p q w s T N (d + 1)).filter fun e => decide (e.1 = i)).map (·.2)).length := by
  obtain ⟨a1, a2⟩ := ends_le R hs (q := q) (T := T) (N := N) d hd
  exact List.length_pos_of_mem (List.mem_map.mpr ⟨_, List.mem_filter.mpr ⟨a2 i hi, decide_eq_true rfl⟩, rfl⟩)
theorem ends_left {d i : Nat} (hd : d < q) (hi : i < p) {m : Int} (h1 : m ∈ ((ends p q w s T N (d + 1)).filter fun e => decide (e.1 ≤ i)).map fun e => e.2 / (w i / w e.1))
    (h2 : ∀ y, y ∈ (((ends p q w s T N (d + 1)).filter fun e => decide (e.1 ≤ i)).map fun e => e.2 / (w i / w e.1)) → m ≤ y) : m = lv q w s (fun b i => T b i - N b i) (d + 1) i := by
  obtain ⟨a1, a2⟩ := ends_le R hs (q := q) (T := T) (N := N) d hd
  apply Int.le_antisymm
  · obtain ⟨k, hk, e⟩ := minF_mem (fun k => spr q w s (fun b i => T b i - N b i) d k * w k) i
    rw [lv_succ, e]
    show m ≤ spr q w s (fun b i => T b i - N b i) d k * w k / w i
    rw [quo_ediv R hk hi]
    exact h2 _ (List.mem_map.mpr ⟨_, List.mem_filter.mpr ⟨a2 k (by omega), decide_eq_true hk⟩, rfl⟩)
  · obtain ⟨e, he, rfl⟩ := List.mem_map.mp h1
    obtain ⟨h3, h4⟩ := List.mem_filter.mp he
    have h5 : e.1 ≤ i := of_decide_eq_true h4
    have hp := R.quo_pos h5 hi
    rw [Int.le_ediv_iff_mul_le (by omega)]
    exact Int.le_trans ((le_lv' R hi _).mp (Int.le_refl _) e.1 h5) (a1 e h3).2
theorem ends_left_ne {d i : Nat} (hd : d < q) (hi : i < p) : 0 < (((ends p q w s T N (d + 1)).filter fun e => decide (e.1 ≤ i)).map fun e => e.2 / (w i / w e.1)).length := by
  obtain ⟨a1, a2⟩ := ends_le R hs (q := q) (T := T) (N := N) d hd
  exact List.length_pos_of_mem (List.mem_map.mpr ⟨_, List.mem_filter.mpr ⟨a2 i hi, decide_eq_true (Nat.le_refl i)⟩, rfl⟩)
theorem ends_lt {d : Nat} (hd : d < q) : ∀ e ∈ ends p q w s T N (d + 1), e.1 < p := fun e he => ((ends_le R hs (q := q) (T := T) (N := N) d hd).1 e he).1
end
/-- there are few of them: at most 5 ^ d -/
theorem ends_len {p q : Nat} {w s : Nat → Int} {T N : Nat → Nat → Int} (hp : p ≤ 4) : ∀ d, (ends p q w s T N (d + 1)).length ≤ 4 ^ (d + 1)
  | 0 => by
    have e0 : ends p q w s T N 1 = (List.range p).map (fun i => (i, T (q - 1) i - N (q - 1) i)) := by
      show (if 0 = 0 then (List.range p).map (fun i => (i, T (q - 1) i - N (q - 1) i)) else []) ++ List.flatMap _ [] = _
      rw [if_pos rfl]; simp
    rw [e0, List.length_map, List.length_range]
    omega
  | d + 1 => by
    have ih := ends_len (q := q) (w := w) (s := s) (T := T) (N := N) hp d
    have e0 : ends p q w s T N (d + 2) = (ends p q w s T N (d + 1)).flatMap fun e => (List.range (p - e.1)).map fun j => (e.1 + j, e.2 / (w (e.1 + j) / w e.1) * s (q - 1 - (d + 1)) + T (q - 1 - (d + 1)) (e.1 + j) - N (q - 1 - (d + 1)) (e.1 + j)) := by
      show (if d + 1 = 0 then _ else []) ++ _ = _
      rw [if_neg (by omega)]; rfl
    have fm : ∀ (l : List (Nat × Int)) (g : Nat × Int → List (Nat × Int)), (∀ e, (g e).length ≤ 4) → (l.flatMap g).length ≤ 4 * l.length := by
      intro l g hg
      induction l with
      | nil => simp
      | cons a l ihl =>
        rw [List.flatMap_cons, List.length_append, List.length_cons]
        have := hg a
        omega
    rw [e0]
    have := fm (ends p q w s T N (d + 1)) _ (fun e => by rw [List.length_map, List.length_range]; omega : ∀ e : Nat × Int, ((List.range (p - e.1)).map fun j => (e.1 + j, e.2 / (w (e.1 + j) / w e.1) * s (q - 1 - (d + 1)) + T (q - 1 - (d + 1)) (e.1 + j) - N (q - 1 - (d + 1)) (e.1 + j))).length ≤ 4)
    have e4 : 4 ^ (d + 1 + 1) = 4 * 4 ^ (d + 1) := by rw [Nat.pow_succ]; omega
    rw [e4]
    omega
end K12


set_option linter.all false
namespace K12
/-! Strips by counts. -/
def fset (f : Nat → Int) (j : Nat) (v : Int) : Nat → Int := fun k => if k = j then v else f k
theorem fset_same (f : Nat → Int) (j : Nat) (v : Int) : fset f j v j = v := if_pos rfl
theorem fset_ne (f : Nat → Int) {j k : Nat} (v : Int) (h : k ≠ j) : fset f j v k = f k := if_neg h
/-- what the strips from width i on hold, in widths i -/
def held (p : Nat) (w : Nat → Int) (f : Nat → Int) (i : Nat) : Int := psum p (rt p w) f (p - i)
theorem held_end {p : Nat} {w f : Nat → Int} {i : Nat} (h : p ≤ i) : held p w f i = 0 := by
  unfold held
  rw [show p - i = 0 by omega]
  rfl
theorem held_at {p : Nat} {w f : Nat → Int} {i : Nat} (h : i < p) : held p w f i = f i + rt p w i * held p w f (i + 1) := psum_at h
section
variable {p : Nat} {w : Nat → Int} (R : Row p w)
include R
theorem held_nn {f : Nat → Int} (h : ∀ i, i < p → 0 ≤ f i) : ∀ i, 0 ≤ held p w f i := by
  have : ∀ n i, p - i = n → 0 ≤ held p w f i := by
    intro n
    induction n with
    | zero => intro i e; rw [held_end (by omega)]; exact Int.le_refl 0
    | succ n ih =>
      intro i e
      rw [held_at (by omega)]
      exact Int.add_nonneg (h i (by omega)) (Int.mul_nonneg (R.rt_nn i) (ih (i + 1) (by omega)))
  exact fun i => this _ i rfl
theorem held_set {f : Nat → Int} {j : Nat} {v : Int} (hj : j < p) : ∀ i, held p w (fset f j v) i = held p w f i + if i ≤ j then (v - f j) * (w j / w i) else 0 := by
  have : ∀ n i, p - i = n → held p w (fset f j v) i = held p w f i + if i ≤ j then (v - f j) * (w j / w i) else 0 := by
    intro n
    induction n with
    | zero => intro i e; rw [held_end (by omega), held_end (by omega), if_neg (by omega)]; omega
    | succ n ih =>
      intro i e
      have hi : i < p := by omega
      rw [held_at hi, held_at hi, ih (i + 1) (by omega)]
      by_cases h1 : i = j
      · subst h1
        rw [fset_same, if_pos (Nat.le_refl i), if_neg (by omega), R.quo_self hi, Int.add_zero]
        omega
      · rw [fset_ne f v h1]
        by_cases h2 : i < j
        · rw [if_pos (show i + 1 ≤ j by omega), if_pos (show i ≤ j by omega), R.quo_step (show i + 1 ≤ j by omega) hj]
          grind
        · rw [if_neg (show ¬ i + 1 ≤ j by omega), if_neg (show ¬ i ≤ j by omega), Int.add_zero, Int.add_zero]
  exact fun i => this _ i rfl
/-- the widest first: held is at least what wider ones hold -/
theorem held_mono {f : Nat → Int} (h : ∀ i, i < p → 0 ≤ f i) {i k : Nat} (hk : k ≤ i) (hi : i < p) : held p w f i * (w i / w k) ≤ held p w f k := by
  have : ∀ n k, i - k = n → k ≤ i → held p w f i * (w i / w k) ≤ held p w f k := by
    intro n
    induction n with
    | zero =>
      intro k e hk
      have : k = i := by omega
      subst this
      rw [R.quo_self hi, Int.mul_one]
      exact Int.le_refl _
    | succ n ih =>
      intro k e hk
      have h1 := ih (k + 1) (by omega) (by omega)
      have h2 := Int.mul_le_mul_of_nonneg_left h1 (R.rt_nn k)
      have h3 := h k (by omega)
      rw [held_at (show k < p by omega), R.quo_step (show k + 1 ≤ i by omega) hi]
      grind
  exact this _ k rfl hk
/-- where the narrower ones are used up -/
theorem held_zero {f : Nat → Int} {x i : Nat} (h : ∀ k, x ≤ k → k < i → f k = 0) (hx : x ≤ i) (hi : i < p) : held p w f x = held p w f i * (w i / w x) := by
  have : ∀ n k, i - k = n → x ≤ k → k ≤ i → held p w f k = held p w f i * (w i / w k) := by
    intro n
    induction n with
    | zero =>
      intro k e _ hk
      have : k = i := by omega
      subst this
      rw [R.quo_self hi, Int.mul_one]
    | succ n ih =>
      intro k e hx hk
      rw [held_at (show k < p by omega), ih (k + 1) (by omega) (by omega) (by omega), R.quo_step (show k + 1 ≤ i by omega) hi, h k hx (by omega)]
      grind
  exact this _ x rfl (Nat.le_refl x) hx
theorem held_congr {f g : Nat → Int} (h : ∀ i, i < p → f i = g i) : ∀ i, held p w f i = held p w g i := by
  have : ∀ n i, p - i = n → held p w f i = held p w g i := by
    intro n
    induction n with
    | zero => intro i e; rw [held_end (by omega), held_end (by omega)]
    | succ n ih => intro i e; rw [held_at (show i < p by omega), held_at (show i < p by omega), ih (i + 1) (by omega), h i (by omega)]
  exact fun i => this _ i rfl
theorem held_scale {f : Nat → Int} {c : Int} : ∀ i, held p w (fun j => f j * c) i = c * held p w f i := by
  have : ∀ n i, p - i = n → held p w (fun j => f j * c) i = c * held p w f i := by
    intro n
    induction n with
    | zero => intro i e; rw [held_end (by omega), held_end (by omega)]; omega
    | succ n ih => intro i e; rw [held_at (show i < p by omega), held_at (show i < p by omega), ih (i + 1) (by omega)]; grind
  exact fun i => this _ i rfl
/-- as the law adds it up -/
theorem held_sum {f : Nat → Int} {i : Nat} : ∀ n, p - i = n → i ≤ p → held p w f i = ((List.range n).map fun k => f (i + k) * (w (i + k) / w i)).sum := by
  have gen : ∀ n j, p - j = n → i ≤ j → j ≤ p → (if j < p then held p w f j * (w j / w i) else 0) = ((List.range n).map fun k => f (j + k) * (w (j + k) / w i)).sum := by
    intro n
    induction n with
    | zero => intro j e _ _; rw [if_neg (by omega)]; rfl
    | succ n ih =>
      intro j e h1 h2
      have hj : j < p := by omega
      have h3 := ih (j + 1) (by omega) (by omega) (by omega)
      rw [if_pos hj, held_at hj, List.range_succ_eq_map, List.map_cons, List.sum_cons, List.map_map]
      have e1 : ((List.range n).map ((fun k => f (j + k) * (w (j + k) / w i)) ∘ Nat.succ)) = (List.range n).map fun k => f (j + 1 + k) * (w (j + 1 + k) / w i) := by
        apply List.map_congr_left
        intro k _
        show f (j + (k + 1)) * (w (j + (k + 1)) / w i) = _
        rw [show j + (k + 1) = j + 1 + k by omega]
      rw [e1, ← h3, Nat.add_zero]
      by_cases h4 : j + 1 < p
      · rw [if_pos h4]
        have e2 : w (j + 1) / w i = rt p w j * (w j / w i) := by
          have q1 := R.quo (show i ≤ j + 1 by omega) h4
          have q2 := R.quo h1 hj
          have q3 := R.rt_mul h4
          have q4 := R.one i (by omega)
          apply Int.eq_of_mul_eq_mul_right (a := w i) (by omega)
          rw [q1, ← q3, ← q2]
          grind
        rw [e2]
        grind
      · rw [if_neg h4, held_end (by omega)]
        grind
  intro n e hi
  have h := gen n i e (Nat.le_refl i) hi
  by_cases h1 : i < p
  · rw [if_pos h1, R.quo_self h1, Int.mul_one] at h
    exact h
  · rw [if_neg h1] at h
    rw [held_end (by omega)]
    exact h
end
/-! ### a rest is laid into narrower strips, widest first; n of them from x on -/
def refill (w : Nat → Int) (c : Int) (x : Nat) : Nat → (Nat → Int) → Int → (Nat → Int)
  | 0, f, _ => f
  | n + 1, f, r => refill w c x n (fset f (x + n) (f (x + n) + c * (r / w (x + n)))) (r % w (x + n))
section
variable {p : Nat} {w : Nat → Int} (R : Row p w)
include R
theorem refill_out {c : Int} {x : Nat} : ∀ n f r, x + n ≤ p → ∀ k, (k < x ∨ x + n ≤ k) → refill w c x n f r k = f k
  | 0, f, r, _, k, _ => rfl
  | n + 1, f, r, h, k, hk => by
    show refill w c x n _ _ k = f k
    rw [refill_out n _ _ (by omega) k (by omega), fset_ne _ _ (by omega)]
theorem refill_nn {c : Int} (hc : 0 ≤ c) {x : Nat} : ∀ n f r, x + n ≤ p → 0 ≤ r → (∀ k, k < p → 0 ≤ f k) → ∀ k, k < p → 0 ≤ refill w c x n f r k
  | 0, f, r, _, _, hf, k, hk => hf k hk
  | n + 1, f, r, h, hr, hf, k, hk => by
    have hw := R.one (x + n) (by omega)
    refine refill_nn hc n _ _ (by omega) (Int.emod_nonneg _ (by omega)) (fun k hk => ?_) k hk
    by_cases e : k = x + n
    · subst e
      rw [fset_same]
      exact Int.add_nonneg (hf _ hk) (Int.mul_nonneg hc (Int.ediv_nonneg hr (by omega)))
    · rw [fset_ne _ _ e]
      exact hf k hk
theorem refill_high {c : Int} {x : Nat} : ∀ n f r, x + n ≤ p → ∀ i, x + n ≤ i → held p w (refill w c x n f r) i = held p w f i
  | 0, f, r, _, i, _ => rfl
  | n + 1, f, r, h, i, hi => by
    show held p w (refill w c x n _ _) i = _
    rw [refill_high n _ _ (by omega) i (by omega), held_set R (by omega), if_neg (by omega)]
    omega
theorem refill_low {c : Int} {x : Nat} : ∀ n f r, x + n ≤ p → ∀ i, x ≤ i → i < x + n → held p w (refill w c x n f r) i = held p w f i + c * (r / w i)
  | 0, f, r, _, i, h1, h2 => absurd h2 (by omega)
  | n + 1, f, r, h, i, h1, h2 => by
    have hj : x + n < p := by omega
    have hw := R.one (x + n) hj
    have hwi := R.one i (by omega)
    show held p w (refill w c x n _ _) i = _
    by_cases e : i = x + n
    · subst e
      rw [refill_high R n _ _ (by omega) _ (Nat.le_refl _), held_set R hj, if_pos (Nat.le_refl _), R.quo_self hj]
      grind
    · rw [refill_low n _ _ (by omega) i h1 (by omega), held_set R hj, if_pos (show i ≤ x + n by omega)]
      -- r = (r / wj) * wj + r % wj; wj = (wj / wi) * wi
      have e1 := R.quo (show i ≤ x + n by omega) hj
      have e2 := Int.emod_add_ediv_mul r (w (x + n))
      have e3 : r = r % w (x + n) + (r / w (x + n) * (w (x + n) / w i)) * w i := by
        rw [Int.mul_assoc, e1]; exact e2.symm
      have e4 : r / w i = r % w (x + n) / w i + r / w (x + n) * (w (x + n) / w i) := by
        conv => lhs; rw [e3]
        exact Int.add_mul_ediv_right _ _ (by omega)
      rw [e4]
      grind
end
/-! ### the cut of one kind -/
/-- what stands ahead of strip j: f0, many0 at the start, f, m now -/
structure CutInv (p : Nat) (w : Nat → Int) (x : Nat) (f0 : Nat → Int) (many : Int) (j : Nat) (f : Nat → Int) (m : Int) : Prop where
  nn0 : ∀ k, k < p → 0 ≤ f0 k
  nn : ∀ k, k < p → 0 ≤ f k
  mnn : 0 ≤ m
  low : ∀ k, k < x → f k = f0 k
  at_ : held p w f x = held p w f0 x - (many - m)
  le : ∀ i, x ≤ i → i < p → held p w f i ≤ held p w f0 i
  tight : m = 0 → ∀ i, x ≤ i → i < p → held p w f i = held p w f0 i ∨ held p w f x < (held p w f i + 1) * (w i / w x)
  used : m = 0 ∨ ∀ k, x ≤ k → k < j → f k = 0
  high : ∀ k, j ≤ k → f k = f0 k
structure CutDone (p : Nat) (w : Nat → Int) (x : Nat) (f0 : Nat → Int) (many : Int) (f : Nat → Int) : Prop where
  nn : ∀ k, k < p → 0 ≤ f k
  low : ∀ i, i ≤ x → held p w f i = held p w f0 i - many * (w x / w i)
  high : ∀ i, x ≤ i → i < p → ∀ v, v ≤ held p w f i ↔ v ≤ held p w f0 i ∧ v * (w i / w x) ≤ held p w f0 x - many
section
variable {p : Nat} {w : Nat → Int} (R : Row p w)
include R
theorem CutInv.start {x : Nat} {f : Nat → Int} {many : Int} (hf : ∀ k, k < p → 0 ≤ f k) (hm : 0 ≤ many) : CutInv p w x f many x f many where
  nn0 := hf
  nn := hf
  mnn := hm
  low := fun _ _ => rfl
  at_ := by omega
  le := fun _ _ _ => Int.le_refl _
  tight := fun _ _ _ _ => .inl rfl
  used := .inr fun k h1 h2 => by omega
  high := fun _ _ => rfl
theorem held_low {f g : Nat → Int} {x : Nat} (h : ∀ k, k < x → f k = g k) (hx : x < p) : ∀ i, i ≤ x → held p w f i - held p w g i = (held p w f x - held p w g x) * (w x / w i) := by
  have : ∀ n i, x - i = n → i ≤ x → held p w f i - held p w g i = (held p w f x - held p w g x) * (w x / w i) := by
    intro n
    induction n with
    | zero =>
      intro i e hi
      have : i = x := by omega
      subst this
      rw [R.quo_self hx, Int.mul_one]
    | succ n ih =>
      intro i e hi
      have h1 := ih (i + 1) (by omega) (by omega)
      rw [held_at (show i < p by omega), held_at (show i < p by omega), h i (by omega), R.quo_step (show i + 1 ≤ x by omega) hx]
      grind
  exact fun i hi => this _ i rfl hi
theorem held_high {f g : Nat → Int} {i : Nat} (h : ∀ k, i ≤ k → f k = g k) : held p w f i = held p w g i := by
  have : ∀ n j, p - j = n → i ≤ j → held p w f j = held p w g j := by
    intro n
    induction n with
    | zero => intro j e _; rw [held_end (by omega), held_end (by omega)]
    | succ n ih => intro j e hj; rw [held_at (show j < p by omega), held_at (show j < p by omega), ih (j + 1) (by omega) (by omega), h j hj]
  exact this _ i rfl (Nat.le_refl i)
theorem CutInv.done {x : Nat} {f0 f : Nat → Int} {many m : Int} (hx : x < p) (I : CutInv p w x f0 many p f m) : (m = 0 ↔ many ≤ held p w f0 x) ∧ (m = 0 → CutDone p w x f0 many f) := by
  have h0 : m = 0 → many ≤ held p w f0 x := fun e => by
    have h1 := held_nn R I.nn x
    have h2 := I.at_
    omega
  refine ⟨⟨h0, fun h => ?_⟩, fun e => ?_⟩
  · rcases I.used with e | hz
    · exact e
    · have hp : held p w f x = held p w f (p - 1) * (w (p - 1) / w x) := held_zero R (fun k h1 h2 => hz k h1 (by omega)) (by omega) (by omega)
      have hl : held p w f (p - 1) = 0 := by
        rw [held_at (by omega), held_end (by omega), hz (p - 1) (by omega) (by omega)]
        omega
      rw [hl, Int.zero_mul] at hp
      have h2 := I.at_
      have h3 := I.mnn
      omega
  · subst e
    have hxe := I.at_
    refine ⟨I.nn, fun i hi => ?_, fun i h1 h2 v => ?_⟩
    · have := held_low R (fun k hk => I.low k hk) hx i hi
      rw [hxe] at this
      have e2 : (held p w f0 x - (many - 0) - held p w f0 x) * (w x / w i) = - (many * (w x / w i)) := by grind
      omega
    · have hq := R.quo_pos h1 h2
      have hx2 : held p w f x = held p w f0 x - many := by omega
      rw [← hx2]
      have hmo := held_mono R I.nn h1 h2
      constructor
      · intro hv
        exact ⟨Int.le_trans hv (I.le i h1 h2), Int.le_trans (Int.mul_le_mul_of_nonneg_right hv (by omega)) hmo⟩
      · rintro ⟨ha, hb⟩
        rcases I.tight rfl i h1 h2 with ht | ht
        · omega
        · have : v * (w i / w x) < (held p w f i + 1) * (w i / w x) := by omega
          have := Int.lt_of_mul_lt_mul_right this (by omega)
          omega
/-- strip j is used up, or many / each of it -/
theorem CutInv.part {x j : Nat} {f0 f : Nat → Int} {many m full : Int} (hj : j < p) (hx : x ≤ j) (I : CutInv p w x f0 many j f m) (h0 : 0 ≤ full) (hf : full ≤ f j) (hm : full * (w j / w x) ≤ m)
    (hu : f j = full ∨ m - full * (w j / w x) = 0) : CutInv p w x f0 many (j + 1) (fset f j (f j - full)) (m - full * (w j / w x)) := by
  have hxp : x < p := by omega
  have hs : ∀ i, held p w (fset f j (f j - full)) i = held p w f i + if i ≤ j then (f j - full - f j) * (w j / w i) else 0 := held_set R hj
  have hle : ∀ i, held p w (fset f j (f j - full)) i ≤ held p w f i := fun i => by
    rw [hs]
    split
    · rename_i hi
      have := Int.mul_nonneg h0 (show 0 ≤ w j / w i by have := R.quo_pos hi hj; omega)
      have e : (f j - full - f j) * (w j / w i) = - (full * (w j / w i)) := by grind
      omega
    · omega
  -- where m is 0 nothing is taken
  have z : m = 0 → full = 0 := fun e => by
    have hq := R.quo_pos hx hj
    rcases Int.lt_or_le 0 full with h | h
    · have : 1 * 1 ≤ full * (w j / w x) := Int.mul_le_mul (by omega) hq (by omega) (by omega)
      omega
    · omega
  refine ⟨I.nn0, fun k hk => ?_, by omega, fun k hk => ?_, ?_, fun i h1 h2 => Int.le_trans (hle i) (I.le i h1 h2), fun e i h1 h2 => ?_, ?_, fun k hk => ?_⟩
  · by_cases e : k = j
    · subst e; rw [fset_same]; omega
    · rw [fset_ne _ _ e]; exact I.nn k hk
  · rw [fset_ne _ _ (by omega)]; exact I.low k hk
  · rw [hs, if_pos hx]
    have h1 := I.at_
    have e : (f j - full - f j) * (w j / w x) = - (full * (w j / w x)) := by grind
    omega
  · by_cases em : m = 0
    · have := z em
      subst this
      have eq : ∀ i, held p w (fset f j (f j - 0)) i = held p w f i := fun i => by
        rw [hs]
        split
        · have e : (f j - 0 - f j) * (w j / w i) = 0 := by grind
          omega
        · omega
      rw [eq, eq]
      exact I.tight em i h1 h2
    · rcases I.used with h | h
      · exact absurd h em
      · by_cases hi : i ≤ j
        · right
          have e1 : held p w (fset f j (f j - full)) x = held p w (fset f j (f j - full)) i * (w i / w x) :=
            held_zero R (fun k a b => by rw [fset_ne _ _ (by omega)]; exact h k a (by omega)) h1 h2
          have hq := R.quo_pos h1 h2
          rw [e1]
          have : (held p w (fset f j (f j - full)) i + 1) * (w i / w x) = held p w (fset f j (f j - full)) i * (w i / w x) + w i / w x := by grind
          omega
        · left
          rw [hs, if_neg hi, Int.add_zero]
          exact held_high R fun k hk => I.high k (by omega)
  · rcases I.used with h | h
    · left
      rw [z h, h]; omega
    · rcases hu with h3 | h3
      · right
        intro k a b
        by_cases e : k = j
        · subst e; rw [fset_same]; omega
        · rw [fset_ne _ _ e]; exact h k a (by omega)
      · exact .inl h3
  · rw [fset_ne _ _ (by omega)]; exact I.high k (by omega)
/-- one strip j is opened: what is wanted of it is cut off, its rest is laid into narrower ones -/
theorem CutInv.last {x j : Nat} {f0 f : Nat → Int} {many m full : Int} (hj : j < p) (hx : x ≤ j) (I : CutInv p w x f0 many j f m) (h0 : 0 ≤ full) (hf : full < f j) (h1 : 0 < m - full * (w j / w x)) (h2 : m - full * (w j / w x) < w j / w x) :
    CutInv p w x f0 many (j + 1) (refill w 1 x (j - x) (fset (fset f j (f j - full)) j (f j - full - 1)) (w j - (m - full * (w j / w x)) * w x)) 0 := by
  have hxp : x < p := by omega
  have em : ¬ m = 0 := fun e => by
    have := Int.mul_nonneg h0 (show 0 ≤ w j / w x by have := R.quo_pos hx hj; omega)
    omega
  have us : ∀ k, x ≤ k → k < j → f k = 0 := by
    rcases I.used with h | h
    · exact absurd h em
    · exact h
  let g : Nat → Int := fset f j (f j - full - 1)
  have eg : fset (fset f j (f j - full)) j (f j - full - 1) = g := by
    funext k
    by_cases e : k = j
    · subst e; rw [fset_same]; exact (fset_same _ _ _).symm
    · rw [fset_ne _ _ e, fset_ne _ _ e]; exact (fset_ne _ _ e).symm
  rw [eg]
  have hgn : ∀ k, k < p → 0 ≤ g k := fun k hk => by
    by_cases e : k = j
    · subst e; show 0 ≤ fset _ _ _ _; rw [fset_same]; omega
    · show 0 ≤ fset _ _ _ _; rw [fset_ne _ _ e]; exact I.nn k hk
  have hs : ∀ i, held p w g i = held p w f i + if i ≤ j then (f j - full - 1 - f j) * (w j / w i) else 0 := held_set R hj
  have ej := R.quo hx hj
  have hwx := R.one x hxp
  have hwj := R.one j hj
  let r : Int := w j - (m - full * (w j / w x)) * w x
  have er : r = (w j / w x - (m - full * (w j / w x))) * w x := by
    show w j - (m - full * (w j / w x)) * w x = _
    conv => lhs; rw [← ej]
    grind
  have hr0 : 0 ≤ r := by
    rw [er]
    exact Int.mul_nonneg (by omega) (by omega)
  have hrj : r < w j := by
    have : 1 * 1 ≤ (m - full * (w j / w x)) * w x := Int.mul_le_mul (by omega) hwx (by omega) (by omega)
    show w j - (m - full * (w j / w x)) * w x < w j
    omega
  have hxj : x + (j - x) = j := by omega
  have hin : x + (j - x) ≤ p := by omega
  show CutInv p w x f0 many (j + 1) (refill w 1 x (j - x) g r) 0
  have hhigh : ∀ i, j ≤ i → held p w (refill w 1 x (j - x) g r) i = held p w g i := fun i hi => refill_high R _ _ _ hin i (by omega)
  have hlow : ∀ i, x ≤ i → i < j → held p w (refill w 1 x (j - x) g r) i = held p w g i + r / w i := fun i a b => by
    rw [refill_low R _ _ _ hin i a (by omega), Int.one_mul]
  -- at x
  have hxr : r / w x = w j / w x - (m - full * (w j / w x)) := by
    rw [er]
    exact Int.mul_ediv_cancel _ (by omega)
  have hatx : held p w (refill w 1 x (j - x) g r) x = held p w f0 x - (many - 0) := by
    have a1 := I.at_
    have e1 : held p w g x = held p w f x + (f j - full - 1 - f j) * (w j / w x) := by rw [hs, if_pos hx]
    have e2 : (f j - full - 1 - f j) * (w j / w x) = - (full * (w j / w x)) - w j / w x := by grind
    by_cases e : x = j
    · subst e
      have q1 : w x / w x = 1 := R.quo_self hxp
      rw [q1] at h1 h2
      omega
    · rw [hlow x (Nat.le_refl x) (by omega), hxr]
      omega
  -- what is held between
  have gz : ∀ i, x ≤ i → i ≤ j → held p w g i = held p w g j * (w j / w i) := fun i a b =>
    held_zero R (fun k c d => by show fset _ _ _ _ = _; rw [fset_ne _ _ (by omega)]; exact us k (by omega) (by omega)) b hj
  have h0j : held p w g j + 1 ≤ held p w f0 j := by
    have := I.le j hx hj
    have e1 : held p w g j = held p w f j + (f j - full - 1 - f j) * (w j / w j) := by rw [hs, if_pos (Nat.le_refl j)]
    rw [R.quo_self hj] at e1
    omega
  have ri : ∀ i, x ≤ i → i ≤ j → r / w i < w j / w i := fun i a b => by
    have hwi := R.one i (by omega)
    have e := R.quo b hj
    rw [Int.ediv_lt_iff_lt_mul (by omega), e]
    exact hrj
  refine ⟨I.nn0, refill_nn R (by omega) _ _ _ hin hr0 hgn, Int.le_refl 0, fun k hk => ?_, hatx, fun i a b => ?_, fun _ i a b => ?_, .inl rfl, fun k hk => ?_⟩
  · rw [refill_out R _ _ _ hin k (.inl hk)]
    show fset _ _ _ _ = _
    rw [fset_ne _ _ (by omega)]
    exact I.low k hk
  · by_cases hi : i < j
    · rw [hlow i a hi, gz i a (by omega)]
      have q := R.quo_pos (show i ≤ j by omega) hj
      have l1 := ri i a (by omega)
      have l2 : (held p w g j + 1) * (w j / w i) ≤ held p w f0 j * (w j / w i) := Int.mul_le_mul_of_nonneg_right h0j (by omega)
      have l3 : held p w f0 j * (w j / w i) ≤ held p w f0 i := by
        exact held_mono R I.nn0 (show i ≤ j by omega) hj
      have e1 : (held p w g j + 1) * (w j / w i) = held p w g j * (w j / w i) + w j / w i := by grind
      omega
    · rw [hhigh i (by omega)]
      have hle : held p w g i ≤ held p w f i := by
        rw [hs]
        split
        · rename_i hij
          have q := R.quo_pos hij hj
          have := Int.mul_nonneg (show 0 ≤ full + 1 by omega) (show 0 ≤ w j / w i by omega)
          have e : (f j - full - 1 - f j) * (w j / w i) = - ((full + 1) * (w j / w i)) := by grind
          omega
        · omega
      exact Int.le_trans hle (I.le i a b)
  · by_cases hi : j < i
    · left
      rw [hhigh i (by omega), hs, if_neg (by omega), Int.add_zero]
      exact held_high R fun k hk => I.high k (by omega)
    · right
      have hwi := R.one i b
      have q := R.quo_pos a b
      have qi := R.quo a b
      -- held x = B + r / w x; held i = B' + r / w i
      have hgx := gz x (Nat.le_refl x) hx
      have hgi := gz i a (by omega)
      have hgxi : held p w g x = held p w g i * (w i / w x) := held_zero R (fun k c d => by show fset _ _ _ _ = _; rw [fset_ne _ _ (by omega)]; exact us k (by omega) (by omega)) a b
      have hX : held p w (refill w 1 x (j - x) g r) x ≤ held p w g x + r / w x := by
        by_cases e : x = j
        · subst e
          rw [hhigh x (Nat.le_refl x)]
          have := Int.ediv_nonneg hr0 (show 0 ≤ w x by omega)
          omega
        · rw [hlow x (Nat.le_refl x) (by omega)]
          exact Int.le_refl _
      have hI : held p w g i + r / w i ≤ held p w (refill w 1 x (j - x) g r) i := by
        by_cases e : i = j
        · subst e
          rw [hhigh i (Nat.le_refl i)]
          have : r / w i = 0 := Int.ediv_eq_zero_of_lt hr0 hrj
          omega
        · rw [hlow i a (by omega)]
          exact Int.le_refl _
      have hrr : r / w x < (r / w i + 1) * (w i / w x) := by
        rw [Int.ediv_lt_iff_lt_mul (by omega), Int.mul_assoc, qi]
        have := Int.lt_ediv_add_one_mul_self r (show 0 < w i by omega)
        exact this
      have l2 : (held p w g i + r / w i + 1) * (w i / w x) ≤ (held p w (refill w 1 x (j - x) g r) i + 1) * (w i / w x) := Int.mul_le_mul_of_nonneg_right (by omega) (by omega)
      have e2 : (held p w g i + r / w i + 1) * (w i / w x) = held p w g i * (w i / w x) + (r / w i + 1) * (w i / w x) := by grind
      omega
  · rw [refill_out R _ _ _ hin k (.inr (by omega))]
    show fset _ _ _ _ = _
    rw [fset_ne _ _ (by omega)]
    exact I.high k (by omega)
end
end K12


set_option linter.all false
namespace K12
/-! A band's strips, behind its sheets and its pieces. -/
theorem band_nn {q : Nat} {h : Nat → Int} (T : Row q h) {side : Int} {b : Nat} (hs : 0 ≤ side) (hb : b < q) : 0 ≤ band q h side b := by
  unfold band
  have h1 := T.one b hb
  split
  · exact Int.ediv_nonneg hs (by omega)
  · rename_i hn
    have h2 := T.one (b + 1) (by omega)
    exact Int.ediv_nonneg (Int.emod_nonneg _ (by omega)) (by omega)
/-- a stock's sorts: sides and counts are not below 0 -/
def InS (st : List Tri) : Prop := ∀ t ∈ st, 1 ≤ t.1 ∧ t.1 < 1000000000000000 ∧ 1 ≤ t.2.1 ∧ t.2.1 < 1000000000000000 ∧ 1 ≤ t.2.2
theorem InS.turn {st : List Tri} (h : InS st) : InS (turnS st) := by
  intro t ht
  obtain ⟨u, hu, rfl⟩ := List.mem_map.mp ht
  obtain ⟨h1, h2, h3, h4, h5⟩ := h u hu
  exact ⟨h3, h4, h1, h2, h5⟩
/-- the law's own sums are those of the program -/
theorem top_band {q : Nat} {h w : Nat → Int} {st : List Tri} {b i : Nat} (T : Row q h) (hb : b < q) : sm (fun t : Tri => t.2.2 * band q h t.2.1 b * (t.1 / w i)) st = top q h w st b i :=
  sm_congr fun t _ => by rw [band_part T hb]
/-- behind n sorts of the stock -/
structure SheetInv (p q : Nat) (w h : Nat → Int) (st : List Tri) (b : Nat) (F : Nat → Int) (n : Nat) (f : Nat → Int) : Prop where
  nn : ∀ k, k < p → 0 ≤ f k
  at_ : ∀ i, i < p → held p w f i = F i + top q h w (st.take n) b i
section
variable {p q : Nat} {w h : Nat → Int} (R : Row p w) (T : Row q h)
include R
theorem SheetInv.start {st : List Tri} {b : Nat} {f F : Nat → Int} (hf : ∀ k, k < p → 0 ≤ f k) (e : ∀ i, i < p → held p w f i = F i) : SheetInv p q w h st b F 0 f where
  nn := hf
  at_ := fun i hi => by
    rw [e i hi, List.take_zero]
    show F i = F i + 0
    omega
include T
theorem SheetInv.more {st : List Tri} {b n : Nat} {f F : Nat → Int} {t : Tri} (L : InS st) (hb : b < q) (I : SheetInv p q w h st b F n f) (e : st[n]? = some t) :
    SheetInv p q w h st b F (n + 1) (refill w (t.2.2 * band q h t.2.1 b) 0 p f t.1) where
  nn := by
    obtain ⟨h1, h2, h3, h4, h5⟩ := L t (List.mem_of_getElem? e)
    exact refill_nn R (Int.mul_nonneg (by omega) (band_nn T (by omega) hb)) _ _ _ (by omega) (by omega) I.nn
  at_ := fun i hi => by
    rw [refill_low R _ _ _ (by omega) i (by omega) (by omega), I.at_ i hi]
    unfold top
    rw [sm_take _ e, band_part T hb]
    omega
end
structure BandInv (p : Nat) (w : Nat → Int) (Rm : Nat → Int) (ld : List Ent) (b n : Nat) (f : Nat → Int) : Prop where
  nn : ∀ k, k < p → 0 ≤ f k
  gal : ∀ i, i < p → ∀ v, v ≤ held p w f i ↔ ∀ k, k ≤ i → v * (w i / w k) ≤ Rm k - want w (ld.take n) b k
theorem want_take {p q : Nat} {w : Nat → Int} (R : Row p w) {ld : List Ent} (L : InL p q ld) (b k : Nat) : ∀ n, want w (ld.take n) b k ≤ want w ld b k := by
  intro n
  have e : want w ld b k = want w (ld.take n) b k + want w (ld.drop n) b k := by
    unfold want
    rw [← sm_app, List.take_append_drop]
  have nn : ∀ l : List Ent, InL p q l → 0 ≤ want w l b k := by
    intro l
    induction l with
    | nil => intro _; exact Int.le_refl 0
    | cons t l ih =>
      intro hl
      have h1 := ih fun u hu => hl u (List.mem_cons_of_mem _ hu)
      obtain ⟨a1, a2, a3⟩ := hl t List.mem_cons_self
      show 0 ≤ (if t.2.1 = b ∧ k ≤ t.1 then t.2.2 * (w t.1 / w k) else 0) + want w l b k
      split
      · rename_i hh
        have := R.quo_pos hh.2 a1
        have := Int.mul_nonneg (show 0 ≤ t.2.2 by omega) (show 0 ≤ w t.1 / w k by omega)
        omega
      · omega
  have := nn (ld.drop n) fun u hu => L u (List.mem_of_mem_drop hu)
  omega
theorem want_next {w : Nat → Int} {ld : List Ent} {n : Nat} {t : Ent} (e : ld[n]? = some t) (b k : Nat) : want w (ld.take (n + 1)) b k = want w (ld.take n) b k + if t.2.1 = b ∧ k ≤ t.1 then t.2.2 * (w t.1 / w k) else 0 := by
  unfold want
  rw [sm_take _ e]
section
variable {p q : Nat} {w : Nat → Int} (R : Row p w)
include R
theorem quo_mul {k x i : Nat} (h1 : k ≤ x) (h2 : x ≤ i) (hi : i < p) : w i / w x * (w x / w k) = w i / w k := by
  have a := R.quo (show k ≤ i by omega) hi
  have b := R.quo h2 hi
  have c := R.quo h1 (by omega)
  have d := R.one k (by omega)
  apply Int.eq_of_mul_eq_mul_right (a := w k) (by omega)
  rw [a, Int.mul_assoc, c, b]
theorem BandInv.start {Rm : Nat → Int} {ld : List Ent} {b : Nat} {f : Nat → Int} (hf : ∀ k, k < p → 0 ≤ f k) (e : ∀ i, i < p → held p w f i = Rm i) : BandInv p w Rm ld b 0 f where
  nn := hf
  gal := fun i hi v => by
    have z : ∀ k, want w (ld.take 0) b k = 0 := fun k => by rw [List.take_zero]; rfl
    constructor
    · intro hv k hk
      rw [z, ← e k (by omega), Int.sub_zero]
      exact Int.le_trans (Int.mul_le_mul_of_nonneg_right hv (by have := R.quo_pos hk hi; omega)) (held_mono R hf hk hi)
    · intro h
      have := h i (Nat.le_refl i)
      rw [R.quo_self hi, z, Int.mul_one, ← e i hi] at this
      omega
theorem BandInv.skip {Rm : Nat → Int} {ld : List Ent} {b n : Nat} {f : Nat → Int} {t : Ent} (I : BandInv p w Rm ld b n f) (e : ld[n]? = some t) (h : t.2.1 ≠ b) : BandInv p w Rm ld b (n + 1) f where
  nn := I.nn
  gal := fun i hi v => by
    rw [I.gal i hi v]
    have z : ∀ k, want w (ld.take (n + 1)) b k = want w (ld.take n) b k := fun k => by
      rw [want_next e, if_neg (fun z => h z.1), Int.add_zero]
    exact ⟨fun q k hk => by rw [z]; exact q k hk, fun q k hk => by rw [← z]; exact q k hk⟩
theorem BandInv.cut {Rm : Nat → Int} {ld : List Ent} {b n : Nat} {f f' : Nat → Int} {t : Ent} (L : InL p q ld) (I : BandInv p w Rm ld b n f) (e : ld[n]? = some t) (h : t.2.1 = b) (C : CutDone p w t.1 f t.2.2 f') : BandInv p w Rm ld b (n + 1) f' where
  nn := C.nn
  gal := fun i hi v => by
    obtain ⟨a1, a2, a3⟩ := L t (List.mem_of_getElem? e)
    by_cases hx : i ≤ t.1
    · rw [C.low i hx]
      have h1 := I.gal i hi (v + t.2.2 * (w t.1 / w i))
      have h2 : v ≤ held p w f i - t.2.2 * (w t.1 / w i) ↔ v + t.2.2 * (w t.1 / w i) ≤ held p w f i := by omega
      rw [h2, h1]
      have h3 : ∀ k, k ≤ i → ((v + t.2.2 * (w t.1 / w i)) * (w i / w k) ≤ Rm k - want w (ld.take n) b k ↔ v * (w i / w k) ≤ Rm k - want w (ld.take (n + 1)) b k) := fun k hk => by
        rw [want_next e, if_pos ⟨h, by omega⟩, ← quo_mul R hk hx a1]
        have : (v + t.2.2 * (w t.1 / w i)) * (w i / w k) = v * (w i / w k) + t.2.2 * (w t.1 / w i * (w i / w k)) := by grind
        omega
      exact ⟨fun z k hk => (h3 k hk).mp (z k hk), fun z k hk => (h3 k hk).mpr (z k hk)⟩
    · rw [C.high i (by omega) hi v, I.gal i hi v]
      have h1 := I.gal t.1 a1 (v * (w i / w t.1) + t.2.2)
      have h2 : v * (w i / w t.1) ≤ held p w f t.1 - t.2.2 ↔ v * (w i / w t.1) + t.2.2 ≤ held p w f t.1 := by omega
      rw [h2, h1]
      have h3 : ∀ k, k ≤ t.1 → ((v * (w i / w t.1) + t.2.2) * (w t.1 / w k) ≤ Rm k - want w (ld.take n) b k ↔ v * (w i / w k) ≤ Rm k - want w (ld.take (n + 1)) b k) := fun k hk => by
        rw [want_next e, if_pos ⟨h, hk⟩, ← quo_mul R hk (show t.1 ≤ i by omega) hi]
        have : (v * (w i / w t.1) + t.2.2) * (w t.1 / w k) = v * (w i / w t.1 * (w t.1 / w k)) + t.2.2 * (w t.1 / w k) := by grind
        omega
      have h4 : ∀ k, ¬ k ≤ t.1 → want w (ld.take (n + 1)) b k = want w (ld.take n) b k := fun k hk => by
        rw [want_next e, if_neg (fun z => hk z.2), Int.add_zero]
      constructor
      · rintro ⟨z1, z2⟩ k hk
        by_cases hkt : k ≤ t.1
        · exact (h3 k hkt).mp (z2 k hkt)
        · rw [h4 k hkt]; exact z1 k hk
      · intro z
        refine ⟨fun k hk => ?_, fun k hk => (h3 k hk).mpr (z k (by omega))⟩
        by_cases hkt : k ≤ t.1
        · have := (h3 k hkt).mpr (z k hk)
          have q1 := R.quo_pos hkt a1
          have q2 := Int.mul_nonneg (show 0 ≤ t.2.2 by omega) (show 0 ≤ w t.1 / w k by omega)
          have e1 : (v * (w i / w t.1) + t.2.2) * (w t.1 / w k) = v * (w i / w t.1 * (w t.1 / w k)) + t.2.2 * (w t.1 / w k) := by grind
          rw [quo_mul R hkt (show t.1 ≤ i by omega) hi] at e1
          omega
        · rw [← h4 k hkt]; exact z k hk
theorem BandInv.fail {Rm : Nat → Int} {ld : List Ent} {b n : Nat} {f : Nat → Int} {t : Ent} (L : InL p q ld) (I : BandInv p w Rm ld b n f) (e : ld[n]? = some t) (h : t.2.1 = b) (C : ¬ t.2.2 ≤ held p w f t.1) : ∃ k, k < p ∧ Rm k - want w ld b k < 0 := by
  obtain ⟨a1, a2, a3⟩ := L t (List.mem_of_getElem? e)
  have h1 := mt (I.gal t.1 a1 t.2.2).mpr C
  obtain ⟨k, hk⟩ := Classical.not_forall.mp h1
  obtain ⟨hk1, hk2⟩ := Classical.not_imp.mp hk
  refine ⟨k, by omega, ?_⟩
  have h2 := want_take R L b k (n + 1)
  rw [want_next e, if_pos ⟨h, hk1⟩] at h2
  omega
theorem BandInv.done {Rm : Nat → Int} {ld : List Ent} {b : Nat} {f : Nat → Int} (I : BandInv p w Rm ld b ld.length f) : (∀ k, k < p → 0 ≤ Rm k - want w ld b k) ∧ ∀ i, i < p → ∀ v, v ≤ held p w f i ↔ ∀ k, k ≤ i → v * (w i / w k) ≤ Rm k - want w ld b k := by
  have g := I.gal
  rw [List.take_length] at g
  refine ⟨fun k hk => ?_, g⟩
  have := (g k hk 0).mp (held_nn R I.nn k) k (Nat.le_refl k)
  rw [Int.zero_mul] at this
  exact this
end
/-- a band is done: its strips hold what is left -/
theorem band_left {p q : Nat} {w h : Nat → Int} (R : Row p w) {st : List Tri} {ld : List Ent} {d : Nat} {f : Nat → Int}
    (I : BandInv p w (fun i => rt q h (q - 1 - d) * lv q w (rt q h) (Aof q h w st ld) d i + top q h w st (q - 1 - d) i) ld (q - 1 - d) ld.length f) :
    (∀ i, i < p → 0 ≤ spr q w (rt q h) (Aof q h w st ld) d i) ∧ ∀ i, i < p → held p w f i = lv q w (rt q h) (Aof q h w st ld) (d + 1) i := by
  obtain ⟨h1, h2⟩ := I.done R
  have e : ∀ i, rt q h (q - 1 - d) * lv q w (rt q h) (Aof q h w st ld) d i + top q h w st (q - 1 - d) i - want w ld (q - 1 - d) i = spr q w (rt q h) (Aof q h w st ld) d i := fun i => by
    unfold spr Aof
    omega
  refine ⟨fun i hi => by rw [← e i]; exact h1 i hi, fun i hi => eq_of_le_iff fun v => ?_⟩
  rw [h2 i hi v, le_lv' R hi v]
  exact ⟨fun z k hk => by rw [← e k]; exact z k hk, fun z k hk => by rw [e k]; exact z k hk⟩
theorem band_fails {p q : Nat} {w h : Nat → Int} {st : List Tri} {ld : List Ent} {d : Nat} (hd : d < q)
    (H : ∃ k, k < p ∧ rt q h (q - 1 - d) * lv q w (rt q h) (Aof q h w st ld) d k + top q h w st (q - 1 - d) k - want w ld (q - 1 - d) k < 0) : ¬ FitsL p q w h st ld := by
  obtain ⟨k, hk, hlt⟩ := H
  intro F
  have h1 := F d hd k hk
  have e : spr q w (rt q h) (Aof q h w st ld) d k = rt q h (q - 1 - d) * lv q w (rt q h) (Aof q h w st ld) d k + (top q h w st (q - 1 - d) k - want w ld (q - 1 - d) k) := rfl
  omega
end K12


set_option Elab.async false
set_option linter.all false
set_option maxRecDepth 100000
namespace K12
open PySem PySem.Spec PyProof.Rows L2
/-! ### lists of numbers by their places -/
def tab (n : Nat) (f : Nat → Int) : List V := (List.range n).map fun i => V.int (f i)
theorem tab_len (n : Nat) (f : Nat → Int) : (tab n f).length = n := by unfold tab; rw [List.length_map, List.length_range]
theorem tab_get {n : Nat} {f : Nat → Int} {i : Nat} (h : i < n) : (tab n f)[i]? = some (.int (f i)) := by
  unfold tab
  rw [List.getElem?_map, List.getElem?_range h]
  rfl
theorem tab_ints (n : Nat) (f : Nat → Int) : tab n f = ((List.range n).map f).map V.int := by
  unfold tab
  rw [List.map_map]
  rfl
theorem tab_succ (n : Nat) (f : Nat → Int) : tab n f ++ [V.int (f n)] = tab (n + 1) f := by
  unfold tab
  rw [List.range_succ, List.map_append]
  rfl
theorem tab_congr {n : Nat} {f g : Nat → Int} (h : ∀ i, i < n → f i = g i) : tab n f = tab n g := by
  unfold tab
  apply List.map_congr_left
  intro i hi
  rw [h i (List.mem_range.mp hi)]
theorem tab_set {n j : Nat} {f : Nat → Int} {v : Int} (h : j < n) : (tab n f).set j (.int v) = tab n (fset f j v) := by
  apply List.ext_getElem?
  intro i
  by_cases hi : i < n
  · rw [tab_get hi]
    by_cases e : i = j
    · subst e
      rw [List.getElem?_set_self (by rw [tab_len]; exact hi), fset_same]
    · rw [List.getElem?_set_ne (Ne.symm e), tab_get hi, fset_ne _ _ e]
  · rw [List.getElem?_eq_none (by rw [List.length_set, tab_len]; omega), List.getElem?_eq_none (by rw [tab_len]; omega)]
theorem tab_rep (n : Nat) : (List.replicate n [V.int 0]).flatten = tab n fun _ => 0 := by
  induction n with
  | zero => rfl
  | succ n ih =>
    rw [← tab_succ, ← ih, List.replicate_succ', List.flatten_append]
    rfl
theorem tab_take {n : Nat} {f : Nat → Int} {k : Nat} (h : k ≤ n) : (tab n f).take k = tab k f := by
  unfold tab
  rw [← List.map_take, List.take_range, Nat.min_eq_left h]
/-! ### heaps -/
theorem _root_.L2.Same.new {H : Hp} {p : Addr} {o : HO} (h : H p = none) : Same H (upd H p o) := fun b u e => by
  rw [upd_ne (ne_of_none e h)]
  exact e
theorem _root_.L2.Same.put {H0 H : Hp} {p : Addr} {o : HO} (s : Same H0 H) (h : H0 p = none) : Same H0 (upd H p o) := fun b u e => by
  rw [upd_ne (ne_of_none e h)]
  exact s b u e
/-- a value's kind by the heap -/
inductive Kn (H : Hp) : V → String → Prop where
  | non : Kn H .non "NoneType"
  | bl (b : Bool) : Kn H (.bl b) "bool"
  | int (i : Int) : Kn H (.int i) "int"
  | str (x : Str) : Kn H (.str x) "str"
  | lst {a : Addr} {xs : List V} (h : H a = some (.lst xs)) : Kn H (.ref a) "list"
  | tup {a : Addr} {xs : List V} (h : H a = some (.tup xs)) : Kn H (.ref a) "tuple"
theorem Kn.ty {K : PySem.W.Frag} {H : Hp} {v : V} {s : String} (k : Kn H v s) : TyX K H v (.type s) := by
  cases k with
  | non => exact .base .non
  | bl b => exact .base (.bl b)
  | int i => exact .base (.int i)
  | str x => exact .base (.str x)
  | lst h => exact .base (.lst h)
  | tup h => exact .base (.tup h)
theorem Kn.same {H H' : Hp} {v : V} {s : String} (k : Kn H v s) (e : Same H H') : Kn H' v s := by
  cases k with
  | non => exact .non
  | bl b => exact .bl b
  | int i => exact .int i
  | str x => exact .str x
  | lst h => exact .lst (e _ _ h)
  | tup h => exact .tup (e _ _ h)
section
variable {X : Cx}
/-- an item of a list, by values -/
def rGetL (K : PySem.W.Frag) : V → V → Hp → VK → Prop := fun o i H Q => ∃ (p : Addr) (xs : List V) (j : Nat) (v : V), o = .ref p ∧ i = .int (j : Int) ∧ SqL K H p xs ∧ xs[j]? = some v ∧ Q v H
theorem get_list : PGet X (rGetL X.K) := by
  intro pins s σ H o i ov iv Q I ro ri h
  obtain ⟨p, xs, k, z, rfl, rfl, hq, he, q⟩ := h
  cases ro
  obtain ⟨t, rfl⟩ := ri
  obtain ⟨its, r, pl, hz⟩ := I.list hq
  obtain ⟨w, ew, rw'⟩ := r.get he
  have hk : k < xs.length := (List.getElem?_eq_some_iff.mp he).1
  have hn := line63
  exact wpAny_getItem_list pl.isList (Int.natCast_nonneg k) (by omega) (by simpa using ew) ⟨z, H, I, rw', q⟩
/-! ### enumerate over a tuple -/
/-- the tuple at a, each item in a new pair -/
def IteT (K : PySem.W.Frag) (a : Addr) : It where
  go := fun i H => ∃ (xs : List V) (x : V), SqT K H a xs ∧ xs[i]? = some x
  yld := fun i H v H' => ∃ T x, v = .ref T ∧ H T = none ∧ H' = upd H T (.tup [.int (i : Nat), x]) ∧ ∀ xs, SqT K H a xs → xs[i]? = some x
  stop := fun i H => ∃ xs : List V, SqT K H a xs ∧ xs.length ≤ i
theorem turn_enumT {P : Program} {w : World} {K : PySem.W.Frag} {elts : List Expr} {kk : Nat} {tpos : Pos} (a e it : Addr) :
    Turn P w K (.Tuple elts kk tpos) (IteT K a) [e, it] e (fun i h => (∃ old, IsEnum h e it ((i : Nat) : Int) old) ∧ h.IsTupleIter it a i ∧ e ≠ it ∧ it ≠ a ∧ e ≠ a) where
  mem := List.mem_cons_self
  obj := fun i h st b hb => by
    obtain ⟨⟨old, he⟩, ⟨o, ho, _, hd⟩, _⟩ := st
    rcases List.mem_cons.mp hb with z | z
    · rw [z]
      exact ⟨_, he, fun v q => by cases q⟩
    · rw [List.mem_singleton.mp z]
      exact ⟨o, ho, fun v q => by rw [hd] at q; cases q⟩
  keep := fun i h h' st k => by
    obtain ⟨⟨old, he⟩, hi, h3⟩ := st
    exact ⟨⟨old, k e List.mem_cons_self _ he⟩, hi.at fun o q => k it (List.mem_cons_of_mem _ List.mem_cons_self) o q, h3⟩
  item := by
    intro X hP hw hK hc i pins s σ H E I hf st hg
    subst hP hw hK
    obtain ⟨⟨old, he⟩, hit, hne, hia, hea⟩ := st
    obtain ⟨xs, x, hq, hx⟩ := hg
    obtain ⟨its, rv, p, hz⟩ := I.tuple hq
    obtain ⟨u, hu, ru⟩ := rv.get hx
    have hel : e < s.heap.objs.size := Heap.lt_size he
    have hil : it < s.heap.objs.size := by obtain ⟨_, q, _⟩ := hit; exact Heap.lt_size q
    have hul : i < its.toArray.size := by
      rw [List.size_toArray]
      exact (List.getElem?_eq_some_iff.mp hu).1
    have hef : e ∉ ([it, a] : List Addr) := fun z => by
      rcases List.mem_cons.mp z with q | q
      · exact hne q
      · exact hea (List.mem_singleton.mp q)
    refine wpAny_pyNext_enum_itemD (Draws.tuple (prog := X.prog) (w := X.w) (A := X.A.in1) (I.ok.hd hc) it a (Ne.symm hia) its.toArray) he ⟨hit, p⟩ hul hne hef fun x' h' tk hx' ho hst' hT hsz hk => ?_
    have ex : x' = u := by
      have e1 : its[i]? = some x' := by simpa using hx'
      exact Option.some.inj (e1.symm.trans hu)
    subst ex
    refine ⟨_, rfl, wpAny_letOwnedTupleGo_enum (s := { s with heap := h', toks := tk + 1 }) ho fun h'' he' sb => ?_⟩
    have hT2 : h''.get? s.heap.objs.size = some { cls := .type "tuple", data := .seq #[.int i tk, x'] } := (sb.2 _ (Nat.ne_of_gt hel)).trans hT
    have new : ObjOk X.prog X.w (upd H s.heap.objs.size (.tup [.int (i : Nat), x])) h'' s.heap.objs.size (.tup [.int (i : Nat), x]) :=
      ⟨by show 2 ≤ sizeLine; decide, [.int i tk, x'], .cons ⟨_, rfl⟩ (.cons ru .nil), ⟨_, hT2, rfl, _, rfl⟩⟩
    have I1 : Inv X pins σ (upd H s.heap.objs.size (.tup [.int (i : Nat), x])) { s with heap := h'', toks := tk + 1 } :=
      I.turnedNew (t' := tk + 1) (ch := [e, it]) (fun b ob hb q => by
        have n1 : b ≠ e := fun z => hb (z ▸ List.mem_cons_self)
        have n2 : b ≠ it := fun z => hb (List.mem_cons_of_mem _ (z ▸ List.mem_cons_self))
        exact (sb.2 b n1).trans (hk b ob n1 n2 q)) hf (Nat.le_refl _) new
    refine ⟨.ref s.heap.objs.size, _, I1, rfl, ⟨_, x, rfl, I.hok.fresh (Nat.le_refl _), rfl, fun ys hy => by rw [I.tuple_inj hy hq]; exact hx⟩, ⟨⟨x', ?_⟩, hst'.1.at fun o q => (sb.2 it (Ne.symm hne)).trans q, hne, hia, hea⟩, fun b hb => ?_⟩
    · rw [show ((i + 1 : Nat) : Int) = (i : Int) + 1 from Int.natCast_succ i]
      exact he'
    · have hlt : b < s.heap.objs.size := by
        rcases List.mem_cons.mp hb with z | z
        · exact z ▸ hel
        · exact (List.mem_singleton.mp z) ▸ hil
      rw [upd_ne (Nat.ne_of_lt hlt)]
      exact (hf b hb).1
  done := by
    intro X hP hw hK hc i pins s σ H E I hf st hg
    subst hP hw hK
    obtain ⟨⟨old, he⟩, hit, hne, hia, hea⟩ := st
    obtain ⟨xs, hq, hx⟩ := hg
    obtain ⟨its, rv, p, hz⟩ := I.tuple hq
    have hl := rv.length
    obtain ⟨f0, f1, f2, f3, f4, f5⟩ := hf it (List.mem_cons_of_mem _ List.mem_cons_self)
    have hT : s.TypeIs (.ref e) "enumerate" := ⟨_, he, rfl⟩
    unfold pyNext
    apply wpAny_bind
    apply wpAny_attempt
    apply wpAny_callSpecial?_slot (name := Str.ofString "__next__") hT F.slot_enumerate_next
    refine wpAny_call_entry F.slot_enumerate_next hT F.entry_enumerate_next ?_ (F.args_enumerate_next_1 _)
    show wpAny _ _ (field (.ref e) 2 >>= _) _ _ _
    refine wpAny_bind (wpAny_field he rfl (x := .ref it) rfl ?_)
    apply wpAny_bind
    refine wpAny_nextOf_tuple_end (I.ok.hd hc) hit p (by simp; omega) fun h' x hx1 hx2 => ?_
    obtain ⟨o, ho, hcl⟩ := hx2
    refine wpAny_bind (wpAny_isInstance (T := "StopIteration") (b := true) ⟨o, ho, hcl⟩ isSubtype_stop ?_)
    exact wpAny_pure ⟨rfl, I.turned (t' := s.toks) (fun b o hb q => hx1 b o hb q) f0 f1 f3 f4 f5⟩
  self := fun A i s Q E st h => by
    obtain ⟨⟨_, he⟩, _⟩ := st
    exact wpAny_pyIter_enum he h
/-- enumerate(t), t a tuple: its two new cells -/
theorem meets_enumT {v : Value} {o : Obj} {H : Heap → Prop} (B : Begins v o H) :
    Meets (Builtin.«enumerate.__new__» ⟨[.type "enumerate", v], []⟩) (fun _ R s => H s.heap ∧
      R (.ok (.ret (.ref (s.heap.push o).objs.size))) { s with heap := (s.heap.push o).push { cls := .type "enumerate", data := .fields #[.none, .bool false, .ref s.heap.objs.size, rawInt 0, .none, .none] } }) :=
  .of_wp fun prog w A R s h => by
    obtain ⟨hp, g, d, tk, os⟩ := s
    obtain ⟨h1, h⟩ := h
    have hsub := sub_enumerate
    have q1 : ∀ {A' : Around} {E : Value → Shared → Prop} {Q : Value → Shared → Prop}, Q (.ref hp.objs.size) ⟨hp.push o, g, d, tk, os⟩ → wpAny (model prog w) A' (pyIter v) Q E ⟨hp, g, d, tk, os⟩ :=
      fun q => B.iter prog w _ _ ⟨hp, g, d, tk, os⟩ _ h1 q
    wp_walk using q1
    refine wpAny_stack_any fun st => wpAny_pure ?_
    split
    · rename_i c _ _ _ _ _
      cases (c == Value.type "enumerate") <;> (wp_walk using q1; exact ⟨_, rfl, h⟩)
    · wp_walk using q1
      exact ⟨_, rfl, h⟩
theorem enumT_begins {prog : Program} {w : World} {A : Around} {E : Value → Shared → Prop} {s : Shared} {v : Value} {o : Obj} {H : Heap → Prop} {Q : Value → Shared → Prop} (B : Begins v o H) (h1 : H s.heap)
    (h : ∀ h', IsEnum h' (s.heap.objs.size + 1) s.heap.objs.size 0 .none → h'.get? s.heap.objs.size = some o → (∀ b o, s.heap.get? b = some o → h'.get? b = some o) → Q (.ref (s.heap.objs.size + 1)) { s with heap := h' }) :
    wpAny (model prog w) A (call (.type "enumerate") [v]) Q E s := by
  refine callType_new F.called_enumerate (by decide) (F.typeCall_enumerate_1 _) (F.newCall_enumerate_1 _) (fun obj => F.args_object_init_2 obj _) F.entry_enumerate_new (meets_enumT B) ⟨h1, ?_⟩
  have hz : (s.heap.push o).objs.size = s.heap.objs.size + 1 := Heap.size_push ..
  have he : ∀ h' : Heap, h' = (s.heap.push o).push { cls := .type "enumerate", data := .fields #[.none, .bool false, .ref s.heap.objs.size, rawInt 0, .none, .none] } → IsEnum h' (s.heap.objs.size + 1) s.heap.objs.size 0 .none := fun h' e => by
    have q := Heap.get?_push_size (s.heap.push o) (o := { cls := .type "enumerate", data := .fields #[.none, .bool false, .ref s.heap.objs.size, rawInt 0, .none, .none] }) rfl
    rw [hz] at q
    rw [e]
    exact q
  show _ ∧ _
  rw [hz]
  exact ⟨⟨_, he _ rfl, rfl⟩, h _ (he _ rfl) (Heap.get?_push_of_some _ (Heap.get?_push_size _ B.free)) fun b o x => Heap.get?_push_of_some _ (Heap.get?_push_of_some _ x)⟩
def iEnumT (K : PySem.W.Frag) (ta : TA) : TI := fun σ H R => ta σ H fun vs H1 => ∃ a xs, vs = [.ref a] ∧ SqT K H1 a xs ∧ R (IteT K a) H1
theorem pi_enumT {X : Cx} {e : Expr} {ta : TA} {p pos tpos : Pos} {elts : List Expr} {kk : Nat} (hg : Gl X "enumerate") (hm : X.mg "enumerate" = none) (ha : PA X [e] ta) (hs : starEach [e] X.env = [(false, eval e X.env)] := by rfl) :
    PI X (.Tuple elts kk tpos) (.Call (.Name "enumerate" p) [e] [] pos) (iEnumT X.K ta) := by
  refine ⟨fun pins s σ H R I h => ?_⟩
  refine Call_ (ld_blt I hg hm boot_enumerate (PyProof.Rows.callWith_type1 (thn (ha.run pos pins s σ H _ I h) fun us s1 hh => ?_) hs rfl))
  obtain ⟨vs, H1, I1, r1, a, xs, ex, hq, q⟩ := hh
  subst ex
  obtain ⟨u, rfl, ru⟩ := vals1 r1
  cases ru
  obtain ⟨its, rv, p', hz⟩ := I1.tuple hq
  refine enumT_begins (begins_tuple a its.toArray) p' fun h' he hit hk => wpAny_pyIter_enum he ?_
  have I2 : Inv X pins σ H1 { s1 with heap := h' } := I1.kept (t' := s1.toks) hk
  have hal : a < s1.heap.objs.size := p'.lt
  refine ⟨s1.heap.objs.size + 1, [s1.heap.objs.size + 1, s1.heap.objs.size], _, _, H1, rfl, I2, turn_enumT a (s1.heap.objs.size + 1) s1.heap.objs.size, ⟨⟨.none, he⟩, ⟨_, hit, rfl, rfl⟩, Nat.succ_ne_self _, Nat.ne_of_gt hal, Nat.ne_of_gt (Nat.lt_succ_of_lt hal)⟩, fun b hb => ?_, q⟩
  have hle : s1.heap.objs.size ≤ b := by
    rcases List.mem_cons.mp hb with z | z
    · rw [z]; exact Nat.le_add_right _ _
    · rw [List.mem_singleton.mp z]; exact Nat.le_refl _
  exact I1.fpOk hle (I1.hok.fresh hle)
/-- a loop over it -/
theorem walk_enumT {K : PySem.W.Frag} {a : Addr} {xs : List V} : Walk (IteT K a) xs.length (fun H => SqT K H a xs) (YPair (fun i => some (.int (i : Nat))) (fun i => xs[i]?)) where
  goes := fun i H hi h => ⟨xs, xs[i], h, List.getElem?_eq_getElem hi⟩
  stops := fun H h => ⟨xs, h, Nat.le_refl _⟩
  yields := fun i H v H' hi h y => by
    obtain ⟨T, x, h1, h2, h3, h4⟩ := y
    exact ⟨T, _, x, h1, h2, h3, rfl, h4 xs h⟩
end
section
variable {X : Cx} {K : PySem.W.Frag}
/-! ### rules within a comprehension's block: the written part is the def's own -/
theorem len_K (h : X.K = K) : CallR X (.builtin "len") (fun xs H Q => ∃ p ys, xs = [.ref p] ∧ (SqL K H p ys ∨ SqT K H p ys) ∧ Q (.int ys.length) H) := by subst h; exact call_len_seq
theorem ixl_K (h : X.K = K) : IxR X (rIxL K) := by subst h; exact ix_list
theorem ixt_K (h : X.K = K) : IxR X (rIxT K) := by subst h; exact ix_tup
theorem sll_K (h : X.K = K) : SlR X (rSlL K) := by subst h; exact sl_list
theorem slt_K (h : X.K = K) : SlR X (rSlT K) := by subst h; exact sl_tup
theorem min_K (h : X.K = K) (hc : X.calm = true) : CallR X (.builtin "min") (rMin K) := by subst h; exact cr_min hc
theorem sum_K (h : X.K = K) (hc : X.calm = true) : CallR X (.builtin "sum") (rSum K) := by subst h; exact cr_sum hc
theorem pgt_K {es : List Expr} {k : Nat} {t : TGs} {n : Nat} {pos : Pos} (h : X.K = K) (hc : X.calm = true) (hg : PGs X es t) (hn : (assignEach es X.env).length = n := by rfl) (hst : (assignEach es X.env).findIdx? (·.1) = none := by rfl) : PG X (.Tuple es k pos) (gTup K n t) := by
  subst h
  exact pg_tup hc hg hn hst
end
end K12


set_option Elab.async false
set_option linter.all false
set_option maxRecDepth 100000
namespace K12
open PySem PySem.Spec PyProof.Rows L2
/-! ### the text by places -/
def topS (i : Nat) : Stmt := PySem.Challenge.pw_onesheetmore_k12_whole_rooms_both_ways.main.body.getD i (.Pass ⟨0, 0, 0, 0⟩)
abbrev sis_integer : Stmt := topS 1
abbrev nis_integer : List Str := ["thing"]
theorem Sis_integer : FnScope nis_integer ["thing"] (defScope sis_integer) := ⟨rfl, rfl, rfl, by decide +kernel, rfl, by decide +kernel, by decide +kernel⟩
abbrev sis_number : Stmt := topS 2
abbrev nis_number : List Str := ["thing"]
theorem Sis_number : FnScope nis_number ["thing"] (defScope sis_number) := ⟨rfl, rfl, rfl, by decide +kernel, rfl, by decide +kernel, by decide +kernel⟩
abbrev sis_kind : Stmt := topS 3
abbrev nis_kind : List Str := ["lists", "thing", "a", "b"]
theorem Sis_kind : FnScope nis_kind ["lists", "thing"] (defScope sis_kind) := ⟨rfl, rfl, rfl, by decide +kernel, rfl, by decide +kernel, by decide +kernel⟩
abbrev sis_lot : Stmt := topS 4
abbrev nis_lot : List Str := ["lists", "thing", "last", "entry"]
theorem Sis_lot : FnScope nis_lot ["lists", "thing"] (defScope sis_lot) := ⟨rfl, rfl, rfl, by decide +kernel, rfl, by decide +kernel, by decide +kernel⟩
abbrev s_is_tuple_of : Stmt := topS 5
abbrev n_is_tuple_of : List Str := ["thing", "many"]
theorem S_is_tuple_of : FnScope n_is_tuple_of ["thing", "many"] (defScope s_is_tuple_of) := ⟨rfl, rfl, rfl, by decide +kernel, rfl, by decide +kernel, by decide +kernel⟩
abbrev s_is_from_one : Stmt := topS 6
abbrev n_is_from_one : List Str := ["thing"]
theorem S_is_from_one : FnScope n_is_from_one ["thing"] (defScope s_is_from_one) := ⟨rfl, rfl, rfl, by decide +kernel, rfl, by decide +kernel, by decide +kernel⟩
abbrev sneed_number : Stmt := topS 13
abbrev nneed_number : List Str := ["name", "thing"]
theorem Sneed_number : FnScope nneed_number ["name", "thing"] (defScope sneed_number) := ⟨rfl, rfl, rfl, by decide +kernel, rfl, by decide +kernel, by decide +kernel⟩
abbrev scolumns_in : Stmt := topS 15
abbrev ncolumns_in : List Str := ["lists", "width"]
theorem Scolumns_in : FnScope ncolumns_in ["lists", "width"] (defScope scolumns_in) := ⟨rfl, rfl, rfl, by decide +kernel, rfl, by decide +kernel, by decide +kernel⟩
abbrev sbands_in : Stmt := topS 16
abbrev nbands_in : List Str := ["lists", "height"]
theorem Sbands_in : FnScope nbands_in ["lists", "height"] (defScope sbands_in) := ⟨rfl, rfl, rfl, by decide +kernel, rfl, by decide +kernel, by decide +kernel⟩
abbrev s_top_parts : Stmt := topS 17
abbrev n_top_parts : List Str := ["sizes", "side", "found", "index", "size", "many", "greater"]
theorem S_top_parts : FnScope n_top_parts ["sizes", "side"] (defScope s_top_parts) := ⟨rfl, rfl, rfl, by decide +kernel, rfl, by decide +kernel, by decide +kernel⟩
abbrev ssides_of : Stmt := topS 19
abbrev nsides_of : List Str := ["lists", "way"]
theorem Ssides_of : FnScope nsides_of ["lists", "way"] (defScope ssides_of) := ⟨rfl, rfl, rfl, by decide +kernel, rfl, by decide +kernel, by decide +kernel⟩
abbrev stop_sums : Stmt := topS 20
abbrev ntop_sums : List Str := ["lists", "stock", "way", "along", "above", "sums", "width", "height", "many", "bands", "length", "b", "top", "i", "size", "_"]
theorem Stop_sums : FnScope ntop_sums ["lists", "stock", "way"] (defScope stop_sums) := ⟨rfl, rfl, rfl, by decide +kernel, rfl, by decide +kernel, by decide +kernel⟩
abbrev swants_row : Stmt := topS 21
abbrev nwants_row : List Str := ["lists", "lot", "way", "b", "along", "row", "one", "other", "many", "across", "band", "i"]
theorem Swants_row : FnScope nwants_row ["lists", "lot", "way", "b"] (defScope swants_row) := ⟨rfl, rfl, rfl, by decide +kernel, rfl, by decide +kernel, by decide +kernel⟩
abbrev sroom_rows : Stmt := topS 22
abbrev nroom_rows : List Str := ["lists", "stock", "lot", "way", "along", "above", "tops", "found", "left", "ratio", "b", "rooms", "wants", "spare", "i"]
theorem Sroom_rows : FnScope nroom_rows ["lists", "stock", "lot", "way"] (defScope sroom_rows) := ⟨rfl, rfl, rfl, by decide +kernel, rfl, by decide +kernel, by decide +kernel⟩
abbrev srooms_by_heights : Stmt := topS 24
abbrev nrooms_by_heights : List Str := ["lists", "stock", "lot"]
theorem Srooms_by_heights : FnScope nrooms_by_heights ["lists", "stock", "lot"] (defScope srooms_by_heights) := ⟨rfl, rfl, rfl, by decide +kernel, rfl, by decide +kernel, by decide +kernel⟩
abbrev srooms_by_widths : Stmt := topS 25
abbrev nrooms_by_widths : List Str := ["lists", "stock", "lot"]
theorem Srooms_by_widths : FnScope nrooms_by_widths ["lists", "stock", "lot"] (defScope srooms_by_widths) := ⟨rfl, rfl, rfl, by decide +kernel, rfl, by decide +kernel, by decide +kernel⟩
abbrev s_law_begin : Stmt := topS 27
abbrev n_law_begin : List Str := ["_law_script"]
theorem S_law_begin : FnScope n_law_begin ["_law_script"] (defScope s_law_begin) := ⟨rfl, rfl, rfl, by decide +kernel, rfl, by decide +kernel, by decide +kernel⟩
abbrev s_law_take : Stmt := topS 28
abbrev n_law_take : List Str := ["_law_feed", "_law_many", "_law_cell", "_law_told", "_law_first"]
theorem S_law_take : FnScope n_law_take ["_law_feed", "_law_many"] (defScope s_law_take) := ⟨rfl, rfl, rfl, by decide +kernel, rfl, by decide +kernel, by decide +kernel⟩
abbrev s_law_make_row : Stmt := topS 29
abbrev n_law_make_row : List Str := ["_law_feed", "_law_great", "_law_sizes", "_law_k", "_law_by"]
theorem S_law_make_row : FnScope n_law_make_row ["_law_feed", "_law_great"] (defScope s_law_make_row) := ⟨rfl, rfl, rfl, by decide +kernel, rfl, by decide +kernel, by decide +kernel⟩
abbrev s_law_side : Stmt := topS 30
abbrev n_law_side : List Str := ["_law_feed", "_law_row", "_law_great", "_law_shape", "_law_size"]
theorem S_law_side : FnScope n_law_side ["_law_feed", "_law_row", "_law_great"] (defScope s_law_side) := ⟨rfl, rfl, rfl, by decide +kernel, rfl, by decide +kernel, by decide +kernel⟩
abbrev s_law_make_store : Stmt := topS 31
abbrev n_law_make_store : List Str := ["_law_feed", "_law_rows", "_law_great", "_law_made", "_law_k", "_law_wide", "_law_high", "_law_count"]
theorem S_law_make_store : FnScope n_law_make_store ["_law_feed", "_law_rows", "_law_great"] (defScope s_law_make_store) := ⟨rfl, rfl, rfl, by decide +kernel, rfl, by decide +kernel, by decide +kernel⟩
abbrev s_law_make_load : Stmt := topS 32
abbrev n_law_make_load : List Str := ["_law_feed", "_law_rows", "_law_store", "_law_part", "_law_often", "_law_made", "_law_x", "_law_y", "_law_shares", "_law_most", "_law_w", "_law_h", "_law_n"]
theorem S_law_make_load : FnScope n_law_make_load ["_law_feed", "_law_rows", "_law_store"] (defScope s_law_make_load) := ⟨rfl, rfl, rfl, by decide +kernel, rfl, by decide +kernel, by decide +kernel⟩
abbrev s_law_hand : Stmt := topS 33
abbrev n_law_hand : List Str := ["_law_number", "_law_great"]
theorem S_law_hand : FnScope n_law_hand ["_law_number"] (defScope s_law_hand) := ⟨rfl, rfl, rfl, by decide +kernel, rfl, by decide +kernel, by decide +kernel⟩
abbrev s_law_bad : Stmt := topS 34
abbrev n_law_bad : List Str := ["_law_number", "_law_p", "_law_q"]
theorem S_law_bad : FnScope n_law_bad ["_law_number", "_law_p", "_law_q"] (defScope s_law_bad) := ⟨rfl, rfl, rfl, by decide +kernel, rfl, by decide +kernel, by decide +kernel⟩
abbrev s_law_turn : Stmt := topS 35
abbrev n_law_turn : List Str := ["_law_rows", "_law_store", "_law_load", "_law_w", "_law_h", "_law_n", "_law_x", "_law_y"]
theorem S_law_turn : FnScope n_law_turn ["_law_rows", "_law_store", "_law_load"] (defScope s_law_turn) := ⟨rfl, rfl, rfl, by decide +kernel, rfl, by decide +kernel, by decide +kernel⟩
abbrev s_law_wanted : Stmt := topS 36
abbrev n_law_wanted : List Str := ["_law_wide", "_law_load", "_law_b", "_law_made", "_law_i", "_law_x", "_law_y", "_law_n"]
theorem S_law_wanted : FnScope n_law_wanted ["_law_wide", "_law_load", "_law_b"] (defScope s_law_wanted) := ⟨rfl, rfl, rfl, by decide +kernel, rfl, by decide +kernel, by decide +kernel⟩
abbrev s_law_bands : Stmt := topS 37
abbrev n_law_bands : List Str := ["_law_high", "_law_side_here", "_law_b"]
theorem S_law_bands : FnScope n_law_bands ["_law_high", "_law_side_here", "_law_b"] (defScope s_law_bands) := ⟨rfl, rfl, rfl, by decide +kernel, rfl, by decide +kernel, by decide +kernel⟩
abbrev s_law_top_bands : Stmt := topS 38
abbrev n_law_top_bands : List Str := ["_law_wide", "_law_high", "_law_store", "_law_b", "_law_made", "_law_size", "_law_w", "_law_h", "_law_n"]
theorem S_law_top_bands : FnScope n_law_top_bands ["_law_wide", "_law_high", "_law_store", "_law_b"] (defScope s_law_top_bands) := ⟨rfl, rfl, rfl, by decide +kernel, rfl, by decide +kernel, by decide +kernel⟩
abbrev s_law_own_rooms : Stmt := topS 39
abbrev n_law_own_rooms : List Str := ["_law_rows", "_law_store", "_law_load", "_law_wide", "_law_high", "_law_ends", "_law_told", "_law_b", "_law_wants", "_law_tops", "_law_fresh", "_law_k_here", "_law_x", "_law_i", "_law_strips", "_law_rooms", "_law_left"]
theorem S_law_own_rooms : FnScope n_law_own_rooms ["_law_rows", "_law_store", "_law_load"] (defScope s_law_own_rooms) := ⟨rfl, rfl, rfl, by decide +kernel, rfl, by decide +kernel, by decide +kernel⟩
abbrev s_law_cut : Stmt := topS 40
abbrev n_law_cut : List Str := ["_law_wide", "_law_free", "_law_x", "_law_many", "_law_j", "_law_each", "_law_full", "_law_rest", "_law_m"]
theorem S_law_cut : FnScope n_law_cut ["_law_wide", "_law_free", "_law_x", "_law_many"] (defScope s_law_cut) := ⟨rfl, rfl, rfl, by decide +kernel, rfl, by decide +kernel, by decide +kernel⟩
abbrev s_law_own_strips : Stmt := topS 41
abbrev n_law_own_strips : List Str := ["_law_rows", "_law_store", "_law_load", "_law_wide", "_law_high", "_law_free", "_law_told", "_law_b", "_law_w", "_law_h", "_law_n", "_law_rest", "_law_j", "_law_x", "_law_y", "_law_held", "_law_i", "_law_size"]
theorem S_law_own_strips : FnScope n_law_own_strips ["_law_rows", "_law_store", "_law_load"] (defScope s_law_own_strips) := ⟨rfl, rfl, rfl, by decide +kernel, rfl, by decide +kernel, by decide +kernel⟩
abbrev s_law_same : Stmt := topS 42
abbrev n_law_same : List Str := ["_law_told", "_law_due", "_law_one", "_law_other"]
theorem S_law_same : FnScope n_law_same ["_law_told", "_law_due"] (defScope s_law_same) := ⟨rfl, rfl, rfl, by decide +kernel, rfl, by decide +kernel, by decide +kernel⟩
abbrev s_law_fits : Stmt := topS 43
abbrev n_law_fits : List Str := ["_law_told", "_law_rooms", "_law_wants", "_law_left", "_law_one", "_law_other"]
theorem S_law_fits : FnScope n_law_fits ["_law_told"] (defScope s_law_fits) := ⟨rfl, rfl, rfl, by decide +kernel, rfl, by decide +kernel, by decide +kernel⟩
abbrev s_law_refused : Stmt := topS 44
abbrev n_law_refused : List Str := ["_law_rows", "_law_store", "_law_load", "_law_by", "e"]
theorem S_law_refused : FnScope n_law_refused ["_law_rows", "_law_store", "_law_load", "_law_by"] (defScope s_law_refused) := ⟨rfl, rfl, rfl, by decide +kernel, rfl, by decide +kernel, by decide +kernel⟩
abbrev s_law_asked : Stmt := topS 45
abbrev n_law_asked : List Str := ["_law_rows", "_law_store", "_law_load", "_law_due", "_law_turned", "_law_across", "_law_told", "_law_other", "_law_strips", "_law_b", "_law_columns", "_law_x"]
theorem S_law_asked : FnScope n_law_asked ["_law_rows", "_law_store", "_law_load"] (defScope s_law_asked) := ⟨rfl, rfl, rfl, by decide +kernel, rfl, by decide +kernel, by decide +kernel⟩
abbrev slaw : Stmt := topS 46
abbrev nlaw : List Str := ["_law_script", "_law_feed", "_law_great", "_law_rows", "_law_store", "_law_load", "_law_hand_here", "_law_turned", "_law_again", "_law_bad_here"]
theorem Slaw : FnScope nlaw ["_law_script"] (defScope slaw) := ⟨rfl, rfl, rfl, by decide +kernel, rfl, by decide +kernel, by decide +kernel⟩
abbrev sNotUsable_init : Stmt := inClass (topS 10) 0
theorem SNotUsable_init : FnScope ["self", "word", "at"] ["self", "word", "at"] (defScope sNotUsable_init) := ⟨rfl, rfl, rfl, by decide +kernel, rfl, by decide +kernel, by decide +kernel⟩
/-- the built-ins are what they were -/
structure Txt (mg : Str → Option Value) : Prop where
  len_ : mg "len" = none
  isinstance_ : mg "isinstance" = none
  int_ : mg "int" = none
  bool_ : mg "bool" = none
  tuple_ : mg "tuple" = none
  str_ : mg "str" = none
  list_ : mg "list" = none
  min_ : mg "min" = none
  max_ : mg "max" = none
  sum_ : mg "sum" = none
  range_ : mg "range" = none
  reversed_ : mg "reversed" = none
  enumerate_ : mg "enumerate" = none
  zip_ : mg "zip" = none
  ValueError_ : mg "ValueError" = none
/-- a def of the text that keeps a promise, as its callers want it -/
structure Cal (P : Program) (w : World) (K : PySem.W.Frag) (mg : Str → Option Value) (base : Heap) (CX : CXT) (k : Nat) (x : Str) (ps : List Str) (sp : Sp) where
  f : Addr
  fd : FuncData
  ok : FnOk P w K mg base CX k f fd ps sp
  g : mg x = some (.ref f)
  kp : PySem.W.keepIn K (.ref f) = true
  b : Binds K fd ps []
/-- a def of the text as it stands -/
structure Df (K : PySem.W.Frag) (mg : Str → Option Value) (x : Str) (st : Stmt) (ps : List Str) where
  f : Addr
  fd : FuncData
  F : Fun K x x st f fd
  g : mg x = some (.ref f)
  b : Binds K fd ps []
def Df.cal {P : Program} {w : World} {K : PySem.W.Frag} {mg : Str → Option Value} {base : Heap} {CX : CXT} {k : Nat} {x : Str} {st : Stmt} {ps : List Str} {sp : Sp} (D : Df K mg x st ps) (ok : FnOk P w K mg base CX k D.f D.fd ps sp) : Cal P w K mg base CX k x ps sp :=
  ⟨D.f, D.fd, ok, D.g, D.F.kp, D.b⟩
section
variable {P : Program} {w : World} {K : PySem.W.Frag} {mg : Str → Option Value} {base : Heap}
/-! ### kinds of values -/
def isIntV : V → Bool
  | .int _ => true
  | _ => false
def isNumV : V → Bool
  | .int i => decide (0 ≤ i)
  | _ => false
def isOneV : V → Bool
  | .int i => decide (1 ≤ i)
  | _ => false
theorem kit_int {K : PySem.W.Frag} {H : Hp} {v : V} {s : String} (k : Kn H v s) : (isIntV v = true ∧ PySem.W.kitOne K (.type s) (.type "int") = some true ∧ PySem.W.kitOne K (.type s) (.type "bool") = some false) ∨
    (isIntV v = false ∧ (PySem.W.kitOne K (.type s) (.type "int") = some false ∨ (PySem.W.kitOne K (.type s) (.type "int") = some true ∧ PySem.W.kitOne K (.type s) (.type "bool") = some true))) := by
  cases k with
  | non => exact .inr ⟨rfl, .inl (kit_ty (by decide +kernel))⟩
  | bl b => exact .inr ⟨rfl, .inr ⟨kit_ty (by decide +kernel), kit_ty (by decide +kernel)⟩⟩
  | int i => exact .inl ⟨rfl, kit_ty (by decide +kernel), kit_ty (by decide +kernel)⟩
  | str x => exact .inr ⟨rfl, .inl (kit_ty (by decide +kernel))⟩
  | lst h => exact .inr ⟨rfl, .inl (kit_ty (by decide +kernel))⟩
  | tup h => exact .inr ⟨rfl, .inl (kit_ty (by decide +kernel))⟩
theorem kit_tup {K : PySem.W.Frag} {H : Hp} {v : V} {s : String} (k : Kn H v s) : (∃ a xs, v = .ref a ∧ H a = some (.tup xs) ∧ PySem.W.kitOne K (.type s) (.type "tuple") = some true) ∨
    (s ≠ "tuple" ∧ PySem.W.kitOne K (.type s) (.type "tuple") = some false) := by
  cases k with
  | non => exact .inr ⟨by decide, kit_ty (by decide +kernel)⟩
  | bl b => exact .inr ⟨by decide, kit_ty (by decide +kernel)⟩
  | int i => exact .inr ⟨by decide, kit_ty (by decide +kernel)⟩
  | str x => exact .inr ⟨by decide, kit_ty (by decide +kernel)⟩
  | lst h => exact .inr ⟨by decide, kit_ty (by decide +kernel)⟩
  | tup h => exact .inl ⟨_, _, rfl, h, kit_ty (by decide +kernel)⟩
def sp_is_integer : Sp := fun vs H Q _ => ∃ v s, vs = [v] ∧ Kn H v s ∧ Q (.bl (isIntV v)) H
theorem ok_is_integer (T : Txt mg) (D : Df K mg "is_integer" sis_integer ["thing"]) : FnOk P w K mg base CX0 1 D.f D.fd ["thing"] sp_is_integer := by
  refine D.F.ok Sis_integer (fun vs H Q E h => ?_) (fun cdv A outer s H vs Q E hr h => ?_)
  · obtain ⟨v, s, rfl, _⟩ := h
    rfl
  · obtain ⟨v, s, rfl, k, q⟩ := h
    refine ⟨_, (pss_one (ps_ret (pe_and (pe_callB call_isi (by rfl) T.isinstance_ (by decide +kernel) (pa_cons (pv 0) (pa_cons (pe_bltn (v := .ty "int") (by rfl) T.int_ (by decide +kernel) rfl) pa_nil))) (pe_one (pe_not (pe_callB call_isi (by rfl) T.isinstance_ (by decide +kernel) (pa_cons (pv 0) (pa_cons (pe_bltn (v := .ty "bool") (by rfl) T.bool_ (by decide +kernel) rfl) pa_nil)))))))), ?_⟩
    rcases kit_int (K := K) k with ⟨e, k1, k2⟩ | ⟨e, k1⟩
    · rw [e] at q
      refine ⟨v, rfl, v, .ty "int", _, _, true, rfl, .ty "int", k.ty, k1, true, rfl, ?_⟩
      exact ⟨v, rfl, v, .ty "bool", _, _, false, rfl, .ty "bool", k.ty, k2, false, rfl, q⟩
    · rw [e] at q
      rcases k1 with k1 | ⟨k1, k2⟩
      · exact ⟨v, rfl, v, .ty "int", _, _, false, rfl, .ty "int", k.ty, k1, false, rfl, q⟩
      · refine ⟨v, rfl, v, .ty "int", _, _, true, rfl, .ty "int", k.ty, k1, true, rfl, ?_⟩
        exact ⟨v, rfl, v, .ty "bool", _, _, true, rfl, .ty "bool", k.ty, k2, true, rfl, q⟩
end
end K12


set_option Elab.async false
set_option linter.all false
set_option maxRecDepth 100000
namespace K12
open PySem PySem.Spec PyProof.Rows L2
section
variable {P : Program} {w : World} {K : PySem.W.Frag} {mg : Str → Option Value} {base : Heap}
theorem decV (i j : Int) : decide (V.int i = V.int j) = decide (i = j) := decide_eq_decide.mpr ⟨V.int.inj, congrArg V.int⟩
def sp_is_number : Sp := fun vs H Q _ => ∃ v s, vs = [v] ∧ Kn H v s ∧ Q (.bl (isNumV v)) H
theorem ok_is_number (T : Txt mg) (D : Df K mg "is_number" sis_number ["thing"]) (c_is_integer : Cal P w K mg base CX0 1 "is_integer" ["thing"] sp_is_integer) : FnOk P w K mg base CX0 2 D.f D.fd ["thing"] sp_is_number := by
  refine D.F.ok Sis_number (fun vs H Q E h => ?_) (fun cdv A outer s H vs Q E hr h => ?_)
  · obtain ⟨v, s, rfl, _⟩ := h
    rfl
  · obtain ⟨v, s, rfl, k, q⟩ := h
    refine ⟨_, (pss_one (ps_ret (pe_and (pe_call c_is_integer.ok (hr.mono (by decide)) (by rfl) c_is_integer.g c_is_integer.kp c_is_integer.b .nil pass0 (pa_cons (pv 0) pa_nil)) (pe_one (pe_cmpR op_ge (pv 0) pe_int (nomark _)))))), ?_⟩
    refine ⟨v, rfl, v, s, rfl, k, isIntV v, rfl, ?_⟩
    cases k with
    | int i => exact ⟨_, rfl, i, 0, rfl, rfl, q⟩
    | _ => exact q
def sp_is_from_one : Sp := fun vs H Q _ => ∃ v s, vs = [v] ∧ Kn H v s ∧ Q (.bl (isOneV v)) H
theorem ok_is_from_one (T : Txt mg) (D : Df K mg "_is_from_one" s_is_from_one ["thing"]) (c_is_number : Cal P w K mg base CX0 2 "is_number" ["thing"] sp_is_number) : FnOk P w K mg base CX0 3 D.f D.fd ["thing"] sp_is_from_one := by
  refine D.F.ok S_is_from_one (fun vs H Q E h => ?_) (fun cdv A outer s H vs Q E hr h => ?_)
  · obtain ⟨v, s, rfl, _⟩ := h
    rfl
  · obtain ⟨v, s, rfl, k, q⟩ := h
    refine ⟨_, (pss_one (ps_ret (pe_and (pe_call c_is_number.ok (hr.mono (by decide)) (by rfl) c_is_number.g c_is_number.kp c_is_number.b .nil pass0 (pa_cons (pv 0) pa_nil)) (pe_one (pe_cmpR op_ge (pv 0) pe_int (nomark _)))))), ?_⟩
    refine ⟨v, rfl, v, s, rfl, k, isNumV v, rfl, ?_⟩
    cases k with
    | int i =>
      refine ite2 (fun e => ⟨_, rfl, i, 1, rfl, rfl, q⟩) (fun e => ?_)
      have e2 : isOneV (.int i) = false := by
        have : ¬ (0 ≤ i) := fun z => e (decide_eq_true z)
        exact decide_eq_false (by omega)
      rw [e2] at q
      exact q
    | _ => exact q
def sp_is_tuple_of : Sp := fun vs H Q _ => ∃ (v : V) (s : String) (m : Int), vs = [v, .int m] ∧ Kn H v s ∧
  ((∃ a xs, v = .ref a ∧ H a = some (.tup xs) ∧ Q (.bl (decide ((xs.length : Int) = m))) H) ∨ (s ≠ "tuple" ∧ Q (.bl false) H))
theorem ok_is_tuple_of (T : Txt mg) (D : Df K mg "_is_tuple_of" s_is_tuple_of ["thing", "many"]) : FnOk P w K mg base CX0 1 D.f D.fd ["thing", "many"] sp_is_tuple_of := by
  refine D.F.ok S_is_tuple_of (fun vs H Q E h => ?_) (fun cdv A outer s H vs Q E hr h => ?_)
  · obtain ⟨v, s, m, rfl, _⟩ := h
    rfl
  · obtain ⟨v, s, m, rfl, k, q⟩ := h
    refine ⟨_, (pss_one (ps_ret (pe_and (pe_callB call_isi (by rfl) T.isinstance_ (by decide +kernel) (pa_cons (pv 0) (pa_cons (pe_bltn (v := .ty "tuple") (by rfl) T.tuple_ (by decide +kernel) rfl) pa_nil))) (pe_one (pe_cmpR op_eq (pe_callB call_len_seq (by rfl) T.len_ (by decide +kernel) (pa_cons (pv 0) pa_nil)) (pv 1) (nomark _)))))), ?_⟩
    rcases q with ⟨a, xs, rfl, ha, q⟩ | ⟨hs, q⟩
    · have e : s = "tuple" := by
        cases k with
        | lst h => rw [h] at ha; cases ha
        | tup h => rfl
      subst e
      refine ⟨_, rfl, _, .ty "tuple", _, _, true, rfl, .ty "tuple", k.ty, kit_ty (by decide +kernel), true, rfl, ?_⟩
      refine ⟨_, rfl, a, xs, rfl, .inr (SqT.of ha), _, rfl, rfl, ?_⟩
      have e : decide (V.int (xs.length : Nat) = V.int m) = decide ((xs.length : Int) = m) := decV _ _
      rw [e]
      exact q
    · rcases kit_tup (K := K) k with ⟨a, xs, rfl, ha, _⟩ | ⟨_, k2⟩
      · cases k with
        | lst h => rw [h] at ha; cases ha
        | tup h => exact absurd rfl hs
      · exact ⟨v, rfl, v, .ty "tuple", _, _, false, rfl, .ty "tuple", k.ty, k2, false, rfl, q⟩
/-! ### kinds and lots -/
def ltV (n : Nat) : V → Bool
  | .int i => decide (i < n)
  | _ => false
def iV : V → Int
  | .int i => i
  | _ => 0
def kindB (p q : Nat) (a b : V) : Bool := isNumV a && isNumV b && ltV p a && ltV q b
theorem num_int {v : V} (h : isNumV v = true) : ∃ i : Int, v = .int i ∧ 0 ≤ i := by
  cases v with
  | int i => exact ⟨i, rfl, of_decide_eq_true h⟩
  | _ => cases h
/-- the two rows of sizes -/
def ListsAt (H : Hp) (L : Addr) (ws hs : List V) : Prop := ∃ lw lh, H L = some (.tup [.ref lw, .ref lh]) ∧ H lw = some (.tup ws) ∧ H lh = some (.tup hs)
theorem ListsAt.same {H H' : Hp} {L : Addr} {ws hs : List V} (h : ListsAt H L ws hs) (e : Same H H') : ListsAt H' L ws hs := by
  obtain ⟨lw, lh, h1, h2, h3⟩ := h
  exact ⟨lw, lh, e _ _ h1, e _ _ h2, e _ _ h3⟩
def sp_is_kind : Sp := fun vs H Q _ => ∃ (L t : Addr) (ws hs : List V) (a b : V) (s1 s2 : String), vs = [.ref L, .ref t] ∧ ListsAt H L ws hs ∧ H t = some (.tup [a, b]) ∧ Kn H a s1 ∧ Kn H b s2 ∧ Q (.bl (kindB ws.length hs.length a b)) H
theorem ok_is_kind (T : Txt mg) (D : Df K mg "is_kind" sis_kind ["lists", "thing"]) (c_is_number : Cal P w K mg base CX0 2 "is_number" ["thing"] sp_is_number)
    (c__is_tuple_of : Cal P w K mg base CX0 1 "_is_tuple_of" ["thing", "many"] sp_is_tuple_of) : FnOk P w K mg base CX0 3 D.f D.fd ["lists", "thing"] sp_is_kind := by
  refine D.F.ok Sis_kind (fun vs H Q E h => ?_) (fun cdv A outer s H vs Q E hr h => ?_)
  · obtain ⟨L, t, ws, hs, a, b, s1, s2, rfl, _⟩ := h
    rfl
  · obtain ⟨L, t, ws, hs, a, b, s1, s2, rfl, ⟨lw, lh, hL, hw, hh⟩, ht, ka, kb, q⟩ := h
    refine ⟨_, (pss_cons (ps_if (pt_not (pt_val (pe_call c__is_tuple_of.ok (hr.mono (by decide)) (by rfl) c__is_tuple_of.g c__is_tuple_of.kp c__is_tuple_of.b .nil pass0 (pa_cons (pv 1) (pa_cons pe_int pa_nil))))) (pss_one (ps_ret pe_bl)) pss_nil)
      (pss_cons (ps_asg (pv 1) (pg_tup (by rfl) (pgs_cons (pg_name (i := 2) Sis_kind.nd rfl (Or.inl rfl)) (pgs_cons (pg_name (i := 3) Sis_kind.nd rfl (Or.inl rfl)) pgs_nil))))
      (pss_cons (ps_if (PW.pt (pw_or (pt_not (pt_val (pe_call c_is_number.ok (hr.mono (by decide)) (by rfl) c_is_number.g c_is_number.kp c_is_number.b .nil pass0 (pa_cons (pv 2) pa_nil)))) (pw_or1 (pt_not (pt_val (pe_call c_is_number.ok (hr.mono (by decide)) (by rfl) c_is_number.g c_is_number.kp c_is_number.b .nil pass0 (pa_cons (pv 3) pa_nil))))))) (pss_one (ps_ret pe_bl)) pss_nil)
      (pss_one (ps_ret (pe_and (pe_cmpR op_lt (pv 2) (pe_callB call_len_seq (by rfl) T.len_ (by decide +kernel) (pa_cons (pe_ix ix_tup (pv 0) pe_int (fun _ _ => rfl)) pa_nil)) (nomark _)) (pe_one (pe_cmpR op_lt (pv 3) (pe_callB call_len_seq (by rfl) T.len_ (by decide +kernel) (pa_cons (pe_ix ix_tup (pv 0) pe_int (fun _ _ => rfl)) pa_nil)) (nomark _))))))))), ?_⟩
    refine ⟨_, rfl, _, _, 2, rfl, .tup ht, .inl ⟨t, [a, b], rfl, ht, _, rfl, iteNS rfl ?_⟩⟩
    refine ⟨_, rfl, t, [a, b], rfl, SqT.of ht, rfl, a, [b], rfl, b, [], rfl, rfl, ?_⟩
    refine ⟨a, rfl, a, s1, rfl, ka, _, rfl, ?_⟩
    unfold kindB at q
    cases e1 : isNumV a with
    | false =>
      rw [e1] at q
      exact q
    | true =>
      refine ⟨b, rfl, b, s2, rfl, kb, _, rfl, ?_⟩
      cases e2 : isNumV b with
      | false =>
        rw [e1, e2] at q
        exact q
      | true =>
        rw [e1, e2] at q
        obtain ⟨i, rfl, h1⟩ := num_int e1
        obtain ⟨j, rfl, h2⟩ := num_int e2
        refine ⟨_, rfl, _, rfl, L, _, 0, _, rfl, rfl, SqT.of hL, atI_nat (j := 0) rfl, lw, _, rfl, .inr (SqT.of hw), i, _, rfl, rfl, _, rfl, ?_⟩
        refine ite2 (fun e => ?_) (fun e => ?_)
        · refine ⟨_, rfl, _, rfl, L, _, 1, _, rfl, rfl, SqT.of hL, atI_nat (j := 1) rfl, lh, _, rfl, .inr (SqT.of hh), j, _, rfl, rfl, ?_⟩
          have e3 : ltV ws.length (.int i) = true := e
          rw [e3] at q
          exact q
        · have e3 : ltV ws.length (.int i) = false := Bool.eq_false_iff.mpr e
          rw [e3] at q
          exact q
/-- an entry: a tuple of known items, or another thing -/
inductive EnV (H : Hp) : V → Option (List V) → Prop where
  | tup {a : Addr} {xs : List V} (h : H a = some (.tup xs)) (k : ∀ x ∈ xs, ∃ s, Kn H x s) : EnV H (.ref a) (some xs)
  | oth {v : V} {s : String} (k : Kn H v s) (n : s ≠ "tuple") : EnV H v none
theorem EnV.same {H H' : Hp} {v : V} {o : Option (List V)} (h : EnV H v o) (e : Same H H') : EnV H' v o := by
  cases h with
  | tup h k => exact .tup (e _ _ h) fun x hx => let ⟨s, z⟩ := k x hx; ⟨s, z.same e⟩
  | oth k n => exact .oth (k.same e) n
def leP (x y : Int × Int) : Bool := decide (x.1 < y.1 ∨ (x.1 = y.1 ∧ x.2 ≤ y.2))
def lotB (p q : Nat) : Option (Int × Int) → List (Option (List V)) → Bool
  | _, [] => true
  | last, o :: r => match o with
    | some [a, b, n] => kindB p q a b && (isOneV n && ((match last with | none => true | some l => !leP (iV a, iV b) l) && lotB p q (some (iV a, iV b)) r))
    | _ => false
/-- what the last kind is -/
def LastAt (H : Hp) (v : V) : Option (Int × Int) → Prop
  | none => v = .non
  | some l => ∃ a, v = .ref a ∧ H a = some (.tup [.int l.1, .int l.2])
theorem LastAt.same {H H' : Hp} {v : V} {o : Option (Int × Int)} (h : LastAt H v o) (e : Same H H') : LastAt H' v o := by
  cases o with
  | none => exact h
  | some l => obtain ⟨a, h1, h2⟩ := h; exact ⟨a, h1, e _ _ h2⟩
theorem lexAt_pair (a b c d : Int) : Ob.lexAt (fun j => decide ([a, b].getD j 0 = [c, d].getD j 0)) (fun j => decide ([a, b].getD j 0 ≤ [c, d].getD j 0)) (decide ([a, b].length ≤ [c, d].length)) 0 (min [a, b].length [c, d].length) = leP (a, b) (c, d) := by
  show (if decide (a = c) = true then (if decide (b = d) = true then true else decide (b ≤ d)) else decide (a ≤ c)) = decide (a < c ∨ (a = c ∧ b ≤ d))
  by_cases h1 : a = c
  · rw [if_pos (decide_eq_true h1)]
    by_cases h2 : b = d
    · rw [if_pos (decide_eq_true h2)]
      exact (decide_eq_true (by omega)).symm
    · rw [if_neg (by simpa using h2)]
      exact decide_eq_decide.mpr (by omega)
  · rw [if_neg (by simpa using h1)]
    exact decide_eq_decide.mpr (by omega)
def sp_is_lot : Sp := fun vs H Q _ => ∃ (L : Addr) (ws hs : List V) (v : V), vs = [.ref L, v] ∧ ListsAt H L ws hs ∧
  ((∃ s, Kn H v s ∧ s ≠ "tuple" ∧ Q (.bl false) H) ∨
    ∃ (t : Addr) (es : List V) (ds : List (Option (List V))), v = .ref t ∧ H t = some (.tup es) ∧ es.length = ds.length ∧ (∀ (i : Nat) e d, es[i]? = some e → ds[i]? = some d → EnV H e d) ∧
      ∀ H', Same H H' → Q (.bl (lotB ws.length hs.length none ds)) H')
theorem cut2 (a b c : V) : cutV [a, b, c] none (some 2) = [a, b] := by
  unfold cutV
  rfl
theorem whole3 (a b c : V) : ¬ (HT.sIx [a, b, c].length 0 none = 0 ∧ HT.sIx [a, b, c].length [a, b, c].length (some 2) = [a, b, c].length) := fun z => absurd z.2 (show ¬ (HT.sIx 3 3 (some 2) = 3) by decide)
theorem lotB_cons (p q : Nat) (lo : Option (Int × Int)) (a b n : V) (r : List (Option (List V))) :
    lotB p q lo (some [a, b, n] :: r) = (kindB p q a b && (isOneV n && ((match lo with | none => true | some l => !leP (iV a, iV b) l) && lotB p q (some (iV a, iV b)) r))) := rfl
theorem ok_is_lot (T : Txt mg) (D : Df K mg "is_lot" sis_lot ["lists", "thing"]) (c_is_kind : Cal P w K mg base CX0 3 "is_kind" ["lists", "thing"] sp_is_kind)
    (c__is_tuple_of : Cal P w K mg base CX0 1 "_is_tuple_of" ["thing", "many"] sp_is_tuple_of) (c__is_from_one : Cal P w K mg base CX0 3 "_is_from_one" ["thing"] sp_is_from_one) :
    FnOk P w K mg base CX0 4 D.f D.fd ["lists", "thing"] sp_is_lot := by
  refine D.F.ok Sis_lot (fun vs H Q E h => ?_) (fun cdv A outer s H vs Q E hr h => ?_)
  · obtain ⟨L, ws, hs, v, rfl, _⟩ := h
    rfl
  · obtain ⟨L, ws, hs, v, rfl, hL, q⟩ := h
    refine ⟨_, (pss_cons (ps_if (pt_not (pt_val (pe_callB call_isi (by rfl) T.isinstance_ (by decide +kernel) (pa_cons (pv 1) (pa_cons (pe_bltn (v := .ty "tuple") (by rfl) T.tuple_ (by decide +kernel) rfl) pa_nil))))) (pss_one (ps_ret pe_bl)) pss_nil)
      (pss_cons (ps_set (i := 2) Sis_lot.nd rfl (Or.inl rfl) pe_non)
      (pss_cons (ps_for PassesOwn.never rfl (pi_tup (pv 1)) (pg_name (i := 3) Sis_lot.nd rfl (Or.inl rfl)) (pss_cons (ps_if (PW.pt (pw_or (pt_not (pt_val (pe_call c__is_tuple_of.ok (hr.mono (by decide)) (by rfl) c__is_tuple_of.g c__is_tuple_of.kp c__is_tuple_of.b .nil pass0 (pa_cons (pv 3) (pa_cons pe_int pa_nil))))) (pw_or1 (pt_not (pt_val (pe_call c_is_kind.ok (hr.mono (by decide)) (by rfl) c_is_kind.g c_is_kind.kp c_is_kind.b .nil pass0 (pa_cons (pv 0) (pa_cons (pe_slice sl_tup (pv 3) po_none (po_some pe_int)) pa_nil)))))))) (pss_one (ps_ret pe_bl)) pss_nil)
      (pss_cons (ps_if (pt_not (pt_val (pe_call c__is_from_one.ok (hr.mono (by decide)) (by rfl) c__is_from_one.g c__is_from_one.kp c__is_from_one.b .nil pass0 (pa_cons (pe_ix ix_tup (pv 3) pe_int (fun _ _ => rfl)) pa_nil)))) (pss_one (ps_ret pe_bl)) pss_nil)
      (pss_cons (ps_if (PW.pt (pw_and (pt_cmpR op_notN (pv 2) pe_non (nomark _)) (pw_and1 (pt_cmpR (op_leT hr.units0) (pe_slice sl_tup (pv 3) po_none (po_some pe_int)) (pv 2) (nomark _))))) (pss_one (ps_ret pe_bl)) pss_nil)
      (pss_one (ps_set (i := 2) Sis_lot.nd rfl (Or.inl rfl) (pe_slice sl_tup (pv 3) po_none (po_some pe_int))))))))
      (pss_one (ps_ret pe_bl))))), ?_⟩
    rcases q with ⟨s, k, hs, q⟩ | ⟨t, es, ds, rfl, ht, hlen, hen, q⟩
    · rcases kit_tup (K := K) k with ⟨a, xs, rfl, ha, _⟩ | ⟨_, k2⟩
      · cases k with
        | lst h => rw [h] at ha; cases ha
        | tup h => exact absurd rfl hs
      · exact ⟨v, rfl, v, .ty "tuple", _, _, false, rfl, .ty "tuple", k.ty, k2, false, rfl, q⟩
    · refine ⟨_, rfl, _, .ty "tuple", _, _, true, rfl, .ty "tuple", (Kn.tup ht).ty, kit_ty (by decide +kernel), true, rfl, ?_⟩
      refine ⟨_, rfl, t, rfl, ⟨_, SqT.of ht⟩, for_tup (K := K) (a := t) (xs := es) (fun i σ H' => Same H H' ∧ ∃ (lv : V) (e : Option V) (lo : Option (Int × Int)), σ = [some (.ref L), some (.ref t), some lv, e] ∧ LastAt H' lv lo ∧
        lotB ws.length hs.length none ds = lotB ws.length hs.length lo (ds.drop i)) ⟨Same.refl H, .non, none, none, rfl, rfl, rfl⟩ (fun i σ H' _ ⟨s1, _⟩ => SqT.of (s1 _ _ ht)) ?_ ?_⟩
      · rintro i x σ H' hx ⟨s1, lv, e0, lo, rfl, hl, hB⟩
        have hi : i < ds.length := by
          rw [← hlen]
          exact (List.getElem?_eq_some_iff.mp hx).1
        have hd : ds[i]? = some ds[i] := List.getElem?_eq_getElem hi
        have E0 := (hen i x _ hx hd).same s1
        rw [List.drop_eq_getElem_cons hi] at hB
        generalize ds[i] = d at E0 hB
        -- the entry
        cases E0 with
        | oth k n =>
          refine ⟨x, rfl, _, _, 3, rfl, k, .inr ⟨n, _, rfl, ?_⟩⟩
          have hq := q H' s1
          rw [hB] at hq
          exact hq
        | tup ha hk =>
          rename_i a xs
          refine ⟨_, rfl, _, _, 3, rfl, .tup ha, .inl ⟨a, xs, rfl, ha, _, rfl, ?_⟩⟩
          by_cases h3 : xs.length = 3
          · obtain ⟨x0, x1, x2, rfl⟩ : ∃ x0 x1 x2, xs = [x0, x1, x2] := by
              match xs, h3 with
              | [x0, x1, x2], _ => exact ⟨x0, x1, x2, rfl⟩
            refine iteNS rfl ?_
            obtain ⟨t0, k0⟩ := hk x0 (by simp)
            obtain ⟨t1, k1⟩ := hk x1 (by simp)
            obtain ⟨t2, k2⟩ := hk x2 (by simp)
            -- entry[:2]
            refine ⟨_, rfl, _, rfl, 2, rfl, a, _, rfl, SqT.of ha, whole3 _ _ _, fun p np => ?_⟩
            rw [cut2]
            have s2 : Same H' (upd H' p (.tup [x0, x1])) := Same.new np
            refine ⟨L, p, ws, hs, x0, x1, _, _, rfl, (hL.same s1).same s2, upd_same, k0.same s2, k1.same s2, _, rfl, ?_⟩
            have hq := fun H'' (z : Same H' H'') => q H'' (s1.trans z)
            rw [hB, lotB_cons] at hq
            cases eK : kindB ws.length hs.length x0 x1 with
            | false =>
              rw [eK] at hq
              exact hq _ s2
            | true =>
              rw [eK, Bool.true_and] at hq
              obtain ⟨e1, e2⟩ : isNumV x0 = true ∧ isNumV x1 = true := by
                unfold kindB at eK
                simp only [Bool.and_eq_true] at eK
                exact ⟨eK.1.1.1, eK.1.1.2⟩
              obtain ⟨i0, rfl, _⟩ := num_int e1
              obtain ⟨i1, rfl, _⟩ := num_int e2
              -- many
              refine ⟨_, rfl, a, _, 2, x2, rfl, rfl, SqT.of (s2 _ _ ha), atI_nat (j := 2) rfl, x2, t2, rfl, k2.same s2, _, rfl, ?_⟩
              cases eO : isOneV x2 with
              | false =>
                rw [eO] at hq
                exact hq _ s2
              | true =>
                rw [eO, Bool.true_and] at hq
                cases lo with
                | none =>
                  cases hl
                  refine ⟨_, rfl, rfl, _, rfl, ?_⟩
                  refine ⟨_, rfl, 2, rfl, a, _, rfl, SqT.of (s2 _ _ ha), whole3 _ _ _, fun p2 np2 => ?_⟩
                  rw [cut2]
                  have s3 : Same (upd H' p (.tup [V.int i0, V.int i1])) (upd (upd H' p (.tup [V.int i0, V.int i1])) p2 (.tup [V.int i0, V.int i1])) := Same.new np2
                  exact ⟨(s1.trans s2).trans s3, .ref p2, some (.ref a), some (i0, i1), rfl, ⟨p2, rfl, upd_same⟩, by rw [hB, lotB_cons, eK, eO]; rfl⟩
                | some l =>
                  obtain ⟨lp, rfl, hlp⟩ := hl
                  refine ⟨_, rfl, rfl, _, rfl, ?_⟩
                  refine ⟨_, rfl, 2, rfl, a, _, rfl, SqT.of (s2 _ _ ha), whole3 _ _ _, fun p2 np2 => ?_⟩
                  rw [cut2]
                  have s3 : Same (upd H' p (.tup [V.int i0, V.int i1])) (upd (upd H' p (.tup [V.int i0, V.int i1])) p2 (.tup [V.int i0, V.int i1])) := Same.new np2
                  refine ⟨_, rfl, p2, lp, [i0, i1], [l.1, l.2], rfl, rfl, SqT.of upd_same, SqT.of (s3 _ _ (s2 _ _ hlp)), _, rfl, ?_⟩
                  rw [lexAt_pair]
                  cases eP : leP (i0, i1) (l.1, l.2) with
                  | true =>
                    have hq2 := hq _ (s2.trans s3)
                    have e5 : leP (iV (V.int i0), iV (V.int i1)) l = true := eP
                    simp only [e5, Bool.not_true, Bool.false_and] at hq2
                    exact hq2
                  | false =>
                    have e5 : leP (iV (V.int i0), iV (V.int i1)) l = false := eP
                    refine ⟨_, rfl, 2, rfl, a, _, rfl, SqT.of (s3 _ _ (s2 _ _ ha)), whole3 _ _ _, fun p3 np3 => ?_⟩
                    rw [cut2]
                    exact ⟨((s1.trans s2).trans s3).trans (Same.new np3), .ref p3, some (.ref a), some (i0, i1), rfl, ⟨p3, rfl, upd_same⟩, by rw [hB, lotB_cons, eK, eO]; simp only [e5]; rfl⟩
          · have e3 : decide ((xs.length : Int) = 3) = false := decide_eq_false (by omega)
            rw [e3]
            have hq := q H' s1
            rw [hB] at hq
            have e4 : lotB ws.length hs.length lo (some xs :: ds.drop (i + 1)) = false := by
              unfold lotB
              split
              · rename_i e
                injection e with e
                subst e
                exact absurd rfl h3
              · rfl
            rw [e4] at hq
            exact hq
      · rintro σ H' ⟨s1, lv, e0, lo, rfl, hl, hB⟩
        have hq := q H' s1
        rw [hB, List.drop_of_length_le (by omega)] at hq
        exact hq
end
end K12


set_option Elab.async false
set_option linter.all false
set_option maxRecDepth 100000
namespace K12
open PySem PySem.Spec PyProof.Rows L2
section
variable {P : Program} {w : World} {K : PySem.W.Frag} {mg : Str → Option Value} {base : Heap}
theorem tab_at {n : Nat} {f : Nat → Int} {i : Nat} {y : V} (h : i < n) (e : (tab n f)[i]? = some y) : y = .int (f i) := Option.some.inj (e.symm.trans (tab_get h))
def sp_need_number : Sp := fun vs H Q _ => ∃ (v : V) (i : Int), vs = [v, .int i] ∧ 0 ≤ i ∧ Q .non H
theorem ok_need_number (T : Txt mg) (D : Df K mg "need_number" sneed_number ["name", "thing"]) (c_is_number : Cal P w K mg base CX0 2 "is_number" ["thing"] sp_is_number) : FnOk P w K mg base CX0 3 D.f D.fd ["name", "thing"] sp_need_number := by
  refine D.F.ok Sneed_number (fun vs H Q E h => ?_) (fun cdv A outer s H vs Q E hr h => ?_)
  · obtain ⟨v, i, rfl, _⟩ := h
    rfl
  · obtain ⟨v, i, rfl, h0, q⟩ := h
    refine ⟨_, (pss_one (ps_if (pt_not (pt_val (pe_call c_is_number.ok (hr.mono (by decide)) (by rfl) c_is_number.g c_is_number.kp c_is_number.b .nil pass0 (pa_cons (pv 1) pa_nil)))) (pss_one ps_never) pss_nil)), ?_⟩
    exact ⟨_, rfl, _, _, rfl, .int i, _, rfl, iteNS h0 q⟩
/-- a size fits the // -/
theorem cdiv {p : Nat} {wf : Nat → Int} (R : Row p wf) {i : Nat} (h : i < p) : CDiv 0 (wf i) := ⟨by have := R.one i h; omega, R.big i h⟩
def sp_top_parts : Sp := fun vs H Q _ => ∃ (z : Addr) (p : Nat) (wf : Nat → Int) (side : Int), vs = [.ref z, .int side] ∧ H z = some (.tup (tab p wf)) ∧ Row p wf ∧ 0 ≤ side ∧ side < 1000000000000000 ∧
  ∀ H' t, Same H H' → H' t = some (.tup (tab p (part p wf side))) → Q (.ref t) H'
theorem ok_top_parts (T : Txt mg) (D : Df K mg "_top_parts" s_top_parts ["sizes", "side"]) : FnOk P w K mg base CX0 1 D.f D.fd ["sizes", "side"] sp_top_parts := by
  refine D.F.ok S_top_parts (fun vs H Q E h => ?_) (fun cdv A outer s H vs Q E hr h => ?_)
  · obtain ⟨z, p, wf, side, rfl, _⟩ := h
    rfl
  · obtain ⟨z, p, wf, side, rfl, hz, R, h0, h1, q⟩ := h
    refine ⟨_, (pss_cons (ps_set (i := 2) S_top_parts.nd rfl (Or.inl rfl) (pe_lst pa_nil))
      (pss_cons (ps_for PassesOwn.never rfl (pi_enumT (by rfl) T.enumerate_ (pa_cons (pv 0) pa_nil)) (pg_tup (by rfl) (pgs_cons (pg_name (i := 3) S_top_parts.nd rfl (Or.inl rfl)) (pgs_cons (pg_name (i := 4) S_top_parts.nd rfl (Or.inl rfl)) pgs_nil))) (pss_cons (ps_set (i := 5) S_top_parts.nd rfl (Or.inl rfl) (pe_op op_fdiv (pv 1) (pv 4)))
      (pss_cons (ps_if (pt_cmpR op_lt (pe_op op_add (pv 3) pe_int) (pe_callB call_len_seq (by rfl) T.len_ (by decide +kernel) (pa_cons (pv 0) pa_nil)) (nomark _)) (pss_cons (ps_set (i := 6) S_top_parts.nd rfl (Or.inl rfl) (pe_ix ix_tup (pv 0) (pe_op op_add (pv 3) pe_int) (fun _ _ => rfl)))
      (pss_one (ps_set (i := 5) S_top_parts.nd rfl (Or.inl rfl) (pe_op op_sub (pv 5) (pe_op op_mul (pe_op op_fdiv (pv 1) (pv 6)) (pe_op op_fdiv (pv 6) (pv 4))))))) pss_nil)
      (pss_one (ps_expr (pe_bm PySem.F.plainAttrs_list PySem.F.slot_list_append PySem.F.type_list_append mt_append (pv 2) (pa_cons (pv 5) pa_nil)))))))
      (pss_one (ps_ret (pe_callTy call_tuple_of (by rfl) T.tuple_ (by decide +kernel) (pa_cons (pv 2) pa_nil)))))), ?_⟩
    refine ⟨Nat.zero_le _, fun fd0 nf => ?_⟩
    have s0 : Same H (upd H fd0 (.lst [])) := Same.new nf
    refine ⟨_, rfl, z, tab p wf, rfl, SqT.of (s0 _ _ hz), for_it (walk_enumT (xs := tab p wf)) (fun i σ H' => Same H H' ∧ H' fd0 = some (.lst (tab i (part p wf side))) ∧ ∃ a b c d, σ = [some (.ref z), some (.int side), some (.ref fd0), a, b, c, d])
      ⟨s0, upd_same, none, none, none, none, rfl⟩ (fun i σ H' _ hP => SqT.of (hP.1 _ _ hz)) ?_ ?_⟩
    · rintro i x σ H1 H2 hi ⟨s1, hf, a, b, c, d, rfl⟩ ⟨Tp, x1, y1, rfl, nT, rfl, e1, e2⟩
      rw [tab_len] at hi
      cases e1
      obtain rfl := tab_at hi e2
      have s2 : Same H1 (upd H1 Tp (.tup [.int (i : Nat), .int (wf i)])) := Same.new nT
      refine ⟨Tp, _, rfl, SqT.of upd_same, rfl, _, _, rfl, _, _, rfl, rfl, ?_⟩
      -- many = side // size
      refine ⟨_, rfl, _, rfl, _, _, rfl, rfl, cdiv R hi, ?_⟩
      refine ⟨_, rfl, _, 1, rfl, rfl, _, rfl, z, _, rfl, .inr (SqT.of (s2 _ _ (s1 _ _ hz))), _, _, rfl, rfl, _, rfl, ?_⟩
      rw [tab_len]
      refine ite2 (fun e => ?_) (fun e => ?_)
      · have e' : i + 1 < p := by
          have := of_decide_eq_true e
          omega
        have hn := R.one (i + 1) e'
        have hi1 := R.one i hi
        refine ⟨_, rfl, _, rfl, _, 1, rfl, rfl, z, _, _, _, rfl, rfl, SqT.of (s2 _ _ (s1 _ _ hz)), atI_nat (j := i + 1) (tab_get e'), ?_⟩
        refine ⟨_, rfl, _, rfl, _, rfl, _, _, rfl, rfl, cdiv R e', _, rfl, _, rfl, _, _, rfl, rfl, cdiv R hi, _, _, rfl, rfl, ?_, _, _, rfl, rfl, ?_⟩
        · right
          have b1 := R.big (i + 1) e'
          have b2 : wf (i + 1) / wf i ≤ wf (i + 1) := Int.ediv_le_self _ (by omega)
          have b3 : 0 ≤ wf (i + 1) / wf i := Int.ediv_nonneg (by omega) (by omega)
          constructor <;> omega
        · refine ⟨_, rfl, .inl ⟨rfl, _, SqL.of (s2 _ _ hf)⟩, _, rfl, fd0, _, _, rfl, rfl, s2 _ _ hf, ?_, ?_⟩
          · rw [tab_len]
            exact small1000 (by have := R.le; omega)
          · refine ⟨(s1.trans s2).put nf, ?_, _, _, _, _, rfl⟩
            rw [upd_same]
            have ep : part p wf side i = side / wf i - side / wf (i + 1) * (wf (i + 1) / wf i) := by unfold part; rw [if_pos e']
            rw [← tab_succ, ep]
      · have e' : ¬ i + 1 < p := fun z => e (decide_eq_true (by omega))
        refine ⟨_, rfl, .inl ⟨rfl, _, SqL.of (s2 _ _ hf)⟩, _, rfl, fd0, _, _, rfl, rfl, s2 _ _ hf, ?_, ?_⟩
        · rw [tab_len]
          exact small1000 (by have := R.le; omega)
        · refine ⟨(s1.trans s2).put nf, ?_, _, _, _, _, rfl⟩
          rw [upd_same]
          have ep : part p wf side i = side / wf i := by unfold part; rw [if_neg e']
          rw [← tab_succ, ep]
    · rintro σ H1 ⟨s1, hf, a, b, c, d, rfl⟩
      rw [tab_len] at hf
      refine ⟨_, rfl, fd0, _, rfl, .inl ⟨SqL.of hf, fun t nt => ?_⟩⟩
      exact q _ t (s1.trans (Same.new nt)) upd_same
def sp_parts (i : Nat) : Sp := fun vs H Q _ => ∃ (L : Addr) (p q : Nat) (wf hf : Nat → Int) (side : Int), vs = [.ref L, .int side] ∧ ListsAt H L (tab p wf) (tab q hf) ∧ Row p wf ∧ Row q hf ∧ 0 ≤ side ∧ side < 1000000000000000 ∧
  ∀ H' t, Same H H' → H' t = some (.tup (if i = 0 then tab p (part p wf side) else tab q (part q hf side))) → Q (.ref t) H'
theorem ok_columns_in (T : Txt mg) (D : Df K mg "columns_in" scolumns_in ["lists", "width"]) (c_need_number : Cal P w K mg base CX0 3 "need_number" ["name", "thing"] sp_need_number)
    (c__top_parts : Cal P w K mg base CX0 1 "_top_parts" ["sizes", "side"] sp_top_parts) : FnOk P w K mg base CX0 4 D.f D.fd ["lists", "width"] (sp_parts 0) := by
  refine D.F.ok Scolumns_in (fun vs H Q E h => ?_) (fun cdv A outer s H vs Q E hr h => ?_)
  · obtain ⟨L, p, q, wf, hf, side, rfl, _⟩ := h
    rfl
  · obtain ⟨L, p, q, wf, hf, side, rfl, ⟨lw, lh, hL, hw, hh⟩, R, T', h0, h1, k⟩ := h
    refine ⟨_, (pss_cons (ps_expr (pe_call c_need_number.ok (hr.mono (by decide)) (by rfl) c_need_number.g c_need_number.kp c_need_number.b .nil pass0 (pa_cons pe_str (pa_cons (pv 1) pa_nil))))
      (pss_one (ps_ret (pe_call c__top_parts.ok (hr.mono (by decide)) (by rfl) c__top_parts.g c__top_parts.kp c__top_parts.b .nil pass0 (pa_cons (pe_ix ix_tup (pv 0) pe_int (fun _ _ => rfl)) (pa_cons (pv 1) pa_nil)))))), ?_⟩
    refine ⟨_, rfl, _, side, rfl, h0, ?_⟩
    exact ⟨_, rfl, L, _, 0, _, rfl, rfl, SqT.of hL, atI_nat (j := 0) rfl, _, rfl, lw, p, wf, side, rfl, hw, R, h0, h1, k⟩
theorem ok_bands_in (T : Txt mg) (D : Df K mg "bands_in" sbands_in ["lists", "height"]) (c_need_number : Cal P w K mg base CX0 3 "need_number" ["name", "thing"] sp_need_number)
    (c__top_parts : Cal P w K mg base CX0 1 "_top_parts" ["sizes", "side"] sp_top_parts) : FnOk P w K mg base CX0 4 D.f D.fd ["lists", "height"] (sp_parts 1) := by
  refine D.F.ok Sbands_in (fun vs H Q E h => ?_) (fun cdv A outer s H vs Q E hr h => ?_)
  · obtain ⟨L, p, q, wf, hf, side, rfl, _⟩ := h
    rfl
  · obtain ⟨L, p, q, wf, hf, side, rfl, ⟨lw, lh, hL, hw, hh⟩, R, T', h0, h1, k⟩ := h
    refine ⟨_, (pss_cons (ps_expr (pe_call c_need_number.ok (hr.mono (by decide)) (by rfl) c_need_number.g c_need_number.kp c_need_number.b .nil pass0 (pa_cons pe_str (pa_cons (pv 1) pa_nil))))
      (pss_one (ps_ret (pe_call c__top_parts.ok (hr.mono (by decide)) (by rfl) c__top_parts.g c__top_parts.kp c__top_parts.b .nil pass0 (pa_cons (pe_ix ix_tup (pv 0) pe_int (fun _ _ => rfl)) (pa_cons (pv 1) pa_nil)))))), ?_⟩
    refine ⟨_, rfl, _, side, rfl, h0, ?_⟩
    exact ⟨_, rfl, L, _, 1, _, rfl, rfl, SqT.of hL, atI_nat (j := 1) rfl, _, rfl, lh, q, hf, side, rfl, hh, T', h0, h1, k⟩
/-- which way: heights are 0 -/
def wayV (up : Bool) : V := .str (if up then "heights" else "widths")
theorem way_eq (up : Bool) : decide (wayV up = V.str "heights") = up := by
  cases up
  · decide +kernel
  · decide +kernel
def sp_sides_of : Sp := fun vs H Q _ => ∃ (L : Addr) (a b : V) (up : Bool), vs = [.ref L, wayV up] ∧ H L = some (.tup [a, b]) ∧ ∀ H' t, Same H H' → H' t = some (.tup (if up then [a, b] else [b, a])) → Q (.ref t) H'
theorem ok_sides_of (T : Txt mg) (D : Df K mg "sides_of" ssides_of ["lists", "way"]) : FnOk P w K mg base CX0 1 D.f D.fd ["lists", "way"] sp_sides_of := by
  refine D.F.ok Ssides_of (fun vs H Q E h => ?_) (fun cdv A outer s H vs Q E hr h => ?_)
  · obtain ⟨L, a, b, up, rfl, _⟩ := h
    rfl
  · obtain ⟨L, a, b, up, rfl, hL, q⟩ := h
    refine ⟨_, (pss_cons (ps_if (pt_cmpR op_eq (pv 1) pe_str (nomark _)) (pss_one (ps_ret (pe_tup (pa_cons (pe_ix ix_tup (pv 0) pe_int (fun _ _ => rfl)) (pa_cons (pe_ix ix_tup (pv 0) pe_int (fun _ _ => rfl)) pa_nil))))) pss_nil)
      (pss_one (ps_ret (pe_tup (pa_cons (pe_ix ix_tup (pv 0) pe_int (fun _ _ => rfl)) (pa_cons (pe_ix ix_tup (pv 0) pe_int (fun _ _ => rfl)) pa_nil)))))), ?_⟩
    refine ⟨_, rfl, rfl, _, rfl, ?_⟩
    cases up with
    | true =>
      have e := way_eq true
      rw [e]
      refine ⟨_, rfl, L, _, 0, _, rfl, rfl, SqT.of hL, atI_nat (j := 0) rfl, _, rfl, L, _, 1, _, rfl, rfl, SqT.of hL, atI_nat (j := 1) rfl, (show 2 ≤ sizeLine by decide), fun t nt => ?_⟩
      exact q _ t (Same.new nt) upd_same
    | false =>
      have e := way_eq false
      rw [e]
      refine ⟨_, rfl, L, _, 1, _, rfl, rfl, SqT.of hL, atI_nat (j := 1) rfl, _, rfl, L, _, 0, _, rfl, rfl, SqT.of hL, atI_nat (j := 0) rfl, (show 2 ≤ sizeLine by decide), fun t nt => ?_⟩
      exact q _ t (Same.new nt) upd_same
end
end K12


set_option Elab.async false
set_option linter.all false
set_option maxRecDepth 100000
namespace K12
open PySem PySem.Spec PyProof.Rows L2
theorem part_bd {p : Nat} {wf : Nat → Int} (R : Row p wf) {side : Int} {i : Nat} (h0 : 0 ≤ side) (hi : i < p) : 0 ≤ part p wf side i ∧ part p wf side i ≤ side := by
  have h1 := R.one i hi
  rw [← band_part R hi]
  refine ⟨band_nn R h0 hi, ?_⟩
  unfold band
  split
  · exact Int.ediv_le_self _ h0
  · rename_i hn
    have h2 := R.one (i + 1) (by omega)
    have h3 := Int.emod_nonneg side (show wf (i + 1) ≠ 0 by omega)
    have h4 : side % wf (i + 1) / wf i ≤ side % wf (i + 1) := Int.ediv_le_self _ h3
    have h6 := Int.emod_add_ediv_mul side (wf (i + 1))
    have h7 := Int.mul_nonneg (Int.ediv_nonneg h0 (show 0 ≤ wf (i + 1) by omega)) (show 0 ≤ wf (i + 1) by omega)
    have h5 : side % wf (i + 1) ≤ side := by omega
    omega
theorem div_bd {p : Nat} {wf : Nat → Int} (R : Row p wf) {side : Int} {i : Nat} (h0 : 0 ≤ side) (hi : i < p) : 0 ≤ side / wf i ∧ side / wf i ≤ side :=
  ⟨Int.ediv_nonneg h0 (by have := R.one i hi; omega), Int.ediv_le_self _ h0⟩
/-! ### stocks and lots as they stand -/
def tri3 (a b c : Int) : List V := [.int a, .int b, .int c]
structure RowsAt (H : Hp) (S : Addr) (ts : List (Int × Int × Int)) (vs : List V) : Prop where
  at_ : H S = some (.tup vs)
  len : vs.length = ts.length
  item : ∀ (i : Nat) t, ts[i]? = some t → ∃ a : Addr, vs[i]? = some (.ref a) ∧ H a = some (.tup (tri3 t.1 t.2.1 t.2.2))
def StockAt (H : Hp) (S : Addr) (st : List Tri) : Prop := ∃ vs, RowsAt H S st vs
def entI (ld : List Ent) : List (Int × Int × Int) := ld.map fun t => ((t.1 : Int), (t.2.1 : Int), t.2.2)
def LotAt (H : Hp) (M : Addr) (ld : List Ent) : Prop := ∃ vs, RowsAt H M (entI ld) vs
theorem RowsAt.same {H H' : Hp} {S : Addr} {ts : List (Int × Int × Int)} {vs : List V} (h : RowsAt H S ts vs) (e : Same H H') : RowsAt H' S ts vs :=
  ⟨e _ _ h.at_, h.len, fun i t ht => let ⟨a, h1, h2⟩ := h.item i t ht; ⟨a, h1, e _ _ h2⟩⟩
theorem StockAt.same {H H' : Hp} {S : Addr} {st : List Tri} (h : StockAt H S st) (e : Same H H') : StockAt H' S st := let ⟨vs, r⟩ := h; ⟨vs, r.same e⟩
theorem LotAt.same {H H' : Hp} {M : Addr} {ld : List Ent} (h : LotAt H M ld) (e : Same H H') : LotAt H' M ld := let ⟨vs, r⟩ := h; ⟨vs, r.same e⟩
/-- the i-th entry of such a tuple -/
theorem RowsAt.nth {H : Hp} {S : Addr} {ts : List (Int × Int × Int)} {vs : List V} (h : RowsAt H S ts vs) {i : Nat} {x : V} (e : vs[i]? = some x) : ∃ t a, ts[i]? = some t ∧ x = .ref a ∧ H a = some (.tup (tri3 t.1 t.2.1 t.2.2)) := by
  have hi : i < ts.length := by rw [← h.len]; exact (List.getElem?_eq_some_iff.mp e).1
  obtain ⟨a, h1, h2⟩ := h.item i _ (List.getElem?_eq_getElem hi)
  exact ⟨_, a, List.getElem?_eq_getElem hi, Option.some.inj (e.symm.trans h1), h2⟩
theorem entI_nth {ld : List Ent} {i : Nat} {t : Int × Int × Int} (e : (entI ld)[i]? = some t) : ∃ u, ld[i]? = some u ∧ t = ((u.1 : Int), (u.2.1 : Int), u.2.2) := by
  unfold entI at e
  rw [List.getElem?_map] at e
  cases h : ld[i]? with
  | none => rw [h] at e; cases e
  | some u => rw [h] at e; exact ⟨u, rfl, (Option.some.inj e).symm⟩
/-! ### the two ways -/
def sel {α : Type} (up : Bool) (a b : α) : α := match up with
  | true => a
  | false => b
def stU (up : Bool) (st : List Tri) : List Tri := match up with
  | true => st
  | false => turnS st
def ldU (up : Bool) (ld : List Ent) : List Ent := match up with
  | true => ld
  | false => turnL ld
theorem selL {α : Type} (up : Bool) (a b : α) : (if up then [a, b] else [b, a]) = [sel up a b, sel up b a] := by cases up <;> rfl
theorem stU_len (up : Bool) (st : List Tri) : (stU up st).length = st.length := by
  cases up
  · exact List.length_map _
  · rfl
theorem Row.sel {p q : Nat} {wf hf : Nat → Int} (R : Row p wf) (T : Row q hf) (up : Bool) : Row (K12.sel up p q) (K12.sel up wf hf) := by
  cases up
  · exact T
  · exact R
theorem sel_at {H : Hp} {lw lh : Addr} {ws hs : List V} (h1 : H lw = some (.tup ws)) (h2 : H lh = some (.tup hs)) (up : Bool) : H (sel up lw lh) = some (.tup (sel up ws hs)) := by
  cases up
  · exact h2
  · exact h1
theorem sel_tab (up : Bool) (p q : Nat) (wf hf : Nat → Int) : sel up (tab p wf) (tab q hf) = tab (sel up p q) (sel up wf hf) := by cases up <;> rfl
theorem sel_ref (up : Bool) (a b : Addr) : sel up (V.ref a) (V.ref b) = .ref (sel up a b) := by cases up <;> rfl
/-! ### a list of lists of numbers, each its own -/
structure Grid (H0 H : Hp) (s : Addr) (rs : Nat → Addr) (n m : Nat) (F : Nat → Nat → Int) : Prop where
  ls : H s = some (.lst ((List.range n).map fun b => V.ref (rs b)))
  row : ∀ b, b < n → H (rs b) = some (.lst (tab m (F b)))
  ne : ∀ b, b < n → rs b ≠ s
  inj : ∀ b c, b < n → c < n → rs b = rs c → b = c
  fs : H0 s = none
  fr : ∀ b, b < n → H0 (rs b) = none
theorem refs_get {n : Nat} {rs : Nat → Addr} {b : Nat} (h : b < n) : ((List.range n).map fun b => V.ref (rs b))[b]? = some (.ref (rs b)) := by
  rw [List.getElem?_map, List.getElem?_range h]
  rfl
theorem Grid.same {H0 H H' : Hp} {s : Addr} {rs : Nat → Addr} {n m : Nat} {F : Nat → Nat → Int} (g : Grid H0 H s rs n m F) (e : Same H H') : Grid H0 H' s rs n m F :=
  ⟨e _ _ g.ls, fun b hb => e _ _ (g.row b hb), g.ne, g.inj, g.fs, g.fr⟩
theorem Grid.congr {H0 H : Hp} {s : Addr} {rs : Nat → Addr} {n m : Nat} {F G : Nat → Nat → Int} (g : Grid H0 H s rs n m F) (e : ∀ b i, b < n → i < m → F b i = G b i) : Grid H0 H s rs n m G :=
  ⟨g.ls, fun b hb => by rw [g.row b hb, tab_congr (e b · hb)], g.ne, g.inj, g.fs, g.fr⟩
theorem Grid.set {H0 H : Hp} {s : Addr} {rs : Nat → Addr} {n m : Nat} {F : Nat → Nat → Int} (g : Grid H0 H s rs n m F) {b : Nat} (hb : b < n) (f : Nat → Int) : Grid H0 (upd H (rs b) (.lst (tab m f))) s rs n m (fun c => if c = b then f else F c) where
  ls := by rw [upd_ne (Ne.symm (g.ne b hb))]; exact g.ls
  row := fun c hc => by
    by_cases e : c = b
    · subst e
      rw [upd_same, if_pos rfl]
    · rw [upd_ne (fun z => e (g.inj c b hc hb z)), if_neg e]
      exact g.row c hc
  ne := g.ne
  inj := g.inj
  fs := g.fs
  fr := g.fr
section
variable {P : Program} {w : World} {K : PySem.W.Frag} {mg : Str → Option Value} {base : Heap}
/-- what stands in the middle of a sort: some places have it, some not -/
def midF (F G : Nat → Nat → Int) (b0 i0 : Nat) : Nat → Nat → Int := fun b i => if b < b0 ∨ (b = b0 ∧ i < i0) then G b i else F b i
theorem inner_sums {K : PySem.W.Frag} {D : Ends} {H0 H : Hp} {s la tB : Addr} {rs : Nat → Addr} {nb na : Nat} {F : Nat → Nat → Int} {wa tp : Nat → Int} {many len : Int} {a0 a1 a2 a4 a6 a7 a11 a12 a13 a14 a15 : Option V}
    (R : Row na wa) (sm : Same H0 H) (g : Grid H0 H s rs nb na F) (ha : H0 la = some (.tup (tab na wa))) (hB : H tB = some (.tup (tab nb tp))) (hp : ∀ b, b < nb → 0 ≤ tp b ∧ tp b < 1000000000000000) (hl0 : 0 ≤ len) (hl1 : len < 1000000000000000)
    (hd : ∀ H' a11 a12 a13 a14, Same H0 H' → Grid H0 H' s rs nb na (fun b i => F b i + many * tp b * (len / wa i)) → D.nx [a0, a1, a2, some (.ref la), a4, some (.ref s), a6, a7, some (.int many), some (.ref tB), some (.int len), a11, a12, a13, a14, a15] H') :
    tFor (iEnumT K (tCons (tVar 9) tNil)) (gTup K 2 (gCons (gName 11) (gCons (gName 12) gNil))) (tFor (iEnumT K (tCons (tVar 3) tNil)) (gTup K 2 (gCons (gName 13) (gCons (gName 14) gNil)))
      (tAugS (tOp (rIxL K) (tVar 5) (tVar 11)) (tVar 13) (tOp (rI CMul fun i j => V.int (i * j)) (tOp (rI CMul fun i j => V.int (i * j)) (tVar 8) (tVar 12)) (tOp (rI CDiv fun i j => V.int (i / j)) (tVar 10) (tVar 14))) (rGetL K) (ipI fun i j => i + j) rSetL)) D
      [a0, a1, a2, some (.ref la), a4, some (.ref s), a6, a7, some (.int many), some (.ref tB), some (.int len), a11, a12, a13, a14, a15] H := by
  let G : Nat → Nat → Int := fun b i => F b i + many * tp b * (len / wa i)
  refine ⟨_, rfl, tB, tab nb tp, rfl, SqT.of hB, for_it (walk_enumT (xs := tab nb tp)) (fun b σ H' => Same H0 H' ∧ Grid H0 H' s rs nb na (midF F G b 0) ∧ H' tB = some (.tup (tab nb tp)) ∧
    ∃ a11 a12 a13 a14, σ = [a0, a1, a2, some (.ref la), a4, some (.ref s), a6, a7, some (.int many), some (.ref tB), some (.int len), a11, a12, a13, a14, a15])
    ⟨sm, g.congr fun b i _ _ => (if_neg (by omega)).symm, hB, _, _, _, _, rfl⟩ (fun i σ H' _ hP => SqT.of hP.2.2.1) ?_ ?_⟩
  · rintro b x σ H1 H2 hi ⟨s1, g1, hB1, c11, c12, c13, c14, rfl⟩ ⟨Tp, x1, y1, rfl, nT, rfl, e1, e2⟩
    rw [tab_len] at hi
    cases e1
    obtain rfl := tab_at hi e2
    have s2 : Same H1 (upd H1 Tp (.tup [.int (b : Nat), .int (tp b)])) := Same.new nT
    refine ⟨Tp, _, rfl, SqT.of upd_same, rfl, _, _, rfl, _, _, rfl, rfl, ?_⟩
    refine ⟨_, rfl, la, tab na wa, rfl, SqT.of (s2 _ _ (s1 _ _ ha)), for_it (walk_enumT (xs := tab na wa)) (fun i σ H' => Same H0 H' ∧ Grid H0 H' s rs nb na (midF F G b i) ∧ H' tB = some (.tup (tab nb tp)) ∧
      ∃ a13 a14, σ = [a0, a1, a2, some (.ref la), a4, some (.ref s), a6, a7, some (.int many), some (.ref tB), some (.int len), some (.int (b : Nat)), some (.int (tp b)), a13, a14, a15])
      ⟨s1.trans s2, g1.same s2, s2 _ _ hB1, _, _, rfl⟩ (fun i σ H' _ hP => SqT.of (hP.1 _ _ ha)) ?_ ?_⟩
    · rintro i x σ H3 H4 hi2 ⟨s3, g3, hB3, d13, d14, rfl⟩ ⟨Tq, x2, y2, rfl, nT2, rfl, e1, e2⟩
      rw [tab_len] at hi2
      cases e1
      obtain rfl := tab_at hi2 e2
      have s4 : Same H3 (upd H3 Tq (.tup [.int (i : Nat), .int (wa i)])) := Same.new nT2
      have g4 := g3.same s4
      refine ⟨Tq, _, rfl, SqT.of upd_same, rfl, _, _, rfl, _, _, rfl, rfl, ?_⟩
      -- sums[b][i] += many * top * (length // size)
      refine ⟨_, rfl, _, rfl, s, _, _, _, rfl, rfl, SqL.of g4.ls, atI_nat (refs_get hi), _, rfl, rs b, _, i, _, rfl, rfl, SqL.of (g4.row b hi), tab_get hi2, ?_⟩
      obtain ⟨q1, q2⟩ := hp b hi
      obtain ⟨q3, q4⟩ := div_bd R hl0 hi2
      refine ⟨_, rfl, _, rfl, _, _, rfl, rfl, .inr (by constructor <;> omega), _, rfl, _, rfl, _, _, rfl, rfl, cdiv R hi2, _, _, rfl, rfl, .inr (by constructor <;> omega), ?_⟩
      refine ⟨_, _, rfl, rfl, rs b, _, (i : Int), i, rfl, rfl, g4.row b hi, ?_, ?_⟩
      · rw [tab_len]
        unfold ixN
        rw [if_pos (Int.natCast_nonneg i), if_pos (by omega), Int.toNat_natCast]
      · rw [tab_set hi2]
        have nb1 : tB ≠ rs b := ne_of (s4 _ _ hB3) (g4.row b hi) (by intro z; cases z)
        refine ⟨(s3.trans s4).put (g4.fr b hi), (g4.set hi _).congr fun c j hc hj => ?_, ?_, _, _, rfl⟩
        · show (if c = b then fset (midF F G b i b) i _ else midF F G b i c) j = midF F G b (i + 1) c j
          by_cases e : c = b
          · subst e
            rw [if_pos rfl]
            by_cases e3 : j = i
            · subst e3
              rw [fset_same]
              unfold midF
              rw [if_neg (by omega), if_pos (by omega)]
            · rw [fset_ne _ _ e3]
              unfold midF
              by_cases e4 : j < i
              · rw [if_pos (by omega), if_pos (by omega)]
              · rw [if_neg (by omega), if_neg (by omega)]
          · rw [if_neg e]
            unfold midF
            by_cases e4 : c < b
            · rw [if_pos (by omega), if_pos (by omega)]
            · rw [if_neg (by omega), if_neg (by omega)]
        · rw [upd_ne nb1]
          exact s4 _ _ hB3
    · rintro σ H3 ⟨s3, g3, hB3, d13, d14, rfl⟩
      rw [tab_len] at g3
      refine ⟨s3, g3.congr fun c j hc hj => ?_, hB3, _, _, _, _, rfl⟩
      unfold midF
      by_cases e : c < b ∨ c = b
      · rw [if_pos (by omega), if_pos (by omega)]
      · rw [if_neg (by omega), if_neg (by omega)]
  · rintro σ H1 ⟨s1, g1, hB1, c11, c12, c13, c14, rfl⟩
    rw [tab_len] at g1
    exact hd H1 _ _ _ _ s1 (g1.congr fun c j hc hj => by unfold midF; rw [if_pos (by omega)])
def sp_top_sums : Sp := fun vs H Q _ => ∃ (L S : Addr) (p q : Nat) (wf hf : Nat → Int) (st : List Tri) (up : Bool), vs = [.ref L, .ref S, wayV up] ∧ ListsAt H L (tab p wf) (tab q hf) ∧ Row p wf ∧ Row q hf ∧ StockAt H S st ∧ InS st ∧
  ∀ H' s rs, Same H H' → Grid H H' s rs (sel up q p) (sel up p q) (fun b => top (sel up q p) (sel up hf wf) (sel up wf hf) (stU up st) b) → Q (.ref s) H'
theorem ok_top_sums (T : Txt mg) (D : Df K mg "top_sums" stop_sums ["lists", "stock", "way"]) (c_sides_of : Cal P w K mg base CX0 1 "sides_of" ["lists", "way"] sp_sides_of)
    (c_columns_in : Cal P w K mg base CX0 4 "columns_in" ["lists", "width"] (sp_parts 0)) (c_bands_in : Cal P w K mg base CX0 4 "bands_in" ["lists", "height"] (sp_parts 1)) :
    FnOk P w K mg base CX0 5 D.f D.fd ["lists", "stock", "way"] sp_top_sums := by
  refine D.F.ok Stop_sums (fun vs H Q E h => ?_) (fun cdv A outer s H vs Q E hr h => ?_)
  · obtain ⟨L, S, p, q, wf, hf, st, up, rfl, _⟩ := h
    rfl
  · obtain ⟨L, S, p, q, wf, hf, st, up, rfl, hL, R, T', ⟨svs, hS⟩, iS, k⟩ := h
    refine ⟨_, (pss_cons (ps_asg (pe_call c_sides_of.ok (hr.mono (by decide)) (by rfl) c_sides_of.g c_sides_of.kp c_sides_of.b .nil pass0 (pa_cons (pv 0) (pa_cons (pv 2) pa_nil))) (pg_tup (by rfl) (pgs_cons (pg_name (i := 3) Stop_sums.nd rfl (Or.inr rfl)) (pgs_cons (pg_name (i := 4) Stop_sums.nd rfl (Or.inl rfl)) pgs_nil))))
      (pss_cons (ps_setLc (i := 5) (own := [("_", 15)]) rfl Stop_sums.nd rfl rfl (sw_true rfl rfl rfl (by decide +kernel)) (pi_tup (pv 4)) (blkOk_by (N := ntop_sums) (sc := defScope stop_sums) (by decide +kernel)) (fun _ _ _ _ _ => pg_name (i := 15) Stop_sums.nd rfl (Or.inl rfl)) (fun _ _ _ _ _ => pts_nil) (fun _ _ _ _ _ => (pe_op op_rep (pe_lst (pa_cons pe_int pa_nil)) (pe_callB (len_K (K := K) rfl) (by rfl) T.len_ (by decide +kernel) (pa_cons (pv 3) pa_nil)))))
      (pss_cons (ps_for PassesOwn.never rfl (pi_tup (pv 1)) (pg_tup (by rfl) (pgs_cons (pg_name (i := 6) Stop_sums.nd rfl (Or.inl rfl)) (pgs_cons (pg_name (i := 7) Stop_sums.nd rfl (Or.inl rfl)) (pgs_cons (pg_name (i := 8) Stop_sums.nd rfl (Or.inl rfl)) pgs_nil)))) (pss_cons (ps_if (pt_cmpR op_eq (pv 2) pe_str (nomark _)) (pss_one (ps_par (i := 9) (j := 10) (by rfl) Stop_sums.nd rfl rfl (by decide) rfl rfl (pa_cons (pe_call c_bands_in.ok (hr.mono (by decide)) (by rfl) c_bands_in.g c_bands_in.kp c_bands_in.b .nil pass0 (pa_cons (pv 0) (pa_cons (pv 7) pa_nil))) (pa_cons (pv 6) pa_nil)) (by rfl))) (pss_one (ps_par (i := 9) (j := 10) (by rfl) Stop_sums.nd rfl rfl (by decide) rfl rfl (pa_cons (pe_call c_columns_in.ok (hr.mono (by decide)) (by rfl) c_columns_in.g c_columns_in.kp c_columns_in.b .nil pass0 (pa_cons (pv 0) (pa_cons (pv 6) pa_nil))) (pa_cons (pv 7) pa_nil)) (by rfl))))
      (pss_one (ps_for PassesOwn.never rfl (pi_enumT (by rfl) T.enumerate_ (pa_cons (pv 9) pa_nil)) (pg_tup (by rfl) (pgs_cons (pg_name (i := 11) Stop_sums.nd rfl (Or.inl rfl)) (pgs_cons (pg_name (i := 12) Stop_sums.nd rfl (Or.inl rfl)) pgs_nil))) (pss_one (ps_for PassesOwn.never rfl (pi_enumT (by rfl) T.enumerate_ (pa_cons (pv 3) pa_nil)) (pg_tup (by rfl) (pgs_cons (pg_name (i := 13) Stop_sums.nd rfl (Or.inl rfl)) (pgs_cons (pg_name (i := 14) Stop_sums.nd rfl (Or.inl rfl)) pgs_nil))) (pss_one (ps_augS (pe_ix ix_list (pv 5) (pv 11) (fun _ _ => rfl)) (pv 13) get_list (pe_op op_mul (pe_op op_mul (pv 8) (pv 12)) (pe_op op_fdiv (pv 10) (pv 14))) ip_add set_list))))))))
      (pss_one (ps_ret (pv 5)))))), ?_⟩
    obtain ⟨lw, lh, hL0, hw, hh⟩ := id hL
    refine ⟨_, rfl, _, rfl, L, .ref lw, .ref lh, up, rfl, hL0, fun H1 t s1 ht => ?_⟩
    rw [selL, sel_ref, sel_ref] at ht
    refine ⟨t, _, rfl, SqT.of ht, rfl, _, _, rfl, _, _, rfl, rfl, ?_⟩
    have Ra := R.sel T' up
    have Rb := T'.sel R up
    have ha : H1 (sel up lw lh) = some (.tup (tab (sel up p q) (sel up wf hf))) := by rw [← sel_tab]; exact sel_at (s1 _ _ hw) (s1 _ _ hh) up
    have hb : H1 (sel up lh lw) = some (.tup (tab (sel up q p) (sel up hf wf))) := by rw [← sel_tab]; exact sel_at (s1 _ _ hh) (s1 _ _ hw) up
    generalize hla : sel up lw lh = la at ha ⊢
    generalize hlb : sel up lh lw = lb at hb ⊢
    -- sums = rows of 0
    refine ⟨_, rfl, lb, rfl, ⟨_, SqT.of hb⟩, fun D0 nD => lc_tup (K := K) (a := lb) (xs := tab (sel up q p) (sel up hf wf)) (fun i H' => Same H1 H' ∧ ∃ rs, Grid H1 H' D0 rs i (sel up p q) fun _ _ => 0)
      ⟨Same.new nD, fun _ => D0, upd_same, fun b h => absurd h (Nat.not_lt_zero b), fun b h => absurd h (Nat.not_lt_zero b), fun b c h => absurd h (Nat.not_lt_zero b), nD, fun b h => absurd h (Nat.not_lt_zero b)⟩
      (fun i H' _ hP => SqT.of (hP.1 _ _ hb)) ?_ ?_⟩
    · rintro i x H2 hx ⟨s2, rs, g⟩
      refine ⟨rfl, (show 1 ≤ sizeLine by decide), fun p1 np1 => ?_⟩
      have s3 : Same H2 (upd H2 p1 (.lst [V.int 0])) := Same.new np1
      refine ⟨_, rfl, la, _, rfl, .inr (SqT.of (s3 _ _ (s2 _ _ ha))), p1, _, [V.int 0], rfl, rfl, upd_same, ?_, ?_, ?_, fun p2 np2 => ?_⟩
      · rw [tab_len]; omega
      · rw [tab_len]; have := Ra.le; omega
      · rw [tab_len]
        have h4 := Ra.le
        rw [Int.toNat_natCast]
        show 1 * sel up p q ≤ sizeLine
        rw [sizeLine_eq]
        omega
      · rw [tab_len, Int.toNat_natCast, tab_rep]
        have s4 : Same (upd H2 p1 (.lst [V.int 0])) (upd (upd H2 p1 (.lst [V.int 0])) p2 (.lst (tab (sel up p q) fun _ => 0))) := Same.new np2
        have g2 := (g.same s3).same s4
        have n0 : H1 p2 = none := (s2.trans s3).free np2
        have hne : D0 ≠ p2 := ne_of_none (s3 _ _ g.ls) np2
        have hi : i < sel up q p := by
          have := (List.getElem?_eq_some_iff.mp hx).1
          rw [tab_len] at this
          exact this
        refine ⟨_, g2.ls, ?_, ((s2.trans s3).trans s4).put nD, fun b => if b = i then p2 else rs b, ⟨?_, fun b h => ?_, fun b h => ?_, fun b c h1 h2 e => ?_, nD, fun b h => ?_⟩⟩
        · rw [List.length_map, List.length_range]
          exact small1000 (by have := Rb.le; omega)
        · rw [upd_same, List.range_succ, List.map_append]
          have e1 : (List.range i).map (fun b => V.ref (if b = i then p2 else rs b)) = (List.range i).map fun b => V.ref (rs b) := by
            apply List.map_congr_left
            intro b hb
            have := List.mem_range.mp hb
            rw [if_neg (by omega)]
          rw [e1]
          simp
        · by_cases e : b = i
          · rw [if_pos e, upd_ne (Ne.symm hne), upd_same]
          · rw [if_neg e, upd_ne (g.ne b (by omega))]
            exact g2.row b (by omega)
        · by_cases e : b = i
          · rw [if_pos e]; exact Ne.symm hne
          · rw [if_neg e]; exact g.ne b (by omega)
        · by_cases e1 : b = i
          · by_cases e2 : c = i
            · omega
            · rw [if_pos e1, if_neg e2] at e
              have := s3 _ _ (g.row c (by omega))
              rw [← e, np2] at this
              cases this
          · by_cases e2 : c = i
            · rw [if_neg e1, if_pos e2] at e
              have := s3 _ _ (g.row b (by omega))
              rw [e, np2] at this
              cases this
            · rw [if_neg e1, if_neg e2] at e
              exact g.inj b c (by omega) (by omega) e
        · by_cases e : b = i
          · rw [if_pos e]; exact n0
          · rw [if_neg e]; exact g.fr b (by omega)
    · rintro H2 ⟨s2, rs, g⟩
      rw [tab_len] at g
      have hS2 := (hS.same s1).same s2
      have g' : Grid H H2 D0 rs (sel up q p) (sel up p q) fun _ _ => 0 := ⟨g.ls, g.row, g.ne, g.inj, s1.free g.fs, fun b hb => s1.free (g.fr b hb)⟩
      have s12 := s1.trans s2
      -- the stock's sorts
      refine ⟨_, rfl, S, rfl, ⟨_, SqT.of hS2.at_⟩, for_tup (K := K) (a := S) (xs := svs) (fun n σ H' => Same H H' ∧ Grid H H' D0 rs (sel up q p) (sel up p q) (fun b => top (sel up q p) (sel up hf wf) (sel up wf hf) ((stU up st).take n) b) ∧
          ∃ a6 a7 a8 a9 a10 a11 a12 a13 a14 a15, σ = [some (.ref L), some (.ref S), some (wayV up), some (.ref la), some (.ref lb), some (.ref D0), a6, a7, a8, a9, a10, a11, a12, a13, a14, a15])
        ⟨s12, g', none, none, none, none, none, none, none, none, none, none, rfl⟩ (fun i σ H' _ hP => SqT.of (hP.1 _ _ hS.at_)) ?_ ?_⟩
      · rintro n x σ H3 hx ⟨s3, g3, a6, a7, a8, a9, a10, a11, a12, a13, a14, a15, rfl⟩
        obtain ⟨tt, ta, et, rfl, hta⟩ := (hS.same s3).nth hx
        obtain ⟨i1, i2, i3, i4, i5⟩ := iS tt (List.mem_of_getElem? et)
        refine ⟨ta, _, rfl, SqT.of hta, rfl, _, _, rfl, _, _, rfl, _, _, rfl, rfl, ?_⟩
        have eu : (stU up st)[n]? = some (sel up tt (tt.2.1, tt.1, tt.2.2)) := by
          cases up
          · show (turnS st)[n]? = _
            unfold turnS
            rw [List.getElem?_map, et]
            rfl
          · exact et
        have iu : 1 ≤ (sel up tt (tt.2.1, tt.1, tt.2.2)).2.1 ∧ (sel up tt (tt.2.1, tt.1, tt.2.2)).2.1 < 1000000000000000 ∧ 1 ≤ (sel up tt (tt.2.1, tt.1, tt.2.2)).1 ∧ (sel up tt (tt.2.1, tt.1, tt.2.2)).1 < 1000000000000000 ∧ (sel up tt (tt.2.1, tt.1, tt.2.2)).2.2 = tt.2.2 := by
          cases up
          · exact ⟨i1, i2, i3, i4, rfl⟩
          · exact ⟨i3, i4, i1, i2, rfl⟩
        generalize hu : sel up tt (tt.2.1, tt.1, tt.2.2) = u at eu iu
        have fin : ∀ H', Same H H' → Grid H H' D0 rs (sel up q p) (sel up p q) (fun b i => top (sel up q p) (sel up hf wf) (sel up wf hf) ((stU up st).take n) b i + tt.2.2 * part (sel up q p) (sel up hf wf) u.2.1 b * (u.1 / sel up wf hf i)) →
            Grid H H' D0 rs (sel up q p) (sel up p q) (fun b => top (sel up q p) (sel up hf wf) (sel up wf hf) ((stU up st).take (n + 1)) b) := fun H' _ g => g.congr fun b i _ _ => by
          unfold top
          rw [sm_take _ eu, iu.2.2.2.2]
        refine ⟨_, rfl, rfl, _, rfl, ?_⟩
        rw [way_eq]
        cases up with
        | true =>
          refine ⟨_, rfl, _, rfl, L, p, q, wf, hf, tt.2.1, rfl, hL.same s3, R, T', by omega, by omega, fun H4 tB s4 hB => ⟨_, rfl, _, _, rfl, ?_⟩⟩
          have e : u = tt := hu.symm
          subst e
          exact inner_sums Ra (s3.trans s4) (g3.same s4) (by rw [← hla]; exact hw) hB (fun b hb' => ⟨(part_bd T' (by omega) hb').1, by have := (part_bd T' (show 0 ≤ u.2.1 by omega) hb').2; omega⟩) (by omega) (by omega)
            fun H' c11 c12 c13 c14 sz gz => ⟨sz, fin H' sz gz, _, _, _, _, _, _, _, _, _, _, rfl⟩
        | false =>
          refine ⟨_, rfl, _, rfl, L, p, q, wf, hf, tt.1, rfl, hL.same s3, R, T', by omega, by omega, fun H4 tB s4 hB => ⟨_, rfl, _, _, rfl, ?_⟩⟩
          have e : u = (tt.2.1, tt.1, tt.2.2) := hu.symm
          subst e
          exact inner_sums Ra (s3.trans s4) (g3.same s4) (by rw [← hla]; exact hh) hB (fun b hb' => ⟨(part_bd R (by omega) hb').1, by have := (part_bd R (show 0 ≤ tt.1 by omega) hb').2; omega⟩) (by omega) (by omega)
            fun H' c11 c12 c13 c14 sz gz => ⟨sz, fin H' sz gz, _, _, _, _, _, _, _, _, _, _, rfl⟩
      · rintro σ H3 ⟨s3, g3, a6, a7, a8, a9, a10, a11, a12, a13, a14, a15, rfl⟩
        have e : ((stU up st).take svs.length) = stU up st := List.take_of_length_le (by rw [stU_len, hS.len]; exact Nat.le_refl _)
        rw [e] at g3
        exact ⟨_, rfl, k H3 D0 rs s3 g3⟩
end
end K12


set_option Elab.async false
set_option linter.all false
set_option maxRecDepth 100000
namespace K12
open PySem PySem.Spec PyProof.Rows L2
abbrev rLen (K : PySem.W.Frag) : List V → Hp → VK → Prop := fun xs H Q => ∃ p ys, xs = [.ref p] ∧ (SqL K H p ys ∨ SqT K H p ys) ∧ Q (.int ys.length) H
abbrev rMin2 : List V → Hp → VK → Prop := fun xs H Q => ∃ i j, xs = [.int i, .int j] ∧ Q (.int (if j < i then j else i)) H
abbrev rMax2 : List V → Hp → VK → Prop := fun xs H Q => ∃ i j, xs = [.int i, .int j] ∧ Q (.int (if j > i then j else i)) H
abbrev rInt1 : List V → Hp → VK → Prop := fun xs H Q => (∃ i, xs = [.int i] ∧ Q (.int i) H) ∨ ∃ k, xs = [.bl k] ∧ Q (.int (if k then 1 else 0)) H
abbrev rListOf (K : PySem.W.Frag) : List V → Hp → VK → Prop := fun xs H Q => ∃ p ys, xs = [.ref p] ∧ (SqL K H p ys ∨ SqT K H p ys) ∧ ∀ l, H l = none → Q (.ref l) (upd H l (.lst ys))
abbrev rTupOf (K : PySem.W.Frag) : List V → Hp → VK → Prop := fun xs H Q => ∃ p ys, xs = [.ref p] ∧ ((SqL K H p ys ∧ ∀ l, H l = none → Q (.ref l) (upd H l (.tup ys))) ∨ (SqT K H p ys ∧ Q (.ref p) H))
abbrev rIsNon : R2 := fun x y H Q => y = .non ∧ Q (.bl (decide (x = .non))) H
abbrev rNotNon : R2 := fun x y H Q => y = .non ∧ Q (.bl (!decide (x = .non))) H
/-! ### [f(i) for i in range(n)] -/
theorem lc_tab {ta : TA} {te : TE} {n j : Nat} {f : Nat → Int} {σ : L2.St} {H : Hp} {Q : VK} (hn : n ≤ 1000) (ht : ∀ R : List V → Hp → Prop, R [.int (n : Nat)] H → ta σ H R)
    (hs : ∀ (i : Nat) (D : Addr) (H' : Hp) (Q : VK), i < n → Same H H' → H' D = some (.lst (tab i f)) → (∀ H4, Same H' H4 → Q (.int (f i)) H4) → te ((wipe σ [j]).set j (some (.int (i : Nat)))) H' Q)
    (hd : ∀ D H', H D = none → Same H H' → H' D = some (.lst (tab n f)) → Q (.ref D) H') (hw : ∀ v : V, wipe ((wipe σ [j]).set j (some v)) [j] = wipe σ [j]) : tLc (iRng1 ta) (gName j) tYes te [j] σ H Q := by
  refine ht _ ⟨_, rfl, by omega, by omega, fun D nD => ?_⟩
  rw [Int.toNat_natCast]
  refine lc_range (lo := 0) (n := n) (fun i H' => Same H H' ∧ H' D = some (.lst (tab i f))) ⟨Same.new nD, upd_same⟩ (fun i H' hi hP => ?_) (fun H' hP => hd D H' nD hP.1 hP.2)
  refine ⟨hw _, ?_⟩
  rw [Int.zero_add]
  show te ((wipe σ [j]).set j (some (.int (i : Nat)))) H' _
  refine hs i D H' _ hi hP.1 hP.2 fun H4 s4 => ⟨_, s4 _ _ hP.2, ?_, (hP.1.trans s4).put nD, ?_⟩
  · rw [tab_len]; exact small1000 (by omega)
  · rw [upd_same, tab_succ]
theorem seq_asg {te : TE} {g : TG} {u : TS} {D : Ends} {σ : L2.St} {H : Hp} (h : te σ H fun x H1 => g x σ H1 (u D)) : tSeq (tAsg te g) u D σ H := h
theorem cut_tab {n i : Nat} {g : Nat → Int} (h : i < n) : cutV (tab n g) none (some ((i : Int) + 1)) = tab (i + 1) g := by
  unfold cutV
  rw [tab_len, HT.sIx_none, show ((i : Int) + 1) = ((i + 1 : Nat) : Int) from (Int.natCast_succ i).symm, HT.sIx_nat, Nat.min_eq_left h, List.drop_zero, Nat.sub_zero, tab_take h]
theorem rt_bd {p : Nat} {w : Nat → Int} (R : Row p w) (i : Nat) : 0 ≤ rt p w i ∧ rt p w i < 1073741824 := by
  refine ⟨R.rt_nn i, ?_⟩
  unfold rt
  split
  · rename_i h
    have h1 := R.big (i + 1) h
    have h2 : w (i + 1) / w i ≤ w (i + 1) := Int.ediv_le_self _ (by have := R.one (i + 1) h; omega)
    omega
  · omega
section
variable {P : Program} {w : World} {K : PySem.W.Frag} {mg : Str → Option Value} {base : Heap}
theorem inner_wants {D : Ends} {H0 H : Hp} {r la : Addr} {na x y b : Nat} {f wa : Nat → Int} {n : Int} {a0 a1 a2 a6 a7 a11 : Option V}
    (R : Row na wa) (sm : Same H0 H) (ha : H0 la = some (.tup (tab na wa))) (hr : H r = some (.lst (tab na f))) (nr : H0 r = none) (hx : x < na)
    (hd : ∀ H' a11, Same H0 H' → H' r = some (.lst (tab na fun i => f i + if y = b ∧ i ≤ x then n * (wa x / wa i) else 0)) → D.nx [a0, a1, a2, some (.int (b : Nat)), some (.ref la), some (.ref r), a6, a7, some (.int n), some (.int (x : Nat)), some (.int (y : Nat)), a11] H') :
    tIfS (tTest (tOp rEq (tVar 10) (tVar 3))) (tFor (iRng1 (tCons (tOp (rI0 fun i j => V.int (i + j)) (tVar 9) (tC (.int 1))) tNil)) (gName 11)
      (tAugS (tVar 5) (tVar 11) (tOp (rI CMul fun i j => V.int (i * j)) (tVar 8) (tOp (rI CDiv fun i j => V.int (i / j)) (tOp (rIxT K) (tVar 4) (tVar 9)) (tOp (rIxT K) (tVar 4) (tVar 11)))) (rGetL K) (ipI fun i j => i + j) rSetL)) tNext D
      [a0, a1, a2, some (.int (b : Nat)), some (.ref la), some (.ref r), a6, a7, some (.int n), some (.int (x : Nat)), some (.int (y : Nat)), a11] H := by
  refine ⟨_, rfl, _, rfl, rfl, _, rfl, ?_⟩
  rw [decV]
  refine ite2 (fun e => ?_) (fun e => ?_)
  · have e' : y = b := by have := of_decide_eq_true e; omega
    have hle := R.le
    refine ⟨_, rfl, _, _, rfl, rfl, _, rfl, by omega, by omega, for_range (lo := 0) (n := ((x : Int) + 1).toNat) (fun i σ H' => Same H0 H' ∧ H' r = some (.lst (tab na fun k => f k + if k < i then n * (wa x / wa k) else 0)) ∧
      ∃ a11, σ = [a0, a1, a2, some (.int (b : Nat)), some (.ref la), some (.ref r), a6, a7, some (.int n), some (.int (x : Nat)), some (.int (y : Nat)), a11]) ⟨sm, ?_, _, rfl⟩ ?_ ?_⟩
    · rw [hr, tab_congr]
      intro k _
      rw [if_neg (by omega)]
      omega
    · rintro i σ H1 hi ⟨s1, h1, c, rfl⟩
      have hi' : i ≤ x := by omega
      rw [Int.zero_add]
      obtain ⟨q1, q2⟩ := div_bd R (show 0 ≤ wa x by have := R.one x hx; omega) (show i < na by omega)
      have q3 := R.big x hx
      refine ⟨_, rfl, _, rfl, r, _, i, _, rfl, rfl, SqL.of h1, tab_get (by omega), ?_⟩
      refine ⟨_, rfl, _, rfl, _, rfl, la, _, _, _, rfl, rfl, SqT.of (s1 _ _ ha), atI_nat (tab_get hx), _, rfl, _, rfl, la, _, _, _, rfl, rfl, SqT.of (s1 _ _ ha), atI_nat (tab_get (show i < na by omega)), _, _, rfl, rfl, cdiv R (by omega), _, _, rfl, rfl, .inr (by constructor <;> omega), ?_⟩
      refine ⟨_, _, rfl, rfl, r, _, (i : Int), i, rfl, rfl, h1, ?_, ?_⟩
      · rw [tab_len]
        unfold ixN
        rw [if_pos (Int.natCast_nonneg i), if_pos (by omega), Int.toNat_natCast]
      · rw [tab_set (by omega)]
        refine ⟨s1.put nr, ?_, _, rfl⟩
        rw [upd_same]
        congr 2
        apply tab_congr
        intro k hk
        by_cases e3 : k = i
        · subst e3
          rw [fset_same, if_neg (by omega), if_pos (by omega)]
          show f k + 0 + n * (wa x / wa k) = f k + n * (wa x / wa k)
          omega
        · rw [fset_ne _ _ e3]
          by_cases e4 : k < i
          · rw [if_pos e4, if_pos (by omega)]
          · rw [if_neg e4, if_neg (by omega)]
    · rintro σ H1 ⟨s1, h1, c, rfl⟩
      refine hd H1 _ s1 ?_
      rw [h1]
      congr 2
      apply tab_congr
      intro k hk
      by_cases e4 : k ≤ x
      · rw [if_pos (by omega), if_pos ⟨e', e4⟩]
      · rw [if_neg (by omega), if_neg (fun z => e4 z.2)]
  · have e' : ¬ y = b := fun z => e (decide_eq_true (by omega))
    refine hd H _ sm ?_
    rw [hr]
    congr 2
    apply tab_congr
    intro k hk
    rw [if_neg (fun z => e' z.1)]
    omega
theorem ldU_nth {up : Bool} {ld : List Ent} {i : Nat} {u : Ent} (e : ld[i]? = some u) : (ldU up ld)[i]? = some (sel up u (u.2.1, u.1, u.2.2)) := by
  cases up
  · show (turnL ld)[i]? = _
    unfold turnL
    rw [List.getElem?_map, e]
    rfl
  · exact e
theorem ldU_len (up : Bool) (ld : List Ent) : (ldU up ld).length = ld.length := by
  cases up
  · exact List.length_map _
  · rfl
def sp_wants_row : Sp := fun vs H Q _ => ∃ (L M : Addr) (p q : Nat) (wf hf : Nat → Int) (ld : List Ent) (up : Bool) (b : Nat), vs = [.ref L, .ref M, wayV up, .int (b : Nat)] ∧ ListsAt H L (tab p wf) (tab q hf) ∧ Row p wf ∧ Row q hf ∧ LotAt H M ld ∧ InL p q ld ∧
  ∀ H' r, Same H H' → H' r = some (.lst (tab (sel up p q) (want (sel up wf hf) (ldU up ld) b))) → Q (.ref r) H'
theorem ok_wants_row (T : Txt mg) (D : Df K mg "wants_row" swants_row ["lists", "lot", "way", "b"]) (c_sides_of : Cal P w K mg base CX0 1 "sides_of" ["lists", "way"] sp_sides_of) :
    FnOk P w K mg base CX0 2 D.f D.fd ["lists", "lot", "way", "b"] sp_wants_row := by
  refine D.F.ok Swants_row (fun vs H Q E h => ?_) (fun cdv A outer s H vs Q E hr h => ?_)
  · obtain ⟨L, M, p, q, wf, hf, ld, up, b, rfl, _⟩ := h
    rfl
  · obtain ⟨L, M, p, q, wf, hf, ld, up, b, rfl, hL, R, T', ⟨mvs, hM⟩, iL, k⟩ := h
    refine ⟨_, (pss_cons (ps_set (i := 4) Swants_row.nd rfl (Or.inl rfl) (pe_ix ix_tup (pe_call c_sides_of.ok (hr.mono (by decide)) (by rfl) c_sides_of.g c_sides_of.kp c_sides_of.b .nil pass0 (pa_cons (pv 0) (pa_cons (pv 2) pa_nil))) pe_int (fun _ _ => rfl)))
      (pss_cons (ps_set (i := 5) Swants_row.nd rfl (Or.inl rfl) (pe_op op_rep (pe_lst (pa_cons pe_int pa_nil)) (pe_callB call_len_seq (by rfl) T.len_ (by decide +kernel) (pa_cons (pv 4) pa_nil))))
      (pss_cons (ps_for PassesOwn.never rfl (pi_tup (pv 1)) (pg_tup (by rfl) (pgs_cons (pg_name (i := 6) Swants_row.nd rfl (Or.inl rfl)) (pgs_cons (pg_name (i := 7) Swants_row.nd rfl (Or.inl rfl)) (pgs_cons (pg_name (i := 8) Swants_row.nd rfl (Or.inl rfl)) pgs_nil)))) (pss_cons (ps_asg (pe_ifExp (pt_cmpR op_eq (pv 2) pe_str (nomark _)) (pe_tup (pa_cons (pv 6) (pa_cons (pv 7) pa_nil))) (pe_tup (pa_cons (pv 7) (pa_cons (pv 6) pa_nil)))) (pg_tup (by rfl) (pgs_cons (pg_name (i := 9) Swants_row.nd rfl (Or.inl rfl)) (pgs_cons (pg_name (i := 10) Swants_row.nd rfl (Or.inl rfl)) pgs_nil))))
      (pss_one (ps_if (pt_cmpR op_eq (pv 10) (pv 3) (nomark _)) (pss_one (ps_for PassesOwn.never rfl (pi_range1 (by rfl) T.range_ (pa_cons (pe_op op_add (pv 9) pe_int) pa_nil)) (pg_name (i := 11) Swants_row.nd rfl (Or.inl rfl)) (pss_one (ps_augS (pv 5) (pv 11) get_list (pe_op op_mul (pv 8) (pe_op op_fdiv (pe_ix ix_tup (pv 4) (pv 9) (fun _ _ => rfl)) (pe_ix ix_tup (pv 4) (pv 11) (fun _ _ => rfl)))) ip_add set_list)))) pss_nil))))
      (pss_one (ps_ret (pv 5)))))), ?_⟩
    obtain ⟨lw, lh, hL0, hw, hh⟩ := id hL
    refine ⟨_, rfl, _, rfl, L, .ref lw, .ref lh, up, rfl, hL0, fun H1 t s1 ht => ?_⟩
    rw [selL, sel_ref, sel_ref] at ht
    refine ⟨t, _, 0, _, rfl, rfl, SqT.of ht, atI_nat (j := 0) rfl, ?_⟩
    have Ra := R.sel T' up
    have ha0 : H (sel up lw lh) = some (.tup (tab (sel up p q) (sel up wf hf))) := by rw [← sel_tab]; exact sel_at hw hh up
    generalize hla : sel up lw lh = la at ha0 ⊢
    have ha := s1 _ _ ha0
    -- row
    refine ⟨(show 1 ≤ sizeLine by decide), fun p1 np1 => ?_⟩
    have s3 : Same H1 (upd H1 p1 (.lst [V.int 0])) := Same.new np1
    refine ⟨_, rfl, la, _, rfl, .inr (SqT.of (s3 _ _ ha)), p1, _, [V.int 0], rfl, rfl, upd_same, ?_, ?_, ?_, fun r np2 => ?_⟩
    · rw [tab_len]; omega
    · rw [tab_len]; have := Ra.le; omega
    · rw [tab_len]
      have h4 := Ra.le
      rw [Int.toNat_natCast]
      show 1 * sel up p q ≤ sizeLine
      rw [sizeLine_eq]
      omega
    rw [tab_len, Int.toNat_natCast, tab_rep]
    have s4 : Same (upd H1 p1 (.lst [V.int 0])) (upd (upd H1 p1 (.lst [V.int 0])) r (.lst (tab (sel up p q) fun _ => 0))) := Same.new np2
    have s14 := (s1.trans s3).trans s4
    have nr : H r = none := (s1.trans s3).free np2
    refine ⟨_, rfl, M, rfl, ⟨_, SqT.of (s14 _ _ hM.at_)⟩, for_tup (K := K) (a := M) (xs := mvs) (fun n σ H' => Same H H' ∧ H' r = some (.lst (tab (sel up p q) (want (sel up wf hf) ((ldU up ld).take n) b))) ∧
      ∃ a6 a7 a8 a9 a10 a11, σ = [some (.ref L), some (.ref M), some (wayV up), some (.int (b : Nat)), some (.ref la), some (.ref r), a6, a7, a8, a9, a10, a11])
      ⟨s14, ?_, none, none, none, none, none, none, rfl⟩ (fun i σ H' _ hP => SqT.of (hP.1 _ _ hM.at_)) ?_ ?_⟩
    · rw [upd_same, List.take_zero]
      rfl
    · rintro n x σ H3 hx ⟨s5, h5, a6, a7, a8, a9, a10, a11, rfl⟩
      obtain ⟨tt, ta, et, rfl, hta⟩ := (hM.same s5).nth hx
      obtain ⟨u, eu, rfl⟩ := entI_nth et
      obtain ⟨i1, i2, i3⟩ := iL u (List.mem_of_getElem? eu)
      refine ⟨ta, _, rfl, SqT.of hta, rfl, _, _, rfl, _, _, rfl, _, _, rfl, rfl, ?_⟩
      refine ⟨_, rfl, rfl, _, rfl, ?_⟩
      rw [way_eq]
      have en := ldU_nth (up := up) eu
      cases up with
      | true =>
        refine ⟨_, rfl, _, rfl, (show 2 ≤ sizeLine by decide), fun pp npp => ⟨pp, _, rfl, SqT.of upd_same, rfl, _, _, rfl, _, _, rfl, rfl, ?_⟩⟩
        have s6 : Same H3 (upd H3 pp (.tup [V.int (u.1 : Nat), V.int (u.2.1 : Nat)])) := Same.new npp
        refine inner_wants Ra (s5.trans s6) ha0 (s6 _ _ h5) nr i1 fun H' c11 sz hz => ⟨sz, ?_, _, _, _, _, _, _, rfl⟩
        rw [hz]
        congr 2
        apply tab_congr
        intro i hi
        rw [want_next en]
        rfl
      | false =>
        refine ⟨_, rfl, _, rfl, (show 2 ≤ sizeLine by decide), fun pp npp => ⟨pp, _, rfl, SqT.of upd_same, rfl, _, _, rfl, _, _, rfl, rfl, ?_⟩⟩
        have s6 : Same H3 (upd H3 pp (.tup [V.int (u.2.1 : Nat), V.int (u.1 : Nat)])) := Same.new npp
        refine inner_wants Ra (s5.trans s6) ha0 (s6 _ _ h5) nr i2 fun H' c11 sz hz => ⟨sz, ?_, _, _, _, _, _, _, rfl⟩
        rw [hz]
        congr 2
        apply tab_congr
        intro i hi
        rw [want_next en]
        rfl
    · rintro σ H3 ⟨s5, h5, a6, a7, a8, a9, a10, a11, rfl⟩
      have e : ((ldU up ld).take mvs.length) = ldU up ld := List.take_of_length_le (by
        rw [ldU_len, hM.len]
        unfold entI
        rw [List.length_map]
        exact Nat.le_refl _)
      rw [e] at h5
      exact ⟨_, rfl, k H3 r s5 h5⟩
end
end K12


set_option Elab.async false
set_option linter.all false
set_option maxRecDepth 100000
namespace K12
open PySem PySem.Spec PyProof.Rows L2
/-! ### what the two calls tell: rooms, wants, left -/
/-- a triple of tuples of numbers -/
def RowAt (H : Hp) (v : V) (n : Nat) (f g h : Nat → Int) : Prop := ∃ t a b c : Addr, v = .ref t ∧ H t = some (.tup [.ref a, .ref b, .ref c]) ∧ H a = some (.tup (tab n f)) ∧ H b = some (.tup (tab n g)) ∧ H c = some (.tup (tab n h))
theorem RowAt.same {H H' : Hp} {v : V} {n : Nat} {f g h : Nat → Int} (r : RowAt H v n f g h) (e : Same H H') : RowAt H' v n f g h := by
  obtain ⟨t, a, b, c, h1, h2, h3, h4, h5⟩ := r
  exact ⟨t, a, b, c, h1, e _ _ h2, e _ _ h3, e _ _ h4, e _ _ h5⟩
theorem RowAt.put {H : Hp} {v : V} {n : Nat} {f g h : Nat → Int} {p : Addr} {xs ys : List V} (r : RowAt H v n f g h) (e : H p = some (.lst xs)) : RowAt (upd H p (.lst ys)) v n f g h := by
  obtain ⟨t, a, b, c, h1, h2, h3, h4, h5⟩ := r
  have ne : ∀ {q : Addr} {zs : List V}, H q = some (.tup zs) → q ≠ p := fun hq => ne_of hq e (by intro z; cases z)
  exact ⟨t, a, b, c, h1, (upd_ne (ne h2)).trans h2, (upd_ne (ne h3)).trans h3, (upd_ne (ne h4)).trans h4, (upd_ne (ne h5)).trans h5⟩
theorem RowAt.congr {H : Hp} {v : V} {n : Nat} {f g h f' g' h' : Nat → Int} (r : RowAt H v n f g h) (e1 : ∀ i, i < n → f i = f' i) (e2 : ∀ i, i < n → g i = g' i) (e3 : ∀ i, i < n → h i = h' i) : RowAt H v n f' g' h' := by
  obtain ⟨t, a, b, c, h1, h2, h3, h4, h5⟩ := r
  exact ⟨t, a, b, c, h1, h2, by rw [h3, tab_congr e1], by rw [h4, tab_congr e2], by rw [h5, tab_congr e3]⟩
/-- a tuple of such triples -/
def RoomsAt (H : Hp) (v : V) (m n : Nat) (f g h : Nat → Nat → Int) : Prop := ∃ (t : Addr) (xs : List V), v = .ref t ∧ H t = some (.tup xs) ∧ xs.length = m ∧ ∀ b, b < m → ∃ x, xs[b]? = some x ∧ RowAt H x n (f b) (g b) (h b)
theorem RoomsAt.same {H H' : Hp} {v : V} {m n : Nat} {f g h : Nat → Nat → Int} (r : RoomsAt H v m n f g h) (e : Same H H') : RoomsAt H' v m n f g h := by
  obtain ⟨t, xs, h1, h2, h3, h4⟩ := r
  exact ⟨t, xs, h1, e _ _ h2, h3, fun b hb => let ⟨x, k1, k2⟩ := h4 b hb; ⟨x, k1, k2.same e⟩⟩
/-- rooms and left by the band: na sizes along, nb bands -/
def roomsF (na nb : Nat) (wa hb : Nat → Int) (st : List Tri) (ld : List Ent) (b i : Nat) : Int := rt nb hb b * lv nb wa (rt nb hb) (Aof nb hb wa st ld) (nb - 1 - b) i + top nb hb wa st b i
def leftF (na nb : Nat) (wa hb : Nat → Int) (st : List Tri) (ld : List Ent) (b i : Nat) : Int := lv nb wa (rt nb hb) (Aof nb hb wa st ld) (nb - b) i
abbrev RoomsL (H : Hp) (v : V) (na nb : Nat) (wa hb : Nat → Int) (st : List Tri) (ld : List Ent) : Prop := RoomsAt H v nb na (roomsF na nb wa hb st ld) (want wa ld) (leftF na nb wa hb st ld)
/-- one turn's left -/
theorem left_step {na nb : Nat} {wa hb : Nat → Int} {st : List Tri} {ld : List Ent} {d : Nat} (i : Nat) :
    minF (fun k => (rt nb hb (nb - 1 - d) * lv nb wa (rt nb hb) (Aof nb hb wa st ld) d k + top nb hb wa st (nb - 1 - d) k - want wa ld (nb - 1 - d) k) * wa k) i / wa i = lv nb wa (rt nb hb) (Aof nb hb wa st ld) (d + 1) i := by
  rw [lv_succ]
  have e : (fun k => (rt nb hb (nb - 1 - d) * lv nb wa (rt nb hb) (Aof nb hb wa st ld) d k + top nb hb wa st (nb - 1 - d) k - want wa ld (nb - 1 - d) k) * wa k) = fun k => spr nb wa (rt nb hb) (Aof nb hb wa st ld) d k * wa k := by
    funext k
    congr 1
    show _ = rt nb hb (nb - 1 - d) * lv nb wa (rt nb hb) (Aof nb hb wa st ld) d k + (top nb hb wa st (nb - 1 - d) k - want wa ld (nb - 1 - d) k)
    omega
  rw [e]
section
variable {P : Program} {w : World} {K : PySem.W.Frag} {mg : Str → Option Value} {base : Heap}
def sp_room_rows : Sp := fun vs H Q _ => ∃ (L S M : Addr) (p q : Nat) (wf hf : Nat → Int) (st : List Tri) (ld : List Ent) (up : Bool), vs = [.ref L, .ref S, .ref M, wayV up] ∧ ListsAt H L (tab p wf) (tab q hf) ∧ Row p wf ∧ Row q hf ∧ StockAt H S st ∧ InS st ∧ LotAt H M ld ∧ InL p q ld ∧
  ∀ H' r xs, Same H H' → H' r = some (.lst xs) → xs.length = sel up q p → (∀ b, b < sel up q p → ∃ x, xs[b]? = some x ∧ RowAt H' x (sel up p q) (roomsF (sel up p q) (sel up q p) (sel up wf hf) (sel up hf wf) (stU up st) (ldU up ld) b) (want (sel up wf hf) (ldU up ld) b)
    (leftF (sel up p q) (sel up q p) (sel up wf hf) (sel up hf wf) (stU up st) (ldU up ld) b)) → Q (.ref r) H'
theorem ok_room_rows (T : Txt mg) (D : Df K mg "room_rows" sroom_rows ["lists", "stock", "lot", "way"]) (c_sides_of : Cal P w K mg base CX0 1 "sides_of" ["lists", "way"] sp_sides_of)
    (c_top_sums : Cal P w K mg base CX0 5 "top_sums" ["lists", "stock", "way"] sp_top_sums) (c_wants_row : Cal P w K mg base CX0 2 "wants_row" ["lists", "lot", "way", "b"] sp_wants_row) :
    FnOk P w K mg base CX0 6 D.f D.fd ["lists", "stock", "lot", "way"] sp_room_rows := by
  refine D.F.ok Sroom_rows (fun vs H Q E h => ?_) (fun cdv A outer s H vs Q E hr h => ?_)
  · obtain ⟨L, S, M, p, q, wf, hf, st, ld, up, rfl, _⟩ := h
    rfl
  · obtain ⟨L, S, M, p, q, wf, hf, st, ld, up, rfl, hL, R, T', hS, iS, hM, iL, k⟩ := h
    refine ⟨_, (pss_cons (ps_asg (pe_call c_sides_of.ok (hr.mono (by decide)) (by rfl) c_sides_of.g c_sides_of.kp c_sides_of.b .nil pass0 (pa_cons (pv 0) (pa_cons (pv 3) pa_nil))) (pg_tup (by rfl) (pgs_cons (pg_name (i := 4) Sroom_rows.nd rfl (Or.inr rfl)) (pgs_cons (pg_name (i := 5) Sroom_rows.nd rfl (Or.inl rfl)) pgs_nil))))
      (pss_cons (ps_set (i := 6) Sroom_rows.nd rfl (Or.inr rfl) (pe_call c_top_sums.ok (hr.mono (by decide)) (by rfl) c_top_sums.g c_top_sums.kp c_top_sums.b .nil pass0 (pa_cons (pv 0) (pa_cons (pv 1) (pa_cons (pv 3) pa_nil)))))
      (pss_cons (ps_set (i := 7) Sroom_rows.nd rfl (Or.inl rfl) (pe_lst pa_nil))
      (pss_cons (ps_set (i := 8) Sroom_rows.nd rfl (Or.inr rfl) (pe_op op_rep (pe_lst (pa_cons pe_int pa_nil)) (pe_callB call_len_seq (by rfl) T.len_ (by decide +kernel) (pa_cons (pv 4) pa_nil))))
      (pss_cons (ps_set (i := 9) Sroom_rows.nd rfl (Or.inr rfl) pe_int)
      (pss_cons (ps_for PassesOwn.never rfl (pi_revR (by rfl) T.reversed_ (prg_1 (by rfl) T.range_ (pe_callB call_len_seq (by rfl) T.len_ (by decide +kernel) (pa_cons (pv 5) pa_nil)))) (pg_name (i := 10) Sroom_rows.nd rfl (Or.inr rfl)) (pss_cons (ps_if (pt_cmpR op_lt (pe_op op_add (pv 10) pe_int) (pe_callB call_len_seq (by rfl) T.len_ (by decide +kernel) (pa_cons (pv 5) pa_nil)) (nomark _)) (pss_one (ps_set (i := 9) Sroom_rows.nd rfl (Or.inr rfl) (pe_op op_fdiv (pe_ix ix_tup (pv 5) (pe_op op_add (pv 10) pe_int) (fun _ _ => rfl)) (pe_ix ix_tup (pv 5) (pv 10) (fun _ _ => rfl))))) pss_nil)
      (pss_cons (ps_set (i := 11) Sroom_rows.nd rfl (Or.inr rfl) (pe_lc (own := [("i", 14)]) rfl Sroom_rows.nd (pi_range1 (by rfl) T.range_ (pa_cons (pe_callB call_len_seq (by rfl) T.len_ (by decide +kernel) (pa_cons (pv 4) pa_nil)) pa_nil)) (blkOk_by (N := nroom_rows) (sc := defScope sroom_rows) (by decide +kernel)) (fun _ _ _ _ _ => pg_name (i := 14) Sroom_rows.nd rfl (Or.inl rfl)) (fun _ _ _ _ _ => pts_nil) (fun _ _ _ _ _ => (pe_op op_add (pe_op op_mul (pv 9) (pe_ix (ixl_K (K := K) rfl) (pv 8) (pv 14) (fun _ _ => rfl))) (pe_ix (ixl_K (K := K) rfl) (pe_ix (ixl_K (K := K) rfl) (pv 6) (pv 10) (fun _ _ => rfl)) (pv 14) (fun _ _ => rfl))))))
      (pss_cons (ps_set (i := 12) Sroom_rows.nd rfl (Or.inr rfl) (pe_call c_wants_row.ok (hr.mono (by decide)) (by rfl) c_wants_row.g c_wants_row.kp c_wants_row.b .nil pass0 (pa_cons (pv 0) (pa_cons (pv 2) (pa_cons (pv 3) (pa_cons (pv 10) pa_nil))))))
      (pss_cons (ps_set (i := 13) Sroom_rows.nd rfl (Or.inr rfl) (pe_lc (own := [("i", 14)]) rfl Sroom_rows.nd (pi_range1 (by rfl) T.range_ (pa_cons (pe_callB call_len_seq (by rfl) T.len_ (by decide +kernel) (pa_cons (pv 4) pa_nil)) pa_nil)) (blkOk_by (N := nroom_rows) (sc := defScope sroom_rows) (by decide +kernel)) (fun _ _ _ _ _ => pg_name (i := 14) Sroom_rows.nd rfl (Or.inl rfl)) (fun _ _ _ _ _ => pts_nil) (fun _ _ _ _ _ => (pe_op op_mul (pe_op op_sub (pe_ix (ixl_K (K := K) rfl) (pv 11) (pv 14) (fun _ _ => rfl)) (pe_ix (ixl_K (K := K) rfl) (pv 12) (pv 14) (fun _ _ => rfl))) (pe_ix (ixt_K (K := K) rfl) (pv 4) (pv 14) (fun _ _ => rfl))))))
      (pss_cons (ps_set (i := 8) Sroom_rows.nd rfl (Or.inr rfl) (pe_lc (own := [("i", 14)]) rfl Sroom_rows.nd (pi_range1 (by rfl) T.range_ (pa_cons (pe_callB call_len_seq (by rfl) T.len_ (by decide +kernel) (pa_cons (pv 4) pa_nil)) pa_nil)) (blkOk_by (N := nroom_rows) (sc := defScope sroom_rows) (by decide +kernel)) (fun _ _ _ _ _ => pg_name (i := 14) Sroom_rows.nd rfl (Or.inl rfl)) (fun _ _ _ _ _ => pts_nil) (fun _ _ _ _ _ => (pe_op op_fdiv (pe_callB (min_K (K := K) rfl rfl) (by rfl) T.min_ (by decide +kernel) (pa_cons (pe_slice (sll_K (K := K) rfl) (pv 13) po_none (po_some (pe_op op_add (pv 14) pe_int))) pa_nil)) (pe_ix (ixt_K (K := K) rfl) (pv 4) (pv 14) (fun _ _ => rfl))))))
      (pss_one (ps_expr (pe_bm PySem.F.plainAttrs_list PySem.F.slot_list_append PySem.F.type_list_append mt_append (pv 7) (pa_cons (pe_tup (pa_cons (pe_callTy call_tuple_of (by rfl) T.tuple_ (by decide +kernel) (pa_cons (pv 11) pa_nil)) (pa_cons (pe_callTy call_tuple_of (by rfl) T.tuple_ (by decide +kernel) (pa_cons (pv 12) pa_nil)) (pa_cons (pe_callTy call_tuple_of (by rfl) T.tuple_ (by decide +kernel) (pa_cons (pv 8) pa_nil)) pa_nil)))) pa_nil))))))))))
      (pss_cons (ps_expr (pe_bm0 PySem.F.plainAttrs_list PySem.F.slot_list_reverse PySem.F.type_list_reverse mt_reverse (pv 7)))
      (pss_one (ps_ret (pv 7)))))))))), ?_⟩
    obtain ⟨lw, lh, hL0, hw, hh⟩ := id hL
    refine ⟨_, rfl, _, rfl, L, .ref lw, .ref lh, up, rfl, hL0, fun H1 t s1 ht => ?_⟩
    rw [selL, sel_ref, sel_ref] at ht
    refine ⟨t, _, rfl, SqT.of ht, rfl, _, _, rfl, _, _, rfl, rfl, ?_⟩
    have Ra := R.sel T' up
    have Rb := T'.sel R up
    have ha0 : H (sel up lw lh) = some (.tup (tab (sel up p q) (sel up wf hf))) := by rw [← sel_tab]; exact sel_at hw hh up
    have hb0 : H (sel up lh lw) = some (.tup (tab (sel up q p) (sel up hf wf))) := by rw [← sel_tab]; exact sel_at hh hw up
    generalize hla : sel up lw lh = la at ha0 ⊢
    generalize hlb : sel up lh lw = lb at hb0 ⊢
    have iLU : InL (sel up p q) (sel up q p) (ldU up ld) := by
      cases up
      · exact iL.turn
      · exact iL
    -- tops
    refine ⟨_, rfl, _, rfl, _, rfl, L, S, p, q, wf, hf, st, up, rfl, hL.same s1, R, T', hS.same s1, iS, fun H2 tp rs s2 g => ?_⟩
    have s12 := s1.trans s2
    generalize hna : sel up p q = na at Ra Rb ha0 hb0 g k iLU ⊢
    generalize hnb : sel up q p = nb at Ra Rb ha0 hb0 g k iLU ⊢
    generalize hwa : sel up wf hf = wa at Ra Rb ha0 hb0 g k ⊢
    generalize hhb : sel up hf wf = hb at Ra Rb ha0 hb0 g k ⊢
    have hle := Ra.le
    have hle2 := Rb.le
    -- found, left, ratio
    refine ⟨Nat.zero_le _, fun fnd nf => ?_⟩
    have s3 : Same H2 (upd H2 fnd (.lst [])) := Same.new nf
    refine ⟨(show 1 ≤ sizeLine by decide), fun p1 np1 => ?_⟩
    have s4 : Same (upd H2 fnd (.lst [])) (upd (upd H2 fnd (.lst [])) p1 (.lst [V.int 0])) := Same.new np1
    refine ⟨_, rfl, la, _, rfl, .inr (SqT.of (s4 _ _ (s3 _ _ (s12 _ _ ha0)))), p1, _, [V.int 0], rfl, rfl, upd_same, ?_, ?_, ?_, fun lf0 np2 => ?_⟩
    · rw [tab_len]; omega
    · rw [tab_len]; omega
    · rw [tab_len, Int.toNat_natCast]
      show 1 * na ≤ sizeLine
      rw [sizeLine_eq]
      omega
    rw [tab_len, Int.toNat_natCast, tab_rep]
    have s5 : Same (upd (upd H2 fnd (.lst [])) p1 (.lst [V.int 0])) (upd (upd (upd H2 fnd (.lst [])) p1 (.lst [V.int 0])) lf0 (.lst (tab na fun _ => 0))) := Same.new np2
    have hf0 : (upd (upd (upd H2 fnd (.lst [])) p1 (.lst [V.int 0])) lf0 (.lst (tab na fun _ => 0))) fnd = some (.lst []) := s5 _ _ (s4 _ _ upd_same)
    have nlf : lf0 ≠ fnd := Ne.symm (ne_of_none (s4 _ _ upd_same) np2)
    -- for b in reversed(range(len(above)))
    refine ⟨_, rfl, lb, _, rfl, .inr (SqT.of (s5 _ _ (s4 _ _ (s3 _ _ (s12 _ _ hb0))))), _, rfl, by omega, by omega, by rw [tab_len]; omega, by rw [tab_len]; omega, ?_⟩
    rw [tab_len]
    refine for_rangeC (n := ((nb : Int) - 0).toNat) (fun d σ H' => Same H2 H' ∧ (∃ xs, H' fnd = some (.lst xs) ∧ xs.length = d ∧ ∀ j, j < d → ∃ x, xs[j]? = some x ∧ RowAt H' x na (roomsF na nb wa hb (stU up st) (ldU up ld) (nb - 1 - j)) (want wa (ldU up ld) (nb - 1 - j)) (leftF na nb wa hb (stU up st) (ldU up ld) (nb - 1 - j))) ∧
      ∃ (lfA : Addr) (rat : Int) (a10 a11 a12 a13 a14 : Option V), H' lfA = some (.lst (tab na (lv nb wa (rt nb hb) (Aof nb hb wa (stU up st) (ldU up ld)) d))) ∧ lfA ≠ fnd ∧ (d = 0 → rat = 0) ∧
        σ = [some (.ref L), some (.ref S), some (.ref M), some (wayV up), some (.ref la), some (.ref lb), some (.ref tp), some (.ref fnd), some (.ref lfA), some (.int rat), a10, a11, a12, a13, a14])
      ⟨(s3.trans s4).trans s5, ⟨[], hf0, rfl, fun j h => absurd h (Nat.not_lt_zero j)⟩, lf0, 0, none, none, none, none, none, upd_same, nlf, fun _ => rfl, rfl⟩ ?_ ?_
    · rintro d σ H3 hd ⟨s6, ⟨xs, hfx, hxl, hxs⟩, lfA, rat, a10, a11, a12, a13, a14, hlf, hne, hrat, rfl⟩
      have hd' : d < nb := by omega
      have eb : (0 + ((((nb : Nat) : Int) - 0).toNat : Int) - 1 + (d : Nat) * -1) = ((nb - 1 - d : Nat) : Int) := by omega
      rw [eb]
      have s26 := s12.trans s6
      have hb1 : nb - 1 - d < nb := by omega
      refine ⟨_, rfl, _, _, rfl, rfl, _, rfl, lb, _, rfl, .inr (SqT.of (s26 _ _ hb0)), _, _, rfl, rfl, _, rfl, ?_⟩
      rw [tab_len]
      refine ite2 (fun e => ?_) (fun e => ?_)
      have e1 : nb - 1 - d + 1 < nb := by have := of_decide_eq_true e; omega
      refine ⟨_, rfl, _, rfl, _, _, rfl, rfl, lb, _, _, _, rfl, rfl, SqT.of (s26 _ _ hb0), atI_nat (j := nb - 1 - d + 1) (tab_get e1), _, rfl, _, rfl, lb, _, _, _, rfl, rfl, SqT.of (s26 _ _ hb0), atI_nat (tab_get hb1), _, _, rfl, rfl, cdiv Rb hb1, ?_⟩
      have er : hb (nb - 1 - d + 1) / hb (nb - 1 - d) = rt nb hb (nb - 1 - d) := by unfold rt; rw [if_pos e1]
      dsimp only
      rw [er]
      rotate_left
      have e2 : ¬ nb - 1 - d + 1 < nb := fun z => e (decide_eq_true (by omega))
      have er : rat = rt nb hb (nb - 1 - d) := by
        unfold rt
        rw [if_neg e2]
        exact hrat (by omega)
      rw [er]
      all_goals (
        -- rooms
        dsimp only [gName, tNext]
        refine seq_asg (lc_tab (n := na) (f := roomsF na nb wa hb (stU up st) (ldU up ld) (nb - 1 - d)) (by omega) (fun R k => ⟨_, rfl, la, _, rfl, .inr (SqT.of (s26 _ _ ha0)), by rw [tab_len]; exact k⟩) (fun i D' H' Q' hi sm hD kq => ?_) (fun Dr H4 nDr sr hDr => ?_) (fun _ => rfl))
        · refine ⟨_, rfl, _, rfl, _, rfl, lfA, _, _, _, rfl, rfl, SqL.of (sm _ _ hlf), atI_nat (tab_get hi), _, _, rfl, rfl, .inl ⟨by have := (rt_bd Rb (nb - 1 - d)).1; omega, by have := (rt_bd Rb (nb - 1 - d)).2; omega⟩, ?_⟩
          refine ⟨_, rfl, _, rfl, tp, _, _, _, rfl, rfl, SqL.of (sm _ _ (s6 _ _ g.ls)), atI_nat (refs_get hb1), _, rfl, rs (nb - 1 - d), _, _, _, rfl, rfl, SqL.of (sm _ _ (s6 _ _ (g.row _ hb1))), atI_nat (tab_get hi), _, _, rfl, rfl, ?_⟩
          have e3 : nb - 1 - (nb - 1 - d) = d := by omega
          have e4 := kq H' (Same.refl H')
          unfold roomsF at e4
          rw [e3] at e4
          exact e4
        -- wants
        refine ⟨_, rfl, _, rfl, _, rfl, _, rfl, L, M, p, q, wf, hf, ld, up, nb - 1 - d, rfl, (hL.same s26).same sr, R, T', (hM.same s26).same sr, iL, fun H5 wr s5' hwr => ?_⟩
        rw [hna, hwa] at hwr
        have s46 := sr.trans s5'
        -- spare
        dsimp only [gName, tNext]
        refine seq_asg (lc_tab (n := na) (f := fun i => (roomsF na nb wa hb (stU up st) (ldU up ld) (nb - 1 - d) i - want wa (ldU up ld) (nb - 1 - d) i) * wa i) (by omega) (fun R k => ⟨_, rfl, la, _, rfl, .inr (SqT.of (s46 _ _ (s26 _ _ ha0))), by rw [tab_len]; exact k⟩) (fun i D' H' Q' hi sm hD kq => ?_) (fun Dp H6 nDp sp6 hDp => ?_) (fun _ => rfl))
        · refine ⟨_, rfl, _, rfl, Dr, _, _, _, rfl, rfl, SqL.of (sm _ _ (s5' _ _ hDr)), atI_nat (tab_get hi), _, rfl, _, rfl, wr, _, _, _, rfl, rfl, SqL.of (sm _ _ hwr), atI_nat (tab_get hi), _, _, rfl, rfl, ?_⟩
          refine ⟨_, rfl, _, rfl, la, _, _, _, rfl, rfl, SqT.of (sm _ _ (s46 _ _ (s26 _ _ ha0))), atI_nat (tab_get hi), _, _, rfl, rfl, .inr ⟨by have := Ra.one i hi; omega, by have := Ra.big i hi; omega⟩, ?_⟩
          exact kq H' (Same.refl H')
        -- left
        dsimp only [gName, tNext]
        refine seq_asg (lc_tab (n := na) (f := lv nb wa (rt nb hb) (Aof nb hb wa (stU up st) (ldU up ld)) (d + 1)) (by omega) (fun R k => ⟨_, rfl, la, _, rfl, .inr (SqT.of (sp6 _ _ (s46 _ _ (s26 _ _ ha0)))), by rw [tab_len]; exact k⟩) (fun i D' H' Q' hi sm hD kq => ?_) (fun Dl H7 nDl sl7 hDl => ?_) (fun _ => rfl))
        · refine ⟨_, rfl, _, rfl, _, _, rfl, rfl, _, rfl, Dp, _, rfl, SqL.of (sm _ _ hDp), fun pc npc => ?_⟩
          rw [cut_tab hi, tab_ints]
          refine ⟨pc, _, rfl, SqL.of upd_same, ?_, fun m hm1 hm2 => ?_⟩
          · rw [List.length_map, List.length_range]
            exact Nat.succ_pos i
          · have em := minF_of rfl hm1 hm2
            subst em
            have s8 : ∀ o, Same H' (upd H' pc o) := fun o => Same.new npc
            refine ⟨_, rfl, _, rfl, la, _, _, _, rfl, rfl, SqT.of (s8 _ _ _ (sm _ _ (sp6 _ _ (s46 _ _ (s26 _ _ ha0))))), atI_nat (tab_get hi), _, _, rfl, rfl, cdiv Ra hi, ?_⟩
            have e3 : nb - 1 - (nb - 1 - d) = d := by omega
            have e4 := left_step (na := na) (nb := nb) (wa := wa) (hb := hb) (st := stU up st) (ld := ldU up ld) (d := d) i
            rw [← e4] at kq
            unfold roomsF
            rw [e3]
            exact kq _ (s8 _)
        -- found
        have s67 := sp6.trans sl7
        have hfd := s67 _ _ (s46 _ _ hfx)
        refine ⟨_, rfl, .inl ⟨rfl, _, SqL.of hfd⟩, _, rfl, Dr, _, rfl, .inl ⟨SqL.of (s67 _ _ (s5' _ _ hDr)), fun t1 n1 => ?_⟩⟩
        have s71 : ∀ o, Same H7 (upd H7 t1 o) := fun o => Same.new n1
        refine ⟨_, rfl, wr, _, rfl, .inl ⟨SqL.of (s71 _ _ _ (s67 _ _ hwr)), fun t2 n2 => ?_⟩⟩
        have s72 := (s71 _).trans (Same.new (o := .tup (tab na (want wa (ldU up ld) (nb - 1 - d)))) n2)
        refine ⟨_, rfl, Dl, _, rfl, .inl ⟨SqL.of (s72 _ _ hDl), fun t3 n3 => ?_⟩⟩
        have n3' := Same.new (o := .tup (tab na (lv nb wa (rt nb hb) (Aof nb hb wa (stU up st) (ldU up ld)) (d + 1)))) n3
        have s73 := s72.trans n3'
        refine ⟨(show 3 ≤ sizeLine by decide), fun t4 n4 => ?_⟩
        have n4' := Same.new (o := .tup [V.ref t1, V.ref t2, V.ref t3]) n4
        have s74 := s73.trans n4'
        refine ⟨fnd, xs, _, rfl, rfl, s74 _ _ hfd, small1000 (by omega), ?_⟩
        have hall : Same H3 _ := (s46.trans s67).trans s74
        have hnew : RowAt (upd (upd (upd (upd H7 t1 (.tup (tab na (roomsF na nb wa hb (stU up st) (ldU up ld) (nb - 1 - d))))) t2 (.tup (tab na (want wa (ldU up ld) (nb - 1 - d))))) t3 (.tup (tab na (lv nb wa (rt nb hb) (Aof nb hb wa (stU up st) (ldU up ld)) (d + 1))))) t4 (.tup [V.ref t1, V.ref t2, V.ref t3])) (.ref t4) na (roomsF na nb wa hb (stU up st) (ldU up ld) (nb - 1 - d)) (want wa (ldU up ld) (nb - 1 - d)) (leftF na nb wa hb (stU up st) (ldU up ld) (nb - 1 - d)) := by
          refine ⟨t4, t1, t2, t3, rfl, upd_same, n4' _ _ (n3' _ _ (Same.new n2 _ _ upd_same)), n4' _ _ (n3' _ _ upd_same), n4' _ _ ?_⟩
          rw [upd_same]
          congr 2
          apply tab_congr
          intro i _
          unfold leftF
          rw [show nb - (nb - 1 - d) = d + 1 by omega]
        refine ⟨(s6.trans hall).put nf, ⟨xs ++ [.ref t4], upd_same, by rw [List.length_append, hxl]; rfl, fun j hj => ?_⟩, Dl, _, _, _, _, _, _, ?_, ?_, fun z => absurd z (Nat.succ_ne_zero d), rfl⟩
        · by_cases ej : j = d
          · subst ej
            exact ⟨.ref t4, by rw [List.getElem?_append_right (by omega), hxl, Nat.sub_self]; rfl, hnew.put (s74 _ _ hfd)⟩
          · obtain ⟨x, hx, r⟩ := hxs j (by omega)
            exact ⟨x, by rw [List.getElem?_append_left (by omega)]; exact hx, (r.same hall).put (s74 _ _ hfd)⟩
        · have nD := ne_of_none (sp6 _ _ (s46 _ _ hfx)) nDl
          rw [upd_ne (Ne.symm nD)]
          exact s74 _ _ hDl
        · exact Ne.symm (ne_of_none (sp6 _ _ (s46 _ _ hfx)) nDl))
    · rintro σ H3 ⟨s6, ⟨xs, hfx, hxl, hxs⟩, lfA, rat, a10, a11, a12, a13, a14, hlf, hne, hrat, rfl⟩
      have en : ((nb : Int) - 0).toNat = nb := by omega
      rw [en] at hxl hxs
      refine ⟨_, rfl, .inl ⟨rfl, _, SqL.of hfx⟩, fnd, xs, rfl, rfl, hfx, ?_⟩
      refine ⟨_, rfl, k _ fnd xs.reverse ((s12.trans s6).put (s12.free nf)) upd_same (by rw [List.length_reverse, hxl]) fun b hb' => ?_⟩
      obtain ⟨x, hx, r⟩ := hxs (nb - 1 - b) (by omega)
      have e1 : nb - 1 - (nb - 1 - b) = b := by omega
      rw [e1] at r
      refine ⟨x, ?_, r.put hfx⟩
      rw [List.getElem?_reverse (by omega), hxl]
      exact hx
end
end K12


set_option Elab.async false
set_option linter.all false
set_option maxRecDepth 100000
set_option maxHeartbeats 2000000
namespace K12
open PySem PySem.Spec PyProof.Rows L2
/-! ### an own error with two fields, raised where nothing is handled -/
abbrev CXN (P : Program) (w : World) : CXT := L2N.CX P w
theorem passN {X : Cx} : Passes (CXN X.prog X.w) X E0 := fun _ _ _ _ _ _ _ h => by
  obtain ⟨_, _, _, _, _, _, _, _, _, _, _, _, z⟩ := h
  exact z.elim
theorem takesN {X : Cx} : L2N.Takes X (fun _ _ _ _ => False) := fun _ _ x => by
  obtain ⟨_, _, _, _, _, _, _, _, _, _, _, _, _, _, _, _, z⟩ := x
  exact z.elim
section
variable {X : Cx} {e : Expr} {es : List Expr} {ta : TA} {p pos : Pos}
theorem pmk_own2 {x : Str} {C fI : Addr} {k : Nat} {fd : FuncData} {ps : List Str} {sp : Sp} (T : OexC X.K C) (iC : PySem.W.findIn X.K (.ref C) "__init__" = some (some (.ref fI))) (tI : PySem.W.typeIn X.K (.ref fI) = some (.type "function"))
    (F1 : FnOk X.prog X.w X.K X.mg X.base CX0 k fI fd ps sp) (hr : Room (k + 1) X.A) (hb : Binds X.K fd ps []) (hg : Gl X x) (hm : X.mg x = some (.ref C)) (ha : PA X (e :: es) ta)
    (hdb : (x == ("__debug__" : Str)) = false := by decide) (he : starEach (e :: es) X.env = (false, eval e X.env) :: starEach es X.env := by rfl) (hpl : (backTo pos (starEach es X.env)).any (·.1) = false := by rfl) :
    L2N.PMk X (.Call (.Name x p) (e :: es) [] pos) (tMkO C sp [] ta) := by
  intro pins s σ H Q I h
  obtain ⟨nm, qn, N, bs, bm, sn, sub, ab, col, dd, k0, k1, k2, k3, k5, hC, hbm⟩ := T.cls
  refine wpAny_Call_Name_kw (ld_glob I hg hm ?_ hdb)
  refine PySem.W.callWith_K (h₀ := X.base) I.ok.mod.kin T.kC (thn (ha.run pos pins s σ H _ I h) fun us s1 hh => ?_) he hpl
  obtain ⟨vs, H1, I1, r1, hz, q1⟩ := hh
  refine ⟨I1.kIn, ?_⟩
  show wpAny _ _ (call (.ref C) us) _ _ _
  obtain ⟨hp, g, dr, tk, os⟩ := s1
  have hsz : hp.objs.size ≤ hp.objs.size + 1 := Nat.le_add_right _ 1
  have hq := q1 (hp.objs.size + 1) (I1.hok.fresh hsz)
  rw [List.append_nil] at hq
  let hp2 : Heap := (hp.push (PySem.W.kdv_tup us)).push (PySem.HandSPX.excO C hp.objs.size)
  have kk : ∀ b o, hp.get? b = some o → hp2.get? b = some o := fun b o z => Heap.get?_push_of_some _ (Heap.get?_push_of_some _ z)
  have hget : hp2.get? (hp.objs.size + 1) = some (PySem.HandSPX.excO C hp.objs.size) := by
    show ((hp.push (PySem.W.kdv_tup us)).push (PySem.HandSPX.excO C hp.objs.size)).get? (hp.objs.size + 1) = _
    heap_get
  have I2 : Inv X pins σ (upd H1 (hp.objs.size + 1) (exo (hp.objs.size + 1) C none)) ⟨hp2, g, dr, tk, os⟩ :=
    I1.laid (t' := tk) (a := hp.objs.size + 1) (o := exo (hp.objs.size + 1) C none) (h' := hp2) kk hsz (exo_ok hget)
  have r2 : Vals (V.ref (hp.objs.size + 1) :: vs) (Value.ref (hp.objs.size + 1) :: us) := .cons rfl r1
  have hl : (Value.ref (hp.objs.size + 1) :: us ++ []).length = ps.length := by
    rw [List.append_nil, ← r2.length]
    exact F1.len _ _ _ _ hq
  have hus : us.length ≤ sizeLine := by
    rw [← Paired.length r1, sizeLine_eq]
    omega
  have b2 := hb _ (Value.ref (hp.objs.size + 1) :: us) I2.kIn hl
  rw [List.append_nil] at b2
  refine wpAny_call (PySem.HandSPX.call_own F.excBase_ValueError (fun Y => PySem.HandSPX.refsVE_contains Y bm hbm) (I1.kIn _ _ hC) (PySem.W.looks_findIn I1.kIn iC) (fun self => PySem.W.bind_fn I1.kIn self tI) hus
    (codeAny_mono (F1.run _ X.stack _ _ ⟨Value.ref (hp.objs.size + 1) :: us, []⟩ (Value.ref (hp.objs.size + 1) :: us) _ _ (fun _ _ _ => False) (hr.make C us []) (I2.env0.make C us []) b2 r2 hq) fun r s' hq' => ?_))
  cases r with
  | error er => exact False.elim hq'
  | ok fl =>
    cases fl with
    | ret u =>
      obtain ⟨v, H2, os2, bare2, un2, hok2, rv, ev, d, fs, ea, ed, hd1, q2⟩ := hq'
      subst ev
      obtain ⟨h2, g2, d2, t2, os'⟩ := s'
      obtain ⟨t0, G, J, kG, ge, hoe, na⟩ := mk_end0 (d2 := d2) (t2 := t2) I1 hsz kk un2 hok2 os2 bare2 ea ed hd1
      refine ⟨rv, hp.objs.size + 1, _, _, ⟨G, g2, d2, t2, os'⟩, _, .ref C, some d, rfl, J, kG, ge, hoe, ⟨rfl, rfl, fun vs hv => ?_⟩, rfl, rfl, na, rfl, bare2, raises_own T.exC T.tyC, q2⟩
      cases hv
      rfl
    | next => exact False.elim hq'
    | brk => exact False.elim hq'
    | cont => exact False.elim hq'
/-- isinstance(e, c), e the caught error, which has fields -/
def rIsD (K : PySem.W.Frag) (D a : Addr) (d : Option Addr) : List V → Hp → VK → Prop := fun xs H Q => ∃ (c : V) (cv : Value) (b : Bool) (dd : Addr) (fs : List (Str × V)), xs = [.ref a, c] ∧ ClsV c cv ∧ PySem.W.kitOne K (.ref D) cv = some b ∧ d = some dd ∧ H dd = some (.xd fs) ∧ Q (.bl b) H
theorem call_isD {a D : Addr} {d : Option Addr} {oe : Obj} {pn : List (Addr × Obj)} (C : ExcC X.K D) (hz : Zc (.ref D) d oe) (hf : ∃ vs, oe.data = .fields vs) : CallR (X.suite a ((a, oe) :: pn)) (.builtin "isinstance") (rIsD X.K D a d) := by
  intro pins s σ H xs us Q I r h
  obtain ⟨c, cv, b, dd, fs, rfl, hcv, e, rfl, hx, q⟩ := h
  obtain ⟨u1, u2, rfl, rx, rt⟩ := vals2 r
  cases rx
  have ec := hcv.eq rt
  subst ec
  obtain ⟨hget, _⟩ := I.pin (a, oe) (List.mem_append_left _ List.mem_cons_self)
  obtain ⟨vs, hv⟩ := hf
  have hxo : ObjOk X.prog X.w H s.heap dd (.xd fs) := I.hok dd _ hx
  obtain ⟨mA, hns, _⟩ := hxo
  obtain ⟨od, ho, _⟩ := lookIn_ns hns
  have J : PySem.W.InstAt s.heap a oe D (some od) := ⟨hget, hz.1, by unfold PySem.W.notCls; rw [hv] <;> rfl, by rw [hz.2]; exact ho⟩
  have hcl : (PySem.W.clsIn X.K D).isSome = true := by
    obtain ⟨cd, hc, _⟩ := PySem.W.any_some C.hd
    rw [hc]
    rfl
  exact PySem.W.kia_one (PySem.W.kitx_exc hcl C.hg C.hk C.hs C.ha C.hn C.ht C.hm) I.kIn J e (fun z => nomatch z) fun tk => ⟨.bl b, H, I.kept (t' := tk) fun _ _ z => z, rfl, q⟩
/-- f(k = v, ..): keywords alone; what is raised is wished for at the slots -/
theorem pe_callKS {CX : CXT} {k : Nat} {f : Addr} {fd : FuncData} {ps ks : List Str} {sp : Sp} {E : L2.St → XK} {x : Str} {kws : List Keyword} {tk : TA} {g : List Value → List Value → List Value} {gV : List V → List V → List V}
    (F : FnOk X.prog X.w X.K X.mg X.base CX k f fd ps sp) (hr : Room k X.A) (hg : Gl X x) (hm : X.mg x = some (.ref f)) (hk : PySem.W.keepIn X.K (.ref f) = true) (hb : KBn X.K fd ps 0 ks g gV) (hx : ∀ σ, PassesAt CX X σ (E σ)) (hkw : PK X kws tk)
    (hall : (backToKw pos (keywordEach kws X.env)).all (·.1.isSome) = true := by rfl) (hks : (backToKw pos (keywordEach kws X.env)).filterMap (·.1) = ks := by rfl) (hdb : (x == ("__debug__" : Str)) = false := by decide)
    (hpl : ((backTo pos (starEach [] X.env)).any (·.1) || (backToKw pos (keywordEach kws X.env)).any (·.1.isNone)) = false := by rfl) :
    PE X (.Call (.Name x p) [] kws pos) (fun σ H Q => tk σ H fun zs H1 => zs.length = ks.length ∧ sp (gV [] zs) H1 Q (E σ)) := by
  refine ⟨fun pins s σ H Q I h => ?_⟩
  refine wpAny_Call_Name_kw (ld_glob I hg hm ?_ hdb)
  refine PySem.W.callWith_KW0 (h₀ := X.base) I.ok.mod.kin hk hall (thn (hkw.run pos pins s σ H _ I h) fun ws s2 hh => ?_) hpl
  obtain ⟨zs, H2, I2, rz, l2, q2⟩ := hh
  refine ⟨I2.kIn, ?_⟩
  rw [hks]
  show wpAny _ _ (call (.ref f) [] (ks.zip ws)) _ _ _
  have r2 := hb.rel (vs := []) (us := []) .nil rz
  refine wpAny_call (codeAny_mono (F.run X.A X.stack s2 H2 ⟨[], ks.zip ws⟩ (g [] ws) (gV [] zs) Q (E σ) hr I2.env0 (hb.to s2 [] ws I2.kIn rfl (rz.length.symm.trans l2)) r2 q2) fun r s' hq => ?_)
  cases r with
  | error er => exact hx σ pins H2 s2 er s' I2 hq
  | ok fl =>
    cases fl with
    | ret u => exact I2.after hq
    | next => exact False.elim hq
    | brk => exact False.elim hq
    | cont => exact False.elim hq
end
/-- what the text says of the error's class -/
structure ExcN (K : PySem.W.Frag) (mg : Str → Option Value) where
  C : Addr
  CS : Addr
  CL : Addr
  CR : Addr
  fI : Addr
  fdI : FuncData
  gN : mg "NotUsable" = some (.ref C)
  gS : mg "SheetError" = some (.ref CS)
  gL : mg "LayError" = some (.ref CL)
  gR : mg "Refused" = some (.ref CR)
  T : OexC K C
  iC : PySem.W.findIn K (.ref C) "__init__" = some (some (.ref fI))
  tI : PySem.W.typeIn K (.ref fI) = some (.type "function")
  nW : PySem.W.findIn K (.ref C) "word" = some none
  nA : PySem.W.findIn K (.ref C) "at" = some none
  X : XfC K C
  E : ExcC K C
  ex : PySem.W.exmOne K (.ref C) (.ref CS) = some true
  kN : PySem.W.kitOne K (.ref C) (.ref C) = some true
  kL : PySem.W.kitOne K (.ref C) (.ref CL) = some true
  kV : PySem.W.kitOne K (.ref C) (.type "ValueError") = some true
  kR : PySem.W.kitOne K (.ref C) (.ref CR) = some false
  FI : Fun K "__init__" "NotUsable.__init__" sNotUsable_init fI fdI
  bI : Binds K fdI ["self", "word", "at"] []
section
variable {P : Program} {w : World} {K : PySem.W.Frag} {mg : Str → Option Value} {base : Heap}
def sp_init (C : Addr) : Sp := fun vs H Q _ => ∃ (a : Addr) (v1 v2 : V), vs = [.ref a, v1, v2] ∧ H a = some (exo a C none) ∧
  ∀ dx, H dx = none → dx ≠ a → Q .non (upd (upd (upd H dx (exd dx [("word", v1)])) a (exo a C (some dx))) dx (exd dx [("at", v2), ("word", v1)]))
theorem ok_init (N : ExcN K mg) : FnOk P w K mg base CX0 1 N.fI N.fdI ["self", "word", "at"] (sp_init N.C) := by
  refine N.FI.ok SNotUsable_init (fun vs H Q E h => ?_) (fun cdv A outer s H vs Q E hr h => ?_)
  · obtain ⟨a, v1, v2, rfl, _⟩ := h
    rfl
  · obtain ⟨a, v1, v2, rfl, ha, q⟩ := h
    refine ⟨_, pss_cons (ps_ost (pv 0) (pv 1)) (pss_one (ps_ost (pv 0) (pv 2))), ?_⟩
    refine ⟨_, rfl, _, rfl, a, N.C, rfl, N.T, N.nW, .inl ⟨ha, fun dx nd ne => ?_⟩⟩
    exact ⟨_, rfl, _, rfl, a, N.C, rfl, N.T, N.nA, .inr ⟨dx, _, upd_same, (upd_ne ne).trans upd_same, (by show 1 ≤ 900; decide), q dx nd ne⟩⟩
/-- a def that may raise it -/
theorem okN {x qual : Str} {st : Stmt} {f : Addr} {fd : FuncData} {N ps : List Str} {k : Nat} {sp : Sp} (F : Fun K x qual st f fd) (S : FnScope N ps (defScope st)) (len : ∀ vs H Q E, sp vs H Q E → vs.length = ps.length)
    (hbody : ∀ (cdv : Value) (A : Around) (outer : List Env) (s : Shared) (H : Hp) (vs : List V) (Q : VK) (E : XK), Room k (A.deeper (envOfC qual (defScope st) s.heap.objs.size f cdv)) → sp vs H Q E →
      ∃ t, PSs (cxOf (CXN P w) P w K mg base N qual (defScope st) f cdv A outer s H E) (defBody st) t ∧ t { nx := fun _ H' => Q .non H', rt := Q } (start N vs) H) : FnOk P w K mg base (CXN P w) (k + 1) f fd ps sp := by
  obtain ⟨oc, od, kV, doc, pm, an, cdv, ct, osl, rfl, lk, hcd⟩ := F.ex
  exact fn_of lk hcd S len fun A outer s H vs Q E hr hsp => hbody cdv A outer s H vs Q E hr hsp
/-! ### the two calls -/
def entV (u : Ent) : Option (List V) := some [.int (u.1 : Nat), .int (u.2.1 : Nat), .int u.2.2]
def AscF : Option (Int × Int) → List Ent → Prop
  | _, [] => True
  | lo, u :: r => (match lo with | none => True | some l => leP ((u.1 : Int), (u.2.1 : Int)) l = false) ∧ AscF (some ((u.1 : Int), (u.2.1 : Int))) r
theorem lot_good {p q : Nat} : ∀ {ld : List Ent} {lo : Option (Int × Int)}, InL p q ld → AscF lo ld → lotB p q lo (ld.map entV) = true
  | [], _, _, _ => rfl
  | u :: r, lo, h, ha => by
    obtain ⟨h1, h2, h3⟩ := h u List.mem_cons_self
    have ih := lot_good (fun t ht => h t (List.mem_cons_of_mem _ ht)) ha.2
    show lotB p q lo (some [.int (u.1 : Nat), .int (u.2.1 : Nat), .int u.2.2] :: r.map entV) = true
    rw [lotB_cons]
    have e1 : kindB p q (.int (u.1 : Nat)) (.int (u.2.1 : Nat)) = true := by
      unfold kindB isNumV ltV
      simp only [Bool.and_eq_true, decide_eq_true_eq]
      omega
    have e2 : isOneV (.int u.2.2) = true := decide_eq_true h3
    rw [e1, e2, Bool.true_and, Bool.true_and]
    cases lo with
    | none => exact ih
    | some l =>
      have h4 : leP (iV (.int (u.1 : Nat)), iV (.int (u.2.1 : Nat))) l = false := ha.1
      show (!leP (iV (.int (u.1 : Nat)), iV (.int (u.2.1 : Nat))) l && lotB p q (some ((u.1 : Int), (u.2.1 : Int))) (r.map entV)) = true
      rw [h4, ih]
      rfl
def BadLot (H : Hp) (v : V) (p q : Nat) : Prop := (∃ s, Kn H v s ∧ s ≠ "tuple") ∨
  ∃ (t : Addr) (es : List V) (ds : List (Option (List V))), v = .ref t ∧ H t = some (.tup es) ∧ es.length = ds.length ∧ (∀ (i : Nat) e d, es[i]? = some e → ds[i]? = some d → EnV H e d) ∧ lotB p q none ds = false
def sp_rooms (up : Bool) (C : Addr) : Sp := fun vs H Q E => ∃ (L S : Addr) (v : V), vs = [.ref L, .ref S, v] ∧
  ((∃ (M : Addr) (p q : Nat) (wf hf : Nat → Int) (st : List Tri) (ld : List Ent), v = .ref M ∧ ListsAt H L (tab p wf) (tab q hf) ∧ Row p wf ∧ Row q hf ∧ StockAt H S st ∧ InS st ∧ LotAt H M ld ∧ InL p q ld ∧ AscF none ld ∧
      ∀ H' v', Same H H' → RoomsL H' v' (sel up p q) (sel up q p) (sel up wf hf) (sel up hf wf) (stU up st) (ldU up ld) → Q v' H') ∨
    ∃ (ws hs : List V), ListsAt H L ws hs ∧ BadLot H v ws.length hs.length ∧ ∀ H' d, Same H H' → H' d = some (.xd [("at", .int (-1)), ("word", .str "lot")]) → E (.ref C) (some d) H')
theorem lot_env {H : Hp} {M : Addr} {ld : List Ent} {mvs : List V} (h : RowsAt H M (entI ld) mvs) (i : Nat) (e : V) (d : Option (List V)) (he : mvs[i]? = some e) (hd : (ld.map entV)[i]? = some d) : EnV H e d := by
  obtain ⟨t, a, h1, rfl, h3⟩ := h.nth he
  obtain ⟨u, hu, rfl⟩ := entI_nth h1
  rw [List.getElem?_map, hu] at hd
  cases hd
  refine .tup h3 fun x hx => ?_
  have : ∃ i : Int, x = .int i := by
    rcases List.mem_cons.mp hx with z | hx
    · exact ⟨_, z⟩
    · rcases List.mem_cons.mp hx with z | hx
      · exact ⟨_, z⟩
      · exact ⟨_, List.mem_singleton.mp hx⟩
  obtain ⟨i, rfl⟩ := this
  exact ⟨_, .int i⟩
theorem ok_rooms_by_heights (T : Txt mg) (N : ExcN K mg) (D : Df K mg "rooms_by_heights" srooms_by_heights ["lists", "stock", "lot"]) (c_is_lot : Cal P w K mg base CX0 4 "is_lot" ["lists", "thing"] sp_is_lot)
    (c_room_rows : Cal P w K mg base CX0 6 "room_rows" ["lists", "stock", "lot", "way"] sp_room_rows) : FnOk P w K mg base (CXN P w) 7 D.f D.fd ["lists", "stock", "lot"] (sp_rooms true N.C) := by
  refine okN D.F Srooms_by_heights (fun vs H Q E h => ?_) (fun cdv A outer s H vs Q E hr h => ?_)
  · obtain ⟨L, S, v, rfl, _⟩ := h
    rfl
  · obtain ⟨L, S, v, rfl, h⟩ := h
    refine ⟨_, (pss_cons (ps_if (pt_not (pt_val (pe_call c_is_lot.ok (hr.mono (by decide)) (by rfl) c_is_lot.g c_is_lot.kp c_is_lot.b .nil pass0 (pa_cons (pv 0) (pa_cons (pv 2) pa_nil))))) (pss_one (L2N.ps_raise rfl (L2N.takes_of rfl rfl rfl rfl) (pmk_own2 N.T N.iC N.tI (ok_init N) (hr.mono (by decide)) N.bI (by rfl) N.gN (pa_cons pe_str (pa_cons (pe_un un_neg pe_int) pa_nil))))) pss_nil)
      (pss_one (ps_ret (pe_callTy call_tuple_of (by rfl) T.tuple_ (by decide +kernel) (pa_cons (pe_call c_room_rows.ok (hr.mono (by decide)) (by rfl) c_room_rows.g c_room_rows.kp c_room_rows.b .nil pass0 (pa_cons (pv 0) (pa_cons (pv 1) (pa_cons (pv 2) (pa_cons pe_str pa_nil))))) pa_nil))))), ?_⟩
    rcases h with ⟨M, p, q, wf, hf, st, ld, rfl, hL, R, T', hS, iS, hM, iL, asc, k⟩ | ⟨ws, hs, hL, hB, k⟩
    · obtain ⟨mvs, hM0⟩ := id hM
      refine ⟨_, rfl, _, rfl, L, tab p wf, tab q hf, .ref M, rfl, hL, .inr ⟨M, mvs, ld.map entV, rfl, hM0.at_, by rw [hM0.len, List.length_map]; exact List.length_map _, lot_env hM0, fun H1 s1 => ?_⟩⟩
      rw [tab_len, tab_len, lot_good iL asc]
      refine ⟨_, rfl, ?_⟩
      refine ⟨_, rfl, _, rfl, _, rfl, L, S, M, p, q, wf, hf, st, ld, true, rfl, hL.same s1, R, T', hS.same s1, iS, hM.same s1, iL, fun H2 r xs s2 hr2 hlen hx => ?_⟩
      exact ⟨r, xs, rfl, .inl ⟨SqL.of hr2, fun t nt => k _ _ ((s1.trans s2).trans (Same.new nt)) ⟨t, xs, rfl, upd_same, hlen, fun b hb => let ⟨x, h1, h2⟩ := hx b hb; ⟨x, h1, h2.same (Same.new nt)⟩⟩⟩⟩
    · have fin : ∀ H1, Same H H1 → ∀ a, H1 a = none → sp_init N.C (.ref a :: ([V.str "lot", V.int (-1)] ++ [])) (upd H1 a (exo a N.C none)) (fun v H2 => v = .non ∧ ∃ (d : Addr) (fs : List (Str × V)), H2 a = some (exo a N.C (some d)) ∧ H2 d = some (exd d fs) ∧ H1 d = none ∧ E (.ref N.C) (some d) (upd (del H2 a) d (.xd fs))) (fun _ _ _ => False) := fun H1 s1 a na => by
        refine ⟨a, .str "lot", .int (-1), rfl, upd_same, fun dx nd ne => ⟨rfl, dx, _, ?_, upd_same, ?_, k _ dx (fun b o e => ?_) upd_same⟩⟩
        · rw [upd_ne (Ne.symm ne), upd_same]
        · rw [upd_ne ne] at nd
          exact nd
        · have e1 := s1 _ _ e
          have nb : b ≠ a := fun z => by rw [z, na] at e1; cases e1
          have nd0 : H1 dx = none := by rw [upd_ne ne] at nd; exact nd
          have nbd : b ≠ dx := fun z => by rw [z, nd0] at e1; cases e1
          rw [upd_ne nbd, del_ne nb, upd_ne nbd, upd_ne nb, upd_ne nbd, upd_ne nb]
          exact e1
      rcases hB with ⟨s, kn, hs'⟩ | ⟨t, es, ds, rfl, ht, hlen, hen, hb⟩
      · refine ⟨_, rfl, _, rfl, L, ws, hs, v, rfl, hL, .inl ⟨s, kn, hs', _, rfl, ?_⟩⟩
        exact ⟨_, rfl, (by show 2 ≤ 1000; decide), fin H (Same.refl H)⟩
      · refine ⟨_, rfl, _, rfl, L, ws, hs, _, rfl, hL, .inr ⟨t, es, ds, rfl, ht, hlen, hen, fun H1 s1 => ?_⟩⟩
        rw [hb]
        exact ⟨_, rfl, _, rfl, (by show 2 ≤ 1000; decide), fin H1 s1⟩
theorem ok_rooms_by_widths (T : Txt mg) (N : ExcN K mg) (D : Df K mg "rooms_by_widths" srooms_by_widths ["lists", "stock", "lot"]) (c_is_lot : Cal P w K mg base CX0 4 "is_lot" ["lists", "thing"] sp_is_lot)
    (c_room_rows : Cal P w K mg base CX0 6 "room_rows" ["lists", "stock", "lot", "way"] sp_room_rows) : FnOk P w K mg base (CXN P w) 7 D.f D.fd ["lists", "stock", "lot"] (sp_rooms false N.C) := by
  refine okN D.F Srooms_by_widths (fun vs H Q E h => ?_) (fun cdv A outer s H vs Q E hr h => ?_)
  · obtain ⟨L, S, v, rfl, _⟩ := h
    rfl
  · obtain ⟨L, S, v, rfl, h⟩ := h
    refine ⟨_, (pss_cons (ps_if (pt_not (pt_val (pe_call c_is_lot.ok (hr.mono (by decide)) (by rfl) c_is_lot.g c_is_lot.kp c_is_lot.b .nil pass0 (pa_cons (pv 0) (pa_cons (pv 2) pa_nil))))) (pss_one (L2N.ps_raise rfl (L2N.takes_of rfl rfl rfl rfl) (pmk_own2 N.T N.iC N.tI (ok_init N) (hr.mono (by decide)) N.bI (by rfl) N.gN (pa_cons pe_str (pa_cons (pe_un un_neg pe_int) pa_nil))))) pss_nil)
      (pss_one (ps_ret (pe_callTy call_tuple_of (by rfl) T.tuple_ (by decide +kernel) (pa_cons (pe_call c_room_rows.ok (hr.mono (by decide)) (by rfl) c_room_rows.g c_room_rows.kp c_room_rows.b .nil pass0 (pa_cons (pv 0) (pa_cons (pv 1) (pa_cons (pv 2) (pa_cons pe_str pa_nil))))) pa_nil))))), ?_⟩
    rcases h with ⟨M, p, q, wf, hf, st, ld, rfl, hL, R, T', hS, iS, hM, iL, asc, k⟩ | ⟨ws, hs, hL, hB, k⟩
    · obtain ⟨mvs, hM0⟩ := id hM
      refine ⟨_, rfl, _, rfl, L, tab p wf, tab q hf, .ref M, rfl, hL, .inr ⟨M, mvs, ld.map entV, rfl, hM0.at_, by rw [hM0.len, List.length_map]; exact List.length_map _, lot_env hM0, fun H1 s1 => ?_⟩⟩
      rw [tab_len, tab_len, lot_good iL asc]
      refine ⟨_, rfl, ?_⟩
      refine ⟨_, rfl, _, rfl, _, rfl, L, S, M, p, q, wf, hf, st, ld, false, rfl, hL.same s1, R, T', hS.same s1, iS, hM.same s1, iL, fun H2 r xs s2 hr2 hlen hx => ?_⟩
      exact ⟨r, xs, rfl, .inl ⟨SqL.of hr2, fun t nt => k _ _ ((s1.trans s2).trans (Same.new nt)) ⟨t, xs, rfl, upd_same, hlen, fun b hb => let ⟨x, h1, h2⟩ := hx b hb; ⟨x, h1, h2.same (Same.new nt)⟩⟩⟩⟩
    · have fin : ∀ H1, Same H H1 → ∀ a, H1 a = none → sp_init N.C (.ref a :: ([V.str "lot", V.int (-1)] ++ [])) (upd H1 a (exo a N.C none)) (fun v H2 => v = .non ∧ ∃ (d : Addr) (fs : List (Str × V)), H2 a = some (exo a N.C (some d)) ∧ H2 d = some (exd d fs) ∧ H1 d = none ∧ E (.ref N.C) (some d) (upd (del H2 a) d (.xd fs))) (fun _ _ _ => False) := fun H1 s1 a na => by
        refine ⟨a, .str "lot", .int (-1), rfl, upd_same, fun dx nd ne => ⟨rfl, dx, _, ?_, upd_same, ?_, k _ dx (fun b o e => ?_) upd_same⟩⟩
        · rw [upd_ne (Ne.symm ne), upd_same]
        · rw [upd_ne ne] at nd
          exact nd
        · have e1 := s1 _ _ e
          have nb : b ≠ a := fun z => by rw [z, na] at e1; cases e1
          have nd0 : H1 dx = none := by rw [upd_ne ne] at nd; exact nd
          have nbd : b ≠ dx := fun z => by rw [z, nd0] at e1; cases e1
          rw [upd_ne nbd, del_ne nb, upd_ne nbd, upd_ne nb, upd_ne nbd, upd_ne nb]
          exact e1
      rcases hB with ⟨s, kn, hs'⟩ | ⟨t, es, ds, rfl, ht, hlen, hen, hb⟩
      · refine ⟨_, rfl, _, rfl, L, ws, hs, v, rfl, hL, .inl ⟨s, kn, hs', _, rfl, ?_⟩⟩
        exact ⟨_, rfl, (by show 2 ≤ 1000; decide), fin H (Same.refl H)⟩
      · refine ⟨_, rfl, _, rfl, L, ws, hs, _, rfl, hL, .inr ⟨t, es, ds, rfl, ht, hlen, hen, fun H1 s1 => ?_⟩⟩
        rw [hb]
        exact ⟨_, rfl, _, rfl, (by show 2 ≤ 1000; decide), fin H1 s1⟩
end
end K12


set_option Elab.async false
set_option linter.all false
set_option maxRecDepth 100000
namespace K12
open PySem PySem.Spec PyProof.Rows L2
/-! ### the law's feed -/
def FeedAt (H : Hp) (fd l : Addr) (ns : List Int) : Prop := ∃ (p : Nat) (g s : Int), H fd = some (.lst [.ref l, .int (p : Nat), .int g, .int s]) ∧ H l = some (.lst (ns.map V.int)) ∧ l ≠ fd ∧ p ≤ ns.length
/-- nothing but fd is another -/
def Off (fd : Addr) (H H' : Hp) : Prop := ∀ b, b ≠ fd → H' b = H b
/-- what is told of a draw below n -/
def Drawn (n r : Int) : Prop := 0 ≤ r ∧ (r < n ∨ r = 0)
section
variable {P : Program} {w : World} {K : PySem.W.Frag} {mg : Str → Option Value} {base : Heap}
def sp_law_begin : Sp := fun vs H Q _ => ∃ (a : Addr) (ns : List Int), vs = [.ref a] ∧ SqL K H a (ns.map V.int) ∧ ∀ H' fd l, Same H H' → H fd = none → H l = none → FeedAt H' fd l ns → Q (.ref fd) H'
theorem ok_law_begin (T : Txt mg) (D : Df K mg "_law_begin" s_law_begin ["_law_script"]) : FnOk P w K mg base CX0 1 D.f D.fd ["_law_script"] (sp_law_begin (K := K)) := by
  refine D.F.ok S_law_begin (fun vs H Q E h => ?_) (fun cdv A outer s H vs Q E hr h => ?_)
  · obtain ⟨a, ns, rfl, _⟩ := h
    rfl
  · obtain ⟨a, ns, rfl, ha, k⟩ := h
    refine ⟨_, (pss_one (ps_ret (pe_lst (pa_cons (pe_callTy call_list_of (by rfl) T.list_ (by decide +kernel) (pa_cons (pv 0) pa_nil)) (pa_cons pe_int (pa_cons pe_int (pa_cons pe_int pa_nil))))))), ?_⟩
    refine ⟨_, rfl, a, _, rfl, .inl ha, fun l nl => ⟨(show 4 ≤ sizeLine by decide), fun fd nf => ?_⟩⟩
    have e : l ≠ fd := ne_of_none upd_same nf
    refine k _ fd l ((Same.new nl).trans (Same.new nf)) ?_ nl ⟨0, 0, 8836, upd_same, by rw [upd_ne e, upd_same], e, Nat.zero_le _⟩
    rw [upd_ne (Ne.symm e)] at nf
    exact nf
theorem pz0 : (0 : Int) < 2147483629 := by decide
theorem pz1 : (0 : Int) < 2305843009213693951 := by decide
theorem cdl {i n : Int} (h : 0 < n ∧ n < 1073741824) : CDiv i n := h
theorem take_rest {D : Ends} {H : Hp} {fd l : Addr} {many g s : Int} {p : Nat} {a2 a3 a4 : Option V} (h : H fd = some (.lst [.ref l, .int (p : Nat), .int g, .int s])) (hm : many < 2 ^ 200)
    (k : ∀ H' r g' s', Off fd H H' → H' fd = some (.lst [.ref l, .int (p : Nat), .int g', .int s']) → Drawn many r → D.rt (.int r) H') :
    (tSeq (tIfS (tTest (tOp (rI0 fun i j => V.bl (decide (i < j))) (tVar 1) (tC (V.int 2)))) (tRet (tC (V.int 0))) tNext)
      (tSeq (tIfS (tTest (tOp (rI0 fun i j => V.bl (decide (j < i))) (tOp (rIxL K) (tVar 0) (tC (V.int 2))) (tC (V.int 0)))) (tSeq (tAsg (tOp (rI (fun _ j => 0 < j) fun i j => V.int (i % j)) (tCB rInt1 (tCons (tOp (rIxL K) (tVar 0) (tC (V.int 2))) tNil)) (tVar 1)) (gName 3))
      (tSeq (tAsg (tOp (rI CDivW fun i j => V.int (i / j)) (tOp (rIxL K) (tVar 0) (tC (V.int 2))) (tVar 1)) (gSub (tVar 0) (tC (V.int 2)) rSetL))
      (tRet (tVar 3)))) tNext)
      (tSeq (tAsg (tOp (rI (fun _ j => 0 < j) fun i j => V.int (i % j)) (tCB rInt1 (tCons (tOp (rI0 fun i j => V.int (i + j)) (tOp (rI CMul fun i j => V.int (i * j)) (tOp (rIxL K) (tVar 0) (tC (V.int 3))) (tC (V.int 48271))) (tC (V.int 1709))) tNil)) (tC (V.int 2147483629))) (gSub (tVar 0) (tC (V.int 3)) rSetL))
      (tSeq (tAsg (tOp (rI (fun _ j => 0 < j) fun i j => V.int (i % j)) (tCB rInt1 (tCons (tOp (rI0 fun i j => V.int (i + j)) (tOp (rI CMul fun i j => V.int (i * j)) (tOp (rIxL K) (tVar 0) (tC (V.int 3))) (tC (V.int 16807))) (tOp (rI CDiv fun i j => V.int (i / j)) (tOp (rIxL K) (tVar 0) (tC (V.int 3))) (tC (V.int 331)))) tNil)) (tC (V.int 2305843009213693951))) (gName 4))
      (tRet (tOp (rI (fun _ j => 0 < j) fun i j => V.int (i % j)) (tCB rInt1 (tCons (tOp (rI0 fun i j => V.int (i + j)) (tOp (rI0 fun i j => V.int (i + j)) (tOp (rI CMul fun i j => V.int (i * j)) (tVar 4) (tC (V.int 69621))) (tOp (rI CMul fun i j => V.int (i * j)) (tOp (rI CDiv fun i j => V.int (i / j)) (tVar 4) (tC (V.int 977))) (tOp (rI CPow fun i j => V.int (i ^ j.toNat)) (tC (V.int 10)) (tC (V.int 20))))) (tOp (rI CMul fun i j => V.int (i * j)) (tOp (rI CDiv fun i j => V.int (i / j)) (tVar 4) (tC (V.int 41))) (tOp (rI CPow fun i j => V.int (i ^ j.toNat)) (tC (V.int 10)) (tC (V.int 40))))) tNil)) (tVar 1))))))) D [some (.ref fd), some (.int many), a2, a3, a4] H := by
  refine ⟨_, rfl, _, _, rfl, rfl, _, rfl, ite2 (fun e => ?_) (fun e => ?_)⟩
  · exact k H 0 g s (fun b _ => rfl) h ⟨Int.le_refl 0, .inr rfl⟩
  have h2 : 2 ≤ many := by
    have : ¬ many < 2 := fun z => e (decide_eq_true z)
    omega
  have dr : ∀ x : Int, Drawn many (x % many) := fun x => ⟨Int.emod_nonneg _ (by omega), .inl (Int.emod_lt_of_pos _ (by omega))⟩
  refine ⟨_, rfl, fd, _, 2, _, rfl, rfl, SqL.of h, atI_nat (j := 2) rfl, _, _, rfl, rfl, _, rfl, ite2 (fun e => ?_) (fun e => ?_)⟩
  · refine ⟨_, rfl, fd, _, 2, _, rfl, rfl, SqL.of h, atI_nat (j := 2) rfl, .inl ⟨g, rfl, _, rfl, _, _, rfl, rfl, (show 0 < many by omega), ?_⟩⟩
    refine ⟨_, rfl, fd, _, 2, _, rfl, rfl, SqL.of h, atI_nat (j := 2) rfl, _, rfl, _, _, rfl, rfl, wide_div (by omega) (show many.natAbs < 2 ^ 200 by omega) (by decide) (by decide), ?_⟩
    refine ⟨_, rfl, fd, _, 2, 2, rfl, rfl, h, rfl, ?_⟩
    exact ⟨_, rfl, k _ _ (g / many) s (fun b hb => upd_ne hb) upd_same (dr g)⟩
  · refine ⟨_, rfl, fd, _, 3, _, rfl, rfl, SqL.of h, atI_nat (j := 3) rfl, _, _, rfl, rfl, .inr (by decide), _, _, rfl, rfl, .inl ⟨_, rfl, _, _, rfl, rfl, pz0, ?_⟩⟩
    refine ⟨_, rfl, fd, _, 3, 3, rfl, rfl, h, rfl, ?_⟩
    dsimp only
    generalize (s * 48271 + 1709) % 2147483629 = s1
    have h1 : (upd H fd (.lst ([V.ref l, V.int (p : Nat), V.int g, V.int s].set 3 (V.int s1)))) fd = some (.lst [.ref l, .int (p : Nat), .int g, .int s1]) := upd_same
    refine ⟨_, rfl, fd, _, 3, _, rfl, rfl, SqL.of h1, atI_nat (j := 3) rfl, _, _, rfl, rfl, .inr (by decide), _, rfl, fd, _, 3, _, rfl, rfl, SqL.of h1, atI_nat (j := 3) rfl, _, _, rfl, rfl, cdl (by decide), _, _, rfl, rfl, .inl ⟨_, rfl, _, _, rfl, rfl, pz1, ?_⟩⟩
    have f1 := Int.emod_nonneg (s1 * 16807 + s1 / 331) (show (2305843009213693951 : Int) ≠ 0 by decide)
    have f2 := Int.emod_lt_of_pos (s1 * 16807 + s1 / 331) (show (0 : Int) < 2305843009213693951 by decide)
    generalize (s1 * 16807 + s1 / 331) % 2305843009213693951 = f at f1 f2
    have pw : ∀ n : Int, 0 ≤ n → n ≤ 1000000 → CPow 10 n := fun n a b => ⟨a, b, by decide⟩
    refine ⟨_, rfl, _, _, rfl, rfl, .inr (by decide), _, rfl, _, _, rfl, rfl, cdl (by decide), _, _, rfl, rfl, pw _ (by decide) (by decide), _, _, rfl, rfl, .inl (by constructor <;> omega), _, _, rfl, rfl, _, rfl, _, _, rfl, rfl, cdl (by decide), _, _, rfl, rfl, pw _ (by decide) (by decide), _, _, rfl, rfl, .inl (by constructor <;> omega), _, _, rfl, rfl, ?_⟩
    refine .inl ⟨_, rfl, _, rfl, _, _, rfl, rfl, (show 0 < many by omega), ?_⟩
    exact k _ _ g s1 (fun b hb => upd_ne hb) h1 (dr _)
def sp_law_take : Sp := fun vs H Q _ => ∃ (fd l : Addr) (ns : List Int) (many : Int), vs = [.ref fd, .int many] ∧ FeedAt H fd l ns ∧ many < 2 ^ 200 ∧ ∀ H' r, Off fd H H' → FeedAt H' fd l ns → Drawn many r → Q (.int r) H'
theorem ok_law_take (T : Txt mg) (D : Df K mg "_law_take" s_law_take ["_law_feed", "_law_many"]) : FnOk P w K mg base CX0 1 D.f D.fd ["_law_feed", "_law_many"] sp_law_take := by
  refine D.F.ok S_law_take (fun vs H Q E h => ?_) (fun cdv A outer s H vs Q E hr h => ?_)
  · obtain ⟨fd, l, ns, many, rfl, _⟩ := h
    rfl
  · obtain ⟨fd, l, ns, many, rfl, ⟨p, g, sd, h, hl, hne, hp⟩, hm, k⟩ := h
    refine ⟨_, (pss_cons (ps_if (PW.pt (pw_and (pt_cmpR op_eq (pe_ix ix_list (pv 0) pe_int (fun _ _ => rfl)) pe_int (nomark _)) (pw_and1 (pt_cmpR op_lt (pe_ix ix_list (pv 0) pe_int (fun _ _ => rfl)) (pe_callB call_len_seq (by rfl) T.len_ (by decide +kernel) (pa_cons (pe_ix ix_list (pv 0) pe_int (fun _ _ => rfl)) pa_nil)) (nomark _))))) (pss_cons (ps_set (i := 2) S_law_take.nd rfl (Or.inl rfl) (pe_ix ix_list (pe_ix ix_list (pv 0) pe_int (fun _ _ => rfl)) (pe_ix ix_list (pv 0) pe_int (fun _ _ => rfl)) (fun _ _ => rfl)))
      (pss_cons (ps_asg (pe_op op_add (pe_ix ix_list (pv 0) pe_int (fun _ _ => rfl)) pe_int) (pg_sub (pv 0) pe_int set_list))
      (pss_cons (ps_if (pt_cmpR op_ge (pv 2) (pe_op op_pow pe_int pe_int) (nomark _)) (pss_one (ps_asg (pv 2) (pg_sub (pv 0) pe_int set_list))) pss_nil)
      (pss_one (ps_asg (pe_op op_mod (pe_callTy call_int1 (by rfl) T.int_ (by decide +kernel) (pa_cons (pe_op op_add (pe_op op_add (pe_op op_mul (pe_ix ix_list (pv 0) pe_int (fun _ _ => rfl)) pe_int) (pe_op op_mul (pv 2) pe_int)) (pe_ix ix_list (pv 0) pe_int (fun _ _ => rfl))) pa_nil)) pe_int) (pg_sub (pv 0) pe_int set_list)))))) pss_nil)
      (pss_cons (ps_if (pt_cmpR op_lt (pv 1) pe_int (nomark _)) (pss_one (ps_ret pe_int)) pss_nil)
      (pss_cons (ps_if (pt_cmpR op_gt (pe_ix ix_list (pv 0) pe_int (fun _ _ => rfl)) pe_int (nomark _)) (pss_cons (ps_set (i := 3) S_law_take.nd rfl (Or.inl rfl) (pe_op op_mod (pe_callTy call_int1 (by rfl) T.int_ (by decide +kernel) (pa_cons (pe_ix ix_list (pv 0) pe_int (fun _ _ => rfl)) pa_nil)) (pv 1)))
      (pss_cons (ps_asg (pe_op op_fdivW (pe_ix ix_list (pv 0) pe_int (fun _ _ => rfl)) (pv 1)) (pg_sub (pv 0) pe_int set_list))
      (pss_one (ps_ret (pv 3))))) pss_nil)
      (pss_cons (ps_asg (pe_op op_mod (pe_callTy call_int1 (by rfl) T.int_ (by decide +kernel) (pa_cons (pe_op op_add (pe_op op_mul (pe_ix ix_list (pv 0) pe_int (fun _ _ => rfl)) pe_int) pe_int) pa_nil)) pe_int) (pg_sub (pv 0) pe_int set_list))
      (pss_cons (ps_set (i := 4) S_law_take.nd rfl (Or.inl rfl) (pe_op op_mod (pe_callTy call_int1 (by rfl) T.int_ (by decide +kernel) (pa_cons (pe_op op_add (pe_op op_mul (pe_ix ix_list (pv 0) pe_int (fun _ _ => rfl)) pe_int) (pe_op op_fdiv (pe_ix ix_list (pv 0) pe_int (fun _ _ => rfl)) pe_int)) pa_nil)) pe_int))
      (pss_one (ps_ret (pe_op op_mod (pe_callTy call_int1 (by rfl) T.int_ (by decide +kernel) (pa_cons (pe_op op_add (pe_op op_add (pe_op op_mul (pv 4) pe_int) (pe_op op_mul (pe_op op_fdiv (pv 4) pe_int) (pe_op op_pow pe_int pe_int))) (pe_op op_mul (pe_op op_fdiv (pv 4) pe_int) (pe_op op_pow pe_int pe_int))) pa_nil)) (pv 1))))))))), ?_⟩
    -- behind the first if
    have fin : ∀ (H1 : Hp) (p1 : Nat) (g1 s1 : Int) (a2 : Option V), Off fd H H1 → H1 fd = some (.lst [.ref l, .int (p1 : Nat), .int g1, .int s1]) → p1 ≤ ns.length →
        (tSeq (tIfS (tTest (tOp (rI0 fun i j => V.bl (decide (i < j))) (tVar 1) (tC (V.int 2)))) (tRet (tC (V.int 0))) tNext)
      (tSeq (tIfS (tTest (tOp (rI0 fun i j => V.bl (decide (j < i))) (tOp (rIxL K) (tVar 0) (tC (V.int 2))) (tC (V.int 0)))) (tSeq (tAsg (tOp (rI (fun _ j => 0 < j) fun i j => V.int (i % j)) (tCB rInt1 (tCons (tOp (rIxL K) (tVar 0) (tC (V.int 2))) tNil)) (tVar 1)) (gName 3))
      (tSeq (tAsg (tOp (rI CDivW fun i j => V.int (i / j)) (tOp (rIxL K) (tVar 0) (tC (V.int 2))) (tVar 1)) (gSub (tVar 0) (tC (V.int 2)) rSetL))
      (tRet (tVar 3)))) tNext)
      (tSeq (tAsg (tOp (rI (fun _ j => 0 < j) fun i j => V.int (i % j)) (tCB rInt1 (tCons (tOp (rI0 fun i j => V.int (i + j)) (tOp (rI CMul fun i j => V.int (i * j)) (tOp (rIxL K) (tVar 0) (tC (V.int 3))) (tC (V.int 48271))) (tC (V.int 1709))) tNil)) (tC (V.int 2147483629))) (gSub (tVar 0) (tC (V.int 3)) rSetL))
      (tSeq (tAsg (tOp (rI (fun _ j => 0 < j) fun i j => V.int (i % j)) (tCB rInt1 (tCons (tOp (rI0 fun i j => V.int (i + j)) (tOp (rI CMul fun i j => V.int (i * j)) (tOp (rIxL K) (tVar 0) (tC (V.int 3))) (tC (V.int 16807))) (tOp (rI CDiv fun i j => V.int (i / j)) (tOp (rIxL K) (tVar 0) (tC (V.int 3))) (tC (V.int 331)))) tNil)) (tC (V.int 2305843009213693951))) (gName 4))
      (tRet (tOp (rI (fun _ j => 0 < j) fun i j => V.int (i % j)) (tCB rInt1 (tCons (tOp (rI0 fun i j => V.int (i + j)) (tOp (rI0 fun i j => V.int (i + j)) (tOp (rI CMul fun i j => V.int (i * j)) (tVar 4) (tC (V.int 69621))) (tOp (rI CMul fun i j => V.int (i * j)) (tOp (rI CDiv fun i j => V.int (i / j)) (tVar 4) (tC (V.int 977))) (tOp (rI CPow fun i j => V.int (i ^ j.toNat)) (tC (V.int 10)) (tC (V.int 20))))) (tOp (rI CMul fun i j => V.int (i * j)) (tOp (rI CDiv fun i j => V.int (i / j)) (tVar 4) (tC (V.int 41))) (tOp (rI CPow fun i j => V.int (i ^ j.toNat)) (tC (V.int 10)) (tC (V.int 40))))) tNil)) (tVar 1))))))) { nx := fun _ H' => Q .non H', rt := Q } [some (.ref fd), some (.int many), a2, none, none] H1 := fun H1 p1 g1 s1 a2 o1 h1 hp1 =>
      take_rest h1 hm fun H' r g' s' o2 h2 dr => k H' r (fun b hb => (o2 b hb).trans (o1 b hb)) ⟨p1, g', s', h2, ((o2 l hne).trans (o1 l hne)).trans hl, hne, hp1⟩ dr
    refine ⟨_, rfl, fd, _, 2, _, rfl, rfl, SqL.of h, atI_nat (j := 2) rfl, rfl, _, rfl, ite2 (fun e => ?_) (fun e => ?_)⟩
    · refine ⟨_, rfl, fd, _, 1, _, rfl, rfl, SqL.of h, atI_nat (j := 1) rfl, _, rfl, fd, _, 0, _, rfl, rfl, SqL.of h, atI_nat (j := 0) rfl, l, _, rfl, .inl (SqL.of hl), _, _, rfl, rfl, _, rfl, ite2 (fun e2 => ?_) (fun e2 => ?_)⟩
      · have hp2 : p < ns.length := by
          have := of_decide_eq_true e2
          rw [List.length_map] at this
          omega
        have hx : (ns.map V.int)[p]? = some (.int ns[p]) := by rw [List.getElem?_map, List.getElem?_eq_getElem hp2]; rfl
        generalize ns[p] = c at hx
        refine ⟨_, rfl, fd, _, 0, _, rfl, rfl, SqL.of h, atI_nat (j := 0) rfl, _, rfl, fd, _, 1, _, rfl, rfl, SqL.of h, atI_nat (j := 1) rfl, l, _, _, _, rfl, rfl, SqL.of hl, atI_nat hx, ?_⟩
        -- feed[1] = feed[1] + 1
        refine ⟨_, rfl, fd, _, 1, _, rfl, rfl, SqL.of h, atI_nat (j := 1) rfl, _, _, rfl, rfl, _, rfl, fd, _, 1, 1, rfl, rfl, h, rfl, ?_⟩
        have h1 : (upd H fd (.lst ([V.ref l, V.int (p : Nat), V.int g, V.int sd].set 1 (V.int ((p : Int) + 1))))) fd = some (.lst [.ref l, .int ((p + 1 : Nat) : Int), .int g, .int sd]) := upd_same
        have o1 : Off fd H (upd H fd (.lst ([V.ref l, V.int (p : Nat), V.int g, V.int sd].set 1 (V.int ((p : Int) + 1))))) := fun b hb => upd_ne hb
        generalize (upd H fd (.lst ([V.ref l, V.int (p : Nat), V.int g, V.int sd].set 1 (V.int ((p : Int) + 1))))) = H1 at h1 o1 ⊢
        refine ⟨_, rfl, _, _, rfl, rfl, ⟨by decide, by decide, by decide⟩, _, _, rfl, rfl, _, rfl, ite2 (fun e3 => ?_) (fun e3 => ?_)⟩
        · refine ⟨_, rfl, _, rfl, fd, _, 2, 2, rfl, rfl, h1, rfl, ?_⟩
          have h2 : (upd H1 fd (.lst ([V.ref l, V.int ((p + 1 : Nat) : Int), V.int g, V.int sd].set 2 (V.int c)))) fd = some (.lst [.ref l, .int ((p + 1 : Nat) : Int), .int c, .int sd]) := upd_same
          refine ⟨_, rfl, fd, _, 3, _, rfl, rfl, SqL.of h2, atI_nat (j := 3) rfl, _, _, rfl, rfl, .inr (by decide), _, rfl, _, _, rfl, rfl, .inr (by decide), _, _, rfl, rfl, _, rfl, fd, _, 1, _, rfl, rfl, SqL.of h2, atI_nat (j := 1) rfl, _, _, rfl, rfl, .inl ⟨_, rfl, _, _, rfl, rfl, pz0, ?_⟩⟩
          refine ⟨_, rfl, fd, _, 3, 3, rfl, rfl, h2, rfl, ?_⟩
          exact fin _ (p + 1) c _ _ (fun b hb => (upd_ne hb).trans ((upd_ne hb).trans (o1 b hb))) upd_same hp2
        · refine ⟨_, rfl, fd, _, 3, _, rfl, rfl, SqL.of h1, atI_nat (j := 3) rfl, _, _, rfl, rfl, .inr (by decide), _, rfl, _, _, rfl, rfl, .inr (by decide), _, _, rfl, rfl, _, rfl, fd, _, 1, _, rfl, rfl, SqL.of h1, atI_nat (j := 1) rfl, _, _, rfl, rfl, .inl ⟨_, rfl, _, _, rfl, rfl, pz0, ?_⟩⟩
          refine ⟨_, rfl, fd, _, 3, 3, rfl, rfl, h1, rfl, ?_⟩
          exact fin _ (p + 1) g _ _ (fun b hb => (upd_ne hb).trans (o1 b hb)) upd_same hp2
      · exact fin H p g sd _ (fun b _ => rfl) h hp
    · exact fin H p g sd _ (fun b _ => rfl) h hp
end
end K12


set_option Elab.async false
set_option linter.all false
set_option maxRecDepth 100000
namespace K12
open PySem PySem.Spec PyProof.Rows L2
/-- all but fd is kept -/
def SmX (fd : Addr) (H H' : Hp) : Prop := ∀ b o, b ≠ fd → H b = some o → H' b = some o
theorem SmX.refl (fd : Addr) (H : Hp) : SmX fd H H := fun _ _ _ e => e
theorem SmX.trans {fd : Addr} {H H1 H2 : Hp} (a : SmX fd H H1) (b : SmX fd H1 H2) : SmX fd H H2 := fun c o hc e => b c o hc (a c o hc e)
theorem SmX.of {fd : Addr} {H H' : Hp} (s : Same H H') : SmX fd H H' := fun b o _ e => s b o e
theorem Off.smx {fd : Addr} {H H' : Hp} (o : Off fd H H') : SmX fd H H' := fun b u hb e => (o b hb).trans e
theorem Off.trans {fd : Addr} {H H1 H2 : Hp} (a : Off fd H H1) (b : Off fd H1 H2) : Off fd H H2 := fun c hc => (b c hc).trans (a c hc)
theorem SmX.put {fd : Addr} {H H1 : Hp} {p : Addr} {o : HO} (s : SmX fd H H1) (n : H p = none) : SmX fd H (upd H1 p o) := fun b u hb e => by
  rw [upd_ne (ne_of_none e n)]
  exact s b u hb e
theorem FeedAt.same {H H' : Hp} {fd l : Addr} {ns : List Int} (f : FeedAt H fd l ns) (s : Same H H') : FeedAt H' fd l ns := by
  obtain ⟨p, g, d, h1, h2, h3⟩ := f
  exact ⟨p, g, d, s _ _ h1, s _ _ h2, h3⟩
theorem FeedAt.put {H : Hp} {fd l p : Addr} {ns : List Int} {o : HO} (f : FeedAt H fd l ns) (h1 : p ≠ fd) (h2 : p ≠ l) : FeedAt (upd H p o) fd l ns := by
  obtain ⟨q, g, d, a, b, c⟩ := f
  exact ⟨q, g, d, (upd_ne (Ne.symm h1)).trans a, (upd_ne (Ne.symm h2)).trans b, c⟩
theorem FeedAt.ne {H : Hp} {fd l p : Addr} {ns : List Int} (f : FeedAt H fd l ns) (n : H p = none) : p ≠ fd ∧ p ≠ l := by
  obtain ⟨q, g, d, a, b, c⟩ := f
  exact ⟨fun z => (by rw [z, a] at n; cases n), fun z => (by rw [z, b] at n; cases n)⟩
theorem Drawn.nat {n : Nat} {r : Int} (d : Drawn (n : Int) r) (h : 0 < n) : ∃ j : Nat, j < n ∧ r = (j : Int) := ⟨r.toNat, by obtain ⟨a, b⟩ := d; omega, by obtain ⟨a, b⟩ := d; omega⟩
theorem pick6 {j : Nat} (h : j < 6) : ∃ c : Int, [V.int 1, V.int 1, V.int 1, V.int 2, V.int 3, V.int 1][j]? = some (.int c) ∧ 1 ≤ c ∧ c ≤ 3 := by
  match j, h with
  | 0, _ => exact ⟨1, rfl, by decide, by decide⟩
  | 1, _ => exact ⟨1, rfl, by decide, by decide⟩
  | 2, _ => exact ⟨1, rfl, by decide, by decide⟩
  | 3, _ => exact ⟨2, rfl, by decide, by decide⟩
  | 4, _ => exact ⟨3, rfl, by decide, by decide⟩
  | 5, _ => exact ⟨1, rfl, by decide, by decide⟩
theorem pick5 {j : Nat} (h : j < 5) : ∃ c : Int, [V.int 1, V.int 2, V.int 0, V.int 3, V.int 1][j]? = some (.int c) ∧ 0 ≤ c ∧ c ≤ 3 := by
  match j, h with
  | 0, _ => exact ⟨1, rfl, by decide, by decide⟩
  | 1, _ => exact ⟨2, rfl, by decide, by decide⟩
  | 2, _ => exact ⟨0, rfl, by decide, by decide⟩
  | 3, _ => exact ⟨3, rfl, by decide, by decide⟩
  | 4, _ => exact ⟨1, rfl, by decide, by decide⟩
theorem pick6b {j : Nat} (h : j < 6) : ∃ c : Int, [V.int 2, V.int 2, V.int 3, V.int 2, V.int 4, V.int 5][j]? = some (.int c) ∧ 2 ≤ c ∧ c ≤ 5 := by
  match j, h with
  | 0, _ => exact ⟨2, rfl, by decide, by decide⟩
  | 1, _ => exact ⟨2, rfl, by decide, by decide⟩
  | 2, _ => exact ⟨3, rfl, by decide, by decide⟩
  | 3, _ => exact ⟨2, rfl, by decide, by decide⟩
  | 4, _ => exact ⟨4, rfl, by decide, by decide⟩
  | 5, _ => exact ⟨5, rfl, by decide, by decide⟩
/-- a row in the making -/
structure RowQ (p : Nat) (w : Nat → Int) : Prop where
  pos : 1 ≤ p
  one : ∀ i, i < p → 1 ≤ w i
  big : ∀ i, i < p → w i < 1000000000
  dvd : ∀ i, i + 1 < p → w i ∣ w (i + 1)
theorem RowQ.row {p : Nat} {w : Nat → Int} (r : RowQ p w) (h : p ≤ 4) : Row p w := ⟨r.pos, h, r.one, fun i hi => by have := r.big i hi; omega, r.dvd⟩
theorem RowQ.one1 {c : Int} (h1 : 1 ≤ c) (h2 : c < 1000000000) : RowQ 1 (fun _ => c) := ⟨Nat.le_refl 1, fun _ _ => h1, fun _ _ => h2, fun i hi => by omega⟩
theorem RowQ.more {p : Nat} {w : Nat → Int} {v : Int} (r : RowQ p w) {c : Int} (hc : 2 ≤ c) (e : v = w (p - 1) * c) (h : v < 1000000000) : RowQ (p + 1) (fset w p v) where
  pos := by omega
  one := fun i hi => by
    by_cases ei : i = p
    · subst ei
      rw [fset_same, e]
      have h1 := r.one (i - 1) (by have := r.pos; omega)
      have : 1 * 1 ≤ w (i - 1) * c := Int.mul_le_mul h1 (by omega) (by omega) (by omega)
      omega
    · rw [fset_ne _ _ ei]
      exact r.one i (by omega)
  big := fun i hi => by
    by_cases ei : i = p
    · subst ei
      rw [fset_same]
      exact h
    · rw [fset_ne _ _ ei]
      exact r.big i (by omega)
  dvd := fun i hi => by
    have hp := r.pos
    by_cases ei : i + 1 = p
    · have e2 : i = p - 1 := by omega
      rw [ei, fset_same, fset_ne _ _ (by omega), e, e2]
      exact ⟨c, rfl⟩
    · rw [fset_ne _ _ (by omega), fset_ne _ _ ei]
      exact r.dvd i (by omega)
theorem tab_last {p : Nat} {w : Nat → Int} (h : 1 ≤ p) : atI (tab p w) (-1) = some (.int (w (p - 1))) := by
  obtain ⟨q, rfl⟩ : ∃ q, p = q + 1 := ⟨p - 1, by omega⟩
  rw [← tab_succ]
  exact atI_last _ _
theorem tab_app {p : Nat} {w : Nat → Int} (v : Int) : tab p w ++ [V.int v] = tab (p + 1) (fset w p v) := by
  rw [← tab_succ, fset_same]
  congr 1
  exact tab_congr fun i hi => (fset_ne _ _ (by omega)).symm
section
variable {P : Program} {w : World} {K : PySem.W.Frag} {mg : Str → Option Value} {base : Heap}
def sp_law_make_row : Sp := fun vs H Q _ => ∃ (fd l : Addr) (ns : List Int) (great : Bool), vs = [.ref fd, .bl great] ∧ FeedAt H fd l ns ∧ ∀ H' t p wf, SmX fd H H' → FeedAt H' fd l ns → H' t = some (.tup (tab p wf)) → t ≠ fd → Row p wf → Q (.ref t) H'
theorem ok_law_make_row (T : Txt mg) (D : Df K mg "_law_make_row" s_law_make_row ["_law_feed", "_law_great"]) (c__law_take : Cal P w K mg base CX0 1 "_law_take" ["_law_feed", "_law_many"] sp_law_take) :
    FnOk P w K mg base CX0 2 D.f D.fd ["_law_feed", "_law_great"] sp_law_make_row := by
  refine D.F.ok S_law_make_row (fun vs H Q E h => ?_) (fun cdv A outer s H vs Q E hr h => ?_)
  · obtain ⟨fd, l, ns, great, rfl, _⟩ := h
    rfl
  · obtain ⟨fd, l, ns, great, rfl, hf, k⟩ := h
    refine ⟨_, (pss_cons (ps_set (i := 2) S_law_make_row.nd rfl (Or.inl rfl) (pe_lst (pa_cons (pe_ix ix_list (pe_lst (pa_cons pe_int (pa_cons pe_int (pa_cons pe_int (pa_cons pe_int (pa_cons pe_int (pa_cons pe_int pa_nil))))))) (pe_call c__law_take.ok (hr.mono (by decide)) (by rfl) c__law_take.g c__law_take.kp c__law_take.b .nil pass0 (pa_cons (pv 0) (pa_cons pe_int pa_nil))) (fun _ _ => rfl)) pa_nil)))
      (pss_cons (ps_if (pt_val (pv 1)) (pss_one (ps_set (i := 2) S_law_make_row.nd rfl (Or.inl rfl) (pe_lst (pa_cons (pe_op op_add pe_int (pe_call c__law_take.ok (hr.mono (by decide)) (by rfl) c__law_take.g c__law_take.kp c__law_take.b .nil pass0 (pa_cons (pv 0) (pa_cons pe_int pa_nil)))) pa_nil)))) pss_nil)
      (pss_cons (ps_for PassesOwn.never rfl (pi_range1 (by rfl) T.range_ (pa_cons (pe_ix ix_list (pe_lst (pa_cons pe_int (pa_cons pe_int (pa_cons pe_int (pa_cons pe_int (pa_cons pe_int pa_nil)))))) (pe_call c__law_take.ok (hr.mono (by decide)) (by rfl) c__law_take.g c__law_take.kp c__law_take.b .nil pass0 (pa_cons (pv 0) (pa_cons pe_int pa_nil))) (fun _ _ => rfl)) pa_nil)) (pg_name (i := 3) S_law_make_row.nd rfl (Or.inl rfl)) (pss_cons (ps_set (i := 4) S_law_make_row.nd rfl (Or.inl rfl) (pe_ix ix_list (pe_lst (pa_cons pe_int (pa_cons pe_int (pa_cons pe_int (pa_cons pe_int (pa_cons pe_int (pa_cons pe_int pa_nil))))))) (pe_call c__law_take.ok (hr.mono (by decide)) (by rfl) c__law_take.g c__law_take.kp c__law_take.b .nil pass0 (pa_cons (pv 0) (pa_cons pe_int pa_nil))) (fun _ _ => rfl)))
      (pss_cons (ps_if (pt_val (pv 1)) (pss_one (ps_set (i := 4) S_law_make_row.nd rfl (Or.inl rfl) (pe_op op_add pe_int (pe_call c__law_take.ok (hr.mono (by decide)) (by rfl) c__law_take.g c__law_take.kp c__law_take.b .nil pass0 (pa_cons (pv 0) (pa_cons pe_int pa_nil)))))) pss_nil)
      (pss_one (ps_if (pt_cmpR op_lt (pe_op op_mul (pe_ix ix_list (pv 2) (pe_un un_neg pe_int) (fun _ _ => rfl)) (pv 4)) (pe_op op_pow pe_int pe_int) (nomark _)) (pss_one (ps_expr (pe_bm PySem.F.plainAttrs_list PySem.F.slot_list_append PySem.F.type_list_append mt_append (pv 2) (pa_cons (pe_op op_mul (pe_ix ix_list (pv 2) (pe_un un_neg pe_int) (fun _ _ => rfl)) (pv 4)) pa_nil)))) pss_nil)))))
      (pss_one (ps_ret (pe_callTy call_tuple_of (by rfl) T.tuple_ (by decide +kernel) (pa_cons (pv 2) pa_nil))))))), ?_⟩
    -- behind the first size: a list sz of one
    have rest : ∀ (H1 : Hp) (sz : Addr) (c : Int), SmX fd H H1 → FeedAt H1 fd l ns → H1 sz = some (.lst [.int c]) → H sz = none → sz ≠ fd → sz ≠ l → 1 ≤ c → c < 1000000000 →
        (tSeq (tFor (iRng1 (tCons (tOp (rIxL K) (tLst (tCons (tC (V.int 1)) (tCons (tC (V.int 2)) (tCons (tC (V.int 0)) (tCons (tC (V.int 3)) (tCons (tC (V.int 1)) tNil)))))) (tCall sp_law_take [] E0 (tCons (tVar 0) (tCons (tC (V.int 5)) tNil)))) tNil)) (gName 3) (tSeq (tAsg (tOp (rIxL K) (tLst (tCons (tC (V.int 2)) (tCons (tC (V.int 2)) (tCons (tC (V.int 3)) (tCons (tC (V.int 2)) (tCons (tC (V.int 4)) (tCons (tC (V.int 5)) tNil))))))) (tCall sp_law_take [] E0 (tCons (tVar 0) (tCons (tC (V.int 6)) tNil)))) (gName 4))
      (tSeq (tIfS (tB (tVar 1)) (tAsg (tOp (rI0 fun i j => V.int (i + j)) (tC (V.int 2)) (tCall sp_law_take [] E0 (tCons (tVar 0) (tCons (tC (V.int 800)) tNil)))) (gName 4)) tNext)
      (tIfS (tTest (tOp (rI0 fun i j => V.bl (decide (i < j))) (tOp (rI CMul fun i j => V.int (i * j)) (tOp (rIxL K) (tVar 2) (tUn (rU fun i => V.int (-i)) (tC (V.int 1)))) (tVar 4)) (tOp (rI CPow fun i j => V.int (i ^ j.toNat)) (tC (V.int 10)) (tC (V.int 9))))) (tDrop (tBM K "list" rAppend (tVar 2) (tCons (tOp (rI CMul fun i j => V.int (i * j)) (tOp (rIxL K) (tVar 2) (tUn (rU fun i => V.int (-i)) (tC (V.int 1)))) (tVar 4)) tNil))) tNext))))
      (tRet (tCB (rTupOf K) (tCons (tVar 2) tNil)))) { nx := fun _ H' => Q .non H', rt := Q } [some (.ref fd), some (.bl great), some (.ref sz), none, none] H1 := by
      intro H1 sz c s1 f1 hz nz z1 z2 c1 c2
      refine ⟨(show 5 ≤ sizeLine by decide), fun p1 n1 => ?_⟩
      refine ⟨_, rfl, fd, l, ns, 5, rfl, f1.same (Same.new n1), by decide, fun H2 r o2 f2 dr => ?_⟩
      obtain ⟨j, hj, rfl⟩ := Drawn.nat (n := 5) dr (by decide)
      obtain ⟨cn, hcn, a1, a2⟩ := pick5 hj
      have np1 := f1.ne n1
      refine ⟨p1, _, _, _, rfl, rfl, SqL.of ((o2 p1 np1.1).trans upd_same), atI_nat hcn, cn, rfl, by omega, by omega, ?_⟩
      have zp : sz ≠ p1 := ne_of_none hz n1
      have hz2 : H2 sz = some (.lst (tab 1 fun _ => c)) := (o2 sz z1).trans ((upd_ne zp).trans hz)
      refine for_range (lo := 0) (n := cn.toNat) (fun i σ H' => SmX fd H H' ∧ FeedAt H' fd l ns ∧ (∃ p wf, H' sz = some (.lst (tab p wf)) ∧ RowQ p wf ∧ p ≤ 1 + i) ∧ ∃ a3 a4, σ = [some (.ref fd), some (.bl great), some (.ref sz), a3, a4])
        ⟨(s1.trans (SmX.of (Same.new n1))).trans o2.smx, f2, ⟨1, _, hz2, RowQ.one1 c1 c2, Nat.le_refl 1⟩, none, none, rfl⟩ ?_ ?_
      · rintro i σ H3 hi ⟨s3, f3, ⟨p, wf, hw, rq, hp⟩, a3, a4, rfl⟩
        refine ⟨(show 6 ≤ sizeLine by decide), fun p2 n2 => ?_⟩
        refine ⟨_, rfl, fd, l, ns, 6, rfl, f3.same (Same.new n2), by decide, fun H4 r o4 f4 dr4 => ?_⟩
        obtain ⟨j4, hj4, rfl⟩ := Drawn.nat (n := 6) dr4 (by decide)
        obtain ⟨c4, hc4, b1, b2⟩ := pick6b hj4
        have np2 := f3.ne n2
        refine ⟨p2, _, _, _, rfl, rfl, SqL.of ((o4 p2 np2.1).trans upd_same), atI_nat hc4, ?_⟩
        have zp2 : sz ≠ p2 := ne_of_none hw n2
        have hw4 : H4 sz = some (.lst (tab p wf)) := (o4 sz z1).trans ((upd_ne zp2).trans hw)
        have s4 : SmX fd H H4 := (s3.trans (SmX.of (Same.new n2))).trans o4.smx
        -- behind by
        have rest2 : ∀ (H5 : Hp) (by_ : Int) (Dn : Ends), (∀ σ' H', (SmX fd H H' ∧ FeedAt H' fd l ns ∧ (∃ p wf, H' sz = some (.lst (tab p wf)) ∧ RowQ p wf ∧ p ≤ 1 + (i + 1)) ∧ ∃ a3 a4, σ' = [some (.ref fd), some (.bl great), some (.ref sz), a3, a4]) → Dn.nx σ' H') →
            SmX fd H H5 → FeedAt H5 fd l ns → H5 sz = some (.lst (tab p wf)) → 2 ≤ by_ → by_ ≤ 1000 →
            (tIfS (tTest (tOp (rI0 fun i j => V.bl (decide (i < j))) (tOp (rI CMul fun i j => V.int (i * j)) (tOp (rIxL K) (tVar 2) (tUn (rU fun i => V.int (-i)) (tC (V.int 1)))) (tVar 4)) (tOp (rI CPow fun i j => V.int (i ^ j.toNat)) (tC (V.int 10)) (tC (V.int 9))))) (tDrop (tBM K "list" rAppend (tVar 2) (tCons (tOp (rI CMul fun i j => V.int (i * j)) (tOp (rIxL K) (tVar 2) (tUn (rU fun i => V.int (-i)) (tC (V.int 1)))) (tVar 4)) tNil))) tNext) Dn [some (.ref fd), some (.bl great), some (.ref sz), some (.int (0 + (i : Int))), some (.int by_)] H5 := by
          intro H5 by_ Dn hn s5 f5 hw5 d1 d2
          have hp1 := rq.pos
          have q1 := rq.one (p - 1) (by omega)
          have q2 := rq.big (p - 1) (by omega)
          refine ⟨_, rfl, _, rfl, sz, _, _, _, rfl, rfl, SqL.of hw5, tab_last hp1, _, rfl, _, _, rfl, rfl, .inl ⟨by omega, by omega⟩, _, _, rfl, rfl, ⟨by decide, by decide, by decide⟩, _, _, rfl, rfl, _, rfl, ite2 (fun e => ?_) (fun e => ?_)⟩
          · have e1 : wf (p - 1) * by_ < 1000000000 := of_decide_eq_true e
            refine ⟨_, rfl, .inl ⟨rfl, _, SqL.of hw5⟩, _, rfl, _, rfl, sz, _, _, _, rfl, rfl, SqL.of hw5, tab_last hp1, _, rfl, _, _, rfl, rfl, .inl ⟨by omega, by omega⟩, sz, _, _, rfl, rfl, hw5, ?_, ?_⟩
            · rw [tab_len]
              exact small1000 (by omega)
            · refine hn _ _ ⟨s5.put nz, f5.put z1 z2, ⟨p + 1, _, ?_, rq.more d1 rfl e1, by omega⟩, _, _, rfl⟩
              rw [upd_same]
              exact congrArg (fun x => some (HO.lst x)) (tab_app _)
          · exact hn _ _ ⟨s5, f5, ⟨p, wf, hw5, rq, by omega⟩, _, _, rfl⟩
        refine ⟨_, rfl, _, rfl, ?_⟩
        cases great with
        | true =>
          refine ⟨_, rfl, fd, l, ns, 800, rfl, f4, by decide, fun H5 r5 o5 f5 dr5 => ?_⟩
          refine ⟨_, _, rfl, rfl, ?_⟩
          obtain ⟨g1, g2⟩ := dr5
          exact rest2 H5 _ _ (fun σ' H' h => h) (s4.trans o5.smx) f5 ((o5 sz z1).trans hw4) (by omega) (by omega)
        | false => exact rest2 H4 _ _ (fun σ' H' h => h) s4 f4 hw4 b1 (by omega)
      · rintro σ H3 ⟨s3, f3, ⟨p, wf, hw, rq, hp⟩, a3, a4, rfl⟩
        refine ⟨_, rfl, sz, _, rfl, .inl ⟨SqL.of hw, fun t nt => ?_⟩⟩
        exact k _ t p wf (s3.trans (SmX.of (Same.new nt))) (f3.same (Same.new nt)) upd_same (f3.ne nt).1 (rq.row (by omega))
    refine ⟨(show 6 ≤ sizeLine by decide), fun p1 n1 => ?_⟩
    refine ⟨_, rfl, fd, l, ns, 6, rfl, hf.same (Same.new n1), by decide, fun H2 r o2 f2 dr => ?_⟩
    obtain ⟨j, hj, rfl⟩ := Drawn.nat (n := 6) dr (by decide)
    obtain ⟨c, hc, a1, a2⟩ := pick6 hj
    have np1 := hf.ne n1
    refine ⟨p1, _, _, _, rfl, rfl, SqL.of ((o2 p1 np1.1).trans upd_same), atI_nat hc, (show 1 ≤ sizeLine by decide), fun sz nz => ?_⟩
    have nz0 : H sz = none := by
      have h1 := o2 sz (f2.ne nz).1
      rw [nz] at h1
      by_cases e : sz = p1
      · subst e; exact n1
      · rw [upd_ne e] at h1; exact h1.symm
    have s3 : SmX fd H (upd H2 sz (.lst [V.int c])) := ((SmX.of (Same.new n1)).trans o2.smx).trans (SmX.of (Same.new nz))
    have f3 := f2.same (Same.new (o := .lst [V.int c]) nz)
    refine ⟨_, rfl, _, rfl, ?_⟩
    cases great with
    | true =>
      refine ⟨_, rfl, fd, l, ns, 40, rfl, f3, by decide, fun H4 r4 o4 f4 dr4 => ?_⟩
      refine ⟨_, _, rfl, rfl, (show 1 ≤ sizeLine by decide), fun sz2 nz2 => ?_⟩
      obtain ⟨g1, g2⟩ := dr4
      have nz20 : H sz2 = none := by
        cases h : H sz2 with
        | none => rfl
        | some o =>
          have h1 := s3 sz2 o (f4.ne nz2).1 h
          rw [← o4 sz2 (f4.ne nz2).1, nz2] at h1
          cases h1
      exact rest _ sz2 _ ((s3.trans o4.smx).trans (SmX.of (Same.new nz2))) (f4.same (Same.new nz2)) upd_same nz20 (f4.ne nz2).1 (f4.ne nz2).2 (by omega) (by omega)
    | false => exact rest _ sz c s3 f3 upd_same nz0 (f2.ne nz).1 (f2.ne nz).2 a1 (by omega)
end
end K12


set_option Elab.async false
set_option linter.all false
set_option maxRecDepth 100000
namespace K12
open PySem PySem.Spec PyProof.Rows L2
/-! ### lists made by a block -/
/-- the tuples stay -/
def Keeps (H H' : Hp) : Prop := ∀ b t, H b = some (.tup t) → H' b = some (.tup t)
theorem Keeps.of {H H' : Hp} (s : Same H H') : Keeps H H' := fun b t e => s b _ e
theorem Keeps.trans {H H1 H2 : Hp} (a : Keeps H H1) (b : Keeps H1 H2) : Keeps H H2 := fun c t e => b c t (a c t e)
theorem Keeps.lst {H : Hp} {p : Addr} {xs ys : List V} (h : H p = some (.lst xs)) : Keeps H (upd H p (.lst ys)) := fun b t e => by
  by_cases z : b = p
  · rw [z, h] at e; cases e
  · rw [upd_ne z]; exact e
theorem lc_acc {J : It} {n : Nat} {G : Hp → Prop} {Y : Nat → Hp → V → Hp → Prop} {wi : TI} {g : TG} {tt : TT} {te : TE} {vs : List Nat} {σ : L2.St} {H : Hp} {Q : VK} (w : Walk J n G Y) (hn : n ≤ 1000) (hG : ∀ H', Same H H' → G H')
    (hwi : ∀ R : It → Hp → Prop, R J H → wi σ H R) (Acc : Nat → List V → Hp → Prop) (h0 : ∀ H', Same H H' → Acc 0 [] H') (mono : ∀ i xs H' H2, Acc i xs H' → Keeps H' H2 → Acc i xs H2)
    (turn : ∀ i x H1 H2 xs, i < n → Same H H1 → Acc i xs H1 → Y i H1 x H2 → ∀ (Yk : VK) (Nk : Hp → Prop), (∀ y H4, Same H1 H4 → Acc (i + 1) (xs ++ [y]) H4 → Yk y H4) → (∀ H4, Same H1 H4 → Acc (i + 1) xs H4 → Nk H4) →
      g x (wipe σ vs) H2 fun σ2 H2 => wipe σ2 vs = wipe σ vs ∧ tt σ2 H2 fun b H3 => if b = true then te σ2 H3 Yk else Nk H3)
    (hd : ∀ D xs H', H D = none → Same H H' → H' D = some (.lst xs) → xs.length ≤ n → Acc n xs H' → Q (.ref D) H') : tLc wi g tt te vs σ H Q := by
  refine hwi _ fun D nD => lc_it w (fun i H' => Same H H' ∧ ∃ xs, H' D = some (.lst xs) ∧ xs.length ≤ i ∧ Acc i xs H') ⟨Same.new nD, [], upd_same, Nat.le_refl 0, h0 _ (Same.new nD)⟩ (fun i H' _ p => hG H' p.1) ?_ ?_
  · rintro i x H1 H2 hi ⟨s1, xs, hx, hl, ha⟩ y
    refine turn i x H1 H2 xs hi s1 ha y _ _ (fun y H4 s4 a4 => ⟨xs, s4 _ _ hx, small1000 (by omega), (s1.trans s4).put nD, _, upd_same, ?_, mono _ _ _ _ a4 (Keeps.lst (s4 _ _ hx))⟩) (fun H4 s4 a4 => ⟨s1.trans s4, xs, s4 _ _ hx, by omega, a4⟩)
    rw [List.length_append]
    exact Nat.succ_le_succ hl
  · rintro H' ⟨s1, xs, hx, hl, ha⟩
    exact hd D xs H' nD s1 hx hl ha
theorem take_fil {α β : Type} {ys : List α} {i : Nat} {t : α} (e : ys[i]? = some t) (fb : α → Bool) (f : α → β) : ((ys.take (i + 1)).filter fb).map f = ((ys.take i).filter fb).map f ++ (if fb t = true then [f t] else []) := by
  rw [List.take_succ, e, List.filter_append, List.map_append]
  congr 1
  show List.map f (List.filter fb [t]) = _
  by_cases h : fb t = true
  · rw [if_pos h, List.filter_cons_of_pos h]; rfl
  · rw [if_neg h, List.filter_cons_of_neg h]; rfl
/-- numbers, of those that the test keeps -/
theorem lc_fil {α : Type} {ys : List α} {J : It} {G : Hp → Prop} {Y : Nat → Hp → V → Hp → Prop} {wi : TI} {g : TG} {tt : TT} {te : TE} {vs : List Nat} {σ : L2.St} {H : Hp} {Q : VK} (w : Walk J ys.length G Y) (hn : ys.length ≤ 1000) (hG : ∀ H', Same H H' → G H')
    (hwi : ∀ R : It → Hp → Prop, R J H → wi σ H R) (fb : α → Bool) (va : α → Int)
    (turn : ∀ i t x H1 H2, ys[i]? = some t → Same H H1 → Y i H1 x H2 → ∀ (Yk : VK) (Nk : Hp → Prop), (fb t = true → ∀ H4, Same H1 H4 → Yk (.int (va t)) H4) → (fb t = false → ∀ H4, Same H1 H4 → Nk H4) →
      g x (wipe σ vs) H2 fun σ2 H2 => wipe σ2 vs = wipe σ vs ∧ tt σ2 H2 fun b H3 => if b = true then te σ2 H3 Yk else Nk H3)
    (hd : ∀ D H', H D = none → Same H H' → H' D = some (.lst (((ys.filter fb).map va).map V.int)) → Q (.ref D) H') : tLc wi g tt te vs σ H Q := by
  refine lc_acc w hn hG hwi (fun i xs _ => xs = ((ys.take i).filter fb).map fun t => V.int (va t)) (fun _ _ => rfl) (fun _ _ _ _ h _ => h) ?_ ?_
  · rintro i x H1 H2 xs hi s1 rfl y Yk Nk hY hN
    have e : ys[i]? = some ys[i] := List.getElem?_eq_getElem hi
    refine turn i ys[i] x H1 H2 e s1 y Yk Nk (fun h H4 s4 => hY _ H4 s4 ?_) (fun h H4 s4 => hN H4 s4 ?_)
    · rw [take_fil e, if_pos h]
    · rw [take_fil e, if_neg (by rw [h]; decide), List.append_nil]
  · rintro D xs H' nD s1 hx _ rfl
    refine hd D H' nD s1 ?_
    rw [hx, List.take_length, List.map_map]
    rfl
theorem sum_fil {α : Type} (fb : α → Bool) (va : α → Int) : ∀ ys : List α, ((ys.filter fb).map va).sum = sm (fun t => if fb t = true then va t else 0) ys
  | [] => rfl
  | t :: r => by
    show _ = (if fb t = true then va t else 0) + sm _ r
    by_cases h : fb t = true
    · rw [List.filter_cons_of_pos h, if_pos h, List.map_cons, List.sum_cons, sum_fil fb va r]
    · rw [List.filter_cons_of_neg h, if_neg h, sum_fil fb va r]; omega
/-- tuples of numbers laid by a block or one by one -/
def TupsAt (H : Hp) (vs : List V) (ts : List (List V)) : Prop := vs.length = ts.length ∧ ∀ (i : Nat) (t : List V), ts[i]? = some t → ∃ a : Addr, vs[i]? = some (V.ref a) ∧ H a = some (.tup t)
theorem TupsAt.nil {H : Hp} : TupsAt H [] [] := ⟨rfl, fun i t e => by cases e⟩
theorem TupsAt.keep {H H' : Hp} {vs : List V} {ts : List (List V)} (h : TupsAt H vs ts) (k : Keeps H H') : TupsAt H' vs ts := ⟨h.1, fun i t e => by
  obtain ⟨a, h1, h2⟩ := h.2 i t e
  exact ⟨a, h1, k a t h2⟩⟩
theorem TupsAt.more {H : Hp} {vs : List V} {ts : List (List V)} {a : Addr} {t : List V} (h : TupsAt H vs ts) (e : H a = some (.tup t)) : TupsAt H (vs ++ [V.ref a]) (ts ++ [t]) := by
  refine ⟨by rw [List.length_append, List.length_append, h.1]; rfl, fun i u hu => ?_⟩
  by_cases z : i < ts.length
  · rw [List.getElem?_append_left z] at hu
    obtain ⟨b, h1, h2⟩ := h.2 i u hu
    exact ⟨b, by rw [List.getElem?_append_left (by rw [h.1]; exact z)]; exact h1, h2⟩
  · rw [List.getElem?_append_right (by omega)] at hu
    have z2 : i - ts.length = 0 := by
      cases k : i - ts.length with
      | zero => rfl
      | succ n => rw [k] at hu; cases hu
    rw [z2] at hu
    cases hu
    exact ⟨a, by rw [List.getElem?_append_right (by rw [h.1]; omega), h.1, z2]; rfl, e⟩
/-- new tuples, one for each thing -/
theorem lc_tups {α : Type} {ys : List α} {J : It} {G : Hp → Prop} {Y : Nat → Hp → V → Hp → Prop} {wi : TI} {g : TG} {te : TE} {vs : List Nat} {σ : L2.St} {H : Hp} {Q : VK} (w : Walk J ys.length G Y) (hn : ys.length ≤ 1000) (hG : ∀ H', Same H H' → G H')
    (hwi : ∀ R : It → Hp → Prop, R J H → wi σ H R) (va : α → List V)
    (turn : ∀ i t x H1 H2, ys[i]? = some t → Same H H1 → Y i H1 x H2 → ∀ (Yk : VK), (∀ a H4, Same H1 H4 → H4 a = some (.tup (va t)) → Yk (.ref a) H4) →
      g x (wipe σ vs) H2 fun σ2 H2 => wipe σ2 vs = wipe σ vs ∧ te σ2 H2 Yk)
    (hd : ∀ D xs H', H D = none → Same H H' → H' D = some (.lst xs) → TupsAt H' xs (ys.map va) → Q (.ref D) H') : tLc wi g tYes te vs σ H Q := by
  refine lc_acc w hn hG hwi (fun i xs H' => TupsAt H' xs ((ys.take i).map va)) (fun _ _ => TupsAt.nil) (fun _ _ _ _ h k => h.keep k) ?_ ?_
  · rintro i x H1 H2 xs hi s1 ha y Yk Nk hY hN
    have e : ys[i]? = some ys[i] := List.getElem?_eq_getElem hi
    refine turn i ys[i] x H1 H2 e s1 y Yk (fun a H4 s4 h4 => hY _ H4 s4 ?_)
    rw [List.take_succ, e, List.map_append]
    exact (ha.keep (Keeps.of s4)).more h4
  · rintro D xs H' nD s1 hx _ ha
    rw [List.take_length] at ha
    exact hd D xs H' nD s1 hx ha
end K12


set_option Elab.async false
set_option linter.all false
set_option maxRecDepth 100000
namespace K12
open PySem PySem.Spec PyProof.Rows L2
section
variable {P : Program} {w : World} {K : PySem.W.Frag} {mg : Str → Option Value} {base : Heap}
def sp_law_side : Sp := fun vs H Q _ => ∃ (fd l r : Addr) (ns : List Int) (p : Nat) (wf : Nat → Int) (great : Bool), vs = [.ref fd, .ref r, .bl great] ∧ FeedAt H fd l ns ∧ H r = some (.tup (tab p wf)) ∧ Row p wf ∧
  ∀ H' z, Off fd H H' → FeedAt H' fd l ns → 1 ≤ z → z < 1000000000000000 → Q (.int z) H'
theorem ok_law_side (T : Txt mg) (D : Df K mg "_law_side" s_law_side ["_law_feed", "_law_row", "_law_great"]) (c__law_take : Cal P w K mg base CX0 1 "_law_take" ["_law_feed", "_law_many"] sp_law_take) :
    FnOk P w K mg base CX0 2 D.f D.fd ["_law_feed", "_law_row", "_law_great"] sp_law_side := by
  refine D.F.ok S_law_side (fun vs H Q E h => ?_) (fun cdv A outer s H vs Q E hr h => ?_)
  · obtain ⟨fd, l, r, ns, p, wf, great, rfl, _⟩ := h
    rfl
  · obtain ⟨fd, l, ra, ns, p, wf, great, rfl, hf, hra, R, k⟩ := h
    refine ⟨_, (pss_cons (ps_set (i := 3) S_law_side.nd rfl (Or.inl rfl) (pe_call c__law_take.ok (hr.mono (by decide)) (by rfl) c__law_take.g c__law_take.kp c__law_take.b .nil pass0 (pa_cons (pv 0) (pa_cons pe_int pa_nil))))
      (pss_cons (ps_if (PW.pt (pw_and (pt_val (pv 2)) (pw_and1 (pt_cmpR op_gt (pv 3) pe_int (nomark _))))) (pss_one (ps_ret (pe_op op_add pe_int (pe_call c__law_take.ok (hr.mono (by decide)) (by rfl) c__law_take.g c__law_take.kp c__law_take.b .nil pass0 (pa_cons (pv 0) (pa_cons (pe_op op_sub (pe_op op_pow pe_int pe_int) pe_int) pa_nil)))))) pss_nil)
      (pss_cons (ps_if (pt_cmpR op_eq (pv 3) pe_int (nomark _)) (pss_one (ps_ret (pe_op op_add pe_int (pe_call c__law_take.ok (hr.mono (by decide)) (by rfl) c__law_take.g c__law_take.kp c__law_take.b .nil pass0 (pa_cons (pv 0) (pa_cons (pe_callB (call_max2 rfl) (by rfl) T.max_ (by decide +kernel) (pa_cons pe_int (pa_cons (pe_op op_sub (pe_ix ix_tup (pv 1) pe_int (fun _ _ => rfl)) pe_int) pa_nil))) pa_nil)))))) pss_nil)
      (pss_cons (ps_set (i := 4) S_law_side.nd rfl (Or.inl rfl) (pe_ix ix_tup (pv 1) (pe_call c__law_take.ok (hr.mono (by decide)) (by rfl) c__law_take.g c__law_take.kp c__law_take.b .nil pass0 (pa_cons (pv 0) (pa_cons (pe_callB call_len_seq (by rfl) T.len_ (by decide +kernel) (pa_cons (pv 1) pa_nil)) pa_nil))) (fun _ _ => rfl)))
      (pss_cons (ps_if (pt_cmpR op_lt (pv 3) pe_int (nomark _)) (pss_one (ps_ret (pe_op op_mul (pv 4) (pe_op op_add pe_int (pe_call c__law_take.ok (hr.mono (by decide)) (by rfl) c__law_take.g c__law_take.kp c__law_take.b .nil pass0 (pa_cons (pv 0) (pa_cons pe_int pa_nil))))))) pss_nil)
      (pss_one (ps_ret (pe_op op_add (pe_op op_mul (pv 4) (pe_op op_add pe_int (pe_call c__law_take.ok (hr.mono (by decide)) (by rfl) c__law_take.g c__law_take.kp c__law_take.b .nil pass0 (pa_cons (pv 0) (pa_cons pe_int pa_nil))))) (pe_call c__law_take.ok (hr.mono (by decide)) (by rfl) c__law_take.g c__law_take.kp c__law_take.b .nil pass0 (pa_cons (pv 0) (pa_cons (pe_op op_add (pe_ix ix_tup (pv 1) (pe_un un_neg pe_int) (fun _ _ => rfl)) pe_int) pa_nil))))))))))), ?_⟩
    have hp := R.pos
    have nra : ra ≠ fd := fun z => by
      obtain ⟨_, _, _, h1, _⟩ := hf
      rw [z, h1] at hra
      cases hra
    refine ⟨_, rfl, fd, l, ns, 8, rfl, hf, by decide, fun H1 sh o1 f1 dr => ?_⟩
    have hr1 : H1 ra = some (.tup (tab p wf)) := (o1 ra nra).trans hra
    obtain ⟨d1, d2⟩ := dr
    have rest : (tSeq (tIfS (tTest (tOp rEq (tVar 3) (tC (V.int 0)))) (tRet (tOp (rI0 fun i j => V.int (i + j)) (tC (V.int 1)) (tCall sp_law_take [] E0 (tCons (tVar 0) (tCons (tCB rMax2 (tCons (tC (V.int 1)) (tCons (tOp (rI0 fun i j => V.int (i - j)) (tOp (rIxT K) (tVar 1) (tC (V.int 0))) (tC (V.int 1))) tNil))) tNil))))) tNext)
      (tSeq (tAsg (tOp (rIxT K) (tVar 1) (tCall sp_law_take [] E0 (tCons (tVar 0) (tCons (tCB (rLen K) (tCons (tVar 1) tNil)) tNil)))) (gName 4))
      (tSeq (tIfS (tTest (tOp (rI0 fun i j => V.bl (decide (i < j))) (tVar 3) (tC (V.int 4)))) (tRet (tOp (rI CMul fun i j => V.int (i * j)) (tVar 4) (tOp (rI0 fun i j => V.int (i + j)) (tC (V.int 1)) (tCall sp_law_take [] E0 (tCons (tVar 0) (tCons (tC (V.int 5)) tNil)))))) tNext)
      (tRet (tOp (rI0 fun i j => V.int (i + j)) (tOp (rI CMul fun i j => V.int (i * j)) (tVar 4) (tOp (rI0 fun i j => V.int (i + j)) (tC (V.int 1)) (tCall sp_law_take [] E0 (tCons (tVar 0) (tCons (tC (V.int 3)) tNil))))) (tCall sp_law_take [] E0 (tCons (tVar 0) (tCons (tOp (rI0 fun i j => V.int (i + j)) (tOp (rIxT K) (tVar 1) (tUn (rU fun i => V.int (-i)) (tC (V.int 1)))) (tC (V.int 2))) tNil)))))))) { nx := fun _ H' => Q .non H', rt := Q } [some (.ref fd), some (.ref ra), some (.bl great), some (.int sh), none] H1 := by
      refine ⟨_, rfl, rfl, _, rfl, ite2 (fun e => ?_) (fun e => ?_)⟩
      · have w0 := R.one 0 (by omega)
        have w1 := R.big 0 (by omega)
        refine ⟨_, rfl, _, rfl, ra, _, 0, _, rfl, rfl, SqT.of hr1, atI_nat (j := 0) (tab_get (by omega)), _, _, rfl, rfl, _, _, rfl, fd, l, ns, _, rfl, f1, ?_, fun H2 r2 o2 f2 dr2 => ?_⟩
        · split <;> omega
        · obtain ⟨e1, e2⟩ := dr2
          refine ⟨_, _, rfl, rfl, k H2 _ (o1.trans o2) f2 (by omega) ?_⟩
          split at e2 <;> omega
      · refine ⟨_, rfl, _, rfl, _, rfl, ra, _, rfl, .inr (SqT.of hr1), fd, l, ns, _, rfl, f1, ?_, fun H2 r2 o2 f2 dr2 => ?_⟩
        · have := R.le; rw [tab_len]; omega
        have hr2 : H2 ra = some (.tup (tab p wf)) := (o2 ra nra).trans hr1
        rw [tab_len] at dr2
        obtain ⟨j, hj, rfl⟩ := Drawn.nat dr2 hp
        have w0 := R.one j hj
        have w1 := R.big j hj
        refine ⟨ra, _, _, _, rfl, rfl, SqT.of hr2, atI_nat (tab_get hj), ?_⟩
        refine ⟨_, rfl, _, _, rfl, rfl, _, rfl, ite2 (fun e2 => ?_) (fun e2 => ?_)⟩
        · refine ⟨_, rfl, _, rfl, fd, l, ns, 5, rfl, f2, by decide, fun H3 r3 o3 f3 dr3 => ?_⟩
          obtain ⟨g1, g2⟩ := dr3
          refine ⟨_, _, rfl, rfl, _, _, rfl, rfl, .inl ⟨by omega, by omega⟩, k H3 _ ((o1.trans o2).trans o3) f3 ?_ ?_⟩
          · have : 1 * 1 ≤ wf j * (1 + r3) := Int.mul_le_mul w0 (by omega) (by omega) (by omega)
            omega
          · have : wf j * (1 + r3) ≤ 1073741824 * 5 := Int.mul_le_mul (by omega) (by omega) (by omega) (by omega)
            omega
        · refine ⟨_, rfl, _, rfl, fd, l, ns, 3, rfl, f2, by decide, fun H3 r3 o3 f3 dr3 => ?_⟩
          obtain ⟨g1, g2⟩ := dr3
          have hr3 : H3 ra = some (.tup (tab p wf)) := (o3 ra nra).trans hr2
          have w2 := R.one (p - 1) (by omega)
          have w3 := R.big (p - 1) (by omega)
          refine ⟨_, _, rfl, rfl, _, _, rfl, rfl, .inl ⟨by omega, by omega⟩, _, rfl, _, rfl, _, rfl, ra, _, _, _, rfl, rfl, SqT.of hr3, tab_last hp, _, _, rfl, rfl, fd, l, ns, _, rfl, f3, by omega, fun H4 r4 o4 f4 dr4 => ?_⟩
          obtain ⟨j1, j2⟩ := dr4
          have b1 : 1 * 1 ≤ wf j * (1 + r3) := Int.mul_le_mul w0 (by omega) (by omega) (by omega)
          have b2 : wf j * (1 + r3) ≤ 1073741824 * 3 := Int.mul_le_mul (by omega) (by omega) (by omega) (by omega)
          exact ⟨_, _, rfl, rfl, k H4 _ (((o1.trans o2).trans o3).trans o4) f4 (by omega) (by omega)⟩
    cases great with
    | false => exact ⟨_, rfl, _, rfl, rest⟩
    | true =>
      refine ⟨_, rfl, _, rfl, ?_⟩
      refine ⟨_, rfl, _, _, rfl, rfl, _, rfl, ite2 (fun e => ?_) (fun e => ?_)⟩
      · refine ⟨_, rfl, _, _, rfl, rfl, ⟨by decide, by decide, by decide⟩, _, _, rfl, rfl, fd, l, ns, _, rfl, f1, by decide, fun H2 r2 o2 f2 dr2 => ?_⟩
        obtain ⟨g1, g2⟩ := dr2
        refine ⟨_, _, rfl, rfl, k H2 _ (o1.trans o2) f2 (by omega) ?_⟩
        have e10 : (10 : Int) ^ (12 : Int).toNat - 1 = 999999999999 := by decide
        rw [e10] at g2
        omega
      · exact rest
end
end K12


set_option Elab.async false
set_option linter.all false
set_option maxRecDepth 100000
namespace K12
open PySem PySem.Spec PyProof.Rows L2
theorem SmX.keeps {H0 H H' : Hp} {fd l : Addr} {ns : List Int} (f : FeedAt H fd l ns) (s : SmX fd H H') : Keeps H H' := fun b t e => by
  refine s b _ (fun z => ?_) e
  obtain ⟨_, _, _, h1, _⟩ := f
  rw [z, h1] at e
  cases e
theorem ListsAt.keep {H H' : Hp} {L : Addr} {ws hs : List V} (h : ListsAt H L ws hs) (k : Keeps H H') : ListsAt H' L ws hs := by
  obtain ⟨a, b, h1, h2, h3⟩ := h
  exact ⟨a, b, k _ _ h1, k _ _ h2, k _ _ h3⟩
theorem TupsAt.rows {H : Hp} {S : Addr} {vs : List V} {ts : List (Int × Int × Int)} (h : TupsAt H vs (ts.map fun t => tri3 t.1 t.2.1 t.2.2)) (e : H S = some (.tup vs)) : RowsAt H S ts vs where
  at_ := e
  len := h.1.trans (List.length_map _)
  item := fun i t ht => h.2 i _ (by rw [List.getElem?_map, ht]; rfl)
theorem pick7 {j : Nat} (h : j < 7) : ∃ c : Nat, [V.int 1, V.int 1, V.int 2, V.int 3, V.int 0, V.int 4, V.int 2][j]? = some (.int (c : Nat)) ∧ c ≤ 4 := by
  match j, h with
  | 0, _ => exact ⟨1, rfl, by decide⟩
  | 1, _ => exact ⟨1, rfl, by decide⟩
  | 2, _ => exact ⟨2, rfl, by decide⟩
  | 3, _ => exact ⟨3, rfl, by decide⟩
  | 4, _ => exact ⟨0, rfl, by decide⟩
  | 5, _ => exact ⟨4, rfl, by decide⟩
  | 6, _ => exact ⟨2, rfl, by decide⟩
theorem pick5b {j : Nat} (h : j < 5) : ∃ c : Int, [V.int 1, V.int 2, V.int 4, V.int 7, V.int 12][j]? = some (.int c) ∧ 1 ≤ c ∧ c ≤ 12 := by
  match j, h with
  | 0, _ => exact ⟨1, rfl, by decide, by decide⟩
  | 1, _ => exact ⟨2, rfl, by decide, by decide⟩
  | 2, _ => exact ⟨4, rfl, by decide, by decide⟩
  | 3, _ => exact ⟨7, rfl, by decide, by decide⟩
  | 4, _ => exact ⟨12, rfl, by decide, by decide⟩
theorem AscF.app : ∀ {ld : List Ent} {lo : Option (Int × Int)} {u : Ent}, AscF lo ld → (match lo with | none => True | some l => leP ((u.1 : Int), (u.2.1 : Int)) l = false) → (∀ t ∈ ld, leP ((u.1 : Int), (u.2.1 : Int)) ((t.1 : Int), (t.2.1 : Int)) = false) → AscF lo (ld ++ [u])
  | [], _, _, _, h, _ => ⟨h, trivial⟩
  | t :: r, _, _, ha, h, ht => ⟨ha.1, AscF.app ha.2 (ht t List.mem_cons_self) fun x hx => ht x (List.mem_cons_of_mem _ hx)⟩
section
variable {P : Program} {w : World} {K : PySem.W.Frag} {mg : Str → Option Value} {base : Heap}
/-- a list of rows in the making at M -/
structure MakeQ (H0 H : Hp) (fd l M : Addr) (ns : List Int) (ts : List (Int × Int × Int)) (n : Nat) : Prop where
  sm : SmX fd H0 H
  fa : FeedAt H fd l ns
  ls : ∃ xs, H M = some (.lst xs) ∧ TupsAt H xs (ts.map fun t => tri3 t.1 t.2.1 t.2.2)
  le : ts.length ≤ n
  fr : H0 M = none
  nf : M ≠ fd
  nl : M ≠ l
theorem MakeQ.off {H0 H H' : Hp} {fd l M : Addr} {ns : List Int} {ts : List (Int × Int × Int)} {n : Nat} (q : MakeQ H0 H fd l M ns ts n) (o : Off fd H H') (f : FeedAt H' fd l ns) : MakeQ H0 H' fd l M ns ts n where
  sm := q.sm.trans o.smx
  fa := f
  ls := by
    obtain ⟨xs, h1, h2⟩ := q.ls
    exact ⟨xs, (o M q.nf).trans h1, h2.keep (SmX.keeps (H0 := H) q.fa o.smx)⟩
  le := q.le
  fr := q.fr
  nf := q.nf
  nl := q.nl
theorem MakeQ.same {H0 H H' : Hp} {fd l M : Addr} {ns : List Int} {ts : List (Int × Int × Int)} {n : Nat} (q : MakeQ H0 H fd l M ns ts n) (s : Same H H') : MakeQ H0 H' fd l M ns ts n where
  sm := q.sm.trans (SmX.of s)
  fa := q.fa.same s
  ls := by
    obtain ⟨xs, h1, h2⟩ := q.ls
    exact ⟨xs, s _ _ h1, h2.keep (Keeps.of s)⟩
  le := q.le
  fr := q.fr
  nf := q.nf
  nl := q.nl
theorem MakeQ.mono {H0 H : Hp} {fd l M : Addr} {ns : List Int} {ts : List (Int × Int × Int)} {n m : Nat} (q : MakeQ H0 H fd l M ns ts n) (h : n ≤ m) : MakeQ H0 H fd l M ns ts m :=
  ⟨q.sm, q.fa, q.ls, Nat.le_trans q.le h, q.fr, q.nf, q.nl⟩
/-- made.append((a, b, c)), behind the reading of the three -/
theorem MakeQ.app {H0 H : Hp} {fd l M : Addr} {ns : List Int} {ts : List (Int × Int × Int)} {n : Nat} {a b c : Int} (q : MakeQ H0 H fd l M ns ts n) {T : Addr} (nT : H T = none) :
    ∃ xs, (upd H T (.tup (tri3 a b c))) M = some (.lst xs) ∧ xs.length ≤ n ∧ MakeQ H0 (upd (upd H T (.tup (tri3 a b c))) M (.lst (xs ++ [V.ref T]))) fd l M ns (ts ++ [(a, b, c)]) (n + 1) := by
  obtain ⟨xs, h1, h2⟩ := (q.same (Same.new (o := .tup (tri3 a b c)) nT)).ls
  have q2 := q.same (Same.new (o := .tup (tri3 a b c)) nT)
  refine ⟨xs, h1, by rw [h2.1, List.length_map]; exact q.le, q2.sm.put q.fr, q2.fa.put q.nf q.nl, ⟨_, upd_same, ?_⟩, by rw [List.length_append]; exact Nat.succ_le_succ q.le, q.fr, q.nf, q.nl⟩
  rw [List.map_append]
  exact (h2.more upd_same).keep (Keeps.lst h1)
theorem MakeQ.keeps {H0 H : Hp} {fd l M : Addr} {ns : List Int} {ts : List (Int × Int × Int)} {n : Nat} (f0 : FeedAt H0 fd l ns) (q : MakeQ H0 H fd l M ns ts n) : Keeps H0 H := SmX.keeps (H0 := H0) f0 q.sm
def sp_law_make_store : Sp := fun vs H Q _ => ∃ (fd l L : Addr) (ns : List Int) (p q : Nat) (wf hf : Nat → Int) (great : Bool), vs = [.ref fd, .ref L, .bl great] ∧ FeedAt H fd l ns ∧ ListsAt H L (tab p wf) (tab q hf) ∧ Row p wf ∧ Row q hf ∧
  ∀ H' S st, SmX fd H H' → FeedAt H' fd l ns → StockAt H' S st → InS st → st.length ≤ 4 → Q (.ref S) H'
theorem ok_law_make_store (T : Txt mg) (D : Df K mg "_law_make_store" s_law_make_store ["_law_feed", "_law_rows", "_law_great"]) (c__law_take : Cal P w K mg base CX0 1 "_law_take" ["_law_feed", "_law_many"] sp_law_take)
    (c__law_side : Cal P w K mg base CX0 2 "_law_side" ["_law_feed", "_law_row", "_law_great"] sp_law_side) :
    FnOk P w K mg base CX0 3 D.f D.fd ["_law_feed", "_law_rows", "_law_great"] sp_law_make_store := by
  refine D.F.ok S_law_make_store (fun vs H Q E h => ?_) (fun cdv A outer s H vs Q E hr h => ?_)
  · obtain ⟨fd, l, L, ns, p, q, wf, hf, great, rfl, _⟩ := h
    rfl
  · obtain ⟨fd, l, L, ns, p, q, wf, hf, great, rfl, fa, hL, Rw, Rh, k⟩ := h
    refine ⟨_, (pss_cons (ps_set (i := 3) S_law_make_store.nd rfl (Or.inl rfl) (pe_lst pa_nil))
      (pss_cons (ps_for PassesOwn.never rfl (pi_range1 (by rfl) T.range_ (pa_cons (pe_ix ix_list (pe_lst (pa_cons pe_int (pa_cons pe_int (pa_cons pe_int (pa_cons pe_int (pa_cons pe_int (pa_cons pe_int (pa_cons pe_int pa_nil)))))))) (pe_call c__law_take.ok (hr.mono (by decide)) (by rfl) c__law_take.g c__law_take.kp c__law_take.b .nil pass0 (pa_cons (pv 0) (pa_cons pe_int pa_nil))) (fun _ _ => rfl)) pa_nil)) (pg_name (i := 4) S_law_make_store.nd rfl (Or.inl rfl)) (pss_cons (ps_set (i := 5) S_law_make_store.nd rfl (Or.inl rfl) (pe_call c__law_side.ok (hr.mono (by decide)) (by rfl) c__law_side.g c__law_side.kp c__law_side.b .nil pass0 (pa_cons (pv 0) (pa_cons (pe_ix ix_tup (pv 1) pe_int (fun _ _ => rfl)) (pa_cons (pv 2) pa_nil)))))
      (pss_cons (ps_set (i := 6) S_law_make_store.nd rfl (Or.inl rfl) (pe_call c__law_side.ok (hr.mono (by decide)) (by rfl) c__law_side.g c__law_side.kp c__law_side.b .nil pass0 (pa_cons (pv 0) (pa_cons (pe_ix ix_tup (pv 1) pe_int (fun _ _ => rfl)) (pa_cons (pv 2) pa_nil)))))
      (pss_cons (ps_set (i := 7) S_law_make_store.nd rfl (Or.inl rfl) (pe_op op_add pe_int (pe_call c__law_take.ok (hr.mono (by decide)) (by rfl) c__law_take.g c__law_take.kp c__law_take.b .nil pass0 (pa_cons (pv 0) (pa_cons pe_int pa_nil)))))
      (pss_cons (ps_if (PW.pt (pw_and (pt_val (pv 2)) (pw_and1 (pt_cmpR op_eq (pe_call c__law_take.ok (hr.mono (by decide)) (by rfl) c__law_take.g c__law_take.kp c__law_take.b .nil pass0 (pa_cons (pv 0) (pa_cons pe_int pa_nil))) pe_int (nomark _))))) (pss_one (ps_set (i := 7) S_law_make_store.nd rfl (Or.inl rfl) (pe_op op_add pe_int (pe_call c__law_take.ok (hr.mono (by decide)) (by rfl) c__law_take.g c__law_take.kp c__law_take.b .nil pass0 (pa_cons (pv 0) (pa_cons (pe_op op_sub (pe_op op_pow pe_int pe_int) pe_int) pa_nil)))))) pss_nil)
      (pss_one (ps_expr (pe_bm PySem.F.plainAttrs_list PySem.F.slot_list_append PySem.F.type_list_append mt_append (pv 3) (pa_cons (pe_tup (pa_cons (pv 5) (pa_cons (pv 6) (pa_cons (pv 7) pa_nil)))) pa_nil)))))))))
      (pss_one (ps_ret (pe_callTy call_tuple_of (by rfl) T.tuple_ (by decide +kernel) (pa_cons (pv 3) pa_nil)))))), ?_⟩
    refine ⟨Nat.zero_le _, fun M nM => ?_⟩
    have nM2 := fa.ne nM
    have q0 : MakeQ H (upd H M (.lst [])) fd l M ns [] 0 := ⟨SmX.of (Same.new nM), fa.same (Same.new nM), ⟨[], upd_same, TupsAt.nil⟩, Nat.le_refl 0, nM, nM2.1, nM2.2⟩
    refine ⟨(show 7 ≤ sizeLine by decide), fun p1 n1 => ?_⟩
    have q1 := q0.same (Same.new (o := .lst [V.int 1, V.int 1, V.int 2, V.int 3, V.int 0, V.int 4, V.int 2]) n1)
    refine ⟨_, rfl, fd, l, ns, 7, rfl, q1.fa, by decide, fun H2 r o2 f2 dr => ?_⟩
    obtain ⟨j, hj, rfl⟩ := Drawn.nat (n := 7) dr (by decide)
    obtain ⟨c, hc, c4⟩ := pick7 hj
    have np1 := q0.fa.ne n1
    refine ⟨p1, _, _, _, rfl, rfl, SqL.of ((o2 p1 np1.1).trans upd_same), atI_nat hc, _, rfl, by omega, by omega, ?_⟩
    have q2 := q1.off o2 f2
    rw [Int.toNat_natCast]
    refine for_range (lo := 0) (n := c) (fun i σ H' => (∃ ts : List Tri, MakeQ H H' fd l M ns ts i ∧ InS ts) ∧ ∃ a4 a5 a6 a7, σ = [some (.ref fd), some (.ref L), some (.bl great), some (.ref M), a4, a5, a6, a7])
      ⟨⟨[], q2, fun _ h => by cases h⟩, _, _, _, _, rfl⟩ ?_ ?_
    · rintro i σ H3 hi ⟨⟨ts, q3, i3⟩, a4, a5, a6, a7, rfl⟩
      obtain ⟨lw, lh, L1, L2, L3⟩ := hL.keep (q3.keeps fa)
      refine ⟨_, rfl, _, rfl, L, _, 0, _, rfl, rfl, SqT.of L1, atI_nat (j := 0) rfl, _, rfl, fd, l, lw, ns, p, wf, great, rfl, q3.fa, L2, Rw, fun H4 wd o4 f4 w1 w2 => ?_⟩
      have q4 := q3.off o4 f4
      obtain ⟨lw', lh', M1, M2, M3⟩ := hL.keep (q4.keeps fa)
      refine ⟨_, rfl, _, rfl, L, _, 1, _, rfl, rfl, SqT.of M1, atI_nat (j := 1) rfl, _, rfl, fd, l, lh', ns, q, hf, great, rfl, q4.fa, M3, Rh, fun H5 hg o5 f5 h1 h2 => ?_⟩
      have q5 := q4.off o5 f5
      have fin : ∀ (H6 : Hp) (cn : Int) (Dn : Ends), (∀ σ' H', ((∃ ts : List Tri, MakeQ H H' fd l M ns ts (i + 1) ∧ InS ts) ∧ ∃ a4 a5 a6 a7, σ' = [some (.ref fd), some (.ref L), some (.bl great), some (.ref M), a4, a5, a6, a7]) → Dn.nx σ' H') →
          MakeQ H H6 fd l M ns ts i → 1 ≤ cn → (tDrop (tBM K "list" rAppend (tVar 3) (tCons (tTup (tCons (tVar 5) (tCons (tVar 6) (tCons (tVar 7) tNil)))) tNil))) Dn [some (.ref fd), some (.ref L), some (.bl great), some (.ref M), some (.int (0 + (i : Int))), some (.int wd), some (.int hg), some (.int cn)] H6 := by
        intro H6 cn Dn hn q6 hcn
        have hxs := q6.ls
        obtain ⟨xs, hxs, _⟩ := hxs
        refine ⟨_, rfl, .inl ⟨rfl, _, SqL.of hxs⟩, _, rfl, _, rfl, _, rfl, (show 3 ≤ sizeLine by decide), fun T nT => ?_⟩
        obtain ⟨ys, y1, y2, y3⟩ := q6.app (a := wd) (b := hg) (c := cn) nT
        refine ⟨M, _, _, rfl, rfl, y1, small1000 (by omega), hn _ _ ⟨⟨_, y3, fun t ht => ?_⟩, _, _, _, _, rfl⟩⟩
        rcases List.mem_append.mp ht with z | z
        · exact i3 t z
        · cases List.mem_singleton.mp z
          exact ⟨w1, w2, h1, h2, hcn⟩
      refine ⟨_, rfl, fd, l, ns, 4, rfl, q5.fa, by decide, fun H6 r6 o6 f6 d6 => ?_⟩
      obtain ⟨e1, e2⟩ := d6
      have q6 := q5.off o6 f6
      refine ⟨_, _, rfl, rfl, ?_⟩
      cases great with
      | false => exact ⟨_, rfl, _, rfl, fin H6 _ _ (fun _ _ h => h) q6 (by omega)⟩
      | true =>
        refine ⟨_, rfl, _, rfl, ?_⟩
        refine ⟨_, rfl, fd, l, ns, 2, rfl, q6.fa, by decide, fun H7 r7 o7 f7 d7 => ?_⟩
        have q7 := q6.off o7 f7
        refine ⟨rfl, _, rfl, ite2 (fun e => ?_) (fun e => ?_)⟩
        · refine ⟨_, rfl, _, _, rfl, rfl, ⟨by decide, by decide, by decide⟩, _, _, rfl, rfl, fd, l, ns, _, rfl, q7.fa, by decide, fun H8 r8 o8 f8 d8 => ?_⟩
          obtain ⟨g1, g2⟩ := d8
          exact ⟨_, _, rfl, rfl, fin H8 _ _ (fun _ _ h => h) (q7.off o8 f8) (by omega)⟩
        · exact fin H7 _ _ (fun _ _ h => h) q7 (by omega)
    · rintro σ H3 ⟨⟨ts, q3, i3⟩, a4, a5, a6, a7, rfl⟩
      obtain ⟨xs, x1, x2⟩ := q3.ls
      refine ⟨_, rfl, M, _, rfl, .inl ⟨SqL.of x1, fun t nt => ?_⟩⟩
      refine k _ t ts (q3.sm.trans (SmX.of (Same.new nt))) (q3.fa.same (Same.new nt)) ⟨_, (x2.keep (Keeps.of (Same.new nt))).rows upd_same⟩ i3 (by have := q3.le; omega)
end
end K12


set_option Elab.async false
set_option linter.all false
set_option maxRecDepth 100000
namespace K12
open PySem PySem.Spec PyProof.Rows L2
/-- over a tuple of triples -/
theorem lc_rows {K : PySem.W.Frag} {S : Addr} {ts : List (Int × Int × Int)} {rs : List V} {tl : TE} {g : TG} {tt : TT} {te : TE} {vs : List Nat} {σ : L2.St} {H : Hp} {Q : VK} (h : RowsAt H S ts rs) (hn : ts.length ≤ 1000) (hl : ∀ Q : VK, Q (.ref S) H → tl σ H Q)
    (fb : Int × Int × Int → Bool) (va : Int × Int × Int → Int)
    (turn : ∀ (i : Nat) (t : Int × Int × Int) (a : Addr) (H1 : Hp), ts[i]? = some t → Same H H1 → H1 a = some (.tup (tri3 t.1 t.2.1 t.2.2)) → ∀ (Yk : VK) (Nk : Hp → Prop), (fb t = true → ∀ H4, Same H1 H4 → Yk (.int (va t)) H4) → (fb t = false → ∀ H4, Same H1 H4 → Nk H4) →
      g (.ref a) (wipe σ vs) H1 fun σ2 H2 => wipe σ2 vs = wipe σ vs ∧ tt σ2 H2 fun b H3 => if b = true then te σ2 H3 Yk else Nk H3)
    (hd : ∀ D H', H D = none → Same H H' → H' D = some (.lst (((ts.filter fb).map va).map V.int)) → Q (.ref D) H') : tLc (iTup K tl) g tt te vs σ H Q := by
  have w : Walk (Itt K S) ts.length (fun H => SqT K H S rs) (YAt rs) := by rw [← h.len]; exact walk_tup
  refine lc_fil w hn (fun H' s => SqT.of (s _ _ h.at_)) (fun R hR => hl _ ⟨S, rfl, ⟨rs, SqT.of h.at_⟩, hR⟩) fb va ?_ hd
  rintro i t x H1 H2 ht s1 ⟨rfl, hx⟩ Yk Nk hY hN
  obtain ⟨t', a, h1, rfl, h3⟩ := (h.same s1).nth hx
  have e := Option.some.inj (h1.symm.trans ht)
  subst e
  exact turn i _ a H2 ht s1 h3 Yk Nk hY hN
theorem cb1 {r : List V → Hp → VK → Prop} {te : TE} {σ : L2.St} {H : Hp} {Q : VK} (h : te σ H fun x H1 => r [x] H1 Q) : tCB r (tCons te tNil) σ H Q := h
section
variable {P : Program} {w : World} {K : PySem.W.Frag} {mg : Str → Option Value} {base : Heap}
theorem fresh_smx {H H' : Hp} {fd l M : Addr} {ns : List Int} (f : FeedAt H' fd l ns) (s : SmX fd H H') (n : H' M = none) : H M = none := by
  cases h : H M with
  | none => rfl
  | some o =>
    have := s M o (f.ne n).1 h
    rw [n] at this
    cases this
theorem leP_new {x y : Nat} {t : Ent} (h : t.1 < x ∨ (t.1 = x ∧ t.2.1 < y)) : leP ((x : Int), (y : Int)) ((t.1 : Int), (t.2.1 : Int)) = false := by
  unfold leP
  refine decide_eq_false fun z => ?_
  rcases z with z | ⟨z1, z2⟩
  · have : (x : Int) < (t.1 : Int) := z
    omega
  · have a : (x : Int) = (t.1 : Int) := z1
    have b : (y : Int) ≤ (t.2.1 : Int) := z2
    omega
theorem entI_app (ld : List Ent) (u : Ent) : entI (ld ++ [u]) = entI ld ++ [((u.1 : Int), (u.2.1 : Int), u.2.2)] := by
  unfold entI
  rw [List.map_append]
  rfl
def sp_law_make_load : Sp := fun vs H Q _ => ∃ (fd l L S : Addr) (ns : List Int) (p q : Nat) (wf hf : Nat → Int) (st : List Tri), vs = [.ref fd, .ref L, .ref S] ∧ FeedAt H fd l ns ∧ ListsAt H L (tab p wf) (tab q hf) ∧ Row p wf ∧ Row q hf ∧ StockAt H S st ∧ InS st ∧ st.length ≤ 4 ∧
  ∀ H' M ld, SmX fd H H' → FeedAt H' fd l ns → LotAt H' M ld → InL p q ld → AscF none ld → ld.length ≤ 16 → Q (.ref M) H'
theorem ok_law_make_load (T : Txt mg) (D : Df K mg "_law_make_load" s_law_make_load ["_law_feed", "_law_rows", "_law_store"]) (c__law_take : Cal P w K mg base CX0 1 "_law_take" ["_law_feed", "_law_many"] sp_law_take) :
    FnOk P w K mg base CX0 2 D.f D.fd ["_law_feed", "_law_rows", "_law_store"] sp_law_make_load := by
  refine D.F.ok S_law_make_load (fun vs H Q E h => ?_) (fun cdv A outer s H vs Q E hr h => ?_)
  · obtain ⟨fd, l, L, S, ns, p, q, wf, hf, st, rfl, _⟩ := h
    rfl
  · obtain ⟨fd, l, L, S, ns, p, q, wf, hf, st, rfl, fa, hL, Rw, Rh, ⟨svs, hS⟩, iS, s4, k⟩ := h
    refine ⟨_, (pss_cons (ps_set (i := 3) S_law_make_load.nd rfl (Or.inl rfl) (pe_ix ix_list (pe_lst (pa_cons pe_int (pa_cons pe_int (pa_cons pe_int (pa_cons pe_int (pa_cons pe_int pa_nil)))))) (pe_call c__law_take.ok (hr.mono (by decide)) (by rfl) c__law_take.g c__law_take.kp c__law_take.b .nil pass0 (pa_cons (pv 0) (pa_cons pe_int pa_nil))) (fun _ _ => rfl)))
      (pss_cons (ps_set (i := 4) S_law_make_load.nd rfl (Or.inl rfl) (pe_op op_add pe_int (pe_call c__law_take.ok (hr.mono (by decide)) (by rfl) c__law_take.g c__law_take.kp c__law_take.b .nil pass0 (pa_cons (pv 0) (pa_cons pe_int pa_nil)))))
      (pss_cons (ps_set (i := 5) S_law_make_load.nd rfl (Or.inl rfl) (pe_lst pa_nil))
      (pss_cons (ps_for PassesOwn.never rfl (pi_range1 (by rfl) T.range_ (pa_cons (pe_callB call_len_seq (by rfl) T.len_ (by decide +kernel) (pa_cons (pe_ix ix_tup (pv 1) pe_int (fun _ _ => rfl)) pa_nil)) pa_nil)) (pg_name (i := 6) S_law_make_load.nd rfl (Or.inr rfl)) (pss_one (ps_for PassesOwn.never rfl (pi_range1 (by rfl) T.range_ (pa_cons (pe_callB call_len_seq (by rfl) T.len_ (by decide +kernel) (pa_cons (pe_ix ix_tup (pv 1) pe_int (fun _ _ => rfl)) pa_nil)) pa_nil)) (pg_name (i := 7) S_law_make_load.nd rfl (Or.inr rfl)) (pss_one (ps_if (pt_cmpR op_eq (pe_call c__law_take.ok (hr.mono (by decide)) (by rfl) c__law_take.g c__law_take.kp c__law_take.b .nil pass0 (pa_cons (pv 0) (pa_cons (pv 4) pa_nil))) pe_int (nomark _)) (pss_cons (ps_set (i := 8) S_law_make_load.nd rfl (Or.inl rfl) (pe_callB (cr_sum rfl) (by rfl) T.sum_ (by decide +kernel) (pa_cons (pe_lc (own := [("_law_w", 10), ("_law_h", 11), ("_law_n", 12)]) rfl S_law_make_load.nd (pi_tup (pv 2)) (blkOk_by (N := n_law_make_load) (sc := defScope s_law_make_load) (by decide +kernel)) (fun _ _ _ _ _ => (pgt_K (K := K) (n := 3) rfl (by rfl) (pgs_cons (pg_name (i := 10) S_law_make_load.nd rfl (Or.inl rfl)) (pgs_cons (pg_name (i := 11) S_law_make_load.nd rfl (Or.inl rfl)) (pgs_cons (pg_name (i := 12) S_law_make_load.nd rfl (Or.inl rfl)) pgs_nil))))) (fun _ _ _ _ _ => pts_nil) (fun _ _ _ _ _ => (pe_op op_mul (pe_op op_mul (pv 12) (pe_op op_fdiv (pv 10) (pe_ix (ixt_K (K := K) rfl) (pe_ix (ixt_K (K := K) rfl) (pv 1) pe_int (fun _ _ => rfl)) (pv 6) (fun _ _ => rfl)))) (pe_op op_fdiv (pv 11) (pe_ix (ixt_K (K := K) rfl) (pe_ix (ixt_K (K := K) rfl) (pv 1) pe_int (fun _ _ => rfl)) (pv 7) (fun _ _ => rfl)))))) pa_nil)))
      (pss_cons (ps_set (i := 9) S_law_make_load.nd rfl (Or.inl rfl) (pe_callB (call_min2 rfl) (by rfl) T.min_ (by decide +kernel) (pa_cons (pe_op op_fdiv (pv 8) (pv 3)) (pa_cons (pe_op op_sub (pe_op op_pow pe_int pe_int) pe_int) pa_nil))))
      (pss_one (ps_expr (pe_bm PySem.F.plainAttrs_list PySem.F.slot_list_append PySem.F.type_list_append mt_append (pv 5) (pa_cons (pe_tup (pa_cons (pv 6) (pa_cons (pv 7) (pa_cons (pe_op op_add pe_int (pe_call c__law_take.ok (hr.mono (by decide)) (by rfl) c__law_take.g c__law_take.kp c__law_take.b .nil pass0 (pa_cons (pv 0) (pa_cons (pe_op op_add pe_int (pv 9)) pa_nil)))) pa_nil)))) pa_nil)))))) pss_nil)))))
      (pss_one (ps_ret (pe_callTy call_tuple_of (by rfl) T.tuple_ (by decide +kernel) (pa_cons (pv 5) pa_nil)))))))), ?_⟩
    -- part
    refine ⟨(show 5 ≤ sizeLine by decide), fun p1 n1 => ?_⟩
    have np1 := fa.ne n1
    refine ⟨_, rfl, fd, l, ns, 5, rfl, fa.same (Same.new n1), by decide, fun H2 r o2 f2 dr => ?_⟩
    obtain ⟨j, hj, rfl⟩ := Drawn.nat (n := 5) dr (by decide)
    obtain ⟨pt, hc, pt1, pt2⟩ := pick5b hj
    refine ⟨p1, _, _, _, rfl, rfl, SqL.of ((o2 p1 np1.1).trans upd_same), atI_nat hc, ?_⟩
    have m2 : SmX fd H H2 := (SmX.of (Same.new n1)).trans o2.smx
    -- often
    refine ⟨_, rfl, fd, l, ns, 5, rfl, f2, by decide, fun H3 r3 o3 f3 dr3 => ?_⟩
    obtain ⟨d31, d32⟩ := dr3
    refine ⟨_, _, rfl, rfl, ?_⟩
    have m3 := m2.trans o3.smx
    have ho2 : 2 + r3 ≤ 7 := by omega
    refine ⟨Nat.zero_le _, fun M nM => ?_⟩
    have nM0 := fresh_smx f3 m3 nM
    have nM2 := f3.ne nM
    have q0 : MakeQ H (upd H3 M (.lst [])) fd l M ns (entI []) 0 := ⟨m3.trans (SmX.of (Same.new nM)), f3.same (Same.new nM), ⟨[], upd_same, TupsAt.nil⟩, Nat.le_refl 0, nM0, nM2.1, nM2.2⟩
    obtain ⟨lw, lh, L1, L2, L3⟩ := hL.keep (q0.keeps fa)
    refine ⟨_, rfl, L, _, 0, _, rfl, rfl, SqT.of L1, atI_nat (j := 0) rfl, lw, _, rfl, .inr (SqT.of L2), _, rfl, by omega, by rw [tab_len]; have := Rw.le; omega, ?_⟩
    rw [tab_len, Int.toNat_natCast]
    refine for_range (lo := 0) (n := p) (fun i σ H' => (∃ ld : List Ent, MakeQ H H' fd l M ns (entI ld) (4 * i) ∧ InL p q ld ∧ AscF none ld ∧ ∀ t ∈ ld, t.1 < i) ∧ ∃ a6 a7 a8 a9 a10 a11 a12, σ = [some (.ref fd), some (.ref L), some (.ref S), some (.int pt), some (.int (2 + r3)), some (.ref M), a6, a7, a8, a9, a10, a11, a12])
      ⟨⟨[], q0, fun _ h => (by cases h), trivial, fun _ h => (by cases h)⟩, _, _, _, _, _, _, _, rfl⟩ ?_ ?_
    · rintro x σ H4 hx ⟨⟨ld, q4, i4, as4, lt4⟩, a6, a7, a8, a9, a10, a11, a12, rfl⟩
      obtain ⟨lw, lh, L1, L2, L3⟩ := hL.keep (q4.keeps fa)
      refine ⟨_, rfl, L, _, 1, _, rfl, rfl, SqT.of L1, atI_nat (j := 1) rfl, lh, _, rfl, .inr (SqT.of L3), _, rfl, by omega, by rw [tab_len]; have := Rh.le; omega, ?_⟩
      rw [tab_len, Int.toNat_natCast, Int.zero_add]
      refine for_range (lo := 0) (n := q) (fun y σ H' => (∃ ld : List Ent, MakeQ H H' fd l M ns (entI ld) (4 * x + y) ∧ InL p q ld ∧ AscF none ld ∧ ∀ t ∈ ld, t.1 < x ∨ (t.1 = x ∧ t.2.1 < y)) ∧ ∃ a7 a8 a9 a10 a11 a12, σ = [some (.ref fd), some (.ref L), some (.ref S), some (.int pt), some (.int (2 + r3)), some (.ref M), some (.int (x : Nat)), a7, a8, a9, a10, a11, a12])
        ⟨⟨ld, q4, i4, as4, fun t ht => .inl (lt4 t ht)⟩, _, _, _, _, _, _, rfl⟩ ?_ ?_
      · rintro y σ H5 hy ⟨⟨ld, q5, i5, as5, lt5⟩, a7, a8, a9, a10, a11, a12, rfl⟩
        refine ⟨_, rfl, _, rfl, fd, l, ns, _, rfl, q5.fa, by omega, fun H6 r6 o6 f6 d6 => ?_⟩
        have q6 := q5.off o6 f6
        refine ⟨rfl, _, rfl, ite2 (fun e => ?_) (fun e => ?_)⟩
        · obtain ⟨lw, lh, L1, L2, L3⟩ := hL.keep (q6.keeps fa)
          have hS6 : RowsAt H6 S st svs := ⟨q6.keeps fa _ _ hS.at_, hS.len, fun i t ht => let ⟨a, z1, z2⟩ := hS.item i t ht; ⟨a, z1, q6.keeps fa _ _ z2⟩⟩
          rw [Int.zero_add]
          refine seq_asg (cb1 (lc_rows hS6 (by omega) (fun Q hQ => ⟨_, rfl, hQ⟩) (fun _ => true) (fun t => t.2.2 * (t.1 / wf x) * (t.2.1 / hf y)) ?_ ?_))
          · intro i t a H7 ht s7 ha Yk Nk hY hN
            obtain ⟨t1, t2, t3, t4, t5⟩ := iS t (List.mem_of_getElem? ht)
            have b1 := div_bd Rw (side := t.1) (i := x) (by omega) hx
            have b2 := div_bd Rh (side := t.2.1) (i := y) (by omega) hy
            refine ⟨a, _, rfl, SqT.of ha, rfl, _, _, rfl, _, _, rfl, _, _, rfl, rfl, rfl, ?_⟩
            refine ⟨_, rfl, _, rfl, _, rfl, L, _, 0, _, rfl, rfl, SqT.of (s7 _ _ L1), atI_nat (j := 0) rfl, _, rfl, lw, _, _, _, rfl, rfl, SqT.of (s7 _ _ L2), atI_nat (tab_get hx), _, _, rfl, rfl, cdiv Rw hx, _, _, rfl, rfl, .inr ⟨by omega, by omega⟩, ?_⟩
            refine ⟨_, rfl, _, rfl, L, _, 1, _, rfl, rfl, SqT.of (s7 _ _ L1), atI_nat (j := 1) rfl, _, rfl, lh, _, _, _, rfl, rfl, SqT.of (s7 _ _ L3), atI_nat (tab_get hy), _, _, rfl, rfl, cdiv Rh hy, _, _, rfl, rfl, .inr ⟨by omega, by omega⟩, ?_⟩
            exact hY rfl H7 (fun _ _ e => e)
          · intro D7 H7 nD s7 hD7
            have q7 := q6.same s7
            refine ⟨D7, _, rfl, SqL.of hD7, ?_⟩
            generalize (List.map (fun t : Int × Int × Int => t.2.2 * (t.1 / wf x) * (t.2.1 / hf y)) (List.filter (fun _ => true) st)).sum = shares
            refine ⟨_, rfl, _, rfl, _, _, rfl, rfl, ⟨by omega, by omega⟩, _, _, rfl, rfl, ⟨by decide, by decide, by decide⟩, _, _, rfl, rfl, _, _, rfl, ?_⟩
            have e30 : (10 : Int) ^ (30 : Int).toNat - 2 = 999999999999999999999999999998 := by decide
            rw [e30]
            have hm : (if (999999999999999999999999999998 : Int) < shares / pt then (999999999999999999999999999998 : Int) else shares / pt) ≤ 999999999999999999999999999998 := by split <;> omega
            generalize (if (999999999999999999999999999998 : Int) < shares / pt then (999999999999999999999999999998 : Int) else shares / pt) = most at hm
            obtain ⟨xs, x1, x2⟩ := q7.ls
            refine ⟨_, rfl, .inl ⟨rfl, _, SqL.of x1⟩, _, rfl, _, rfl, _, rfl, _, rfl, _, _, rfl, rfl, fd, l, ns, _, rfl, q7.fa, by omega, fun H8 r8 o8 f8 d8 => ?_⟩
            obtain ⟨g1, g2⟩ := d8
            have q8 := q7.off o8 f8
            refine ⟨_, _, rfl, rfl, (show 3 ≤ sizeLine by decide), fun T nT => ?_⟩
            obtain ⟨ys, y1, y2, y3⟩ := q8.app (a := (x : Int)) (b := (y : Int)) (c := 1 + r8) nT
            have hle := Rw.le
            have hle2 := Rh.le
            refine ⟨M, _, _, rfl, rfl, y1, small1000 (by omega), ⟨ld ++ [(x, y, 1 + r8)], ?_, fun t ht => ?_, as5.app trivial fun t ht => leP_new (lt5 t ht), fun t ht => ?_⟩, _, _, _, _, _, _, rfl⟩
            · rw [entI_app]
              exact y3
            · rcases List.mem_append.mp ht with z | z
              · exact i5 t z
              · cases List.mem_singleton.mp z
                exact ⟨hx, hy, by show 1 ≤ 1 + r8; omega⟩
            · rcases List.mem_append.mp ht with z | z
              · have := lt5 t z; omega
              · cases List.mem_singleton.mp z
                exact .inr ⟨rfl, Nat.lt_succ_self y⟩
        · exact ⟨⟨ld, q6.mono (by omega), i5, as5, fun t ht => by have := lt5 t ht; omega⟩, _, _, _, _, _, _, rfl⟩
      · rintro σ H5 ⟨⟨ld, q5, i5, as5, lt5⟩, a7, a8, a9, a10, a11, a12, rfl⟩
        exact ⟨⟨ld, q5.mono (by have := Rh.le; omega), i5, as5, fun t ht => by have := lt5 t ht; omega⟩, _, _, _, _, _, _, _, rfl⟩
    · rintro σ H4 ⟨⟨ld, q4, i4, as4, lt4⟩, a6, a7, a8, a9, a10, a11, a12, rfl⟩
      obtain ⟨xs, x1, x2⟩ := q4.ls
      refine ⟨_, rfl, M, _, rfl, .inl ⟨SqL.of x1, fun t nt => ?_⟩⟩
      have hle := q4.le
      refine k _ t ld (q4.sm.trans (SmX.of (Same.new nt))) (q4.fa.same (Same.new nt)) ⟨_, (x2.keep (Keeps.of (Same.new nt))).rows upd_same⟩ i4 as4 ?_
      unfold entI at hle
      rw [List.length_map] at hle
      have := Rw.le
      omega
end
end K12


set_option Elab.async false
set_option linter.all false
set_option maxRecDepth 100000
namespace K12
open PySem PySem.Spec PyProof.Rows L2
theorem cons1 {te : TE} {ta : TA} {σ : L2.St} {H : Hp} {R : List V → Hp → Prop} (h : te σ H fun x H1 => ta σ H1 fun xs H2 => R (x :: xs) H2) : tCons te ta σ H R := h
theorem ret1 {te : TE} {D : Ends} {σ : L2.St} {H : Hp} (h : te σ H fun v H1 => D.rt v H1) : tRet te D σ H := h
theorem tup1 {ta : TA} {σ : L2.St} {H : Hp} {Q : VK} (h : ta σ H fun vs H1 => vs.length ≤ sizeLine ∧ ∀ T, H1 T = none → Q (.ref T) (upd H1 T (.tup vs))) : tTup ta σ H Q := h
abbrev tri3t (t : Int × Int × Int) : List V := tri3 t.1 t.2.1 t.2.2
/-- over a tuple of triples, a new triple for each -/
theorem lc_rows3 {K : PySem.W.Frag} {S : Addr} {ts : List (Int × Int × Int)} {rs : List V} {tl : TE} {g : TG} {te : TE} {vs : List Nat} {σ : L2.St} {H : Hp} {Q : VK} (h : RowsAt H S ts rs) (hn : ts.length ≤ 1000) (hl : ∀ Q : VK, Q (.ref S) H → tl σ H Q)
    (f : Int × Int × Int → Int × Int × Int)
    (turn : ∀ (i : Nat) (t : Int × Int × Int) (a : Addr) (H1 : Hp), ts[i]? = some t → Same H H1 → H1 a = some (.tup (tri3 t.1 t.2.1 t.2.2)) → ∀ (Yk : VK), (∀ T H4, Same H1 H4 → H4 T = some (.tup (tri3t (f t))) → Yk (.ref T) H4) →
      g (.ref a) (wipe σ vs) H1 fun σ2 H2 => wipe σ2 vs = wipe σ vs ∧ te σ2 H2 Yk)
    (hd : ∀ D xs H', H D = none → Same H H' → H' D = some (.lst xs) → TupsAt H' xs ((ts.map f).map tri3t) → Q (.ref D) H') : tLc (iTup K tl) g tYes te vs σ H Q := by
  have w : Walk (Itt K S) ts.length (fun H => SqT K H S rs) (YAt rs) := by rw [← h.len]; exact walk_tup
  refine lc_tups w hn (fun H' s => SqT.of (s _ _ h.at_)) (fun R hR => hl _ ⟨S, rfl, ⟨rs, SqT.of h.at_⟩, hR⟩) (fun t => tri3t (f t)) ?_ ?_
  · rintro i t x H1 H2 ht s1 ⟨rfl, hx⟩ Yk hY
    obtain ⟨t', a, h1, rfl, h3⟩ := (h.same s1).nth hx
    have e := Option.some.inj (h1.symm.trans ht)
    subst e
    exact turn i _ a H2 ht s1 h3 Yk hY
  · intro D xs H' nD s hx ha
    refine hd D xs H' nD s hx ?_
    rw [List.map_map]
    exact ha
theorem entI_turn (ld : List Ent) : entI (turnL ld) = (entI ld).map fun t => (t.2.1, t.1, t.2.2) := by
  unfold entI turnL
  rw [List.map_map, List.map_map]
  rfl
section
variable {P : Program} {w : World} {K : PySem.W.Frag} {mg : Str → Option Value} {base : Heap}
def sp_law_turn : Sp := fun vs H Q _ => ∃ (L S M : Addr) (ws hs : List V) (st : List Tri) (ld : List Ent), vs = [.ref L, .ref S, .ref M] ∧ ListsAt H L ws hs ∧ StockAt H S st ∧ LotAt H M ld ∧ st.length ≤ 1000 ∧ ld.length ≤ 1000 ∧
  ∀ H' t L' S' M', Same H H' → H' t = some (.tup [.ref L', .ref S', .ref M']) → ListsAt H' L' hs ws → StockAt H' S' (turnS st) → LotAt H' M' (turnL ld) → Q (.ref t) H'
theorem ok_law_turn (T : Txt mg) (D : Df K mg "_law_turn" s_law_turn ["_law_rows", "_law_store", "_law_load"]) : FnOk P w K mg base CX0 1 D.f D.fd ["_law_rows", "_law_store", "_law_load"] sp_law_turn := by
  refine D.F.ok S_law_turn (fun vs H Q E h => ?_) (fun cdv A outer s H vs Q E hr h => ?_)
  · obtain ⟨L, S, M, ws, hs, st, ld, rfl, _⟩ := h
    rfl
  · obtain ⟨L, S, M, ws, hs, st, ld, rfl, ⟨lw, lh, L1, L2, L3⟩, ⟨svs, hS⟩, ⟨mvs, hM⟩, ns, nl, k⟩ := h
    refine ⟨_, (pss_one (ps_ret (pe_tup (pa_cons (pe_tup (pa_cons (pe_ix ix_tup (pv 0) pe_int (fun _ _ => rfl)) (pa_cons (pe_ix ix_tup (pv 0) pe_int (fun _ _ => rfl)) pa_nil))) (pa_cons (pe_callTy call_tuple_of (by rfl) T.tuple_ (by decide +kernel) (pa_cons (pe_lc (own := [("_law_w", 3), ("_law_h", 4), ("_law_n", 5)]) rfl S_law_turn.nd (pi_tup (pv 1)) (blkOk_by (N := n_law_turn) (sc := defScope s_law_turn) (by decide +kernel)) (fun _ _ _ _ _ => (pgt_K (K := K) (n := 3) rfl (by rfl) (pgs_cons (pg_name (i := 3) S_law_turn.nd rfl (Or.inl rfl)) (pgs_cons (pg_name (i := 4) S_law_turn.nd rfl (Or.inl rfl)) (pgs_cons (pg_name (i := 5) S_law_turn.nd rfl (Or.inl rfl)) pgs_nil))))) (fun _ _ _ _ _ => pts_nil) (fun _ _ _ _ _ => (pe_tup (pa_cons (pv 4) (pa_cons (pv 3) (pa_cons (pv 5) pa_nil)))))) pa_nil)) (pa_cons (pe_callTy call_tuple_of (by rfl) T.tuple_ (by decide +kernel) (pa_cons (pe_lc (own := [("_law_x", 6), ("_law_y", 7), ("_law_n", 5)]) rfl S_law_turn.nd (pi_tup (pv 2)) (blkOk_by (N := n_law_turn) (sc := defScope s_law_turn) (by decide +kernel)) (fun _ _ _ _ _ => (pgt_K (K := K) (n := 3) rfl (by rfl) (pgs_cons (pg_name (i := 6) S_law_turn.nd rfl (Or.inl rfl)) (pgs_cons (pg_name (i := 7) S_law_turn.nd rfl (Or.inl rfl)) (pgs_cons (pg_name (i := 5) S_law_turn.nd rfl (Or.inl rfl)) pgs_nil))))) (fun _ _ _ _ _ => pts_nil) (fun _ _ _ _ _ => (pe_tup (pa_cons (pv 7) (pa_cons (pv 6) (pa_cons (pv 5) pa_nil)))))) pa_nil)) pa_nil)))))), ?_⟩
    refine ret1 (tup1 (cons1 ⟨_, rfl, L, _, 1, _, rfl, rfl, SqT.of L1, atI_nat (j := 1) rfl, _, rfl, L, _, 0, _, rfl, rfl, SqT.of L1, atI_nat (j := 0) rfl, (show 2 ≤ sizeLine by decide), fun t1 n1 => ?_⟩))
    have s1 : Same H (upd H t1 (.tup [.ref lh, .ref lw])) := Same.new n1
    refine cons1 (cb1 (lc_rows3 (hS.same s1) ns (fun Q hQ => ⟨_, rfl, hQ⟩) (fun t => (t.2.1, t.1, t.2.2)) ?_ ?_))
    · intro i t a H2 ht s2 ha Yk hY
      exact ⟨a, _, rfl, SqT.of ha, rfl, _, _, rfl, _, _, rfl, _, _, rfl, rfl, rfl, _, rfl, _, rfl, _, rfl, (show 3 ≤ sizeLine by decide), fun T nT => hY T _ (Same.new nT) upd_same⟩
    · intro D1 xs H2 nD s2 hD hx
      refine ⟨D1, _, rfl, .inl ⟨SqL.of hD, fun t2 n2 => ?_⟩⟩
      have s3 : Same H2 (upd H2 t2 (.tup xs)) := Same.new n2
      have hx3 := (hx.keep (Keeps.of s3)).rows upd_same
      have s123 := (s1.trans s2).trans s3
      have hl3 : H2 = H2 := rfl
      refine cons1 (cb1 (lc_rows3 (hM.same s123) (by unfold entI; rw [List.length_map]; exact nl) (fun Q hQ => ⟨_, rfl, hQ⟩) (fun t => (t.2.1, t.1, t.2.2)) ?_ ?_))
      · intro i t a H4 ht s4 ha Yk hY
        exact ⟨a, _, rfl, SqT.of ha, rfl, _, _, rfl, _, _, rfl, _, _, rfl, rfl, rfl, _, rfl, _, rfl, _, rfl, (show 3 ≤ sizeLine by decide), fun T nT => hY T _ (Same.new nT) upd_same⟩
      · intro D4 ys H4 nD4 s4 hD4 hy
        refine ⟨D4, _, rfl, .inl ⟨SqL.of hD4, fun t5 n5 => ?_⟩⟩
        have s5 : Same H4 (upd H4 t5 (.tup ys)) := Same.new n5
        rw [← entI_turn] at hy
        have hy5 := (hy.keep (Keeps.of s5)).rows upd_same
        refine ⟨(show 3 ≤ sizeLine by decide), fun t6 n6 => ?_⟩
        have s6 : Same (upd H4 t5 (.tup ys)) (upd (upd H4 t5 (.tup ys)) t6 (.tup [.ref t1, .ref t2, .ref t5])) := Same.new n6
        have s26 := ((s2.trans s3).trans s4).trans (s5.trans s6)
        refine k _ t6 t1 t2 t5 (s1.trans s26) upd_same ⟨lh, lw, s26 _ _ upd_same, (s1.trans s26) _ _ L3, (s1.trans s26) _ _ L2⟩ ⟨_, hx3.same ((s4.trans s5).trans s6)⟩ ⟨_, hy5.same s6⟩
end
end K12


set_option Elab.async false
set_option linter.all false
set_option maxRecDepth 100000
namespace K12
open PySem PySem.Spec PyProof.Rows L2
theorem app1 {K : PySem.W.Frag} {i : Nat} {te : TE} {D : Ends} {σ : L2.St} {H : Hp} {l : Addr} {xs : List V} (hv : σ[i]? = some (some (.ref l))) (hl : H l = some (.lst xs))
    (h : te σ H fun y H1 => rAppend (.ref l) [y] H1 fun _ H2 => D.nx σ H2) : tDrop (tBM K "list" rAppend (tVar i) (tCons te tNil)) D σ H := ⟨_, hv, .inl ⟨rfl, _, SqL.of hl⟩, h⟩
theorem want_sum {w : Nat → Int} {ld : List Ent} {b i : Nat} :
    (((entI ld).filter fun t => decide (t.2.1 = (b : Int)) && decide ((i : Int) ≤ t.1)).map fun t => t.2.2 * (w t.1.toNat / w i)).sum = want w ld b i := by
  rw [sum_fil]
  unfold entI want
  rw [sm_map]
  refine sm_congr fun t _ => ?_
  show (if (decide ((t.2.1 : Int) = (b : Int)) && decide ((i : Int) ≤ (t.1 : Int))) = true then t.2.2 * (w (t.1 : Int).toNat / w i) else 0) = _
  rw [Int.toNat_natCast]
  by_cases h : t.2.1 = b ∧ i ≤ t.1
  · rw [if_pos h, if_pos]
    rw [Bool.and_eq_true, decide_eq_true_eq, decide_eq_true_eq]
    omega
  · rw [if_neg h, if_neg]
    rw [Bool.and_eq_true, decide_eq_true_eq, decide_eq_true_eq]
    omega
theorem top_sum {q : Nat} {h w : Nat → Int} {st : List Tri} {b i : Nat} (T : Row q h) (hb : b < q) :
    ((st.filter fun _ => true).map fun t => t.2.2 * band q h t.2.1 b * (t.1 / w i)).sum = top q h w st b i := by
  rw [sum_fil, ← top_band T hb]
  rfl
section
variable {P : Program} {w : World} {K : PySem.W.Frag} {mg : Str → Option Value} {base : Heap}
def sp_law_wanted : Sp := fun vs H Q _ => ∃ (z M : Addr) (p q : Nat) (wf : Nat → Int) (ld : List Ent) (b : Nat), vs = [.ref z, .ref M, .int (b : Nat)] ∧ H z = some (.tup (tab p wf)) ∧ Row p wf ∧ LotAt H M ld ∧ InL p q ld ∧ ld.length ≤ 1000 ∧
  ∀ H' r, Same H H' → H' r = some (.lst (tab p (want wf ld b))) → Q (.ref r) H'
theorem ok_law_wanted (T : Txt mg) (D : Df K mg "_law_wanted" s_law_wanted ["_law_wide", "_law_load", "_law_b"]) : FnOk P w K mg base CX0 1 D.f D.fd ["_law_wide", "_law_load", "_law_b"] sp_law_wanted := by
  refine D.F.ok S_law_wanted (fun vs H Q E h => ?_) (fun cdv A outer s H vs Q E hr h => ?_)
  · obtain ⟨z, M, p, q, wf, ld, b, rfl, _⟩ := h
    rfl
  · obtain ⟨z, M, p, q, wf, ld, b, rfl, hz, R, ⟨mvs, hM⟩, iL, nl, k⟩ := h
    refine ⟨_, (pss_cons (ps_set (i := 3) S_law_wanted.nd rfl (Or.inl rfl) (pe_lst pa_nil))
      (pss_cons (ps_for PassesOwn.never rfl (pi_range1 (by rfl) T.range_ (pa_cons (pe_callB call_len_seq (by rfl) T.len_ (by decide +kernel) (pa_cons (pv 0) pa_nil)) pa_nil)) (pg_name (i := 4) S_law_wanted.nd rfl (Or.inr rfl)) (pss_one (ps_expr (pe_bm PySem.F.plainAttrs_list PySem.F.slot_list_append PySem.F.type_list_append mt_append (pv 3) (pa_cons (pe_callB (cr_sum rfl) (by rfl) T.sum_ (by decide +kernel) (pa_cons (pe_lc (own := [("_law_x", 5), ("_law_y", 6), ("_law_n", 7)]) rfl S_law_wanted.nd (pi_tup (pv 1)) (blkOk_by (N := n_law_wanted) (sc := defScope s_law_wanted) (by decide +kernel)) (fun _ _ _ _ _ => (pgt_K (K := K) (n := 3) rfl (by rfl) (pgs_cons (pg_name (i := 5) S_law_wanted.nd rfl (Or.inl rfl)) (pgs_cons (pg_name (i := 6) S_law_wanted.nd rfl (Or.inl rfl)) (pgs_cons (pg_name (i := 7) S_law_wanted.nd rfl (Or.inl rfl)) pgs_nil))))) (fun _ _ _ _ _ => pts_one (PW.pt (pw_and (pt_cmpR op_eq (pv 6) (pv 2) (nomark _)) (pw_and1 (pt_cmpR op_ge (pv 5) (pv 4) (nomark _)))))) (fun _ _ _ _ _ => (pe_op op_mul (pv 7) (pe_op op_fdiv (pe_ix (ixt_K (K := K) rfl) (pv 0) (pv 5) (fun _ _ => rfl)) (pe_ix (ixt_K (K := K) rfl) (pv 0) (pv 4) (fun _ _ => rfl)))))) pa_nil)) pa_nil)))))
      (pss_one (ps_ret (pv 3))))), ?_⟩
    refine ⟨Nat.zero_le _, fun m nm => ?_⟩
    have s1 : Same H (upd H m (.lst [])) := Same.new nm
    refine ⟨_, rfl, z, _, rfl, .inr (SqT.of (s1 _ _ hz)), _, rfl, by omega, by rw [tab_len]; have := R.le; omega, ?_⟩
    rw [tab_len, Int.toNat_natCast]
    refine for_range (lo := 0) (n := p) (fun i σ H' => Same H H' ∧ H' m = some (.lst (tab i (want wf ld b))) ∧ ∃ a4 a5 a6 a7, σ = [some (.ref z), some (.ref M), some (.int (b : Nat)), some (.ref m), a4, a5, a6, a7])
      ⟨s1, upd_same, _, _, _, _, rfl⟩ ?_ ?_
    · rintro i σ H2 hi ⟨s2, h2, a4, a5, a6, a7, rfl⟩
      refine app1 rfl h2 (cb1 (lc_rows (hM.same s2) (by unfold entI; rw [List.length_map]; exact nl) (fun Q hQ => ⟨_, rfl, hQ⟩) (fun t => decide (t.2.1 = (b : Int)) && decide ((i : Int) ≤ t.1)) (fun t => t.2.2 * (wf t.1.toNat / wf i)) ?_ ?_))
      · intro j t a H3 ht s3 ha Yk Nk hY hN
        obtain ⟨u, hu, rfl⟩ := entI_nth ht
        obtain ⟨i1, i2, i3⟩ := iL u (List.mem_of_getElem? hu)
        refine ⟨a, _, rfl, SqT.of ha, rfl, _, _, rfl, _, _, rfl, _, _, rfl, rfl, rfl, ?_⟩
        refine ⟨_, rfl, _, rfl, rfl, _, rfl, ?_⟩
        rw [decV]
        refine ite2 (fun e1 => ?_) (fun e1 => ?_)
        · refine ⟨_, rfl, _, rfl, _, _, rfl, rfl, _, rfl, ?_⟩
          rw [Int.zero_add]
          refine ite2 (fun e2 => ?_) (fun e2 => ?_)
          · have hzz := s3 _ _ (s2 _ _ hz)
            have b2 := Int.ediv_nonneg (a := wf u.1) (b := wf i) (by have := R.one u.1 i1; omega) (by have := R.one i hi; omega)
            have b3 := R.quo_le hi i1
            have b4 := R.big u.1 i1
            refine ⟨_, rfl, _, rfl, _, rfl, z, _, _, _, rfl, rfl, SqT.of hzz, atI_nat (tab_get i1), _, rfl, _, rfl, z, _, _, _, rfl, rfl, SqT.of hzz, atI_nat (tab_get hi), _, _, rfl, rfl, cdiv R hi, _, _, rfl, rfl, .inr ⟨by omega, by omega⟩, ?_⟩
            exact hY (by rw [Bool.and_eq_true]; exact ⟨e1, e2⟩) H3 fun _ _ e => e
          · exact hN (by rw [Bool.and_eq_false_iff]; exact .inr (Bool.eq_false_iff.mpr e2)) H3 fun _ _ e => e
        · exact hN (by rw [Bool.and_eq_false_iff]; exact .inl (Bool.eq_false_iff.mpr e1)) H3 fun _ _ e => e
      · intro D3 H3 nD s3 hD
        refine ⟨D3, _, rfl, SqL.of hD, ?_⟩
        rw [want_sum]
        refine ⟨m, _, _, rfl, rfl, s3 _ _ h2, ?_, (s2.trans s3).put nm, ?_, _, _, _, _, rfl⟩
        · rw [tab_len]; have := R.le; exact small1000 (by omega)
        · rw [upd_same, tab_succ]
    · rintro σ H2 ⟨s2, h2, a4, a5, a6, a7, rfl⟩
      exact ⟨_, rfl, k H2 m s2 h2⟩
def sp_law_bands : Sp := fun vs H Q _ => ∃ (z : Addr) (q : Nat) (hf : Nat → Int) (side : Int) (b : Nat), vs = [.ref z, .int side, .int (b : Nat)] ∧ H z = some (.tup (tab q hf)) ∧ Row q hf ∧ b < q ∧ Q (.int (band q hf side b)) H
theorem ok_law_bands (T : Txt mg) (D : Df K mg "_law_bands" s_law_bands ["_law_high", "_law_side_here", "_law_b"]) : FnOk P w K mg base CX0 1 D.f D.fd ["_law_high", "_law_side_here", "_law_b"] sp_law_bands := by
  refine D.F.ok S_law_bands (fun vs H Q E h => ?_) (fun cdv A outer s H vs Q E hr h => ?_)
  · obtain ⟨z, q, hf, side, b, rfl, _⟩ := h
    rfl
  · obtain ⟨z, q, hf, side, b, rfl, hz, R, hb, k⟩ := h
    refine ⟨_, (pss_cons (ps_if (pt_cmpR op_eq (pe_op op_add (pv 2) pe_int) (pe_callB call_len_seq (by rfl) T.len_ (by decide +kernel) (pa_cons (pv 0) pa_nil)) (nomark _)) (pss_one (ps_ret (pe_op op_fdiv (pv 1) (pe_ix ix_tup (pv 0) (pv 2) (fun _ _ => rfl))))) pss_nil)
      (pss_one (ps_ret (pe_op op_fdiv (pe_op op_mod (pe_callTy call_int1 (by rfl) T.int_ (by decide +kernel) (pa_cons (pv 1) pa_nil)) (pe_ix ix_tup (pv 0) (pe_op op_add (pv 2) pe_int) (fun _ _ => rfl))) (pe_ix ix_tup (pv 0) (pv 2) (fun _ _ => rfl)))))), ?_⟩
    refine ⟨_, rfl, _, _, rfl, rfl, _, rfl, z, _, rfl, .inr (SqT.of hz), rfl, _, rfl, ?_⟩
    dsimp only
    rw [decV, tab_len]
    unfold band at k
    refine ite2 (fun e => ?_) (fun e => ?_)
    · have e' := of_decide_eq_true e
      rw [if_pos (by omega)] at k
      exact ⟨_, rfl, _, rfl, _, rfl, z, _, _, _, rfl, rfl, SqT.of hz, atI_nat (tab_get hb), _, _, rfl, rfl, cdiv R hb, k⟩
    · have e' : ¬ ((b : Int) + 1 = (q : Int)) := fun x => e (decide_eq_true x)
      rw [if_neg (by omega)] at k
      have hb1 : b + 1 < q := by omega
      refine ⟨_, rfl, .inl ⟨_, rfl, _, rfl, _, rfl, _, _, rfl, rfl, z, _, _, _, rfl, rfl, SqT.of hz, atI_nat (j := b + 1) (tab_get hb1), _, _, rfl, rfl, (show 0 < hf (b + 1) by have := R.one (b + 1) hb1; omega), ?_⟩⟩
      exact ⟨_, rfl, _, rfl, z, _, _, _, rfl, rfl, SqT.of hz, atI_nat (tab_get hb), _, _, rfl, rfl, cdiv R hb, k⟩
def sp_law_top_bands : Sp := fun vs H Q _ => ∃ (z y S : Addr) (p q : Nat) (wf hf : Nat → Int) (st : List Tri) (b : Nat), vs = [.ref z, .ref y, .ref S, .int (b : Nat)] ∧ H z = some (.tup (tab p wf)) ∧ H y = some (.tup (tab q hf)) ∧ Row p wf ∧ Row q hf ∧ StockAt H S st ∧ InS st ∧ st.length ≤ 1000 ∧ b < q ∧
  ∀ H' r, Same H H' → H' r = some (.lst (tab p (top q hf wf st b))) → Q (.ref r) H'
theorem band_bd {q : Nat} {hf : Nat → Int} (T : Row q hf) {side : Int} {b : Nat} (h0 : 0 ≤ side) (hb : b < q) : 0 ≤ band q hf side b ∧ band q hf side b ≤ side := by
  rw [band_part T hb]
  exact part_bd T h0 hb
theorem ok_law_top_bands (T : Txt mg) (D : Df K mg "_law_top_bands" s_law_top_bands ["_law_wide", "_law_high", "_law_store", "_law_b"]) (c__law_bands : Cal P w K mg base CX0 1 "_law_bands" ["_law_high", "_law_side_here", "_law_b"] sp_law_bands) :
    FnOk P w K mg base CX0 2 D.f D.fd ["_law_wide", "_law_high", "_law_store", "_law_b"] sp_law_top_bands := by
  refine D.F.ok S_law_top_bands (fun vs H Q E h => ?_) (fun cdv A outer s H vs Q E hr h => ?_)
  · obtain ⟨z, y, S, p, q, wf, hf, st, b, rfl, _⟩ := h
    rfl
  · obtain ⟨z, y, S, p, q, wf, hf, st, b, rfl, hz, hy, R, T', ⟨svs, hS⟩, iS, nl, hb, k⟩ := h
    refine ⟨_, (pss_cons (ps_set (i := 4) S_law_top_bands.nd rfl (Or.inl rfl) (pe_lst pa_nil))
      (pss_cons (ps_for PassesOwn.never rfl (pi_tup (pv 0)) (pg_name (i := 5) S_law_top_bands.nd rfl (Or.inr rfl)) (pss_one (ps_expr (pe_bm PySem.F.plainAttrs_list PySem.F.slot_list_append PySem.F.type_list_append mt_append (pv 4) (pa_cons (pe_callB (cr_sum rfl) (by rfl) T.sum_ (by decide +kernel) (pa_cons (pe_lc (own := [("_law_w", 6), ("_law_h", 7), ("_law_n", 8)]) rfl S_law_top_bands.nd (pi_tup (pv 2)) (blkOk_by (N := n_law_top_bands) (sc := defScope s_law_top_bands) (by decide +kernel)) (fun _ _ _ _ _ => (pgt_K (K := K) (n := 3) rfl (by rfl) (pgs_cons (pg_name (i := 6) S_law_top_bands.nd rfl (Or.inl rfl)) (pgs_cons (pg_name (i := 7) S_law_top_bands.nd rfl (Or.inl rfl)) (pgs_cons (pg_name (i := 8) S_law_top_bands.nd rfl (Or.inl rfl)) pgs_nil))))) (fun _ _ _ _ _ => pts_nil) (fun _ _ _ _ _ => (pe_op op_mul (pe_op op_mul (pv 8) (pe_call c__law_bands.ok (hr.mono (by decide)) (by rfl) c__law_bands.g c__law_bands.kp c__law_bands.b .nil pass0 (pa_cons (pv 1) (pa_cons (pv 7) (pa_cons (pv 3) pa_nil))))) (pe_op op_fdiv (pv 6) (pv 5))))) pa_nil)) pa_nil)))))
      (pss_one (ps_ret (pv 4))))), ?_⟩
    refine ⟨Nat.zero_le _, fun m nm => ?_⟩
    have s1 : Same H (upd H m (.lst [])) := Same.new nm
    refine ⟨_, rfl, z, rfl, ⟨_, SqT.of (s1 _ _ hz)⟩, for_tup (K := K) (a := z) (xs := tab p wf) (fun i σ H' => Same H H' ∧ H' m = some (.lst (tab i (top q hf wf st b))) ∧ ∃ a5 a6 a7 a8, σ = [some (.ref z), some (.ref y), some (.ref S), some (.int (b : Nat)), some (.ref m), a5, a6, a7, a8])
      ⟨s1, upd_same, _, _, _, _, rfl⟩ (fun i σ H' _ hP => SqT.of (hP.1 _ _ hz)) ?_ ?_⟩
    · rintro i x σ H2 hx ⟨s2, h2, a5, a6, a7, a8, rfl⟩
      have hi : i < p := by
        have := (List.getElem?_eq_some_iff.mp hx).1
        rw [tab_len] at this
        exact this
      have ex := tab_at hi hx
      subst ex
      refine app1 rfl h2 (cb1 (lc_rows (hS.same s2) nl (fun Q hQ => ⟨_, rfl, hQ⟩) (fun t => true) (fun t => t.2.2 * band q hf t.2.1 b * (t.1 / wf i)) ?_ ?_))
      · intro j t a H3 ht s3 ha Yk Nk hY hN
        obtain ⟨t1, t2, t3, t4, t5⟩ := iS t (List.mem_of_getElem? ht)
        have b1 := div_bd R (side := t.1) (i := i) (by omega) hi
        have b2 := band_bd T' (side := t.2.1) (b := b) (by omega) hb
        refine ⟨a, _, rfl, SqT.of ha, rfl, _, _, rfl, _, _, rfl, _, _, rfl, rfl, rfl, ?_⟩
        refine ⟨_, rfl, _, rfl, _, rfl, _, rfl, y, q, hf, t.2.1, b, rfl, s3 _ _ (s2 _ _ hy), T', hb, _, _, rfl, rfl, .inr ⟨by omega, by omega⟩, ?_⟩
        exact ⟨_, rfl, _, rfl, _, _, rfl, rfl, cdiv R hi, _, _, rfl, rfl, .inr ⟨by omega, by omega⟩, hY rfl H3 fun _ _ e => e⟩
      · intro D3 H3 nD s3 hD
        refine ⟨D3, _, rfl, SqL.of hD, ?_⟩
        rw [top_sum T' hb]
        refine ⟨m, _, _, rfl, rfl, s3 _ _ h2, ?_, (s2.trans s3).put nm, ?_, _, _, _, _, rfl⟩
        · rw [tab_len]; have := R.le; exact small1000 (by omega)
        · rw [upd_same, tab_succ]
    · rintro σ H2 ⟨s2, h2, a5, a6, a7, a8, rfl⟩
      rw [tab_len] at h2
      exact ⟨_, rfl, k H2 m s2 h2⟩
end
end K12


set_option Elab.async false
set_option linter.all false
set_option maxRecDepth 100000
namespace K12
open PySem PySem.Spec PyProof.Rows L2
theorem op1 {r : R2} {ta tb : TE} {σ : L2.St} {H : Hp} {Q : VK} (h : ta σ H fun x H1 => tb σ H1 fun y H2 => r x y H2 Q) : tOp r ta tb σ H Q := h
abbrev pairV (e : Nat × Int) : List V := [.int (e.1 : Nat), .int e.2]
theorem TupsAt.at {H : Hp} {xs : List V} {ys : List (Nat × Int)} (h : TupsAt H xs (ys.map pairV)) {i : Nat} {x : V} (hx : xs[i]? = some x) : ∃ e a, ys[i]? = some e ∧ x = .ref a ∧ H a = some (.tup (pairV e)) := by
  have hi : i < ys.length := by rw [← List.length_map (f := pairV), ← h.1]; exact (List.getElem?_eq_some_iff.mp hx).1
  obtain ⟨a, h1, h2⟩ := h.2 i (pairV ys[i]) (by rw [List.getElem?_map, List.getElem?_eq_getElem hi]; rfl)
  exact ⟨_, a, List.getElem?_eq_getElem hi, Option.some.inj (hx.symm.trans h1), h2⟩
/-- over a list of pairs -/
theorem lc_pairs {K : PySem.W.Frag} {E : Addr} {ys : List (Nat × Int)} {xs : List V} {tl : TE} {g : TG} {tt : TT} {te : TE} {vs : List Nat} {σ : L2.St} {H : Hp} {Q : VK} (hE : H E = some (.lst xs)) (h : TupsAt H xs (ys.map pairV)) (hn : ys.length ≤ 1000) (hl : ∀ Q : VK, Q (.ref E) H → tl σ H Q)
    (fb : Nat × Int → Bool) (va : Nat × Int → Int)
    (turn : ∀ (e : Nat × Int) (a : Addr) (H1 : Hp), e ∈ ys → Same H H1 → H1 a = some (.tup (pairV e)) → ∀ (Yk : VK) (Nk : Hp → Prop), (fb e = true → ∀ H4, Same H1 H4 → Yk (.int (va e)) H4) → (fb e = false → ∀ H4, Same H1 H4 → Nk H4) →
      g (.ref a) (wipe σ vs) H1 fun σ2 H2 => wipe σ2 vs = wipe σ vs ∧ tt σ2 H2 fun b H3 => if b = true then te σ2 H3 Yk else Nk H3)
    (hd : ∀ D H', H D = none → Same H H' → H' D = some (.lst (((ys.filter fb).map va).map V.int)) → Q (.ref D) H') : tLc (iList K tl) g tt te vs σ H Q := by
  have w : Walk (Itl K E) ys.length (fun H => SqL K H E xs) (YAt xs) := by rw [← List.length_map (f := pairV) (as := ys), ← h.1]; exact walk_list
  refine lc_fil w hn (fun H' s => SqL.of (s _ _ hE)) (fun R hR => hl _ ⟨E, rfl, ⟨xs, SqL.of hE⟩, hR⟩) fb va ?_ hd
  rintro i t x H1 H2 ht s1 ⟨rfl, hx⟩ Yk Nk hY hN
  obtain ⟨e, a, h1, rfl, h3⟩ := (h.keep (Keeps.of s1)).at hx
  have e2 := Option.some.inj (h1.symm.trans ht)
  subst e2
  exact turn _ a H2 (List.mem_of_getElem? ht) s1 h3 Yk Nk hY hN
/-- the feed of `ends` -/
abbrev endsL (p q : Nat) (wf hf : Nat → Int) (st : List Tri) (ld : List Ent) (d : Nat) : List (Nat × Int) := ends p q wf (rt q hf) (top q hf wf st) (want wf ld) d
theorem ends_le256 {p q : Nat} {wf hf : Nat → Int} {st : List Tri} {ld : List Ent} {d : Nat} (hp : p ≤ 4) (hd : d < 4) : (endsL p q wf hf st ld (d + 1)).length ≤ 256 := by
  have h := ends_len (q := q) (w := wf) (s := rt q hf) (T := top q hf wf st) (N := want wf ld) hp d
  have : 4 ^ (d + 1) ≤ 4 ^ 4 := Nat.pow_le_pow_right (by decide) (by omega)
  exact Nat.le_trans h this
theorem mul_left_quo {a b : Int} : a / b = a / b := rfl
section
variable {P : Program} {w : World} {K : PySem.W.Frag} {mg : Str → Option Value} {base : Heap}
theorem own_row {D : Ends} {H0 H : Hp} {z E W TA RA LA : Addr} {p q d : Nat} {wf hf : Nat → Int} {st : List Tri} {ld : List Ent} {xs ts : List V} {a0 a1 a2 a4 a9 a10 a11 a12 a13 a14 : Option V} (R : Row p wf) (T' : Row q hf) (hd : d < q)
    (s0 : Same H0 H) (hz : H0 z = some (.tup (tab p wf))) (hE : H0 E = some (.lst xs)) (hxs : TupsAt H0 xs ((endsL p q wf hf st ld (d + 1)).map pairV)) (hW : H0 W = some (.lst (tab p (want wf ld (q - 1 - d))))) (hT : H0 TA = some (.lst ts)) (hts : ts.length ≤ 4)
    (nR : H0 RA = none) (nL : H0 LA = none) (hR : H RA = some (.lst [])) (hL : H LA = some (.lst [])) (hne : RA ≠ LA)
    (hn : ∀ H3 x a13, Same H0 H3 → RowAt H3 x p (roomsF p q wf hf st ld (q - 1 - d)) (want wf ld (q - 1 - d)) (leftF p q wf hf st ld (q - 1 - d)) →
      D.nx [a0, a1, a2, some (.ref z), a4, some (.ref E), some (.ref TA), some (.int ((q - 1 - d : Nat) : Int)), some (.ref W), a9, a10, a11, a12, a13, a14, some (.ref RA), some (.ref LA)] (upd H3 TA (.lst (ts ++ [x])))) :
    (tSeq (tFor (iRng1 (tCons (tCB (rLen K) (tCons (tVar 3) tNil)) tNil)) (gName 13) (tSeq (tDrop (tBM K "list" rAppend (tVar 15) (tCons (tOp (rI0 fun i j => V.int (i + j)) (tOp (rIxL K) (tVar 8) (tVar 13)) (tCB (rMin K) (tCons (tLc (iList K (tVar 5)) (gTup K 2 (gCons (gName 11) (gCons (gName 12) gNil))) (tTest (tOp rEq (tVar 11) (tVar 13))) (tVar 12) [11, 12]) tNil))) tNil)))
      (tDrop (tBM K "list" rAppend (tVar 16) (tCons (tCB (rMin K) (tCons (tLc (iList K (tVar 5)) (gTup K 2 (gCons (gName 11) (gCons (gName 12) gNil))) (tTest (tOp (rI0 fun i j => V.bl (decide (i ≤ j))) (tVar 11) (tVar 13))) (tOp (rI CDiv fun i j => V.int (i / j)) (tVar 12) (tOp (rI CDiv fun i j => V.int (i / j)) (tOp (rIxT K) (tVar 3) (tVar 13)) (tOp (rIxT K) (tVar 3) (tVar 11)))) [11, 12]) tNil)) tNil)))))
      (tDrop (tBM K "list" rAppend (tVar 6) (tCons (tTup (tCons (tCB (rTupOf K) (tCons (tVar 15) tNil)) (tCons (tCB (rTupOf K) (tCons (tVar 8) tNil)) (tCons (tCB (rTupOf K) (tCons (tVar 16) tNil)) tNil)))) tNil)))) D [a0, a1, a2, some (.ref z), a4, some (.ref E), some (.ref TA), some (.int ((q - 1 - d : Nat) : Int)), some (.ref W), a9, a10, a11, a12, a13, a14, some (.ref RA), some (.ref LA)] H := by
  have hle := R.le
  have hle2 := T'.le
  have h256 := ends_le256 (q := q) (wf := wf) (hf := hf) (st := st) (ld := ld) hle (show d < 4 by omega)
  refine ⟨_, rfl, z, _, rfl, .inr (SqT.of (s0 _ _ hz)), _, rfl, by omega, by rw [tab_len]; omega, ?_⟩
  rw [tab_len, Int.toNat_natCast]
  refine for_range (lo := 0) (n := p) (fun i σ H' => Same H0 H' ∧ H' RA = some (.lst (tab i (roomsF p q wf hf st ld (q - 1 - d)))) ∧ H' LA = some (.lst (tab i (leftF p q wf hf st ld (q - 1 - d)))) ∧
    ∃ a13, σ = [a0, a1, a2, some (.ref z), a4, some (.ref E), some (.ref TA), some (.int ((q - 1 - d : Nat) : Int)), some (.ref W), a9, a10, a11, a12, a13, a14, some (.ref RA), some (.ref LA)]) ⟨s0, hR, hL, _, rfl⟩ ?_ ?_
  · rintro i σ H1 hi ⟨s1, r1, l1, a13, rfl⟩
    rw [Int.zero_add]
    refine app1 rfl r1 (op1 ⟨_, rfl, _, rfl, W, _, _, _, rfl, rfl, SqL.of (s1 _ _ hW), atI_nat (tab_get hi), cb1 (lc_pairs (s1 _ _ hE) (hxs.keep (Keeps.of s1)) (by omega) (fun Q hQ => ⟨_, rfl, hQ⟩) (fun e => decide (e.1 = i)) (fun e => e.2) ?_ ?_)⟩)
    · intro e a H2 he s2 ha Yk Nk hY hN
      refine ⟨a, _, rfl, SqT.of ha, rfl, _, _, rfl, _, _, rfl, rfl, rfl, ?_⟩
      refine ⟨_, rfl, _, rfl, rfl, _, rfl, ?_⟩
      rw [decV]
      refine ite2 (fun e1 => ?_) (fun e1 => ?_)
      · exact ⟨_, rfl, hY (decide_eq_true (by have := of_decide_eq_true e1; omega)) H2 fun _ _ e => e⟩
      · exact hN (decide_eq_false fun z => e1 (decide_eq_true (by omega))) H2 fun _ _ e => e
    · intro D2 H2 nD s2 hD2
      refine ⟨D2, _, rfl, SqL.of hD2, ends_rooms_ne R T'.rt_nn hd hi, fun m m1 m2 => ?_⟩
      have em := ends_rooms R T'.rt_nn hd hi m1 m2
      have er : want wf ld (q - 1 - d) i + m = roomsF p q wf hf st ld (q - 1 - d) i := by
        rw [em]
        unfold roomsF
        have e5 : q - 1 - (q - 1 - d) = d := by omega
        rw [e5]
        show _ + (rt q hf (q - 1 - d) * lv q wf (rt q hf) (Aof q hf wf st ld) d i + (top q hf wf st (q - 1 - d) i - want wf ld (q - 1 - d) i)) = _
        omega
      refine ⟨_, _, rfl, rfl, RA, _, _, rfl, rfl, s2 _ _ r1, ?_, ?_⟩
      · rw [tab_len]; exact small1000 (by omega)
      have s12 := s1.trans s2
      have l2 : (upd H2 RA (.lst (tab i (roomsF p q wf hf st ld (q - 1 - d)) ++ [V.int (want wf ld (q - 1 - d) i + m)]))) LA = some (.lst (tab i (leftF p q wf hf st ld (q - 1 - d)))) := by
        rw [upd_ne (Ne.symm hne)]
        exact s2 _ _ l1
      have s3 : Same H0 (upd H2 RA (.lst (tab i (roomsF p q wf hf st ld (q - 1 - d)) ++ [V.int (want wf ld (q - 1 - d) i + m)]))) := s12.put nR
      have r3 : (upd H2 RA (.lst (tab i (roomsF p q wf hf st ld (q - 1 - d)) ++ [V.int (want wf ld (q - 1 - d) i + m)]))) RA = some (.lst (tab (i + 1) (roomsF p q wf hf st ld (q - 1 - d)))) := by rw [upd_same, er, tab_succ]
      refine app1 rfl l2 (cb1 (lc_pairs (s3 _ _ hE) (hxs.keep (Keeps.of s3)) (by omega) (fun Q hQ => ⟨_, rfl, hQ⟩) (fun e => decide (e.1 ≤ i)) (fun e => e.2 / (wf i / wf e.1)) ?_ ?_))
      · intro e a H4 he s4 ha Yk Nk hY hN
        have he1 : e.1 < p := ends_lt R T'.rt_nn hd e he
        refine ⟨a, _, rfl, SqT.of ha, rfl, _, _, rfl, _, _, rfl, rfl, rfl, ?_⟩
        refine ⟨_, rfl, _, rfl, _, _, rfl, rfl, _, rfl, ?_⟩
        refine ite2 (fun e1 => ?_) (fun e1 => ?_)
        · have e2 : e.1 ≤ i := by have := of_decide_eq_true e1; omega
          have hz4 := s4 _ _ (s3 _ _ hz)
          have b1 := R.quo_pos e2 hi
          have b2 := R.quo_le he1 hi
          have b3 := R.big i hi
          refine ⟨_, rfl, _, rfl, _, rfl, z, _, _, _, rfl, rfl, SqT.of hz4, atI_nat (tab_get hi), _, rfl, _, rfl, z, _, _, _, rfl, rfl, SqT.of hz4, atI_nat (tab_get he1), _, _, rfl, rfl, cdiv R he1, _, _, rfl, rfl, ⟨by omega, by omega⟩, ?_⟩
          exact hY (decide_eq_true e2) H4 fun _ _ e => e
        · exact hN (decide_eq_false fun z => e1 (decide_eq_true (by omega))) H4 fun _ _ e => e
      · intro D4 H4 nD4 s4 hD4
        refine ⟨D4, _, rfl, SqL.of hD4, ends_left_ne R T'.rt_nn hd hi, fun m' m3 m4 => ?_⟩
        have el := ends_left R T'.rt_nn hd hi m3 m4
        have e6 : m' = leftF p q wf hf st ld (q - 1 - d) i := by
          rw [el]
          unfold leftF
          have e5 : q - (q - 1 - d) = d + 1 := by omega
          rw [e5]
          rfl
        refine ⟨LA, _, _, rfl, rfl, s4 _ _ l2, ?_, (s3.trans s4).put nL, ?_, ?_, _, rfl⟩
        · rw [tab_len]; exact small1000 (by omega)
        · rw [upd_ne hne]
          exact s4 _ _ r3
        · rw [upd_same, e6, tab_succ]
  · rintro σ H1 ⟨s1, r1, l1, a13, rfl⟩
    refine app1 rfl (s1 _ _ hT) (tup1 (cons1 (cb1 ⟨_, rfl, RA, _, rfl, .inl ⟨SqL.of r1, fun t1 n1 => ?_⟩⟩)))
    have t1s : Same H1 (upd H1 t1 (.tup (tab p (roomsF p q wf hf st ld (q - 1 - d))))) := Same.new n1
    refine cons1 (cb1 ⟨_, rfl, W, _, rfl, .inl ⟨SqL.of (t1s _ _ (s1 _ _ hW)), fun t2 n2 => ?_⟩⟩)
    have t2s : Same _ (upd (upd H1 t1 (.tup (tab p (roomsF p q wf hf st ld (q - 1 - d))))) t2 (.tup (tab p (want wf ld (q - 1 - d))))) := Same.new n2
    refine cons1 (cb1 ⟨_, rfl, LA, _, rfl, .inl ⟨SqL.of (t2s _ _ (t1s _ _ l1)), fun t3 n3 => ?_⟩⟩)
    have t3s : Same _ (upd (upd (upd H1 t1 (.tup (tab p (roomsF p q wf hf st ld (q - 1 - d))))) t2 (.tup (tab p (want wf ld (q - 1 - d))))) t3 (.tup (tab p (leftF p q wf hf st ld (q - 1 - d))))) := Same.new n3
    refine ⟨(show 3 ≤ sizeLine by decide), fun t4 n4 => ?_⟩
    have t4s : Same _ (upd (upd (upd (upd H1 t1 (.tup (tab p (roomsF p q wf hf st ld (q - 1 - d))))) t2 (.tup (tab p (want wf ld (q - 1 - d))))) t3 (.tup (tab p (leftF p q wf hf st ld (q - 1 - d))))) t4 (.tup [.ref t1, .ref t2, .ref t3])) := Same.new n4
    have sall := s1.trans (t1s.trans (t2s.trans (t3s.trans t4s)))
    refine ⟨TA, _, _, rfl, rfl, sall _ _ hT, small1000 (by omega), hn _ _ _ sall ⟨t4, t1, t2, t3, rfl, upd_same, t4s _ _ (t3s _ _ (t2s _ _ upd_same)), t4s _ _ (t3s _ _ upd_same), t4s _ _ upd_same⟩⟩
end
end K12


set_option Elab.async false
set_option linter.all false
set_option maxRecDepth 100000
namespace K12
open PySem PySem.Spec PyProof.Rows L2
/-- what the law lays for the highest band -/
def endBase (p q : Nat) (wf hf : Nat → Int) (st : List Tri) (ld : List Ent) (d : Nat) : List (Nat × Int) := if d = 0 then (List.range p).map (fun i => (i, top q hf wf st (q - 1) i - want wf ld (q - 1) i)) else []
def endGen (p q : Nat) (wf hf : Nat → Int) (st : List Tri) (ld : List Ent) (d : Nat) (e : Nat × Int) (j : Nat) : Nat × Int :=
  (e.1 + j, e.2 / (wf (e.1 + j) / wf e.1) * rt q hf (q - 1 - d) + top q hf wf st (q - 1 - d) (e.1 + j) - want wf ld (q - 1 - d) (e.1 + j))
theorem ends_more {p q : Nat} {wf hf : Nat → Int} {st : List Tri} {ld : List Ent} (d : Nat) :
    endsL p q wf hf st ld (d + 1) = endBase p q wf hf st ld d ++ (endsL p q wf hf st ld d).flatMap fun e => (List.range (p - e.1)).map (endGen p q wf hf st ld d e) := rfl
theorem ends_le64 {p q : Nat} {wf hf : Nat → Int} {st : List Tri} {ld : List Ent} {d : Nat} (hp : p ≤ 4) (hd : d < 4) : (endsL p q wf hf st ld d).length ≤ 64 := by
  cases d with
  | zero => exact Nat.zero_le _
  | succ d =>
    have h := ends_len (q := q) (w := wf) (s := rt q hf) (T := top q hf wf st) (N := want wf ld) hp d
    have : 4 ^ (d + 1) ≤ 4 ^ 3 := Nat.pow_le_pow_right (by decide) (by omega)
    exact Nat.le_trans h this
theorem range_map_succ {β : Type} (f : Nat → β) (n : Nat) : (List.range (n + 1)).map f = (List.range n).map f ++ [f n] := by
  rw [List.range_succ, List.map_append]
  rfl
theorem flat_take {α β : Type} {ys : List α} {n : Nat} {e : α} (h : ys[n]? = some e) (f : α → List β) : (ys.take (n + 1)).flatMap f = (ys.take n).flatMap f ++ f e := by
  rw [List.take_succ, h, List.flatMap_append]
  congr 1
  show List.flatMap f [e] = _
  rw [List.flatMap_cons, List.flatMap_nil, List.append_nil]
section
variable {P : Program} {w : World} {K : PySem.W.Frag} {mg : Str → Option Value} {base : Heap}
theorem own_fresh {D : Ends} {H0 H : Hp} {z y E W TP TA FA : Addr} {p q d : Nat} {wf hf : Nat → Int} {st : List Tri} {ld : List Ent} {xs ts ys0 : List V} {a0 a1 a2 a11 a12 a13 a14 a15 a16 : Option V} (R : Row p wf) (T' : Row q hf) (hd : d < q)
    (s0 : Same H0 H) (hz : H0 z = some (.tup (tab p wf))) (hy : H0 y = some (.tup (tab q hf))) (hE : H0 E = some (.lst xs)) (hxs : TupsAt H0 xs ((endsL p q wf hf st ld d).map pairV)) (hW : H0 W = some (.lst (tab p (want wf ld (q - 1 - d)))))
    (hTP : H0 TP = some (.lst (tab p (top q hf wf st (q - 1 - d))))) (hT : H0 TA = some (.lst ts)) (hts : ts.length ≤ 4)
    (nF : H0 FA = none) (hF : H FA = some (.lst ys0)) (hF0 : TupsAt H ys0 ((endBase p q wf hf st ld d).map pairV))
    (hn : ∀ H3 x ys a11 a12 a13 a14 a15 a16, Same H0 H3 → H3 FA = some (.lst ys) → TupsAt H3 ys ((endsL p q wf hf st ld (d + 1)).map pairV) → RowAt H3 x p (roomsF p q wf hf st ld (q - 1 - d)) (want wf ld (q - 1 - d)) (leftF p q wf hf st ld (q - 1 - d)) →
      D.nx [a0, a1, a2, some (.ref z), some (.ref y), some (.ref FA), some (.ref TA), some (.int ((q - 1 - d : Nat) : Int)), some (.ref W), some (.ref TP), some (.ref FA), a11, a12, a13, a14, a15, a16] (upd H3 TA (.lst (ts ++ [x])))) :
    (tSeq (tFor (iList K (tVar 5)) (gTup K 2 (gCons (gName 11) (gCons (gName 12) gNil))) (tFor (iRng2 (tCons (tVar 11) (tCons (tCB (rLen K) (tCons (tVar 3) tNil)) tNil))) (gName 13) (tSeq (tAsg (tOp (rI CDiv fun i j => V.int (i / j)) (tVar 12) (tOp (rI CDiv fun i j => V.int (i / j)) (tOp (rIxT K) (tVar 3) (tVar 13)) (tOp (rIxT K) (tVar 3) (tVar 11)))) (gName 14))
      (tSeq (tAsg (tOp (rI CMul fun i j => V.int (i * j)) (tVar 14) (tOp (rI CDiv fun i j => V.int (i / j)) (tOp (rIxT K) (tVar 4) (tOp (rI0 fun i j => V.int (i + j)) (tVar 7) (tC (V.int 1)))) (tOp (rIxT K) (tVar 4) (tVar 7)))) (gName 14))
      (tDrop (tBM K "list" rAppend (tVar 10) (tCons (tTup (tCons (tVar 13) (tCons (tOp (rI0 fun i j => V.int (i - j)) (tOp (rI0 fun i j => V.int (i + j)) (tVar 14) (tOp (rIxL K) (tVar 9) (tVar 13))) (tOp (rIxL K) (tVar 8) (tVar 13))) tNil))) tNil)))))))
      (tSeq (tAsg (tVar 10) (gName 5))
      (tSeq (tAsg (tLst tNil) (gName 15))
      (tSeq (tAsg (tLst tNil) (gName 16))
      (tSeq (tFor (iRng1 (tCons (tCB (rLen K) (tCons (tVar 3) tNil)) tNil)) (gName 13) (tSeq (tDrop (tBM K "list" rAppend (tVar 15) (tCons (tOp (rI0 fun i j => V.int (i + j)) (tOp (rIxL K) (tVar 8) (tVar 13)) (tCB (rMin K) (tCons (tLc (iList K (tVar 5)) (gTup K 2 (gCons (gName 11) (gCons (gName 12) gNil))) (tTest (tOp rEq (tVar 11) (tVar 13))) (tVar 12) [11, 12]) tNil))) tNil)))
      (tDrop (tBM K "list" rAppend (tVar 16) (tCons (tCB (rMin K) (tCons (tLc (iList K (tVar 5)) (gTup K 2 (gCons (gName 11) (gCons (gName 12) gNil))) (tTest (tOp (rI0 fun i j => V.bl (decide (i ≤ j))) (tVar 11) (tVar 13))) (tOp (rI CDiv fun i j => V.int (i / j)) (tVar 12) (tOp (rI CDiv fun i j => V.int (i / j)) (tOp (rIxT K) (tVar 3) (tVar 13)) (tOp (rIxT K) (tVar 3) (tVar 11)))) [11, 12]) tNil)) tNil)))))
      (tDrop (tBM K "list" rAppend (tVar 6) (tCons (tTup (tCons (tCB (rTupOf K) (tCons (tVar 15) tNil)) (tCons (tCB (rTupOf K) (tCons (tVar 8) tNil)) (tCons (tCB (rTupOf K) (tCons (tVar 16) tNil)) tNil)))) tNil)))))))) D [a0, a1, a2, some (.ref z), some (.ref y), some (.ref E), some (.ref TA), some (.int ((q - 1 - d : Nat) : Int)), some (.ref W), some (.ref TP), some (.ref FA), a11, a12, a13, a14, a15, a16] H := by
  have hle := R.le
  have hle2 := T'.le
  have h64 := ends_le64 (q := q) (wf := wf) (hf := hf) (st := st) (ld := ld) hle (show d < 4 by omega)
  have hxl : xs.length = (endsL p q wf hf st ld d).length := hxs.1.trans (List.length_map _)
  have hb0 : (endBase p q wf hf st ld d).length ≤ 4 := by
    unfold endBase
    split
    · rw [List.length_map, List.length_range]; exact hle
    · exact Nat.zero_le _
  refine ⟨_, rfl, E, rfl, ⟨_, SqL.of (s0 _ _ hE)⟩, for_list (K := K) (a := E) (xs := xs) (fun n σ H' => Same H0 H' ∧ (∃ (ys : List V) (fr : List (Nat × Int)), H' FA = some (.lst ys) ∧ TupsAt H' ys (fr.map pairV) ∧
      fr = endBase p q wf hf st ld d ++ ((endsL p q wf hf st ld d).take n).flatMap (fun e => (List.range (p - e.1)).map (endGen p q wf hf st ld d e)) ∧ fr.length ≤ 4 + 4 * n) ∧
      ∃ a11 a12 a13 a14 a15 a16, σ = [a0, a1, a2, some (.ref z), some (.ref y), some (.ref E), some (.ref TA), some (.int ((q - 1 - d : Nat) : Int)), some (.ref W), some (.ref TP), some (.ref FA), a11, a12, a13, a14, a15, a16])
    ⟨s0, ⟨ys0, _, hF, hF0, (List.append_nil _).symm, by omega⟩, _, _, _, _, _, _, rfl⟩ (fun i σ H' _ hP => SqL.of (hP.1 _ _ hE)) ?_ ?_⟩
  · rintro n x σ H1 hx ⟨s1, ⟨ys, fr, h1, h2, h3, h4⟩, c11, c12, c13, c14, c15, c16, rfl⟩
    have hnl : n < 64 := by have := (List.getElem?_eq_some_iff.mp hx).1; omega
    obtain ⟨e, a, he, rfl, ha⟩ := (hxs.keep (Keeps.of s1)).at hx
    have hem := List.mem_of_getElem? he
    have hd0 : d ≠ 0 := fun z => by subst z; cases hem
    have he1 : e.1 < p := by
      obtain ⟨d', rfl⟩ : ∃ d', d = d' + 1 := ⟨d - 1, by omega⟩
      exact ends_lt R T'.rt_nn (by omega) e hem
    have hb1 : q - 1 - d + 1 < q := by omega
    have er : hf (q - 1 - d + 1) / hf (q - 1 - d) = rt q hf (q - 1 - d) := by unfold rt; rw [if_pos hb1]
    refine ⟨a, _, rfl, SqT.of ha, rfl, _, _, rfl, _, _, rfl, rfl, ?_⟩
    refine ⟨_, rfl, _, rfl, z, _, rfl, .inr (SqT.of (s1 _ _ hz)), _, _, rfl, ⟨by omega, by omega, by omega, by rw [tab_len]; omega⟩, ?_⟩
    rw [tab_len]
    refine for_range (lo := (e.1 : Nat)) (n := ((p : Int) - (e.1 : Nat)).toNat) (fun j σ H' => Same H0 H' ∧ (∃ (ys : List V) (fr2 : List (Nat × Int)), H' FA = some (.lst ys) ∧ TupsAt H' ys (fr2.map pairV) ∧
      fr2 = fr ++ (List.range j).map (endGen p q wf hf st ld d e) ∧ fr2.length ≤ 4 + 4 * n + j) ∧
      ∃ a13 a14 a15 a16, σ = [a0, a1, a2, some (.ref z), some (.ref y), some (.ref E), some (.ref TA), some (.int ((q - 1 - d : Nat) : Int)), some (.ref W), some (.ref TP), some (.ref FA), some (.int (e.1 : Nat)), some (.int e.2), a13, a14, a15, a16])
      ⟨s1, ⟨ys, _, h1, h2, (List.append_nil _).symm, by omega⟩, _, _, _, _, rfl⟩ ?_ ?_
    · rintro j σ H2 hj ⟨s2, ⟨ys, fr2, g1, g2, g3, g4⟩, c13, c14, c15, c16, rfl⟩
      have hj2 : e.1 + j < p := by omega
      have ej : ((e.1 : Nat) : Int) + (j : Int) = ((e.1 + j : Nat) : Int) := by omega
      rw [ej]
      have hz2 := s2 _ _ hz
      have hy2 := s2 _ _ hy
      have b1 := R.quo_pos (show e.1 ≤ e.1 + j by omega) hj2
      have b2 := R.quo_le he1 hj2
      have b3 := R.big (e.1 + j) hj2
      have b4 := rt_bd T' (q - 1 - d)
      refine ⟨_, rfl, _, rfl, _, rfl, z, _, _, _, rfl, rfl, SqT.of hz2, atI_nat (tab_get hj2), _, rfl, _, rfl, z, _, _, _, rfl, rfl, SqT.of hz2, atI_nat (tab_get he1), _, _, rfl, rfl, cdiv R he1, _, _, rfl, rfl, ⟨by omega, by omega⟩, ?_⟩
      refine ⟨_, rfl, _, rfl, _, rfl, _, _, rfl, rfl, y, _, _, _, rfl, rfl, SqT.of hy2, atI_nat (j := q - 1 - d + 1) (tab_get hb1), _, rfl, _, rfl, y, _, _, _, rfl, rfl, SqT.of hy2, atI_nat (tab_get (show q - 1 - d < q by omega)), _, _, rfl, rfl, cdiv T' (show q - 1 - d < q by omega), ?_⟩
      dsimp only
      rw [er]
      refine ⟨_, _, rfl, rfl, .inr ⟨by omega, by omega⟩, ?_⟩
      refine app1 rfl g1 (tup1 (cons1 ⟨_, rfl, _, rfl, _, rfl, _, rfl, TP, _, _, _, rfl, rfl, SqL.of (s2 _ _ hTP), atI_nat (tab_get hj2), _, _, rfl, rfl, _, rfl, _, rfl, W, _, _, _, rfl, rfl, SqL.of (s2 _ _ hW), atI_nat (tab_get hj2), _, _, rfl, rfl, (show 2 ≤ sizeLine by decide), fun t nt => ?_⟩))
      have s3 : Same H2 (upd H2 t (.tup (pairV (endGen p q wf hf st ld d e j)))) := Same.new nt
      have k1 := s3 _ _ g1
      have k2 := ((g2.keep (Keeps.of s3)).more (t := pairV (endGen p q wf hf st ld d e j)) upd_same).keep (Keeps.lst (ys := ys ++ [V.ref t]) k1)
      have hyl : ys.length = fr2.length := g2.1.trans (List.length_map _)
      refine ⟨FA, _, _, rfl, rfl, k1, small1000 (by omega), (s2.trans s3).put nF, ⟨_, fr2 ++ [endGen p q wf hf st ld d e j], upd_same, ?_, ?_, ?_⟩, _, _, _, _, rfl⟩
      · rw [List.map_append]; exact k2
      · rw [g3, range_map_succ, List.append_assoc]
      · rw [List.length_append]; exact Nat.succ_le_succ g4
    · rintro σ H2 ⟨s2, ⟨ys, fr2, g1, g2, g3, g4⟩, c13, c14, c15, c16, rfl⟩
      have en : ((p : Int) - (e.1 : Nat)).toNat = p - e.1 := by omega
      rw [en] at g3 g4
      refine ⟨s2, ⟨ys, fr2, g1, g2, ?_, by omega⟩, _, _, _, _, _, _, rfl⟩
      rw [g3, flat_take he, h3, List.append_assoc]
  · rintro σ H1 ⟨s1, ⟨ys, fr, h1, h2, h3, h4⟩, c11, c12, c13, c14, c15, c16, rfl⟩
    rw [hxl, List.take_length, ← ends_more] at h3
    subst h3
    refine ⟨_, rfl, Nat.zero_le _, fun RA nR => ⟨Nat.zero_le _, fun LA nL => ?_⟩⟩
    have hTF : TA ≠ FA := fun z => by rw [z, nF] at hT; cases hT
    have s3 : Same H1 (upd H1 RA (.lst [])) := Same.new nR
    have s4 : Same _ (upd (upd H1 RA (.lst [])) LA (.lst [])) := Same.new nL
    exact own_row R T' hd (s3.trans s4) (s1 _ _ hz) h1 h2 (s1 _ _ hW) (s1 _ _ hT) hts nR (s3.free nL) (s4 _ _ upd_same) upd_same (ne_of_none upd_same nL)
      fun H3 x a13 s5 hx => hn H3 x ys _ _ _ _ _ _ (s1.trans s5) (s5 _ _ h1) (h2.keep (Keeps.of s5)) hx
end
end K12


set_option Elab.async false
set_option linter.all false
set_option maxRecDepth 100000
namespace K12
open PySem PySem.Spec PyProof.Rows L2
theorem asg1 {te : TE} {g : TG} {D : Ends} {σ : L2.St} {H : Hp} (h : te σ H fun x H1 => g x σ H1 D.nx) : tAsg te g D σ H := h
theorem RowAt.keep {H H' : Hp} {v : V} {n : Nat} {f g h : Nat → Int} (r : RowAt H v n f g h) (k : Keeps H H') : RowAt H' v n f g h := by
  obtain ⟨t, a, b, c, h1, h2, h3, h4, h5⟩ := r
  exact ⟨t, a, b, c, h1, k _ _ h2, k _ _ h3, k _ _ h4, k _ _ h5⟩
theorem atI_rev {ts : List V} {q b : Nat} {x : V} (h : ts.length = q) (hb : b < q) (hx : ts[q - 1 - b]? = some x) : atI ts ((ts.length : Int) - 1 - (b : Int)) = some x := by
  have e : (ts.length : Int) - 1 - (b : Int) = ((q - 1 - b : Nat) : Int) := by omega
  rw [e]
  exact atI_nat hx
theorem TupsAt.pairs {α : Type} {H : Hp} {xs : List V} {ys : List α} {f : α → Nat × Int} (h : TupsAt H xs (ys.map fun a => pairV (f a))) : TupsAt H xs ((ys.map f).map pairV) := by
  rw [List.map_map]
  exact h
section
variable {P : Program} {w : World} {K : PySem.W.Frag} {mg : Str → Option Value} {base : Heap}
def sp_law_own_rooms : Sp := fun vs H Q _ => ∃ (L S M : Addr) (p q : Nat) (wf hf : Nat → Int) (st : List Tri) (ld : List Ent), vs = [.ref L, .ref S, .ref M] ∧ ListsAt H L (tab p wf) (tab q hf) ∧ Row p wf ∧ Row q hf ∧ StockAt H S st ∧ InS st ∧ LotAt H M ld ∧ InL p q ld ∧ st.length ≤ 1000 ∧ ld.length ≤ 1000 ∧
  ∀ H' v, Same H H' → RoomsL H' v p q wf hf st ld → Q v H'
theorem ok_law_own_rooms (T : Txt mg) (D : Df K mg "_law_own_rooms" s_law_own_rooms ["_law_rows", "_law_store", "_law_load"]) (c__law_wanted : Cal P w K mg base CX0 1 "_law_wanted" ["_law_wide", "_law_load", "_law_b"] sp_law_wanted)
    (c__law_top_bands : Cal P w K mg base CX0 2 "_law_top_bands" ["_law_wide", "_law_high", "_law_store", "_law_b"] sp_law_top_bands) :
    FnOk P w K mg base CX0 3 D.f D.fd ["_law_rows", "_law_store", "_law_load"] sp_law_own_rooms := by
  refine D.F.ok S_law_own_rooms (fun vs H Q E h => ?_) (fun cdv A outer s H vs Q E hr h => ?_)
  · obtain ⟨L, S, M, p, q, wf, hf, st, ld, rfl, _⟩ := h
    rfl
  · obtain ⟨L, S, M, p, q, wf, hf, st, ld, rfl, ⟨z, y, hL, hz, hy⟩, R, T', hS, iS, hM, iL, nst, nld, k⟩ := h
    refine ⟨_, (pss_cons (ps_set (i := 3) S_law_own_rooms.nd rfl (Or.inr rfl) (pe_ix ix_tup (pv 0) pe_int (fun _ _ => rfl)))
      (pss_cons (ps_set (i := 4) S_law_own_rooms.nd rfl (Or.inl rfl) (pe_ix ix_tup (pv 0) pe_int (fun _ _ => rfl)))
      (pss_cons (ps_set (i := 5) S_law_own_rooms.nd rfl (Or.inl rfl) (pe_lst pa_nil))
      (pss_cons (ps_set (i := 6) S_law_own_rooms.nd rfl (Or.inr rfl) (pe_lst pa_nil))
      (pss_cons (ps_for PassesOwn.never rfl (pi_revR (by rfl) T.reversed_ (prg_1 (by rfl) T.range_ (pe_callB call_len_seq (by rfl) T.len_ (by decide +kernel) (pa_cons (pv 4) pa_nil)))) (pg_name (i := 7) S_law_own_rooms.nd rfl (Or.inl rfl)) (pss_cons (ps_set (i := 8) S_law_own_rooms.nd rfl (Or.inr rfl) (pe_call c__law_wanted.ok (hr.mono (by decide)) (by rfl) c__law_wanted.g c__law_wanted.kp c__law_wanted.b .nil pass0 (pa_cons (pv 3) (pa_cons (pv 2) (pa_cons (pv 7) pa_nil)))))
      (pss_cons (ps_set (i := 9) S_law_own_rooms.nd rfl (Or.inr rfl) (pe_call c__law_top_bands.ok (hr.mono (by decide)) (by rfl) c__law_top_bands.g c__law_top_bands.kp c__law_top_bands.b .nil pass0 (pa_cons (pv 3) (pa_cons (pv 4) (pa_cons (pv 1) (pa_cons (pv 7) pa_nil))))))
      (pss_cons (ps_set (i := 10) S_law_own_rooms.nd rfl (Or.inl rfl) (pe_lst pa_nil))
      (pss_cons (ps_if (pt_cmpR op_eq (pe_op op_add (pv 7) pe_int) (pe_callB call_len_seq (by rfl) T.len_ (by decide +kernel) (pa_cons (pv 4) pa_nil)) (nomark _)) (pss_one (ps_setLc (i := 10) (own := [("_law_i", 13)]) rfl S_law_own_rooms.nd rfl rfl (sw_true rfl rfl rfl (by decide +kernel)) (pi_range1 (by rfl) T.range_ (pa_cons (pe_callB call_len_seq (by rfl) T.len_ (by decide +kernel) (pa_cons (pv 3) pa_nil)) pa_nil)) (blkOk_by (N := n_law_own_rooms) (sc := defScope s_law_own_rooms) (by decide +kernel)) (fun _ _ _ _ _ => pg_name (i := 13) S_law_own_rooms.nd rfl (Or.inl rfl)) (fun _ _ _ _ _ => pts_nil) (fun _ _ _ _ _ => (pe_tup (pa_cons (pv 13) (pa_cons (pe_op op_sub (pe_ix (ixl_K (K := K) rfl) (pv 9) (pv 13) (fun _ _ => rfl)) (pe_ix (ixl_K (K := K) rfl) (pv 8) (pv 13) (fun _ _ => rfl))) pa_nil)))))) pss_nil)
      (pss_cons (ps_for PassesOwn.never rfl (pi_list (pv 5)) (pg_tup (by rfl) (pgs_cons (pg_name (i := 11) S_law_own_rooms.nd rfl (Or.inl rfl)) (pgs_cons (pg_name (i := 12) S_law_own_rooms.nd rfl (Or.inl rfl)) pgs_nil))) (pss_one (ps_for PassesOwn.never rfl (pi_range2 (by rfl) T.range_ (pa_cons (pv 11) (pa_cons (pe_callB call_len_seq (by rfl) T.len_ (by decide +kernel) (pa_cons (pv 3) pa_nil)) pa_nil))) (pg_name (i := 13) S_law_own_rooms.nd rfl (Or.inr rfl)) (pss_cons (ps_set (i := 14) S_law_own_rooms.nd rfl (Or.inl rfl) (pe_op op_fdiv (pv 12) (pe_op op_fdiv (pe_ix ix_tup (pv 3) (pv 13) (fun _ _ => rfl)) (pe_ix ix_tup (pv 3) (pv 11) (fun _ _ => rfl)))))
      (pss_cons (ps_set (i := 14) S_law_own_rooms.nd rfl (Or.inl rfl) (pe_op op_mul (pv 14) (pe_op op_fdiv (pe_ix ix_tup (pv 4) (pe_op op_add (pv 7) pe_int) (fun _ _ => rfl)) (pe_ix ix_tup (pv 4) (pv 7) (fun _ _ => rfl)))))
      (pss_one (ps_expr (pe_bm PySem.F.plainAttrs_list PySem.F.slot_list_append PySem.F.type_list_append mt_append (pv 10) (pa_cons (pe_tup (pa_cons (pv 13) (pa_cons (pe_op op_sub (pe_op op_add (pv 14) (pe_ix ix_list (pv 9) (pv 13) (fun _ _ => rfl))) (pe_ix ix_list (pv 8) (pv 13) (fun _ _ => rfl))) pa_nil))) pa_nil)))))))))
      (pss_cons (ps_set (i := 5) S_law_own_rooms.nd rfl (Or.inl rfl) (pv 10))
      (pss_cons (ps_set (i := 15) S_law_own_rooms.nd rfl (Or.inl rfl) (pe_lst pa_nil))
      (pss_cons (ps_set (i := 16) S_law_own_rooms.nd rfl (Or.inl rfl) (pe_lst pa_nil))
      (pss_cons (ps_for PassesOwn.never rfl (pi_range1 (by rfl) T.range_ (pa_cons (pe_callB call_len_seq (by rfl) T.len_ (by decide +kernel) (pa_cons (pv 3) pa_nil)) pa_nil)) (pg_name (i := 13) S_law_own_rooms.nd rfl (Or.inr rfl)) (pss_cons (ps_expr (pe_bm PySem.F.plainAttrs_list PySem.F.slot_list_append PySem.F.type_list_append mt_append (pv 15) (pa_cons (pe_op op_add (pe_ix ix_list (pv 8) (pv 13) (fun _ _ => rfl)) (pe_callB (cr_min rfl) (by rfl) T.min_ (by decide +kernel) (pa_cons (pe_lc (own := [("_law_k_here", 11), ("_law_x", 12)]) rfl S_law_own_rooms.nd (pi_list (pv 5)) (blkOk_by (N := n_law_own_rooms) (sc := defScope s_law_own_rooms) (by decide +kernel)) (fun _ _ _ _ _ => (pgt_K (K := K) (n := 2) rfl (by rfl) (pgs_cons (pg_name (i := 11) S_law_own_rooms.nd rfl (Or.inl rfl)) (pgs_cons (pg_name (i := 12) S_law_own_rooms.nd rfl (Or.inl rfl)) pgs_nil)))) (fun _ _ _ _ _ => pts_one (pt_cmpR op_eq (pv 11) (pv 13) (nomark _))) (fun _ _ _ _ _ => (pv 12))) pa_nil))) pa_nil)))
      (pss_one (ps_expr (pe_bm PySem.F.plainAttrs_list PySem.F.slot_list_append PySem.F.type_list_append mt_append (pv 16) (pa_cons (pe_callB (cr_min rfl) (by rfl) T.min_ (by decide +kernel) (pa_cons (pe_lc (own := [("_law_k_here", 11), ("_law_x", 12)]) rfl S_law_own_rooms.nd (pi_list (pv 5)) (blkOk_by (N := n_law_own_rooms) (sc := defScope s_law_own_rooms) (by decide +kernel)) (fun _ _ _ _ _ => (pgt_K (K := K) (n := 2) rfl (by rfl) (pgs_cons (pg_name (i := 11) S_law_own_rooms.nd rfl (Or.inl rfl)) (pgs_cons (pg_name (i := 12) S_law_own_rooms.nd rfl (Or.inl rfl)) pgs_nil)))) (fun _ _ _ _ _ => pts_one (pt_cmpR op_le (pv 11) (pv 13) (nomark _))) (fun _ _ _ _ _ => (pe_op op_fdiv (pv 12) (pe_op op_fdiv (pe_ix (ixt_K (K := K) rfl) (pv 3) (pv 13) (fun _ _ => rfl)) (pe_ix (ixt_K (K := K) rfl) (pv 3) (pv 11) (fun _ _ => rfl)))))) pa_nil)) pa_nil))))))
      (pss_one (ps_expr (pe_bm PySem.F.plainAttrs_list PySem.F.slot_list_append PySem.F.type_list_append mt_append (pv 6) (pa_cons (pe_tup (pa_cons (pe_callTy call_tuple_of (by rfl) T.tuple_ (by decide +kernel) (pa_cons (pv 15) pa_nil)) (pa_cons (pe_callTy call_tuple_of (by rfl) T.tuple_ (by decide +kernel) (pa_cons (pv 8) pa_nil)) (pa_cons (pe_callTy call_tuple_of (by rfl) T.tuple_ (by decide +kernel) (pa_cons (pv 16) pa_nil)) pa_nil)))) pa_nil))))))))))))))
      (pss_one (ps_ret (pe_callTy call_tuple_of (by rfl) T.tuple_ (by decide +kernel) (pa_cons (pe_lc (own := [("_law_b", 7)]) rfl S_law_own_rooms.nd (pi_range1 (by rfl) T.range_ (pa_cons (pe_callB call_len_seq (by rfl) T.len_ (by decide +kernel) (pa_cons (pv 6) pa_nil)) pa_nil)) (blkOk_by (N := n_law_own_rooms) (sc := defScope s_law_own_rooms) (by decide +kernel)) (fun _ _ _ _ _ => pg_name (i := 7) S_law_own_rooms.nd rfl (Or.inl rfl)) (fun _ _ _ _ _ => pts_nil) (fun _ _ _ _ _ => (pe_ix (ixl_K (K := K) rfl) (pv 6) (pe_op op_sub (pe_op op_sub (pe_callB (len_K (K := K) rfl) (by rfl) T.len_ (by decide +kernel) (pa_cons (pv 6) pa_nil)) pe_int) (pv 7)) (fun _ _ => rfl)))) pa_nil))))))))), ?_⟩
    have hle := R.le
    have hle2 := T'.le
    refine ⟨_, rfl, L, _, 0, _, rfl, rfl, SqT.of hL, atI_nat (j := 0) rfl, _, rfl, L, _, 1, _, rfl, rfl, SqT.of hL, atI_nat (j := 1) rfl, ?_⟩
    refine ⟨Nat.zero_le _, fun E0 nE => ⟨Nat.zero_le _, fun TA nT => ?_⟩⟩
    have s1 : Same H (upd H E0 (.lst [])) := Same.new nE
    have s2 : Same _ (upd (upd H E0 (.lst [])) TA (.lst [])) := Same.new nT
    have s12 := s1.trans s2
    have nT0 : H TA = none := s1.free nT
    refine ⟨_, rfl, y, _, rfl, .inr (SqT.of (s12 _ _ hy)), _, rfl, by omega, by omega, by rw [tab_len]; omega, by rw [tab_len]; omega, ?_⟩
    rw [tab_len]
    refine for_rangeC (n := ((q : Int) - 0).toNat) (fun d σ H' => Same H H' ∧ (∃ ts, H' TA = some (.lst ts) ∧ ts.length = d ∧ ∀ j, j < d → ∃ x, ts[j]? = some x ∧ RowAt H' x p (roomsF p q wf hf st ld (q - 1 - j)) (want wf ld (q - 1 - j)) (leftF p q wf hf st ld (q - 1 - j))) ∧
      ∃ (E : Addr) (xs : List V) (a7 a8 a9 a10 a11 a12 a13 a14 a15 a16 : Option V), H' E = some (.lst xs) ∧ TupsAt H' xs ((endsL p q wf hf st ld d).map pairV) ∧ E ≠ TA ∧
        σ = [some (.ref L), some (.ref S), some (.ref M), some (.ref z), some (.ref y), some (.ref E), some (.ref TA), a7, a8, a9, a10, a11, a12, a13, a14, a15, a16])
      ⟨s12, ⟨[], upd_same, rfl, fun j h => absurd h (Nat.not_lt_zero j)⟩, E0, [], _, _, _, _, _, _, _, _, _, _, s2 _ _ upd_same, TupsAt.nil, ne_of_none upd_same nT, rfl⟩ ?_ ?_
    · rintro d σ H3 hd0 ⟨s3, ⟨ts, hT, htl, hts⟩, E, xs, a7, a8, a9, a10, a11, a12, a13, a14, a15, a16, hE, hxs, hET, rfl⟩
      have hd : d < q := by omega
      have eb : (0 + ((((q : Nat) : Int) - 0).toNat : Int) - 1 + (d : Nat) * -1) = ((q - 1 - d : Nat) : Int) := by omega
      rw [eb]
      refine ⟨_, rfl, _, rfl, _, rfl, z, M, p, q, wf, ld, q - 1 - d, rfl, s3 _ _ hz, R, hM.same s3, iL, nld, fun H4 W s4 hW => ?_⟩
      have s34 := s3.trans s4
      refine ⟨_, rfl, _, rfl, _, rfl, _, rfl, z, y, S, p, q, wf, hf, st, q - 1 - d, rfl, s34 _ _ hz, s34 _ _ hy, R, T', hS.same s34, iS, nst, by omega, fun H5 TP s5 hTP => ?_⟩
      have s35 := s34.trans s5
      refine ⟨Nat.zero_le _, fun F0 nF => ?_⟩
      have s6 : Same H5 (upd H5 F0 (.lst [])) := Same.new nF
      have hT5 := s5 _ _ (s4 _ _ hT)
      have hE5 := s5 _ _ (s4 _ _ hE)
      have hx5 := hxs.keep (Keeps.of (s4.trans s5))
      have hW5 := s5 _ _ hW
      have fin : ∀ (H6 H7 : Hp) (FA : Addr) (ys0 : List V) (Dn : Ends) (b11 b12 b13 b14 b15 b16 : Option V), (∀ σ' H', (Same H H' ∧ (∃ ts, H' TA = some (.lst ts) ∧ ts.length = d + 1 ∧ ∀ j, j < d + 1 → ∃ x, ts[j]? = some x ∧ RowAt H' x p (roomsF p q wf hf st ld (q - 1 - j)) (want wf ld (q - 1 - j)) (leftF p q wf hf st ld (q - 1 - j))) ∧
          ∃ (E : Addr) (xs : List V) (a7 a8 a9 a10 a11 a12 a13 a14 a15 a16 : Option V), H' E = some (.lst xs) ∧ TupsAt H' xs ((endsL p q wf hf st ld (d + 1)).map pairV) ∧ E ≠ TA ∧
            σ' = [some (.ref L), some (.ref S), some (.ref M), some (.ref z), some (.ref y), some (.ref E), some (.ref TA), a7, a8, a9, a10, a11, a12, a13, a14, a15, a16]) → Dn.nx σ' H') →
          Same H5 H6 → Same H6 H7 → H6 FA = none → H7 FA = some (.lst ys0) → TupsAt H7 ys0 ((endBase p q wf hf st ld d).map pairV) →
          (tSeq (tFor (iList K (tVar 5)) (gTup K 2 (gCons (gName 11) (gCons (gName 12) gNil))) (tFor (iRng2 (tCons (tVar 11) (tCons (tCB (rLen K) (tCons (tVar 3) tNil)) tNil))) (gName 13) (tSeq (tAsg (tOp (rI CDiv fun i j => V.int (i / j)) (tVar 12) (tOp (rI CDiv fun i j => V.int (i / j)) (tOp (rIxT K) (tVar 3) (tVar 13)) (tOp (rIxT K) (tVar 3) (tVar 11)))) (gName 14))
      (tSeq (tAsg (tOp (rI CMul fun i j => V.int (i * j)) (tVar 14) (tOp (rI CDiv fun i j => V.int (i / j)) (tOp (rIxT K) (tVar 4) (tOp (rI0 fun i j => V.int (i + j)) (tVar 7) (tC (V.int 1)))) (tOp (rIxT K) (tVar 4) (tVar 7)))) (gName 14))
      (tDrop (tBM K "list" rAppend (tVar 10) (tCons (tTup (tCons (tVar 13) (tCons (tOp (rI0 fun i j => V.int (i - j)) (tOp (rI0 fun i j => V.int (i + j)) (tVar 14) (tOp (rIxL K) (tVar 9) (tVar 13))) (tOp (rIxL K) (tVar 8) (tVar 13))) tNil))) tNil)))))))
      (tSeq (tAsg (tVar 10) (gName 5))
      (tSeq (tAsg (tLst tNil) (gName 15))
      (tSeq (tAsg (tLst tNil) (gName 16))
      (tSeq (tFor (iRng1 (tCons (tCB (rLen K) (tCons (tVar 3) tNil)) tNil)) (gName 13) (tSeq (tDrop (tBM K "list" rAppend (tVar 15) (tCons (tOp (rI0 fun i j => V.int (i + j)) (tOp (rIxL K) (tVar 8) (tVar 13)) (tCB (rMin K) (tCons (tLc (iList K (tVar 5)) (gTup K 2 (gCons (gName 11) (gCons (gName 12) gNil))) (tTest (tOp rEq (tVar 11) (tVar 13))) (tVar 12) [11, 12]) tNil))) tNil)))
      (tDrop (tBM K "list" rAppend (tVar 16) (tCons (tCB (rMin K) (tCons (tLc (iList K (tVar 5)) (gTup K 2 (gCons (gName 11) (gCons (gName 12) gNil))) (tTest (tOp (rI0 fun i j => V.bl (decide (i ≤ j))) (tVar 11) (tVar 13))) (tOp (rI CDiv fun i j => V.int (i / j)) (tVar 12) (tOp (rI CDiv fun i j => V.int (i / j)) (tOp (rIxT K) (tVar 3) (tVar 13)) (tOp (rIxT K) (tVar 3) (tVar 11)))) [11, 12]) tNil)) tNil)))))
      (tDrop (tBM K "list" rAppend (tVar 6) (tCons (tTup (tCons (tCB (rTupOf K) (tCons (tVar 15) tNil)) (tCons (tCB (rTupOf K) (tCons (tVar 8) tNil)) (tCons (tCB (rTupOf K) (tCons (tVar 16) tNil)) tNil)))) tNil)))))))) Dn [some (.ref L), some (.ref S), some (.ref M), some (.ref z), some (.ref y), some (.ref E), some (.ref TA), some (.int ((q - 1 - d : Nat) : Int)), some (.ref W), some (.ref TP), some (.ref FA), b11, b12, b13, b14, b15, b16] H7 := by
        intro H6 H7 FA ys0 Dn b11 b12 b13 b14 b15 b16 hn s56 s67 nFA hF hF0
        have hT6 := s56 _ _ hT5
        refine own_fresh R T' hd s67 (s56 _ _ (s35 _ _ hz)) (s56 _ _ (s35 _ _ hy)) (s56 _ _ hE5) (hx5.keep (Keeps.of s56)) (s56 _ _ hW5) (s56 _ _ hTP) hT6 (by omega) nFA hF hF0 fun H8 x ys c11 c12 c13 c14 c15 c16 s68 hFA hys hrow => ?_
        have hFT : FA ≠ TA := fun e => by rw [← e, nFA] at hT6; cases hT6
        have hT8 := s68 _ _ hT6
        refine hn _ _ ⟨((s35.trans s56).trans s68).put nT0, ⟨ts ++ [x], upd_same, by rw [List.length_append, htl]; rfl, fun j hj => ?_⟩, FA, ys, _, _, _, _, _, _, _, _, _, _, ?_, hys.keep (Keeps.lst hT8), hFT, rfl⟩
        · by_cases ej : j = d
          · subst ej
            exact ⟨x, by rw [List.getElem?_append_right (by omega), htl, Nat.sub_self]; rfl, hrow.put hT8⟩
          · obtain ⟨u, u1, u2⟩ := hts j (by omega)
            exact ⟨u, by rw [List.getElem?_append_left (by omega)]; exact u1, (((u2.same s4).same s5).same (s56.trans s68)).put hT8⟩
        · rw [upd_ne hFT]
          exact hFA
      refine ⟨_, rfl, _, _, rfl, rfl, _, rfl, y, _, rfl, .inr (SqT.of (s6 _ _ (s35 _ _ hy))), rfl, _, rfl, ?_⟩
      dsimp only
      rw [decV, tab_len]
      refine ite2 (fun e => ?_) (fun e => ?_)
      · have e0 : d = 0 := by have := of_decide_eq_true e; omega
        refine asg1 (lc_tups (ys := List.range p) (J := Itr 0 p) (by rw [List.length_range]; exact walk_range) (by rw [List.length_range]; omega) (fun _ _ => trivial) (fun Rk hR => ?_) (fun i => pairV (i, top q hf wf st (q - 1 - d) i - want wf ld (q - 1 - d) i)) ?_ ?_)
        · refine ⟨_, rfl, z, _, rfl, .inr (SqT.of (s6 _ _ (s35 _ _ hz))), _, rfl, by omega, by rw [tab_len]; omega, ?_⟩
          rw [tab_len, Int.toNat_natCast]
          exact hR
        · rintro i t x H7 H8 ht s7 ⟨rfl, ex⟩ Yk hY
          have ex : x = .int (0 + (i : Int)) := ex
          rw [Int.zero_add] at ex
          subst ex
          have hi : i < p := by
            have := (List.getElem?_eq_some_iff.mp ht).1
            rw [List.length_range] at this
            exact this
          rw [List.getElem?_range hi] at ht
          cases ht
          exact ⟨rfl, _, rfl, _, rfl, _, rfl, TP, _, _, _, rfl, rfl, SqL.of (s7 _ _ (s6 _ _ hTP)), atI_nat (tab_get hi), _, rfl, _, rfl, W, _, _, _, rfl, rfl, SqL.of (s7 _ _ (s6 _ _ hW5)), atI_nat (tab_get hi), _, _, rfl, rfl, (show 2 ≤ sizeLine by decide), fun t nt => hY t _ (Same.new nt) upd_same⟩
        · intro FA ys H7 nFA s7 hF hys
          refine fin _ H7 FA ys _ _ _ _ _ _ _ (fun _ _ h => h) s6 s7 nFA hF ?_
          have e5 : endBase p q wf hf st ld d = (List.range p).map fun i => (i, top q hf wf st (q - 1 - d) i - want wf ld (q - 1 - d) i) := by
            unfold endBase
            rw [if_pos e0, e0]
            rfl
          rw [e5]
          exact hys.pairs
      · have e0 : d ≠ 0 := fun z => e (decide_eq_true (by omega))
        refine fin H5 _ F0 [] _ _ _ _ _ _ _ (fun _ _ h => h) (fun _ _ e => e) s6 nF upd_same ?_
        unfold endBase
        rw [if_neg e0]
        exact TupsAt.nil
    · rintro σ H3 ⟨s3, ⟨ts, hT, htl, hts⟩, E, xs, a7, a8, a9, a10, a11, a12, a13, a14, a15, a16, hE, hxs, hET, rfl⟩
      have eq0 : ((q : Int) - 0).toNat = q := by omega
      rw [eq0] at htl hts
      dsimp only
      refine ret1 (cb1 (lc_acc (n := q) (J := Itr 0 q) walk_range (by omega) (fun _ _ => trivial) (fun Rk hR => ?_) (fun i xs H' => xs.length = i ∧ ∀ b, b < i → ∃ x, xs[b]? = some x ∧ RowAt H' x p (roomsF p q wf hf st ld b) (want wf ld b) (leftF p q wf hf st ld b))
        (fun _ _ => ⟨rfl, fun b h => absurd h (Nat.not_lt_zero b)⟩) (fun i xs H' H2 h kk => ⟨h.1, fun b hb => let ⟨x, x1, x2⟩ := h.2 b hb; ⟨x, x1, x2.keep kk⟩⟩) ?_ ?_))
      · refine ⟨_, rfl, TA, _, rfl, .inl (SqL.of hT), _, rfl, by omega, by omega, ?_⟩
        rw [htl, Int.toNat_natCast]
        exact hR
      · rintro i x H7 H8 ys hi s7 ⟨h1, h2⟩ ⟨rfl, ex⟩ Yk Nk hY hN
        have ex : x = .int (0 + (i : Int)) := ex
        rw [Int.zero_add] at ex
        subst ex
        obtain ⟨u, u1, u2⟩ := hts (q - 1 - i) (by omega)
        have ei : q - 1 - (q - 1 - i) = i := by omega
        rw [ei] at u2
        have hT7 := s7 _ _ hT
        refine ⟨rfl, _, rfl, _, rfl, TA, _, rfl, .inl (SqL.of hT7), _, _, rfl, rfl, _, rfl, _, _, rfl, rfl, TA, _, _, u, rfl, rfl, SqL.of hT7, atI_rev htl hi u1, ?_⟩
        refine hY u _ (fun _ _ e => e) ⟨by rw [List.length_append, h1]; rfl, fun b hb => ?_⟩
        by_cases ej : b = i
        · subst ej
          exact ⟨u, by rw [List.getElem?_append_right (by omega), h1, Nat.sub_self]; rfl, u2.same s7⟩
        · obtain ⟨v, v1, v2⟩ := h2 b (by omega)
          exact ⟨v, by rw [List.getElem?_append_left (by omega)]; exact v1, v2⟩
      · rintro DA ys H7 nD s7 hD hl ⟨h1, h2⟩
        refine ⟨DA, _, rfl, .inl ⟨SqL.of hD, fun t nt => ?_⟩⟩
        have s8 : Same H7 (upd H7 t (.tup ys)) := Same.new nt
        exact k _ _ ((s3.trans s7).trans s8) ⟨t, ys, rfl, upd_same, h1, fun b hb => let ⟨x, x1, x2⟩ := h2 b hb; ⟨x, x1, x2.same s8⟩⟩
end
end K12


set_option Elab.async false
set_option linter.all false
set_option maxRecDepth 100000
namespace K12
open PySem PySem.Spec PyProof.Rows L2
theorem cut_full {p x j : Nat} {w f0 f : Nat → Int} {many m : Int} (R : Row p w) (hj : j < p) (hx : x ≤ j) (I : CutInv p w x f0 many j f m) {full : Int} (e : full = if m / (w j / w x) < f j then m / (w j / w x) else f j) :
    0 ≤ full ∧ full ≤ f j ∧ full * (w j / w x) ≤ m ∧ (full < f j → m - full * (w j / w x) < w j / w x) := by
  have h1 := R.quo_pos hx hj
  generalize w j / w x = c at h1 e ⊢
  have h2 := I.mnn
  have h3 := I.nn j hj
  have h4 : 0 ≤ m / c := Int.ediv_nonneg h2 (by omega)
  have h5 : m / c * c ≤ m := Int.ediv_mul_le m (by omega)
  have h6 := Int.emod_lt_of_pos m (show 0 < c by omega)
  have h7 := Int.emod_add_ediv_mul m c
  split at e
  · subst e
    exact ⟨h4, by omega, h5, fun _ => by omega⟩
  · subst e
    refine ⟨h3, Int.le_refl _, ?_, fun h => absurd h (Int.lt_irrefl _)⟩
    exact Int.le_trans (Int.mul_le_mul_of_nonneg_right (show f j ≤ m / c by omega) (by omega)) h5
theorem ixn {n j : Nat} (h : j < n) : ixN n (j : Int) = some j := by
  unfold ixN
  rw [if_pos (Int.natCast_nonneg j), if_pos (by omega), Int.toNat_natCast]
theorem off_upd {H H' : Hp} {F : Addr} {o : HO} (h : Off F H H') : Off F H (upd H' F o) := fun b hb => (upd_ne hb).trans (h b hb)
section
variable {P : Program} {w : World} {K : PySem.W.Frag} {mg : Str → Option Value} {base : Heap}
theorem cut_refill {D : Ends} {H0 H : Hp} {z F : Addr} {p x j : Nat} {wf g0 : Nat → Int} {r0 : Int} {a3 a5 a6 a8 : Option V} (R : Row p wf) (hj : j < p) (hx : x ≤ j) (o0 : Off F H0 H) (hz : H0 z = some (.tup (tab p wf))) (hzF : z ≠ F) (hF : H F = some (.lst (tab p g0)))
    (hn : ∀ H' a7 a8, Off F H0 H' → H' F = some (.lst (tab p (refill wf 1 x (j - x) g0 r0))) → D.nx [some (.ref z), some (.ref F), some (.int (x : Nat)), a3, some (.int (j : Nat)), a5, a6, a7, a8] H') :
    tFor (iRevR (tRg2 (tVar 2) (tVar 4))) (gName 8) (tSeq (tAsg (tOp (rI0 fun i j => V.int (i + j)) (tOp (rIxL K) (tVar 1) (tVar 8)) (tOp (rI CDiv fun i j => V.int (i / j)) (tVar 7) (tOp (rIxT K) (tVar 0) (tVar 8)))) (gSub (tVar 1) (tVar 8) rSetL))
      (tAsg (tOp (rI (fun _ j => 0 < j) fun i j => V.int (i % j)) (tCB rInt1 (tCons (tVar 7) tNil)) (tOp (rIxT K) (tVar 0) (tVar 8))) (gName 7))) D
      [some (.ref z), some (.ref F), some (.int (x : Nat)), a3, some (.int (j : Nat)), a5, a6, some (.int r0), a8] H := by
  have hle := R.le
  refine ⟨_, rfl, _, rfl, _, _, rfl, rfl, by omega, by omega, by omega, by omega, ?_⟩
  refine for_rangeC (n := ((j : Int) - (x : Int)).toNat) (fun t σ H' => Off F H0 H' ∧ ∃ (g : Nat → Int) (r : Int) (a8 : Option V), H' F = some (.lst (tab p g)) ∧ refill wf 1 x (j - x - t) g r = refill wf 1 x (j - x) g0 r0 ∧ σ = [some (.ref z), some (.ref F), some (.int (x : Nat)), a3, some (.int (j : Nat)), a5, a6, some (.int r), a8])
    ⟨o0, g0, r0, _, hF, rfl, rfl⟩ ?_ ?_
  · rintro t σ H1 ht ⟨o1, g, r, c8, h1, h2, rfl⟩
    have ei : ((x : Int) + ((((j : Int) - (x : Int)).toNat : Nat) : Int) - 1 + (t : Nat) * -1) = ((x + (j - x - t - 1) : Nat) : Int) := by omega
    rw [ei]
    have en : j - x - t = (j - x - t - 1) + 1 := by omega
    rw [en] at h2
    have em : j - x - (t + 1) = j - x - t - 1 := by omega
    generalize hn0 : j - x - t - 1 = n at h2 em ⊢
    have hnj : x + n < p := by omega
    have hz1 := (o1 z hzF).trans hz
    have hw := R.one (x + n) hnj
    refine ⟨_, rfl, _, rfl, F, _, _, _, rfl, rfl, SqL.of h1, atI_nat (tab_get hnj), _, rfl, _, rfl, _, rfl, z, _, _, _, rfl, rfl, SqT.of hz1, atI_nat (tab_get hnj), _, _, rfl, rfl, cdiv R hnj, _, _, rfl, rfl, _, rfl, _, rfl, F, _, _, x + n, rfl, rfl, h1, ?_, ?_⟩
    · rw [tab_len]; exact ixn hnj
    rw [tab_set hnj]
    have o2 : Off F H0 (upd H1 F (.lst (tab p (fset g (x + n) (g (x + n) + r / wf (x + n)))))) := off_upd o1
    refine ⟨_, rfl, .inl ⟨_, rfl, _, rfl, _, rfl, z, _, _, _, rfl, rfl, SqT.of ((o2 z hzF).trans hz), atI_nat (tab_get hnj), _, _, rfl, rfl, (show 0 < wf (x + n) by omega), ?_⟩⟩
    refine ⟨o2, _, _, _, upd_same, ?_, rfl⟩
    rw [em, ← h2]
    show _ = refill wf 1 x n (fset g (x + n) (g (x + n) + 1 * (r / wf (x + n)))) (r % wf (x + n))
    rw [Int.one_mul]
  · rintro σ H1 ⟨o1, g, r, c8, h1, h2, rfl⟩
    have e0 : j - x - ((j : Int) - (x : Int)).toNat = 0 := by omega
    rw [e0] at h2
    refine hn H1 _ _ o1 ?_
    rw [← h2]
    exact h1
def sp_law_cut : Sp := fun vs H Q _ => ∃ (z F : Addr) (p x : Nat) (wf f : Nat → Int) (many : Int), vs = [.ref z, .ref F, .int (x : Nat), .int many] ∧ H z = some (.tup (tab p wf)) ∧ Row p wf ∧ H F = some (.lst (tab p f)) ∧ (∀ k, k < p → 0 ≤ f k) ∧ x < p ∧ 0 ≤ many ∧
  ∀ H' f' m, Off F H H' → H' F = some (.lst (tab p f')) → CutInv p wf x f many p f' m → Q (.bl (decide (m = 0))) H'
theorem ok_law_cut (T : Txt mg) (D : Df K mg "_law_cut" s_law_cut ["_law_wide", "_law_free", "_law_x", "_law_many"]) : FnOk P w K mg base CX0 1 D.f D.fd ["_law_wide", "_law_free", "_law_x", "_law_many"] sp_law_cut := by
  refine D.F.ok S_law_cut (fun vs H Q E h => ?_) (fun cdv A outer s H vs Q E hr h => ?_)
  · obtain ⟨z, F, p, x, wf, f, many, rfl, _⟩ := h
    rfl
  · obtain ⟨z, F, p, x, wf, f, many, rfl, hz, R, hF, hf, hx, hm, k⟩ := h
    refine ⟨_, (pss_cons (ps_for PassesOwn.never rfl (pi_range2 (by rfl) T.range_ (pa_cons (pv 2) (pa_cons (pe_callB call_len_seq (by rfl) T.len_ (by decide +kernel) (pa_cons (pv 0) pa_nil)) pa_nil))) (pg_name (i := 4) S_law_cut.nd rfl (Or.inl rfl)) (pss_cons (ps_set (i := 5) S_law_cut.nd rfl (Or.inl rfl) (pe_op op_fdiv (pe_ix ix_tup (pv 0) (pv 4) (fun _ _ => rfl)) (pe_ix ix_tup (pv 0) (pv 2) (fun _ _ => rfl))))
      (pss_cons (ps_set (i := 6) S_law_cut.nd rfl (Or.inl rfl) (pe_callB (call_min2 rfl) (by rfl) T.min_ (by decide +kernel) (pa_cons (pe_ix ix_list (pv 1) (pv 4) (fun _ _ => rfl)) (pa_cons (pe_op op_fdiv (pv 3) (pv 5)) pa_nil))))
      (pss_cons (ps_asg (pe_op op_sub (pe_ix ix_list (pv 1) (pv 4) (fun _ _ => rfl)) (pv 6)) (pg_sub (pv 1) (pv 4) set_list))
      (pss_cons (ps_set (i := 3) S_law_cut.nd rfl (Or.inl rfl) (pe_op op_sub (pv 3) (pe_op op_mul (pv 6) (pv 5))))
      (pss_one (ps_if (PW.pt (pw_and (pt_cmpR op_gt (pv 3) pe_int (nomark _)) (pw_and1 (pt_cmpR op_gt (pe_ix ix_list (pv 1) (pv 4) (fun _ _ => rfl)) pe_int (nomark _))))) (pss_cons (ps_asg (pe_op op_sub (pe_ix ix_list (pv 1) (pv 4) (fun _ _ => rfl)) pe_int) (pg_sub (pv 1) (pv 4) set_list))
      (pss_cons (ps_set (i := 7) S_law_cut.nd rfl (Or.inl rfl) (pe_op op_sub (pe_ix ix_tup (pv 0) (pv 4) (fun _ _ => rfl)) (pe_op op_mul (pv 3) (pe_ix ix_tup (pv 0) (pv 2) (fun _ _ => rfl)))))
      (pss_cons (ps_set (i := 3) S_law_cut.nd rfl (Or.inl rfl) pe_int)
      (pss_one (ps_for PassesOwn.never rfl (pi_revR (by rfl) T.reversed_ (prg_2 (by rfl) T.range_ (pv 2) (pv 4))) (pg_name (i := 8) S_law_cut.nd rfl (Or.inl rfl)) (pss_cons (ps_asg (pe_op op_add (pe_ix ix_list (pv 1) (pv 8) (fun _ _ => rfl)) (pe_op op_fdiv (pv 7) (pe_ix ix_tup (pv 0) (pv 8) (fun _ _ => rfl)))) (pg_sub (pv 1) (pv 8) set_list))
      (pss_one (ps_set (i := 7) S_law_cut.nd rfl (Or.inl rfl) (pe_op op_mod (pe_callTy call_int1 (by rfl) T.int_ (by decide +kernel) (pa_cons (pv 7) pa_nil)) (pe_ix ix_tup (pv 0) (pv 8) (fun _ _ => rfl))))))))))) pss_nil)))))))
      (pss_one (ps_ret (pe_cmpR op_eq (pv 3) pe_int (nomark _))))), ?_⟩
    have hle := R.le
    have hzF : z ≠ F := fun e => by rw [e, hF] at hz; cases hz
    refine ⟨_, rfl, _, rfl, z, _, rfl, .inr (SqT.of hz), _, _, rfl, ⟨by omega, by omega, by omega, by rw [tab_len]; omega⟩, ?_⟩
    rw [tab_len]
    refine for_range (lo := (x : Nat)) (n := ((p : Int) - (x : Nat)).toNat) (fun i σ H' => Off F H H' ∧ ∃ (f' : Nat → Int) (m : Int) (a4 a5 a6 a7 a8 : Option V), H' F = some (.lst (tab p f')) ∧ CutInv p wf x f many (x + i) f' m ∧ σ = [some (.ref z), some (.ref F), some (.int (x : Nat)), some (.int m), a4, a5, a6, a7, a8])
      ⟨fun b _ => rfl, f, many, _, _, _, _, _, hF, CutInv.start R hf hm, rfl⟩ ?_ ?_
    · rintro i σ H1 hi ⟨o1, g, m, a4, a5, a6, a7, a8, h1, I, rfl⟩
      have ej : ((x : Nat) : Int) + (i : Int) = ((x + i : Nat) : Int) := by omega
      rw [ej]
      have hj : x + i < p := by omega
      have hxj : x ≤ x + i := by omega
      have hz1 := (o1 z hzF).trans hz
      have b1 := R.quo_pos hxj hj
      have b2 := R.quo_le hx hj
      have b3 := R.big (x + i) hj
      refine ⟨_, rfl, _, rfl, z, _, _, _, rfl, rfl, SqT.of hz1, atI_nat (tab_get hj), _, rfl, _, rfl, z, _, _, _, rfl, rfl, SqT.of hz1, atI_nat (tab_get hx), _, _, rfl, rfl, cdiv R hx, ?_⟩
      refine ⟨_, rfl, _, rfl, F, _, _, _, rfl, rfl, SqL.of h1, atI_nat (tab_get hj), _, rfl, _, rfl, _, _, rfl, rfl, ⟨by omega, by omega⟩, _, _, rfl, ?_⟩
      have cf := cut_full R hj hxj I rfl
      generalize (if m / (wf (x + i) / wf x) < g (x + i) then m / (wf (x + i) / wf x) else g (x + i)) = full at cf ⊢
      obtain ⟨c1, c2, c3, c4⟩ := cf
      refine ⟨_, rfl, _, rfl, F, _, _, _, rfl, rfl, SqL.of h1, atI_nat (tab_get hj), _, rfl, _, _, rfl, rfl, _, rfl, _, rfl, F, _, _, x + i, rfl, rfl, h1, ?_, ?_⟩
      · rw [tab_len]; exact ixn hj
      rw [tab_set hj]
      have o2 : Off F H (upd H1 F (.lst (tab p (fset g (x + i) (g (x + i) - full))))) := off_upd o1
      have h2 : (upd H1 F (.lst (tab p (fset g (x + i) (g (x + i) - full))))) F = some (.lst (tab p (fset g (x + i) (g (x + i) - full)))) := upd_same
      generalize upd H1 F (.lst (tab p (fset g (x + i) (g (x + i) - full)))) = H2 at o2 h2 ⊢
      have hz2 := (o2 z hzF).trans hz
      refine ⟨_, rfl, _, rfl, _, rfl, _, _, rfl, rfl, .inr ⟨by omega, by omega⟩, _, _, rfl, rfl, ?_⟩
      have nxt : x + (i + 1) = x + i + 1 := rfl
      refine ⟨_, rfl, _, _, rfl, rfl, _, rfl, ite2 (fun e1 => ?_) (fun e1 => ?_)⟩
      · refine ⟨_, rfl, _, rfl, F, _, _, _, rfl, rfl, SqL.of h2, atI_nat (tab_get hj), _, _, rfl, rfl, _, rfl, ?_⟩
        rw [fset_same]
        have e1' : 0 < m - full * (wf (x + i) / wf x) := of_decide_eq_true e1
        refine ite2 (fun e2 => ?_) (fun e2 => ?_)
        · have e2' : 0 < g (x + i) - full := of_decide_eq_true e2
          have I2 := CutInv.last R hj hxj I c1 (by omega) e1' (c4 (by omega))
          refine ⟨_, rfl, _, rfl, F, _, _, _, rfl, rfl, SqL.of h2, atI_nat (tab_get hj), _, _, rfl, rfl, _, rfl, _, rfl, F, _, _, x + i, rfl, rfl, h2, ?_, ?_⟩
          · rw [tab_len]; exact ixn hj
          rw [tab_set hj, fset_same]
          have o3 : Off F H (upd H2 F (.lst (tab p (fset (fset g (x + i) (g (x + i) - full)) (x + i) (g (x + i) - full - 1))))) := off_upd o2
          have hz3 := (o3 z hzF).trans hz
          have b4 := R.big x hx
          have b5 := R.one x hx
          refine ⟨_, rfl, _, rfl, z, _, _, _, rfl, rfl, SqT.of hz3, atI_nat (tab_get hj), _, rfl, _, rfl, _, rfl, z, _, _, _, rfl, rfl, SqT.of hz3, atI_nat (tab_get hx), _, _, rfl, rfl, .inr ⟨by omega, by omega⟩, _, _, rfl, rfl, ?_⟩
          have exj : x + i - x = i := by omega
          refine cut_refill R hj hxj o3 hz hzF upd_same fun H4 a7 a8 o4 h4 => ?_
          exact ⟨o4, _, 0, _, _, _, _, _, h4, I2, rfl⟩
        · have e2' : ¬ 0 < g (x + i) - full := fun z => e2 (decide_eq_true z)
          exact ⟨o2, _, _, _, _, _, _, _, h2, CutInv.part (j := x + i) R hj hxj I c1 c2 c3 (.inl (by omega)), rfl⟩
      · have e1' : ¬ 0 < m - full * (wf (x + i) / wf x) := fun z => e1 (decide_eq_true z)
        exact ⟨o2, _, _, _, _, _, _, _, h2, CutInv.part (j := x + i) R hj hxj I c1 c2 c3 (.inr (by omega)), rfl⟩
    · rintro σ H1 ⟨o1, g, m, a4, a5, a6, a7, a8, h1, I, rfl⟩
      have ep : x + ((p : Int) - (x : Nat)).toNat = p := by omega
      rw [ep] at I
      refine ⟨_, rfl, rfl, ?_⟩
      rw [decV]
      exact k H1 g m o1 h1 I
end
end K12


set_option Elab.async false
set_option linter.all false
set_option maxRecDepth 100000
namespace K12
open PySem PySem.Spec PyProof.Rows L2
/-- the strips that are free at FA, what is told at TA -/
structure StripQ (H0 H : Hp) (FA TA : Addr) (p : Nat) (f : Nat → Int) (ts : List V) (G : Nat → Nat → Int) : Prop where
  sm : Same H0 H
  fr : H FA = some (.lst (tab p f))
  tl : H TA = some (.lst ts)
  row : ∀ j, j < ts.length → ∃ a : Addr, ts[j]? = some (V.ref a) ∧ H a = some (.tup (tab p (G j)))
  nf : H0 FA = none
  nt : H0 TA = none
  ne : FA ≠ TA
theorem StripQ.same {H0 H H' : Hp} {FA TA : Addr} {p : Nat} {f : Nat → Int} {ts : List V} {G : Nat → Nat → Int} (q : StripQ H0 H FA TA p f ts G) (s : Same H H') : StripQ H0 H' FA TA p f ts G :=
  ⟨q.sm.trans s, s _ _ q.fr, s _ _ q.tl, fun j hj => let ⟨a, a1, a2⟩ := q.row j hj; ⟨a, a1, s _ _ a2⟩, q.nf, q.nt, q.ne⟩
theorem StripQ.off {H0 H H' : Hp} {FA TA : Addr} {p : Nat} {f f' : Nat → Int} {ts : List V} {G : Nat → Nat → Int} (q : StripQ H0 H FA TA p f ts G) (o : Off FA H H') (h : H' FA = some (.lst (tab p f'))) : StripQ H0 H' FA TA p f' ts G where
  sm := fun b u e => (o b (fun z => by rw [z, q.nf] at e; cases e)).trans (q.sm b u e)
  fr := h
  tl := (o TA (Ne.symm q.ne)).trans q.tl
  row := fun j hj => by
    obtain ⟨a, a1, a2⟩ := q.row j hj
    exact ⟨a, a1, (o a (fun z => by rw [z, q.fr] at a2; cases a2)).trans a2⟩
  nf := q.nf
  nt := q.nt
  ne := q.ne
theorem StripQ.congr {H0 H : Hp} {FA TA : Addr} {p : Nat} {f f' : Nat → Int} {ts : List V} {G : Nat → Nat → Int} (q : StripQ H0 H FA TA p f ts G) (e : ∀ i, i < p → f i = f' i) : StripQ H0 H FA TA p f' ts G :=
  ⟨q.sm, q.fr.trans (by rw [tab_congr e]), q.tl, q.row, q.nf, q.nt, q.ne⟩
theorem filter_yes {α : Type} (l : List α) : l.filter (fun _ => true) = l := List.filter_eq_self.mpr fun _ _ => rfl
section
variable {P : Program} {w : World} {K : PySem.W.Frag} {mg : Str → Option Value} {base : Heap}
/-- one band's last part: what its strips hold is told -/
theorem strips_held {D : Ends} {H0 H : Hp} {z FA TA : Addr} {p : Nat} {wf f : Nat → Int} {ts : List V} {G : Nat → Nat → Int} {a0 a1 a2 a4 a7 a8 a9 a10 a11 a12 a13 a14 a15 a16 a17 : Option V} (R : Row p wf) (q : StripQ H0 H FA TA p f ts G) (hz : H0 z = some (.tup (tab p wf))) (hts : ts.length ≤ 4)
    (hG : ∀ i, i < p → held p wf f i = G ts.length i)
    (hn : ∀ H' t a15 a16, StripQ H0 H' FA TA p f (ts ++ [V.ref t]) G → D.nx [a0, a1, a2, some (.ref z), a4, some (.ref FA), some (.ref TA), a7, a8, a9, a10, a11, a12, a13, a14, a15, a16, a17] H') :
    (tSeq (tAsg (tLst tNil) (gName 15))
      (tSeq (tFor (iRng1 (tCons (tCB (rLen K) (tCons (tVar 3) tNil)) tNil)) (gName 16) (tDrop (tBM K "list" rAppend (tVar 15) (tCons (tCB (rSum K) (tCons (tLc (iRng2 (tCons (tVar 16) (tCons (tCB (rLen K) (tCons (tVar 3) tNil)) tNil))) (gName 12) tYes (tOp (rI CMul fun i j => V.int (i * j)) (tOp (rIxL K) (tVar 5) (tVar 12)) (tOp (rI CDiv fun i j => V.int (i / j)) (tOp (rIxT K) (tVar 3) (tVar 12)) (tOp (rIxT K) (tVar 3) (tVar 16)))) [12]) tNil)) tNil))))
      (tDrop (tBM K "list" rAppend (tVar 6) (tCons (tCB (rTupOf K) (tCons (tVar 15) tNil)) tNil))))) D [a0, a1, a2, some (.ref z), a4, some (.ref FA), some (.ref TA), a7, a8, a9, a10, a11, a12, a13, a14, a15, a16, a17] H := by
  have hle := R.le
  refine ⟨Nat.zero_le _, fun HA nH => ?_⟩
  have s1 : Same H (upd H HA (.lst [])) := Same.new nH
  have hzH := q.sm _ _ hz
  refine ⟨_, rfl, z, _, rfl, .inr (SqT.of (s1 _ _ hzH)), _, rfl, by omega, by rw [tab_len]; omega, ?_⟩
  rw [tab_len, Int.toNat_natCast]
  refine for_range (lo := 0) (n := p) (fun i σ H' => Same H H' ∧ H' HA = some (.lst (tab i (held p wf f))) ∧ ∃ a16, σ = [a0, a1, a2, some (.ref z), a4, some (.ref FA), some (.ref TA), a7, a8, a9, a10, a11, a12, a13, a14, some (.ref HA), a16, a17]) ⟨s1, upd_same, _, rfl⟩ ?_ ?_
  · rintro i σ H2 hi ⟨s2, h2, c16, rfl⟩
    rw [Int.zero_add]
    refine app1 rfl h2 (cb1 (lc_fil (ys := List.range (p - i)) (J := Itr (i : Int) (p - i)) (by rw [List.length_range]; exact walk_range) (by rw [List.length_range]; omega) (fun _ _ => trivial) (fun Rk hR => ?_) (fun _ => true) (fun k => f (i + k) * (wf (i + k) / wf i)) ?_ ?_))
    · refine ⟨_, rfl, _, rfl, z, _, rfl, .inr (SqT.of (s2 _ _ hzH)), _, _, rfl, ⟨by omega, by omega, by omega, by rw [tab_len]; omega⟩, ?_⟩
      have e1 : (((tab p wf).length : Int) - (i : Nat)).toNat = p - i := by rw [tab_len]; omega
      rw [e1]
      exact hR
    · rintro k t x H3 H4 ht s3 ⟨rfl, ex⟩ Yk Nk hY hN
      have hk : k < p - i := by
        have := (List.getElem?_eq_some_iff.mp ht).1
        rw [List.length_range] at this
        exact this
      rw [List.getElem?_range hk] at ht
      cases ht
      have ex : x = .int ((i : Nat) + (k : Nat) : Int) := ex
      have e2 : ((i : Nat) : Int) + (k : Nat) = ((i + k : Nat) : Int) := by omega
      rw [e2] at ex
      subst ex
      have hik : i + k < p := by omega
      have b1 := R.quo_pos (show i ≤ i + k by omega) hik
      have b2 := R.quo_le hi hik
      have b3 := R.big (i + k) hik
      have hz3 := s3 _ _ (s2 _ _ hzH)
      exact ⟨rfl, _, rfl, _, rfl, FA, _, _, _, rfl, rfl, SqL.of (s3 _ _ (s2 _ _ q.fr)), atI_nat (tab_get hik), _, rfl, _, rfl, z, _, _, _, rfl, rfl, SqT.of hz3, atI_nat (tab_get hik), _, rfl, _, rfl, z, _, _, _, rfl, rfl, SqT.of hz3, atI_nat (tab_get hi), _, _, rfl, rfl, cdiv R hi, _, _, rfl, rfl, .inr ⟨by omega, by omega⟩, hY rfl _ fun _ _ e => e⟩
    · intro D3 H3 nD s3 hD
      refine ⟨D3, _, rfl, SqL.of hD, ?_⟩
      rw [filter_yes, ← held_sum R (p - i) rfl (by omega)]
      refine ⟨HA, _, _, rfl, rfl, s3 _ _ h2, ?_, (s2.trans s3).put nH, ?_, _, rfl⟩
      · rw [tab_len]; exact small1000 (by omega)
      · rw [upd_same, tab_succ]
  · rintro σ H2 ⟨s2, h2, c16, rfl⟩
    have q2 := q.same s2
    refine app1 rfl q2.tl (cb1 ⟨_, rfl, HA, _, rfl, .inl ⟨SqL.of h2, fun t nt => ?_⟩⟩)
    have s3 : Same H2 (upd H2 t (.tup (tab p (held p wf f)))) := Same.new nt
    have q3 := q2.same s3
    refine ⟨TA, _, _, rfl, rfl, q3.tl, small1000 (by omega), hn _ t _ _ ⟨q3.sm.put q3.nt, ?_, upd_same, fun j hj => ?_, q3.nf, q3.nt, q3.ne⟩⟩
    · rw [upd_ne q3.ne]
      exact q3.fr
    · have kp : Keeps _ (upd (upd H2 t (.tup (tab p (held p wf f)))) TA (.lst (ts ++ [V.ref t]))) := Keeps.lst q3.tl
      by_cases e : j < ts.length
      · obtain ⟨a, a1, a2⟩ := q3.row j e
        exact ⟨a, by rw [List.getElem?_append_left e]; exact a1, kp _ _ a2⟩
      · have ej : j = ts.length := by rw [List.length_append] at hj; have : j < ts.length + 1 := hj; omega
        subst ej
        refine ⟨t, by rw [List.getElem?_append_right (Nat.le_refl _), Nat.sub_self]; rfl, kp _ _ ?_⟩
        rw [upd_same, tab_congr hG]
theorem strips_load {D : Ends} {H0 H : Hp} {z M FA TA : Addr} {p q d : Nat} {wf hf f : Nat → Int} {st : List Tri} {ld : List Ent} {ts : List V} {G : Nat → Nat → Int} {a0 a1 a4 a8 a9 a10 a11 a12 a13 a14 a15 a16 a17 : Option V} (R : Row p wf) (T' : Row q hf) (hd : d < q) (sq : StripQ H0 H FA TA p f ts G) (hz : H0 z = some (.tup (tab p wf)))
    (hM : LotAt H0 M ld) (iL : InL p q ld) (htl : ts.length = d) (hG : ∀ i, i < p → G d i = lv q wf (rt q hf) (Aof q hf wf st ld) (d + 1) i)
    (I0 : BandInv p wf (fun i => rt q hf (q - 1 - d) * lv q wf (rt q hf) (Aof q hf wf st ld) d i + top q hf wf st (q - 1 - d) i) ld (q - 1 - d) 0 f)
    (hbad : ¬ FitsL p q wf hf st ld → ∀ H', Same H0 H' → D.rt .non H')
    (hn : ∀ H' f' t a8 a9 a10 a11 a12 a13 a14 a15 a16, StripQ H0 H' FA TA p f' (ts ++ [V.ref t]) G → (∀ k, k < p → 0 ≤ f' k) → (∀ i, i < p → held p wf f' i = lv q wf (rt q hf) (Aof q hf wf st ld) (d + 1) i) → (∀ i, i < p → 0 ≤ spr q wf (rt q hf) (Aof q hf wf st ld) d i) →
      D.nx [a0, a1, some (.ref M), some (.ref z), a4, some (.ref FA), some (.ref TA), some (.int ((q - 1 - d : Nat) : Int)), a8, a9, a10, a11, a12, a13, a14, a15, a16, a17] H') :
    (tSeq (tFor (iTup K (tVar 2)) (gTup K 3 (gCons (gName 13) (gCons (gName 14) (gCons (gName 10) gNil)))) (tIfS (tAnd (tTest (tOp rEq (tVar 14) (tVar 7))) (tNot (tB (tCall sp_law_cut [] E0 (tCons (tVar 3) (tCons (tVar 5) (tCons (tVar 13) (tCons (tVar 10) tNil)))))))) (tRet (tC V.non)) tNext))
      (tSeq (tAsg (tLst tNil) (gName 15))
      (tSeq (tFor (iRng1 (tCons (tCB (rLen K) (tCons (tVar 3) tNil)) tNil)) (gName 16) (tDrop (tBM K "list" rAppend (tVar 15) (tCons (tCB (rSum K) (tCons (tLc (iRng2 (tCons (tVar 16) (tCons (tCB (rLen K) (tCons (tVar 3) tNil)) tNil))) (gName 12) tYes (tOp (rI CMul fun i j => V.int (i * j)) (tOp (rIxL K) (tVar 5) (tVar 12)) (tOp (rI CDiv fun i j => V.int (i / j)) (tOp (rIxT K) (tVar 3) (tVar 12)) (tOp (rIxT K) (tVar 3) (tVar 16)))) [12]) tNil)) tNil))))
      (tDrop (tBM K "list" rAppend (tVar 6) (tCons (tCB (rTupOf K) (tCons (tVar 15) tNil)) tNil)))))) D [a0, a1, some (.ref M), some (.ref z), a4, some (.ref FA), some (.ref TA), some (.int ((q - 1 - d : Nat) : Int)), a8, a9, a10, a11, a12, a13, a14, a15, a16, a17] H := by
  obtain ⟨mvs, hM⟩ := hM
  have hle := T'.le
  have hml : mvs.length = ld.length := hM.len.trans (List.length_map _)
  refine ⟨_, rfl, M, rfl, ⟨_, SqT.of (sq.sm _ _ hM.at_)⟩, for_tup (K := K) (a := M) (xs := mvs) (fun n σ H' => (∃ f', StripQ H0 H' FA TA p f' ts G ∧ BandInv p wf (fun i => rt q hf (q - 1 - d) * lv q wf (rt q hf) (Aof q hf wf st ld) d i + top q hf wf st (q - 1 - d) i) ld (q - 1 - d) n f') ∧
      ∃ a10 a13 a14, σ = [a0, a1, some (.ref M), some (.ref z), a4, some (.ref FA), some (.ref TA), some (.int ((q - 1 - d : Nat) : Int)), a8, a9, a10, a11, a12, a13, a14, a15, a16, a17]) ⟨⟨f, sq, I0⟩, _, _, _, rfl⟩ (fun i σ H' _ hP => let ⟨⟨_, s, _⟩, _⟩ := hP; SqT.of (s.sm _ _ hM.at_)) ?_ ?_⟩
  · rintro n x σ H2 hx ⟨⟨g, s2, I2⟩, c10, c13, c14, rfl⟩
    obtain ⟨t, a, et, rfl, ha⟩ := (hM.same s2.sm).nth hx
    obtain ⟨u, eu, rfl⟩ := entI_nth et
    obtain ⟨i1, i2, i3⟩ := iL u (List.mem_of_getElem? eu)
    refine ⟨a, _, rfl, SqT.of ha, rfl, _, _, rfl, _, _, rfl, _, _, rfl, rfl, ?_⟩
    refine ⟨_, rfl, _, rfl, rfl, _, rfl, ?_⟩
    rw [decV]
    refine ite2 (fun e => ?_) (fun e => ?_)
    · have e' : u.2.1 = q - 1 - d := by
        have : (u.2.1 : Int) = ((q - 1 - d : Nat) : Int) := of_decide_eq_true e
        omega
      refine ⟨_, rfl, _, rfl, _, rfl, _, rfl, z, FA, p, u.1, wf, g, u.2.2, rfl, s2.sm _ _ hz, R, s2.fr, I2.nn, i1, by omega, fun H3 f' m o3 h3 C => ?_⟩
      obtain ⟨d1, d2⟩ := C.done R i1
      refine ⟨_, rfl, ?_⟩
      by_cases em : m = 0
      · rw [decide_eq_true em]
        exact ⟨⟨f', s2.off o3 h3, I2.cut R iL eu e' (d2 em)⟩, _, _, _, rfl⟩
      · rw [decide_eq_false em]
        exact hbad (band_fails hd (I2.fail R iL eu e' fun z => em (d1.mpr z))) H3 (s2.off o3 h3).sm
    · have e' : u.2.1 ≠ q - 1 - d := fun z => e (decide_eq_true (show (u.2.1 : Int) = ((q - 1 - d : Nat) : Int) by omega))
      exact ⟨⟨g, s2, I2.skip R eu e'⟩, _, _, _, rfl⟩
  · rintro σ H2 ⟨⟨g, s2, I2⟩, c10, c13, c14, rfl⟩
    rw [hml] at I2
    obtain ⟨b1, b2⟩ := band_left R I2
    exact strips_held R s2 hz (by omega) (fun i hi => by rw [htl, hG i hi, b2 i hi]) fun H3 t c15 c16 s3 => hn H3 g t _ _ _ _ _ _ _ _ _ s3 I2.nn b2 b1
end
end K12


set_option Elab.async false
set_option linter.all false
set_option maxRecDepth 100000
namespace K12
open PySem PySem.Spec PyProof.Rows L2
theorem emod_le {r w : Int} (h : 0 ≤ r) (hw : 1 ≤ w) : r % w ≤ r := by
  have h1 := Int.emod_add_ediv_mul r w
  have h2 := Int.mul_nonneg (Int.ediv_nonneg h (show 0 ≤ w by omega)) (show 0 ≤ w by omega)
  omega
theorem StripQ.refree {H0 H H' : Hp} {FA FB TA : Addr} {p : Nat} {f f' : Nat → Int} {ts : List V} {G : Nat → Nat → Int} (q : StripQ H0 H FA TA p f ts G) (s : Same H H') (n : H FB = none) (h : H' FB = some (.lst (tab p f'))) : StripQ H0 H' FB TA p f' ts G where
  sm := q.sm.trans s
  fr := h
  tl := s _ _ q.tl
  row := fun j hj => let ⟨a, a1, a2⟩ := q.row j hj; ⟨a, a1, s _ _ a2⟩
  nf := q.sm.free n
  nt := q.nt
  ne := fun z => by
    have := q.tl
    rw [← z, n] at this
    cases this
def StripsL (H : Hp) (v : V) (p q : Nat) (wf hf : Nat → Int) (st : List Tri) (ld : List Ent) : Prop := ∃ (t : Addr) (xs : List V), v = .ref t ∧ H t = some (.lst xs) ∧ xs.length = q ∧ ∀ b, b < q → ∃ a : Addr, xs[b]? = some (V.ref a) ∧ H a = some (.tup (tab p (leftF p q wf hf st ld b)))
theorem StripsL.same {H H' : Hp} {v : V} {p q : Nat} {wf hf : Nat → Int} {st : List Tri} {ld : List Ent} (h : StripsL H v p q wf hf st ld) (s : Same H H') : StripsL H' v p q wf hf st ld := by
  obtain ⟨t, xs, h1, h2, h3, h4⟩ := h
  exact ⟨t, xs, h1, s _ _ h2, h3, fun b hb => let ⟨a, a1, a2⟩ := h4 b hb; ⟨a, a1, s _ _ a2⟩⟩
section
variable {P : Program} {w : World} {K : PySem.W.Frag} {mg : Str → Option Value} {base : Heap}
theorem sheet_refill {D : Ends} {H0 H : Hp} {z y FA : Addr} {p q b : Nat} {wf hf g0 : Nat → Int} {r0 n side : Int} {a0 a1 a2 a6 a8 a12 a13 a14 a15 a16 a17 : Option V} (R : Row p wf) (T' : Row q hf) (hb : b < q) (o0 : Off FA H0 H) (hz : H0 z = some (.tup (tab p wf))) (hy : H0 y = some (.tup (tab q hf)))
    (hzF : z ≠ FA) (hyF : y ≠ FA) (hF : H FA = some (.lst (tab p g0))) (hr0 : 0 ≤ r0 ∧ r0 < 1000000000000000) (hs0 : 0 ≤ side ∧ side < 1000000000000000)
    (hn : ∀ H' a11 a12, Off FA H0 H' → H' FA = some (.lst (tab p (refill wf (n * band q hf side b) 0 p g0 r0))) →
      D.nx [a0, a1, a2, some (.ref z), some (.ref y), some (.ref FA), a6, some (.int (b : Nat)), a8, some (.int side), some (.int n), a11, a12, a13, a14, a15, a16, a17] H') :
    tFor (iRevR (tRg1 (tCB (rLen K) (tCons (tVar 3) tNil)))) (gName 12) (tSeq (tAsg (tOp (rI0 fun i j => V.int (i + j)) (tOp (rIxL K) (tVar 5) (tVar 12)) (tOp (rI CMul fun i j => V.int (i * j)) (tOp (rI CMul fun i j => V.int (i * j)) (tVar 10) (tCall sp_law_bands [] E0 (tCons (tVar 4) (tCons (tVar 9) (tCons (tVar 7) tNil))))) (tOp (rI CDiv fun i j => V.int (i / j)) (tVar 11) (tOp (rIxT K) (tVar 3) (tVar 12))))) (gSub (tVar 5) (tVar 12) rSetL))
      (tAsg (tOp (rI (fun _ j => 0 < j) fun i j => V.int (i % j)) (tCB rInt1 (tCons (tVar 11) tNil)) (tOp (rIxT K) (tVar 3) (tVar 12))) (gName 11))) D
      [a0, a1, a2, some (.ref z), some (.ref y), some (.ref FA), a6, some (.int (b : Nat)), a8, some (.int side), some (.int n), some (.int r0), a12, a13, a14, a15, a16, a17] H := by
  have hle := R.le
  refine ⟨_, rfl, z, _, rfl, .inr (SqT.of ((o0 z hzF).trans hz)), _, rfl, by omega, by omega, by rw [tab_len]; omega, by rw [tab_len]; omega, ?_⟩
  rw [tab_len]
  refine for_rangeC (n := ((p : Int) - 0).toNat) (fun t σ H' => Off FA H0 H' ∧ ∃ (g : Nat → Int) (r : Int) (a12 : Option V), H' FA = some (.lst (tab p g)) ∧ 0 ≤ r ∧ r < 1000000000000000 ∧ refill wf (n * band q hf side b) 0 (p - t) g r = refill wf (n * band q hf side b) 0 p g0 r0 ∧
      σ = [a0, a1, a2, some (.ref z), some (.ref y), some (.ref FA), a6, some (.int (b : Nat)), a8, some (.int side), some (.int n), some (.int r), a12, a13, a14, a15, a16, a17])
    ⟨o0, g0, r0, _, hF, hr0.1, hr0.2, rfl, rfl⟩ ?_ ?_
  · rintro t σ H1 ht ⟨o1, g, r, c12, h1, r1, r2, h2, rfl⟩
    have ei : (0 + ((((p : Int) - 0).toNat : Nat) : Int) - 1 + (t : Nat) * -1) = ((p - t - 1 : Nat) : Int) := by omega
    rw [ei]
    have en : p - t = (p - t - 1) + 1 := by omega
    rw [en] at h2
    have em : p - (t + 1) = p - t - 1 := by omega
    generalize hn0 : p - t - 1 = m at h2 em ⊢
    have hnj : m < p := by omega
    have hz1 := (o1 z hzF).trans hz
    have hw := R.one m hnj
    have bb := band_bd T' hs0.1 hb
    have db := div_bd R r1 hnj
    refine ⟨_, rfl, _, rfl, FA, _, _, _, rfl, rfl, SqL.of h1, atI_nat (tab_get hnj), _, rfl, _, rfl, _, rfl, _, rfl, y, q, hf, side, b, rfl, (o1 y hyF).trans hy, T', hb, _, _, rfl, rfl, .inr ⟨by omega, by omega⟩,
      _, rfl, _, rfl, _, rfl, z, _, _, _, rfl, rfl, SqT.of hz1, atI_nat (tab_get hnj), _, _, rfl, rfl, cdiv R hnj, _, _, rfl, rfl, .inr ⟨by omega, by omega⟩, _, _, rfl, rfl, _, rfl, _, rfl, FA, _, _, m, rfl, rfl, h1, ?_, ?_⟩
    · rw [tab_len]; exact ixn hnj
    rw [tab_set hnj]
    have o2 : Off FA H0 (upd H1 FA (.lst (tab p (fset g m (g m + n * band q hf side b * (r / wf m)))))) := off_upd o1
    refine ⟨_, rfl, .inl ⟨_, rfl, _, rfl, _, rfl, z, _, _, _, rfl, rfl, SqT.of ((o2 z hzF).trans hz), atI_nat (tab_get hnj), _, _, rfl, rfl, (show 0 < wf m by omega), ?_⟩⟩
    have r3 := Int.emod_nonneg r (show wf m ≠ 0 by omega)
    have r4 := emod_le r1 hw
    refine ⟨o2, _, _, _, upd_same, r3, by omega, ?_, rfl⟩
    rw [em, ← h2]
    show _ = refill wf (n * band q hf side b) 0 m (fset g (0 + m) (g (0 + m) + n * band q hf side b * (r / wf (0 + m)))) (r % wf (0 + m))
    rw [Nat.zero_add]
  · rintro σ H1 ⟨o1, g, r, c12, h1, r1, r2, h2, rfl⟩
    have e0 : p - ((p : Int) - 0).toNat = 0 := by omega
    rw [e0] at h2
    refine hn H1 _ _ o1 ?_
    rw [← h2]
    exact h1
end
end K12


set_option Elab.async false
set_option linter.all false
set_option maxRecDepth 100000
namespace K12
open PySem PySem.Spec PyProof.Rows L2
theorem name1 {i : Nat} {v : V} {σ : L2.St} {H : Hp} {Q : L2.St → Hp → Prop} (h : Q (σ.set i (some v)) H) : gName i v σ H Q := h
section
variable {P : Program} {w : World} {K : PySem.W.Frag} {mg : Str → Option Value} {base : Heap}
theorem strips_stock {D : Ends} {H0 H : Hp} {z y S M FA TA : Addr} {p q d : Nat} {wf hf f : Nat → Int} {st : List Tri} {ld : List Ent} {ts : List V} {G : Nat → Nat → Int} {a0 a8 a9 a10 a11 a12 a13 a14 a15 a16 a17 : Option V} (R : Row p wf) (T' : Row q hf) (hd : d < q) (sq : StripQ H0 H FA TA p f ts G)
    (hz : H0 z = some (.tup (tab p wf))) (hy : H0 y = some (.tup (tab q hf))) (hS : StockAt H0 S st) (iS : InS st) (hM : LotAt H0 M ld) (iL : InL p q ld) (htl : ts.length = d) (hG : ∀ i, i < p → G d i = lv q wf (rt q hf) (Aof q hf wf st ld) (d + 1) i)
    (hf0 : ∀ k, k < p → 0 ≤ f k) (he : ∀ i, i < p → held p wf f i = rt q hf (q - 1 - d) * lv q wf (rt q hf) (Aof q hf wf st ld) d i)
    (hbad : ¬ FitsL p q wf hf st ld → ∀ H', Same H0 H' → D.rt .non H')
    (hn : ∀ H' f' t a8 a9 a10 a11 a12 a13 a14 a15 a16, StripQ H0 H' FA TA p f' (ts ++ [V.ref t]) G → (∀ k, k < p → 0 ≤ f' k) → (∀ i, i < p → held p wf f' i = lv q wf (rt q hf) (Aof q hf wf st ld) (d + 1) i) → (∀ i, i < p → 0 ≤ spr q wf (rt q hf) (Aof q hf wf st ld) d i) →
      D.nx [a0, some (.ref S), some (.ref M), some (.ref z), some (.ref y), some (.ref FA), some (.ref TA), some (.int ((q - 1 - d : Nat) : Int)), a8, a9, a10, a11, a12, a13, a14, a15, a16, a17] H') :
    (tSeq (tFor (iTup K (tVar 1)) (gTup K 3 (gCons (gName 8) (gCons (gName 9) (gCons (gName 10) gNil)))) (tSeq (tAsg (tVar 8) (gName 11))
      (tFor (iRevR (tRg1 (tCB (rLen K) (tCons (tVar 3) tNil)))) (gName 12) (tSeq (tAsg (tOp (rI0 fun i j => V.int (i + j)) (tOp (rIxL K) (tVar 5) (tVar 12)) (tOp (rI CMul fun i j => V.int (i * j)) (tOp (rI CMul fun i j => V.int (i * j)) (tVar 10) (tCall sp_law_bands [] E0 (tCons (tVar 4) (tCons (tVar 9) (tCons (tVar 7) tNil))))) (tOp (rI CDiv fun i j => V.int (i / j)) (tVar 11) (tOp (rIxT K) (tVar 3) (tVar 12))))) (gSub (tVar 5) (tVar 12) rSetL))
      (tAsg (tOp (rI (fun _ j => 0 < j) fun i j => V.int (i % j)) (tCB rInt1 (tCons (tVar 11) tNil)) (tOp (rIxT K) (tVar 3) (tVar 12))) (gName 11))))))
      (tSeq (tFor (iTup K (tVar 2)) (gTup K 3 (gCons (gName 13) (gCons (gName 14) (gCons (gName 10) gNil)))) (tIfS (tAnd (tTest (tOp rEq (tVar 14) (tVar 7))) (tNot (tB (tCall sp_law_cut [] E0 (tCons (tVar 3) (tCons (tVar 5) (tCons (tVar 13) (tCons (tVar 10) tNil)))))))) (tRet (tC V.non)) tNext))
      (tSeq (tAsg (tLst tNil) (gName 15))
      (tSeq (tFor (iRng1 (tCons (tCB (rLen K) (tCons (tVar 3) tNil)) tNil)) (gName 16) (tDrop (tBM K "list" rAppend (tVar 15) (tCons (tCB (rSum K) (tCons (tLc (iRng2 (tCons (tVar 16) (tCons (tCB (rLen K) (tCons (tVar 3) tNil)) tNil))) (gName 12) tYes (tOp (rI CMul fun i j => V.int (i * j)) (tOp (rIxL K) (tVar 5) (tVar 12)) (tOp (rI CDiv fun i j => V.int (i / j)) (tOp (rIxT K) (tVar 3) (tVar 12)) (tOp (rIxT K) (tVar 3) (tVar 16)))) [12]) tNil)) tNil))))
      (tDrop (tBM K "list" rAppend (tVar 6) (tCons (tCB (rTupOf K) (tCons (tVar 15) tNil)) tNil))))))) D [a0, some (.ref S), some (.ref M), some (.ref z), some (.ref y), some (.ref FA), some (.ref TA), some (.int ((q - 1 - d : Nat) : Int)), a8, a9, a10, a11, a12, a13, a14, a15, a16, a17] H := by
  obtain ⟨svs, hS⟩ := hS
  have hb : q - 1 - d < q := by omega
  have zF : z ≠ FA := fun e => by rw [e, sq.nf] at hz; cases hz
  have yF : y ≠ FA := fun e => by rw [e, sq.nf] at hy; cases hy
  refine ⟨_, rfl, S, rfl, ⟨_, SqT.of (sq.sm _ _ hS.at_)⟩, for_tup (K := K) (a := S) (xs := svs) (fun n σ H' => (∃ f', StripQ H0 H' FA TA p f' ts G ∧ SheetInv p q wf hf st (q - 1 - d) (fun i => rt q hf (q - 1 - d) * lv q wf (rt q hf) (Aof q hf wf st ld) d i) n f') ∧
      ∃ a8 a9 a10 a11 a12, σ = [a0, some (.ref S), some (.ref M), some (.ref z), some (.ref y), some (.ref FA), some (.ref TA), some (.int ((q - 1 - d : Nat) : Int)), a8, a9, a10, a11, a12, a13, a14, a15, a16, a17])
    ⟨⟨f, sq, SheetInv.start R hf0 he⟩, _, _, _, _, _, rfl⟩ (fun i σ H' _ hP => let ⟨⟨_, s, _⟩, _⟩ := hP; SqT.of (s.sm _ _ hS.at_)) ?_ ?_⟩
  · rintro n x σ H2 hx ⟨⟨g, s2, I2⟩, c8, c9, c10, c11, c12, rfl⟩
    obtain ⟨t, a, et, rfl, ha⟩ := (hS.same s2.sm).nth hx
    obtain ⟨t1, t2, t3, t4, t5⟩ := iS t (List.mem_of_getElem? et)
    refine ⟨a, _, rfl, SqT.of ha, rfl, _, _, rfl, _, _, rfl, _, _, rfl, rfl, ?_⟩
    refine ⟨_, rfl, ?_⟩
    exact sheet_refill R T' hb (fun b _ => rfl) (s2.sm _ _ hz) (s2.sm _ _ hy) zF yF s2.fr ⟨by omega, t2⟩ ⟨by omega, t4⟩ fun H3 c11 c12 o3 h3 => ⟨⟨_, s2.off o3 h3, I2.more R T' iS hb et⟩, _, _, _, _, _, rfl⟩
  · rintro σ H2 ⟨⟨g, s2, I2⟩, c8, c9, c10, c11, c12, rfl⟩
    rw [hS.len] at I2
    refine strips_load R T' hd s2 hz hM iL htl hG (BandInv.start R I2.nn fun i hi => ?_) hbad fun H3 f' t b8 b9 b10 b11 b12 b13 b14 b15 b16 h1 h2 h3 h4 => hn H3 f' t _ _ _ _ _ _ _ _ _ h1 h2 h3 h4
    rw [I2.at_ i hi, List.take_length]
def sp_law_own_strips : Sp := fun vs H Q _ => ∃ (L S M : Addr) (p q : Nat) (wf hf : Nat → Int) (st : List Tri) (ld : List Ent), vs = [.ref L, .ref S, .ref M] ∧ ListsAt H L (tab p wf) (tab q hf) ∧ Row p wf ∧ Row q hf ∧ StockAt H S st ∧ InS st ∧ LotAt H M ld ∧ InL p q ld ∧
  (¬ FitsL p q wf hf st ld → ∀ H', Same H H' → Q .non H') ∧ (FitsL p q wf hf st ld → ∀ H' v, Same H H' → StripsL H' v p q wf hf st ld → Q v H')
theorem ok_law_own_strips (T : Txt mg) (D : Df K mg "_law_own_strips" s_law_own_strips ["_law_rows", "_law_store", "_law_load"]) (c__law_bands : Cal P w K mg base CX0 1 "_law_bands" ["_law_high", "_law_side_here", "_law_b"] sp_law_bands)
    (c__law_cut : Cal P w K mg base CX0 1 "_law_cut" ["_law_wide", "_law_free", "_law_x", "_law_many"] sp_law_cut) :
    FnOk P w K mg base CX0 2 D.f D.fd ["_law_rows", "_law_store", "_law_load"] sp_law_own_strips := by
  refine D.F.ok S_law_own_strips (fun vs H Q E h => ?_) (fun cdv A outer s H vs Q E hr h => ?_)
  · obtain ⟨L, S, M, p, q, wf, hf, st, ld, rfl, _⟩ := h
    rfl
  · obtain ⟨L, S, M, p, q, wf, hf, st, ld, rfl, ⟨z, y, hL, hz, hy⟩, R, T', hS, iS, hM, iL, kb, kg⟩ := h
    refine ⟨_, (pss_cons (ps_set (i := 3) S_law_own_strips.nd rfl (Or.inr rfl) (pe_ix ix_tup (pv 0) pe_int (fun _ _ => rfl)))
      (pss_cons (ps_set (i := 4) S_law_own_strips.nd rfl (Or.inr rfl) (pe_ix ix_tup (pv 0) pe_int (fun _ _ => rfl)))
      (pss_cons (ps_set (i := 5) S_law_own_strips.nd rfl (Or.inr rfl) (pe_lc (own := [("_law_size", 17)]) rfl S_law_own_strips.nd (pi_tup (pv 3)) (blkOk_by (N := n_law_own_strips) (sc := defScope s_law_own_strips) (by decide +kernel)) (fun _ _ _ _ _ => pg_name (i := 17) S_law_own_strips.nd rfl (Or.inl rfl)) (fun _ _ _ _ _ => pts_nil) (fun _ _ _ _ _ => pe_int)))
      (pss_cons (ps_set (i := 6) S_law_own_strips.nd rfl (Or.inr rfl) (pe_lst pa_nil))
      (pss_cons (ps_for PassesOwn.never rfl (pi_revR (by rfl) T.reversed_ (prg_1 (by rfl) T.range_ (pe_callB call_len_seq (by rfl) T.len_ (by decide +kernel) (pa_cons (pv 4) pa_nil)))) (pg_name (i := 7) S_law_own_strips.nd rfl (Or.inr rfl)) (pss_cons (ps_if (pt_cmpR op_lt (pe_op op_add (pv 7) pe_int) (pe_callB call_len_seq (by rfl) T.len_ (by decide +kernel) (pa_cons (pv 4) pa_nil)) (nomark _)) (pss_one (ps_set (i := 5) S_law_own_strips.nd rfl (Or.inr rfl) (pe_lc (own := [("_law_n", 10)]) rfl S_law_own_strips.nd (pi_list (pv 5)) (blkOk_by (N := n_law_own_strips) (sc := defScope s_law_own_strips) (by decide +kernel)) (fun _ _ _ _ _ => pg_name (i := 10) S_law_own_strips.nd rfl (Or.inl rfl)) (fun _ _ _ _ _ => pts_nil) (fun _ _ _ _ _ => (pe_op op_mul (pv 10) (pe_op op_fdiv (pe_ix (ixt_K (K := K) rfl) (pv 4) (pe_op op_add (pv 7) pe_int) (fun _ _ => rfl)) (pe_ix (ixt_K (K := K) rfl) (pv 4) (pv 7) (fun _ _ => rfl)))))))) pss_nil)
      (pss_cons (ps_for PassesOwn.never rfl (pi_tup (pv 1)) (pg_tup (by rfl) (pgs_cons (pg_name (i := 8) S_law_own_strips.nd rfl (Or.inl rfl)) (pgs_cons (pg_name (i := 9) S_law_own_strips.nd rfl (Or.inl rfl)) (pgs_cons (pg_name (i := 10) S_law_own_strips.nd rfl (Or.inl rfl)) pgs_nil)))) (pss_cons (ps_set (i := 11) S_law_own_strips.nd rfl (Or.inl rfl) (pv 8))
      (pss_one (ps_for PassesOwn.never rfl (pi_revR (by rfl) T.reversed_ (prg_1 (by rfl) T.range_ (pe_callB call_len_seq (by rfl) T.len_ (by decide +kernel) (pa_cons (pv 3) pa_nil)))) (pg_name (i := 12) S_law_own_strips.nd rfl (Or.inl rfl)) (pss_cons (ps_asg (pe_op op_add (pe_ix ix_list (pv 5) (pv 12) (fun _ _ => rfl)) (pe_op op_mul (pe_op op_mul (pv 10) (pe_call c__law_bands.ok (hr.mono (by decide)) (by rfl) c__law_bands.g c__law_bands.kp c__law_bands.b .nil pass0 (pa_cons (pv 4) (pa_cons (pv 9) (pa_cons (pv 7) pa_nil))))) (pe_op op_fdiv (pv 11) (pe_ix ix_tup (pv 3) (pv 12) (fun _ _ => rfl))))) (pg_sub (pv 5) (pv 12) set_list))
      (pss_one (ps_set (i := 11) S_law_own_strips.nd rfl (Or.inl rfl) (pe_op op_mod (pe_callTy call_int1 (by rfl) T.int_ (by decide +kernel) (pa_cons (pv 11) pa_nil)) (pe_ix ix_tup (pv 3) (pv 12) (fun _ _ => rfl))))))))))
      (pss_cons (ps_for PassesOwn.never rfl (pi_tup (pv 2)) (pg_tup (by rfl) (pgs_cons (pg_name (i := 13) S_law_own_strips.nd rfl (Or.inl rfl)) (pgs_cons (pg_name (i := 14) S_law_own_strips.nd rfl (Or.inl rfl)) (pgs_cons (pg_name (i := 10) S_law_own_strips.nd rfl (Or.inl rfl)) pgs_nil)))) (pss_one (ps_if (PW.pt (pw_and (pt_cmpR op_eq (pv 14) (pv 7) (nomark _)) (pw_and1 (pt_not (pt_val (pe_call c__law_cut.ok (hr.mono (by decide)) (by rfl) c__law_cut.g c__law_cut.kp c__law_cut.b .nil pass0 (pa_cons (pv 3) (pa_cons (pv 5) (pa_cons (pv 13) (pa_cons (pv 10) pa_nil)))))))))) (pss_one (ps_ret pe_non)) pss_nil)))
      (pss_cons (ps_set (i := 15) S_law_own_strips.nd rfl (Or.inl rfl) (pe_lst pa_nil))
      (pss_cons (ps_for PassesOwn.never rfl (pi_range1 (by rfl) T.range_ (pa_cons (pe_callB call_len_seq (by rfl) T.len_ (by decide +kernel) (pa_cons (pv 3) pa_nil)) pa_nil)) (pg_name (i := 16) S_law_own_strips.nd rfl (Or.inr rfl)) (pss_one (ps_expr (pe_bm PySem.F.plainAttrs_list PySem.F.slot_list_append PySem.F.type_list_append mt_append (pv 15) (pa_cons (pe_callB (cr_sum rfl) (by rfl) T.sum_ (by decide +kernel) (pa_cons (pe_lc (own := [("_law_j", 12)]) rfl S_law_own_strips.nd (pi_range2 (by rfl) T.range_ (pa_cons (pv 16) (pa_cons (pe_callB call_len_seq (by rfl) T.len_ (by decide +kernel) (pa_cons (pv 3) pa_nil)) pa_nil))) (blkOk_by (N := n_law_own_strips) (sc := defScope s_law_own_strips) (by decide +kernel)) (fun _ _ _ _ _ => pg_name (i := 12) S_law_own_strips.nd rfl (Or.inl rfl)) (fun _ _ _ _ _ => pts_nil) (fun _ _ _ _ _ => (pe_op op_mul (pe_ix (ixl_K (K := K) rfl) (pv 5) (pv 12) (fun _ _ => rfl)) (pe_op op_fdiv (pe_ix (ixt_K (K := K) rfl) (pv 3) (pv 12) (fun _ _ => rfl)) (pe_ix (ixt_K (K := K) rfl) (pv 3) (pv 16) (fun _ _ => rfl)))))) pa_nil)) pa_nil)))))
      (pss_one (ps_expr (pe_bm PySem.F.plainAttrs_list PySem.F.slot_list_append PySem.F.type_list_append mt_append (pv 6) (pa_cons (pe_callTy call_tuple_of (by rfl) T.tuple_ (by decide +kernel) (pa_cons (pv 15) pa_nil)) pa_nil))))))))))
      (pss_one (ps_ret (pe_lc (own := [("_law_b", 7)]) rfl S_law_own_strips.nd (pi_range1 (by rfl) T.range_ (pa_cons (pe_callB call_len_seq (by rfl) T.len_ (by decide +kernel) (pa_cons (pv 6) pa_nil)) pa_nil)) (blkOk_by (N := n_law_own_strips) (sc := defScope s_law_own_strips) (by decide +kernel)) (fun _ _ _ _ _ => pg_name (i := 7) S_law_own_strips.nd rfl (Or.inl rfl)) (fun _ _ _ _ _ => pts_nil) (fun _ _ _ _ _ => (pe_ix (ixl_K (K := K) rfl) (pv 6) (pe_op op_sub (pe_op op_sub (pe_callB (len_K (K := K) rfl) (by rfl) T.len_ (by decide +kernel) (pa_cons (pv 6) pa_nil)) pe_int) (pv 7)) (fun _ _ => rfl))))))))))), ?_⟩
    have hle := R.le
    have hle2 := T'.le
    refine ⟨_, rfl, L, _, 0, _, rfl, rfl, SqT.of hL, atI_nat (j := 0) rfl, _, rfl, L, _, 1, _, rfl, rfl, SqT.of hL, atI_nat (j := 1) rfl, ?_⟩
    dsimp only
    refine name1 (seq_asg (lc_fil (ys := List.range p) (J := Itt K z) (G := fun H => SqT K H z (tab p wf)) (Y := YAt (tab p wf)) (by rw [List.length_range]; have := walk_tup (K := K) (a := z) (xs := tab p wf); rw [tab_len] at this; exact this) (by rw [List.length_range]; omega) (fun H' s => SqT.of (s _ _ hz)) (fun Rk hR => ⟨_, rfl, z, rfl, ⟨_, SqT.of hz⟩, hR⟩) (fun _ => true) (fun _ => 0) ?_ ?_))
    · rintro i t x H1 H2 ht s1 ⟨rfl, hx⟩ Yk Nk hY hN
      exact ⟨rfl, hY rfl _ fun _ _ e => e⟩
    intro F0 H1 nF s1 hF0
    rw [filter_yes, ← tab_ints] at hF0
    refine ⟨Nat.zero_le _, fun TA nT => ?_⟩
    have s2 : Same H1 (upd H1 TA (.lst [])) := Same.new nT
    have s12 := s1.trans s2
    refine ⟨_, rfl, y, _, rfl, .inr (SqT.of (s12 _ _ hy)), _, rfl, by omega, by omega, by rw [tab_len]; omega, by rw [tab_len]; omega, ?_⟩
    rw [tab_len]
    refine for_rangeC (n := ((q : Int) - 0).toNat) (fun d σ H' => (∃ (FA : Addr) (f : Nat → Int) (ts : List V) (a7 a8 a9 a10 a11 a12 a13 a14 a15 a16 a17 : Option V), StripQ H H' FA TA p f ts (fun j i => lv q wf (rt q hf) (Aof q hf wf st ld) (j + 1) i) ∧ ts.length = d ∧ (∀ k, k < p → 0 ≤ f k) ∧ (∀ i, i < p → held p wf f i = lv q wf (rt q hf) (Aof q hf wf st ld) d i) ∧
        (∀ d', d' < d → ∀ i, i < p → 0 ≤ spr q wf (rt q hf) (Aof q hf wf st ld) d' i) ∧ σ = [some (.ref L), some (.ref S), some (.ref M), some (.ref z), some (.ref y), some (.ref FA), some (.ref TA), a7, a8, a9, a10, a11, a12, a13, a14, a15, a16, a17]))
      ⟨F0, fun _ => 0, [], _, _, _, _, _, _, _, _, _, _, _, ⟨s12, s2 _ _ hF0, upd_same, fun j h => absurd h (Nat.not_lt_zero j), nF, s1.free nT, ne_of_none hF0 nT⟩, rfl, fun _ _ => Int.le_refl 0, fun i hi => ?_, fun d' h => absurd h (Nat.not_lt_zero d'), rfl⟩ ?_ ?_
    · have h0 : held p wf (fun _ => (0 : Int)) i = held p wf (fun j => (fun _ => (0 : Int)) j * 0) i := rfl
      rw [h0, held_scale R]
      show 0 * _ = (0 : Int)
      exact Int.zero_mul _
    · rintro d σ H3 hd0 ⟨FA, f, ts, a7, a8, a9, a10, a11, a12, a13, a14, a15, a16, a17, sq, htl, hf0, he, hs, rfl⟩
      have hd : d < q := by omega
      have eb : (0 + ((((q : Nat) : Int) - 0).toNat : Int) - 1 + (d : Nat) * -1) = ((q - 1 - d : Nat) : Int) := by omega
      rw [eb]
      have hy3 := sq.sm _ _ hy
      have fin : ∀ (H4 : Hp) (FB : Addr) (f4 : Nat → Int) (Dn : Ends), (∀ σ' H', (∃ (FA : Addr) (f : Nat → Int) (ts : List V) (a7 a8 a9 a10 a11 a12 a13 a14 a15 a16 a17 : Option V), StripQ H H' FA TA p f ts (fun j i => lv q wf (rt q hf) (Aof q hf wf st ld) (j + 1) i) ∧ ts.length = d + 1 ∧ (∀ k, k < p → 0 ≤ f k) ∧ (∀ i, i < p → held p wf f i = lv q wf (rt q hf) (Aof q hf wf st ld) (d + 1) i) ∧
          (∀ d', d' < d + 1 → ∀ i, i < p → 0 ≤ spr q wf (rt q hf) (Aof q hf wf st ld) d' i) ∧ σ' = [some (.ref L), some (.ref S), some (.ref M), some (.ref z), some (.ref y), some (.ref FA), some (.ref TA), a7, a8, a9, a10, a11, a12, a13, a14, a15, a16, a17]) → Dn.nx σ' H') → (∀ H', Q .non H' → Dn.rt .non H') →
          StripQ H H4 FB TA p f4 ts (fun j i => lv q wf (rt q hf) (Aof q hf wf st ld) (j + 1) i) → (∀ k, k < p → 0 ≤ f4 k) → (∀ i, i < p → held p wf f4 i = rt q hf (q - 1 - d) * lv q wf (rt q hf) (Aof q hf wf st ld) d i) →
          (tSeq (tFor (iTup K (tVar 1)) (gTup K 3 (gCons (gName 8) (gCons (gName 9) (gCons (gName 10) gNil)))) (tSeq (tAsg (tVar 8) (gName 11))
      (tFor (iRevR (tRg1 (tCB (rLen K) (tCons (tVar 3) tNil)))) (gName 12) (tSeq (tAsg (tOp (rI0 fun i j => V.int (i + j)) (tOp (rIxL K) (tVar 5) (tVar 12)) (tOp (rI CMul fun i j => V.int (i * j)) (tOp (rI CMul fun i j => V.int (i * j)) (tVar 10) (tCall sp_law_bands [] E0 (tCons (tVar 4) (tCons (tVar 9) (tCons (tVar 7) tNil))))) (tOp (rI CDiv fun i j => V.int (i / j)) (tVar 11) (tOp (rIxT K) (tVar 3) (tVar 12))))) (gSub (tVar 5) (tVar 12) rSetL))
      (tAsg (tOp (rI (fun _ j => 0 < j) fun i j => V.int (i % j)) (tCB rInt1 (tCons (tVar 11) tNil)) (tOp (rIxT K) (tVar 3) (tVar 12))) (gName 11))))))
      (tSeq (tFor (iTup K (tVar 2)) (gTup K 3 (gCons (gName 13) (gCons (gName 14) (gCons (gName 10) gNil)))) (tIfS (tAnd (tTest (tOp rEq (tVar 14) (tVar 7))) (tNot (tB (tCall sp_law_cut [] E0 (tCons (tVar 3) (tCons (tVar 5) (tCons (tVar 13) (tCons (tVar 10) tNil)))))))) (tRet (tC V.non)) tNext))
      (tSeq (tAsg (tLst tNil) (gName 15))
      (tSeq (tFor (iRng1 (tCons (tCB (rLen K) (tCons (tVar 3) tNil)) tNil)) (gName 16) (tDrop (tBM K "list" rAppend (tVar 15) (tCons (tCB (rSum K) (tCons (tLc (iRng2 (tCons (tVar 16) (tCons (tCB (rLen K) (tCons (tVar 3) tNil)) tNil))) (gName 12) tYes (tOp (rI CMul fun i j => V.int (i * j)) (tOp (rIxL K) (tVar 5) (tVar 12)) (tOp (rI CDiv fun i j => V.int (i / j)) (tOp (rIxT K) (tVar 3) (tVar 12)) (tOp (rIxT K) (tVar 3) (tVar 16)))) [12]) tNil)) tNil))))
      (tDrop (tBM K "list" rAppend (tVar 6) (tCons (tCB (rTupOf K) (tCons (tVar 15) tNil)) tNil))))))) Dn [some (.ref L), some (.ref S), some (.ref M), some (.ref z), some (.ref y), some (.ref FB), some (.ref TA), some (.int ((q - 1 - d : Nat) : Int)), a8, a9, a10, a11, a12, a13, a14, a15, a16, a17] H4 := by
        intro H4 FB f4 Dn hn hrt s4 n4 e4
        refine strips_stock R T' hd s4 hz hy hS iS hM iL htl (fun i hi => rfl) n4 e4 (fun hb H' s' => hrt H' (kb hb H' s')) fun H5 f5 t b8 b9 b10 b11 b12 b13 b14 b15 b16 s5 n5 e5 sp5 => hn _ _ ⟨FB, f5, ts ++ [V.ref t], _, _, _, _, _, _, _, _, _, _, _, s5, by rw [List.length_append, htl]; rfl, n5, e5, fun d' hd' i hi => ?_, rfl⟩
        by_cases ed : d' = d
        · subst ed; exact sp5 i hi
        · exact hs d' (by omega) i hi
      refine ⟨_, rfl, _, _, rfl, rfl, _, rfl, y, _, rfl, .inr (SqT.of hy3), _, _, rfl, rfl, _, rfl, ?_⟩
      rw [tab_len]
      refine ite2 (fun e => ?_) (fun e => ?_)
      · have hb1 : q - 1 - d + 1 < q := by have := of_decide_eq_true e; omega
        have hb0 : q - 1 - d < q := by omega
        have er : hf (q - 1 - d + 1) / hf (q - 1 - d) = rt q hf (q - 1 - d) := by unfold rt; rw [if_pos hb1]
        have rb := rt_bd T' (q - 1 - d)
        refine asg1 (lc_fil (ys := List.range p) (J := Itl K FA) (G := fun H => SqL K H FA (tab p f)) (Y := YAt (tab p f)) (by rw [List.length_range]; have := walk_list (K := K) (a := FA) (xs := tab p f); rw [tab_len] at this; exact this) (by rw [List.length_range]; omega) (fun H' s => SqL.of (s _ _ sq.fr)) (fun Rk hR => ⟨_, rfl, FA, rfl, ⟨_, SqL.of sq.fr⟩, hR⟩) (fun _ => true) (fun i => f i * rt q hf (q - 1 - d)) ?_ ?_)
        · rintro i t x H4 H5 ht s4 ⟨rfl, hx⟩ Yk Nk hY hN
          have hi : i < p := by
            have := (List.getElem?_eq_some_iff.mp ht).1
            rw [List.length_range] at this
            exact this
          rw [List.getElem?_range hi] at ht
          cases ht
          have ex := tab_at hi hx
          subst ex
          have hy5 := s4 _ _ hy3
          refine ⟨rfl, _, rfl, _, rfl, _, rfl, _, _, rfl, rfl, y, _, _, _, rfl, rfl, SqT.of hy5, atI_nat (j := q - 1 - d + 1) (tab_get hb1), _, rfl, _, rfl, y, _, _, _, rfl, rfl, SqT.of hy5, atI_nat (tab_get hb0), _, _, rfl, rfl, cdiv T' hb0, ?_⟩
          dsimp only
          rw [er]
          exact ⟨_, _, rfl, rfl, .inr ⟨by omega, by omega⟩, hY rfl _ fun _ _ e => e⟩
        · intro FB H4 nB s4 hB
          rw [filter_yes, ← tab_ints] at hB
          refine fin H4 FB _ _ (fun _ _ h => h) (fun _ h => h) (sq.refree s4 nB hB) (fun k hk => Int.mul_nonneg (hf0 k hk) rb.1) fun i hi => ?_
          rw [held_scale R, he i hi]
      · have e0 : d = 0 := by
          have : ¬ (((q - 1 - d : Nat) : Int) + 1 < (q : Int)) := fun z => e (decide_eq_true z)
          omega
        refine fin H3 FA f _ (fun _ _ h => h) (fun _ h => h) sq hf0 fun i hi => ?_
        rw [he i hi, e0]
        show (0 : Int) = rt q hf (q - 1 - 0) * 0
        rw [Int.mul_zero]
    · rintro σ H3 ⟨FA, f, ts, a7, a8, a9, a10, a11, a12, a13, a14, a15, a16, a17, sq, htl, hf0, he, hs, rfl⟩
      have eq0 : ((q : Int) - 0).toNat = q := by omega
      rw [eq0] at htl hs
      dsimp only
      have hT := sq.tl
      refine ret1 (lc_acc (n := q) (J := Itr 0 q) walk_range (by omega) (fun _ _ => trivial) (fun Rk hR => ?_) (fun i xs H' => xs.length = i ∧ ∀ b, b < i → ∃ a : Addr, xs[b]? = some (V.ref a) ∧ H' a = some (.tup (tab p (leftF p q wf hf st ld b))))
        (fun _ _ => ⟨rfl, fun b h => absurd h (Nat.not_lt_zero b)⟩) (fun i xs H' H2 h kk => ⟨h.1, fun b hb => let ⟨x, x1, x2⟩ := h.2 b hb; ⟨x, x1, kk _ _ x2⟩⟩) ?_ ?_)
      · refine ⟨_, rfl, TA, _, rfl, .inl (SqL.of hT), _, rfl, by omega, by omega, ?_⟩
        rw [htl, Int.toNat_natCast]
        exact hR
      · rintro i x H7 H8 ys hi s7 ⟨h1, h2⟩ ⟨rfl, ex⟩ Yk Nk hY hN
        have ex : x = .int (0 + (i : Int)) := ex
        rw [Int.zero_add] at ex
        subst ex
        obtain ⟨u, u1, u2⟩ := sq.row (q - 1 - i) (by omega)
        have ei : q - 1 - i + 1 = q - i := by omega
        rw [ei] at u2
        have hT7 := s7 _ _ hT
        refine ⟨rfl, _, rfl, _, rfl, TA, _, rfl, .inl (SqL.of hT7), _, _, rfl, rfl, _, rfl, _, _, rfl, rfl, TA, _, _, .ref u, rfl, rfl, SqL.of hT7, atI_rev htl hi u1, ?_⟩
        refine hY (.ref u) _ (fun _ _ e => e) ⟨by rw [List.length_append, h1]; rfl, fun b hb => ?_⟩
        by_cases ej : b = i
        · subst ej
          exact ⟨u, by rw [List.getElem?_append_right (by omega), h1, Nat.sub_self]; rfl, s7 _ _ u2⟩
        · obtain ⟨v, v1, v2⟩ := h2 b (by omega)
          exact ⟨v, by rw [List.getElem?_append_left (by omega)]; exact v1, v2⟩
      · rintro DA ys H7 nD s7 hD hl ⟨h1, h2⟩
        exact kg (fun d hd i hi => hs d hd i hi) H7 _ (sq.sm.trans s7) ⟨DA, ys, rfl, hD, h1, h2⟩
end
end K12


set_option Elab.async false
set_option linter.all false
set_option maxRecDepth 100000
namespace K12
open PySem PySem.Spec PyProof.Rows L2
theorem walk_zipT {K : PySem.W.Frag} {a b : Addr} {xs ys : List V} (hn : xs.length = ys.length) : Walk (RZ.ItzT K a b) xs.length (fun H => SqT K H a xs ∧ SqT K H b ys) (YPair (fun i => xs[i]?) (fun i => ys[i]?)) := by
  refine ⟨fun i _ hi q => ?_, fun _ q => ⟨xs, ys, q.1, q.2, .inl (Nat.le_refl _)⟩, fun i H v H' _ q y => ?_⟩
  · exact ⟨xs, ys, xs[i], ys[i]'(by omega), q.1, q.2, List.getElem?_eq_getElem hi, List.getElem?_eq_getElem (by omega)⟩
  · obtain ⟨T, x, z, h1, h2, h3, h4, h5⟩ := y
    exact ⟨T, x, z, h1, h2, h3, h4 xs q.1, h5 ys q.2⟩
/-- the same data, as deep as n -/
def EqD : Nat → Hp → V → V → Prop
  | 0, _, _, _ => False
  | n + 1, H, v, u => (∃ i : Int, v = .int i ∧ u = .int i) ∨ ∃ (a b : Addr) (xs ys : List V), v = .ref a ∧ u = .ref b ∧ H a = some (.tup xs) ∧ H b = some (.tup ys) ∧ xs.length = ys.length ∧ ∀ (i : Nat) (x y : V), xs[i]? = some x → ys[i]? = some y → EqD n H x y
theorem EqD.same : ∀ {n : Nat} {H H' : Hp} {v u : V}, EqD n H v u → Same H H' → EqD n H' v u
  | 0, _, _, _, _, h, _ => h
  | n + 1, H, H', v, u, h, s => by
    rcases h with h | ⟨a, b, xs, ys, h1, h2, h3, h4, h5, h6⟩
    · exact .inl h
    · exact .inr ⟨a, b, xs, ys, h1, h2, s _ _ h3, s _ _ h4, h5, fun i x y hx hy => (h6 i x y hx hy).same s⟩
section
variable {P : Program} {w : World} {K : PySem.W.Frag} {mg : Str → Option Value} {base : Heap}
def sp_law_same (n : Nat) : Sp := fun vs H Q _ => ∃ v u : V, vs = [v, u] ∧ EqD n H v u ∧ ∀ H', Same H H' → Q (.bl true) H'
theorem ok_law_same0 (D : Df K mg "_law_same" s_law_same ["_law_told", "_law_due"]) : FnOk P w K mg base CX0 1 D.f D.fd ["_law_told", "_law_due"] (sp_law_same 0) :=
  D.F.ok S_law_same (fun vs H Q E h => by obtain ⟨_, _, _, h, _⟩ := h; exact h.elim) (fun cdv A outer s H vs Q E hr h => by obtain ⟨_, _, _, h, _⟩ := h; exact h.elim)
theorem ok_law_same {k n : Nat} (T : Txt mg) (D : Df K mg "_law_same" s_law_same ["_law_told", "_law_due"]) (c__law_same : Cal P w K mg base CX0 k "_law_same" ["_law_told", "_law_due"] (sp_law_same n)) :
    FnOk P w K mg base CX0 (k + 1) D.f D.fd ["_law_told", "_law_due"] (sp_law_same (n + 1)) := by
  refine D.F.ok S_law_same (fun vs H Q E h => ?_) (fun cdv A outer s H vs Q E hr h => ?_)
  · obtain ⟨v, u, rfl, _⟩ := h
    rfl
  · obtain ⟨v, u, rfl, h, q⟩ := h
    refine ⟨_, (pss_cons (ps_if (pt_val (pe_callB call_isi (by rfl) T.isinstance_ (by decide +kernel) (pa_cons (pv 1) (pa_cons (pe_bltn (v := .ty "tuple") (by rfl) T.tuple_ (by decide +kernel) rfl) pa_nil)))) (pss_cons (ps_if (PW.pt (pw_or (pt_not (pt_val (pe_callB call_isi (by rfl) T.isinstance_ (by decide +kernel) (pa_cons (pv 0) (pa_cons (pe_bltn (v := .ty "tuple") (by rfl) T.tuple_ (by decide +kernel) rfl) pa_nil))))) (pw_or1 (pt_cmpR op_ne (pe_callB call_len_seq (by rfl) T.len_ (by decide +kernel) (pa_cons (pv 0) pa_nil)) (pe_callB call_len_seq (by rfl) T.len_ (by decide +kernel) (pa_cons (pv 1) pa_nil)) (nomark _))))) (pss_one (ps_ret pe_bl)) pss_nil)
      (pss_cons (ps_for PassesOwn.never rfl (RZ.pi_zipA (by rfl) T.zip_ (pa_cons (pv 0) (pa_cons (pv 1) pa_nil))) (pg_tup (by rfl) (pgs_cons (pg_name (i := 2) S_law_same.nd rfl (Or.inl rfl)) (pgs_cons (pg_name (i := 3) S_law_same.nd rfl (Or.inl rfl)) pgs_nil))) (pss_one (ps_if (pt_not (pt_val (pe_call c__law_same.ok hr (by rfl) c__law_same.g c__law_same.kp c__law_same.b .nil pass0 (pa_cons (pv 2) (pa_cons (pv 3) pa_nil))))) (pss_one (ps_ret pe_bl)) pss_nil)))
      (pss_one (ps_ret pe_bl)))) pss_nil)
      (pss_one (ps_ret (pe_and (pe_callB call_isi (by rfl) T.isinstance_ (by decide +kernel) (pa_cons (pv 0) (pa_cons (pe_bltn (v := .ty "int") (by rfl) T.int_ (by decide +kernel) rfl) pa_nil))) (pe_and (pe_not (pe_callB call_isi (by rfl) T.isinstance_ (by decide +kernel) (pa_cons (pv 0) (pa_cons (pe_bltn (v := .ty "bool") (by rfl) T.bool_ (by decide +kernel) rfl) pa_nil)))) (pe_one (pe_cmpR op_eq (pv 0) (pv 1) (nomark _)))))))), ?_⟩
    rcases h with ⟨i, rfl, rfl⟩ | ⟨a, b, xs, ys, rfl, rfl, ha, hb, hl, he⟩
    · refine ⟨_, rfl, _, .ty "tuple", _, _, false, rfl, .ty "tuple", (Kn.int i).ty, kit_ty (by decide +kernel), false, rfl, ?_⟩
      refine ⟨_, rfl, _, .ty "int", _, _, true, rfl, .ty "int", (Kn.int i).ty, kit_ty (by decide +kernel), true, rfl, ?_⟩
      refine ⟨_, rfl, _, .ty "bool", _, _, false, rfl, .ty "bool", (Kn.int i).ty, kit_ty (by decide +kernel), false, rfl, true, rfl, ?_⟩
      refine ⟨_, rfl, _, rfl, rfl, ?_⟩
      dsimp only
      rw [decV, decide_eq_true rfl]
      exact q H fun _ _ e => e
    · refine ⟨_, rfl, _, .ty "tuple", _, _, true, rfl, .ty "tuple", (Kn.tup hb).ty, kit_ty (by decide +kernel), true, rfl, ?_⟩
      refine ⟨_, rfl, _, .ty "tuple", _, _, true, rfl, .ty "tuple", (Kn.tup ha).ty, kit_ty (by decide +kernel), true, rfl, ?_⟩
      refine ⟨_, rfl, a, _, rfl, .inr (SqT.of ha), _, rfl, b, _, rfl, .inr (SqT.of hb), rfl, _, rfl, ?_⟩
      dsimp only
      rw [decV, hl, decide_eq_true rfl]
      refine ⟨_, rfl, _, rfl, a, b, xs, ys, rfl, .inr ⟨SqT.of ha, SqT.of hb, for_it (walk_zipT hl) (fun i σ H' => Same H H' ∧ ∃ a2 a3, σ = [some (.ref a), some (.ref b), a2, a3]) ⟨fun _ _ e => e, _, _, rfl⟩ (fun i σ H' _ hP => ⟨SqT.of (hP.1 _ _ ha), SqT.of (hP.1 _ _ hb)⟩) ?_ ?_⟩⟩
      · rintro i x σ H1 H2 hi ⟨s1, a2, a3, rfl⟩ ⟨t, x1, y1, rfl, nt, rfl, hx, hy⟩
        have s2 : Same H1 (upd H1 t (.tup [x1, y1])) := Same.new nt
        refine ⟨t, _, rfl, SqT.of upd_same, rfl, _, _, rfl, _, _, rfl, rfl, ?_⟩
        refine ⟨_, rfl, _, rfl, x1, y1, rfl, (he i x1 y1 hx hy).same (s1.trans s2), fun H3 s3 => ?_⟩
        exact ⟨_, rfl, (s1.trans s2).trans s3, _, _, rfl⟩
      · rintro σ H1 ⟨s1, a2, a3, rfl⟩
        exact q H1 s1
def sp_law_fits : Sp := fun vs H Q _ => ∃ (v : V) (m n : Nat) (f g h : Nat → Nat → Int), vs = [v] ∧ RoomsAt H v m n f g h ∧ ∀ H' (b : Bool), Same H H' → (b = true ↔ ∀ c, c < m → ∀ i, i < n → g c i ≤ f c i) → Q (.bl b) H'
theorem ok_law_fits (T : Txt mg) (D : Df K mg "_law_fits" s_law_fits ["_law_told"]) : FnOk P w K mg base CX0 1 D.f D.fd ["_law_told"] sp_law_fits := by
  refine D.F.ok S_law_fits (fun vs H Q E h => ?_) (fun cdv A outer s H vs Q E hr h => ?_)
  · obtain ⟨v, m, n, f, g, h, rfl, _⟩ := h
    rfl
  · obtain ⟨v, m, n, f, g, h, rfl, ⟨t, xs, rfl, ht, hl, hr2⟩, q⟩ := h
    refine ⟨_, (pss_cons (ps_for PassesOwn.never rfl (pi_tup (pv 0)) (pg_tup (by rfl) (pgs_cons (pg_name (i := 1) S_law_fits.nd rfl (Or.inl rfl)) (pgs_cons (pg_name (i := 2) S_law_fits.nd rfl (Or.inl rfl)) (pgs_cons (pg_name (i := 3) S_law_fits.nd rfl (Or.inl rfl)) pgs_nil)))) (pss_one (ps_for PassesOwn.never rfl (RZ.pi_zipA (by rfl) T.zip_ (pa_cons (pv 1) (pa_cons (pv 2) pa_nil))) (pg_tup (by rfl) (pgs_cons (pg_name (i := 4) S_law_fits.nd rfl (Or.inl rfl)) (pgs_cons (pg_name (i := 5) S_law_fits.nd rfl (Or.inl rfl)) pgs_nil))) (pss_one (ps_if (pt_cmpR op_gt (pv 5) (pv 4) (nomark _)) (pss_one (ps_ret pe_bl)) pss_nil)))))
      (pss_one (ps_ret pe_bl))), ?_⟩
    refine ⟨_, rfl, t, rfl, ⟨_, SqT.of ht⟩, for_tup (K := K) (a := t) (xs := xs) (fun c σ H' => Same H H' ∧ (∀ c', c' < c → ∀ i, i < n → g c' i ≤ f c' i) ∧ ∃ a1 a2 a3 a4 a5, σ = [some (.ref t), a1, a2, a3, a4, a5]) ⟨fun _ _ e => e, fun c' h => absurd h (Nat.not_lt_zero c'), _, _, _, _, _, rfl⟩ (fun i σ H' _ hP => SqT.of (hP.1 _ _ ht)) ?_ ?_⟩
    · rintro c x σ H1 hx ⟨s1, hc, a1, a2, a3, a4, a5, rfl⟩
      have hcm : c < m := by have := (List.getElem?_eq_some_iff.mp hx).1; omega
      obtain ⟨x', hx', row⟩ := hr2 c hcm
      cases hx.symm.trans hx'
      obtain ⟨a, b1, b2, b3, rfl, h1, h2, h3, h4⟩ := row.same s1
      refine ⟨a, _, rfl, SqT.of h1, rfl, _, _, rfl, _, _, rfl, _, _, rfl, rfl, ?_⟩
      refine ⟨_, rfl, _, rfl, b1, b2, _, _, rfl, .inr ⟨SqT.of h2, SqT.of h3, for_it (walk_zipT (by rw [tab_len, tab_len])) (fun i σ H' => Same H1 H' ∧ (∀ i', i' < i → g c i' ≤ f c i') ∧ ∃ a4 a5, σ = [some (.ref t), some (.ref b1), some (.ref b2), some (.ref b3), a4, a5]) ⟨fun _ _ e => e, fun c' h => absurd h (Nat.not_lt_zero c'), _, _, rfl⟩ (fun i σ H' _ hP => ⟨SqT.of (hP.1 _ _ h2), SqT.of (hP.1 _ _ h3)⟩) ?_ ?_⟩⟩
      · rintro i y σ H2 H3 hi ⟨s2, hi2, a4, a5, rfl⟩ ⟨p, x1, y1, rfl, nt, rfl, ex, ey⟩
        rw [tab_len] at hi
        have e1 := tab_at hi ex
        have e2 := tab_at hi ey
        subst e1 e2
        have s3 : Same H2 (upd H2 p (.tup [.int (f c i), .int (g c i)])) := Same.new nt
        refine ⟨p, _, rfl, SqT.of upd_same, rfl, _, _, rfl, _, _, rfl, rfl, ?_⟩
        refine ⟨_, rfl, _, rfl, _, _, rfl, rfl, _, rfl, ite2 (fun e => ?_) (fun e => ?_)⟩
        · refine q _ false ((s1.trans s2).trans s3) ⟨fun z => (by cases z), fun z => ?_⟩
          have := z c hcm i hi
          have e' : f c i < g c i := of_decide_eq_true e
          omega
        · have e' : ¬ f c i < g c i := fun z => e (decide_eq_true z)
          refine ⟨s2.trans s3, fun i' hi' => ?_, _, _, rfl⟩
          by_cases ei : i' = i
          · subst ei; omega
          · exact hi2 i' (by omega)
      · rintro σ H2 ⟨s2, hi2, a4, a5, rfl⟩
        rw [tab_len] at hi2
        refine ⟨s1.trans s2, fun c' hc' i hi => ?_, _, _, _, _, _, rfl⟩
        by_cases ec : c' = c
        · subst ec; exact hi2 i hi
        · exact hc c' (by omega) i hi
    · rintro σ H1 ⟨s1, hc, a1, a2, a3, a4, a5, rfl⟩
      rw [hl] at hc
      exact q H1 true s1 ⟨fun _ => hc, fun _ => rfl⟩
end
end K12


set_option Elab.async false
set_option linter.all false
set_option maxRecDepth 100000
namespace K12
open PySem PySem.Spec PyProof.Rows L2
/-! ### data written out -/
structure Pm where
  P : Hp → V → Prop
  mono : ∀ {H H' : Hp} {v : V}, P H v → Same H H' → P H' v
def AllP : List Pm → Hp → List V → Prop
  | [], _, vs => vs = []
  | p :: ps, H, vs => ∃ v r, vs = v :: r ∧ p.P H v ∧ AllP ps H r
theorem AllP.same : ∀ {ps : List Pm} {H H' : Hp} {vs : List V}, AllP ps H vs → Same H H' → AllP ps H' vs
  | [], _, _, _, h, _ => h
  | p :: ps, _, _, _, ⟨v, r, h1, h2, h3⟩, s => ⟨v, r, h1, p.mono h2 s, h3.same s⟩
theorem AllP.len : ∀ {ps : List Pm} {H : Hp} {vs : List V}, AllP ps H vs → vs.length = ps.length
  | [], _, _, h => by rw [show _ = [] from h]; rfl
  | p :: ps, _, _, ⟨v, r, h1, _, h3⟩ => by rw [h1, List.length_cons, List.length_cons, h3.len]
theorem AllP.get : ∀ {ps : List Pm} {H : Hp} {vs : List V} {i : Nat} {p : Pm}, AllP ps H vs → ps[i]? = some p → ∃ v, vs[i]? = some v ∧ p.P H v
  | [], _, _, _, _, _, e => by cases e
  | q :: ps, _, _, 0, p, ⟨v, r, h1, h2, _⟩, e => by cases e; exact ⟨v, by rw [h1]; rfl, h2⟩
  | q :: ps, _, _, i + 1, p, ⟨v, r, h1, _, h3⟩, e => by
    obtain ⟨u, u1, u2⟩ := AllP.get (i := i) (p := p) h3 e
    exact ⟨u, by rw [h1]; exact u1, u2⟩
def vP (x : V) : Pm := ⟨fun _ v => v = x, fun h _ => h⟩
def tP (ps : List Pm) : Pm := ⟨fun H v => ∃ a vs, v = .ref a ∧ H a = some (.tup vs) ∧ AllP ps H vs, fun ⟨a, vs, h1, h2, h3⟩ s => ⟨a, vs, h1, s _ _ h2, h3.same s⟩⟩
def lP (ps : List Pm) : Pm := ⟨fun H v => ∃ a vs, v = .ref a ∧ H a = some (.lst vs) ∧ AllP ps H vs, fun ⟨a, vs, h1, h2, h3⟩ s => ⟨a, vs, h1, s _ _ h2, h3.same s⟩⟩
def EvP (te : TE) (σ : L2.St) (p : Pm) : Prop := ∀ (H : Hp) (Q : VK), (∀ v H', Same H H' → p.P H' v → Q v H') → te σ H Q
def EvPs (ta : TA) (σ : L2.St) (ps : List Pm) : Prop := ∀ (H : Hp) (R : List V → Hp → Prop), (∀ vs H', Same H H' → AllP ps H' vs → R vs H') → ta σ H R
section
variable {σ : L2.St} {te tb : TE} {ta : TA} {p : Pm} {ps : List Pm}
theorem eP_c {v : V} : EvP (tC v) σ (vP v) := fun H Q h => h v H (fun _ _ e => e) rfl
theorem eP_var {i : Nat} {v : V} (e : σ[i]? = some (some v)) : EvP (tVar i) σ (vP v) := fun H Q h => ⟨v, e, h v H (fun _ _ e => e) rfl⟩
theorem eP_neg {i : Int} (h : EvP te σ (vP (.int i))) : EvP (tUn (rU fun i => V.int (-i)) te) σ (vP (.int (-i))) := fun H Q k => h H _ fun v H' s hv => ⟨i, hv, k _ H' s rfl⟩
theorem eP_0 {g : Int → Int → V} {i j : Int} (h1 : EvP te σ (vP (.int i))) (h2 : EvP tb σ (vP (.int j))) : EvP (tOp (rI0 g) te tb) σ (vP (g i j)) :=
  fun H Q k => h1 H _ fun v H1 s1 hv => h2 H1 _ fun u H2 s2 hu => ⟨i, j, hv, hu, k _ H2 (s1.trans s2) rfl⟩
theorem eP_1 {C : Int → Int → Prop} {g : Int → Int → V} {i j : Int} (h1 : EvP te σ (vP (.int i))) (h2 : EvP tb σ (vP (.int j))) (hc : C i j) : EvP (tOp (rI C g) te tb) σ (vP (g i j)) :=
  fun H Q k => h1 H _ fun v H1 s1 hv => h2 H1 _ fun u H2 s2 hu => ⟨i, j, hv, hu, hc, k _ H2 (s1.trans s2) rfl⟩
theorem eP_nil : EvPs tNil σ [] := fun H R k => k [] H (fun _ _ e => e) rfl
theorem eP_cons (h1 : EvP te σ p) (h2 : EvPs ta σ ps) : EvPs (tCons te ta) σ (p :: ps) := fun H R k => h1 H _ fun v H1 s1 hv => h2 H1 _ fun vs H2 s2 hvs => k (v :: vs) H2 (s1.trans s2) ⟨v, vs, rfl, p.mono hv s2, hvs⟩
theorem eP_tup (h : EvPs ta σ ps) (hl : ps.length ≤ 1000) : EvP (tTup ta) σ (tP ps) := fun H Q k => h H _ fun vs H1 s1 hvs => ⟨Nat.le_of_lt (small1000 (by rw [hvs.len]; exact hl)), fun T nT => k _ _ (s1.trans (Same.new nT)) ⟨T, vs, rfl, upd_same, hvs.same (Same.new nT)⟩⟩
theorem eP_lst (h : EvPs ta σ ps) (hl : ps.length ≤ 1000) : EvP (tLst ta) σ (lP ps) := fun H Q k => h H _ fun vs H1 s1 hvs => ⟨Nat.le_of_lt (small1000 (by rw [hvs.len]; exact hl)), fun T nT => k _ _ (s1.trans (Same.new nT)) ⟨T, vs, rfl, upd_same, hvs.same (Same.new nT)⟩⟩
end
/-! ### scenes -/
def intsP (xs : List Int) : Pm := tP (xs.map fun i => vP (.int i))
theorem intsP.at {xs : List Int} {H : Hp} {v : V} (h : (intsP xs).P H v) : ∃ a, v = .ref a ∧ H a = some (.tup (xs.map V.int)) := by
  obtain ⟨a, vs, h1, h2, h3⟩ := h
  refine ⟨a, h1, ?_⟩
  have : ∀ (xs : List Int) (vs : List V), AllP (xs.map fun i => vP (.int i)) H vs → vs = xs.map V.int := by
    intro xs
    induction xs with
    | nil => intro vs h; exact h
    | cons x r ih =>
      intro vs h
      obtain ⟨v, w, e1, e2, e3⟩ := h
      rw [e1, ih w e3, show v = V.int x from e2]
      rfl
  rw [h2, this xs vs h3]
def triP (t : Int × Int × Int) : Pm := intsP [t.1, t.2.1, t.2.2]
theorem rowsP.at {ts : List (Int × Int × Int)} {H : Hp} {v : V} (h : (tP (ts.map triP)).P H v) : ∃ a vs, v = .ref a ∧ RowsAt H a ts vs := by
  obtain ⟨a, vs, h1, h2, h3⟩ := h
  refine ⟨a, vs, h1, h2, h3.len.trans (List.length_map _), fun i t ht => ?_⟩
  obtain ⟨u, u1, u2⟩ := h3.get (i := i) (p := triP t) (by rw [List.getElem?_map, ht]; rfl)
  obtain ⟨b, b1, b2⟩ := intsP.at u2
  exact ⟨b, by rw [u1, b1], b2⟩
abbrev Row3 := List Int × List Int × List Int
def row3P (d : Row3) : Pm := tP [intsP d.1, intsP d.2.1, intsP d.2.2]
def row3At (n : Nat) (f g h : Nat → Nat → Int) (b : Nat) : Row3 := ((List.range n).map (f b), (List.range n).map (g b), (List.range n).map (h b))
theorem roomsP.at {ds : List Row3} {H : Hp} {v : V} {m n : Nat} {f g h : Nat → Nat → Int} (hp : (tP (ds.map row3P)).P H v) (e : ds = (List.range m).map (row3At n f g h)) : RoomsAt H v m n f g h := by
  obtain ⟨a, vs, h1, h2, h3⟩ := hp
  subst e
  refine ⟨a, vs, h1, h2, ?_, fun b hb => ?_⟩
  · rw [h3.len, List.length_map, List.length_map, List.length_range]
  obtain ⟨u, u1, u2⟩ := h3.get (i := b) (p := row3P (row3At n f g h b)) (by rw [List.getElem?_map, List.getElem?_map, List.getElem?_range hb]; rfl)
  obtain ⟨t, ws, t1, t2, t3⟩ := u2
  obtain ⟨x, _, rfl, x1, y, _, rfl, y1, z, _, rfl, z1, rfl⟩ := t3
  obtain ⟨x', rfl, x2⟩ := intsP.at x1
  obtain ⟨y', rfl, y2⟩ := intsP.at y1
  obtain ⟨z', rfl, z2⟩ := intsP.at z1
  refine ⟨u, u1, t, x', y', z', t1, t2, ?_, ?_, ?_⟩
  · rw [tab_ints]; exact x2
  · rw [tab_ints]; exact y2
  · rw [tab_ints]; exact z2
theorem RowAt.eqD {H : Hp} {v u : V} {n : Nat} {f g h : Nat → Int} (a : RowAt H v n f g h) (b : RowAt H u n f g h) : EqD 3 H v u := by
  obtain ⟨t, a1, a2, a3, rfl, h1, h2, h3, h4⟩ := a
  obtain ⟨s, b1, b2, b3, rfl, k1, k2, k3, k4⟩ := b
  have tt : ∀ {x y : Addr} {f : Nat → Int}, H x = some (.tup (tab n f)) → H y = some (.tup (tab n f)) → EqD 2 H (.ref x) (.ref y) := fun {x y f} hx hy =>
    .inr ⟨x, y, _, _, rfl, rfl, hx, hy, rfl, fun i p q hp hq => by
      have hi : i < n := by have := (List.getElem?_eq_some_iff.mp hp).1; rw [tab_len] at this; exact this
      exact .inl ⟨f i, tab_at hi hp, tab_at hi hq⟩⟩
  refine .inr ⟨t, s, _, _, rfl, rfl, h1, k1, rfl, fun i x y hx hy => ?_⟩
  match i with
  | 0 => cases hx; cases hy; exact tt h2 k2
  | 1 => cases hx; cases hy; exact tt h3 k3
  | 2 => cases hx; cases hy; exact tt h4 k4
  | i + 3 => cases hx
theorem RoomsAt.eqD {H : Hp} {v u : V} {m n : Nat} {f g h : Nat → Nat → Int} (a : RoomsAt H v m n f g h) (b : RoomsAt H u m n f g h) : EqD 4 H v u := by
  obtain ⟨t, xs, rfl, h1, h2, h3⟩ := a
  obtain ⟨s, ys, rfl, k1, k2, k3⟩ := b
  refine .inr ⟨t, s, _, _, rfl, rfl, h1, k1, by rw [h2, k2], fun i x y hx hy => ?_⟩
  have hi : i < m := by have := (List.getElem?_eq_some_iff.mp hx).1; omega
  obtain ⟨x', x1, x2⟩ := h3 i hi
  obtain ⟨y', y1, y2⟩ := k3 i hi
  cases hx.symm.trans x1
  cases hy.symm.trans y1
  exact x2.eqD y2
def sceneP (ws hs : List Int) (st : List Tri) (ld : List Ent) (due across : List Row3) : Pm := tP [tP [intsP ws, intsP hs], tP (st.map triP), tP ((entI ld).map triP), tP (due.map row3P), tP (across.map row3P)]
def atL (xs : List Int) (i : Nat) : Int := xs.getD i 0
/-- what a scene is worth -/
def SceneOk (H : Hp) (v : V) : Prop := ∃ (t L S M : Addr) (u1 u2 : V) (p q : Nat) (wf hf : Nat → Int) (st : List Tri) (ld : List Ent), v = .ref t ∧ H t = some (.tup [.ref L, .ref S, .ref M, u1, u2]) ∧ ListsAt H L (tab p wf) (tab q hf) ∧ Row p wf ∧ Row q hf ∧
  StockAt H S st ∧ InS st ∧ LotAt H M ld ∧ InL p q ld ∧ AscF none ld ∧ RoomsL H u1 p q wf hf st ld ∧ RoomsL H u2 q p hf wf (turnS st) (turnL ld)
theorem tab_list (xs : List Int) (n : Nat) (h : xs.length = n) : xs.map V.int = tab n (atL xs) := by
  subst h
  apply List.ext_getElem?
  intro i
  by_cases hi : i < xs.length
  · rw [tab_get hi, List.getElem?_map, List.getElem?_eq_getElem hi]
    unfold atL
    rw [List.getD_eq_getElem?_getD, List.getElem?_eq_getElem hi]
    rfl
  · rw [List.getElem?_eq_none (by rw [List.length_map]; omega), List.getElem?_eq_none (by rw [tab_len]; omega)]
theorem scene_ok {ws hs : List Int} {st : List Tri} {ld : List Ent} {due across : List Row3} {p q : Nat} (hw : ws.length = p) (hh : hs.length = q) (R : Row p (atL ws)) (T : Row q (atL hs)) (iS : InS st) (iL : InL p q ld) (as : AscF none ld)
    (e1 : due = (List.range q).map (row3At p (roomsF p q (atL ws) (atL hs) st ld) (want (atL ws) ld) (leftF p q (atL ws) (atL hs) st ld)))
    (e2 : across = (List.range p).map (row3At q (roomsF q p (atL hs) (atL ws) (turnS st) (turnL ld)) (want (atL hs) (turnL ld)) (leftF q p (atL hs) (atL ws) (turnS st) (turnL ld)))) {H : Hp} {v : V} (h : (sceneP ws hs st ld due across).P H v) : SceneOk H v := by
  obtain ⟨t, vs, rfl, ht, v1, _, rfl, g1, v2, _, rfl, g2, v3, _, rfl, g3, v4, _, rfl, g4, v5, _, rfl, g5, rfl⟩ := h
  obtain ⟨L, ls, rfl, hL, x, _, rfl, x1, y, _, rfl, y1, rfl⟩ := g1
  obtain ⟨lw, rfl, x2⟩ := intsP.at x1
  obtain ⟨lh, rfl, y2⟩ := intsP.at y1
  obtain ⟨S, ss, rfl, hS⟩ := rowsP.at g2
  obtain ⟨M, ms, rfl, hM⟩ := rowsP.at g3
  rw [tab_list ws p hw] at x2
  rw [tab_list hs q hh] at y2
  exact ⟨t, L, S, M, v4, v5, p, q, atL ws, atL hs, st, ld, rfl, ht, ⟨lw, lh, hL, x2, y2⟩, R, T, ⟨ss, hS⟩, iS, ⟨ms, hM⟩, iL, as, roomsP.at g4 e1, roomsP.at g5 e2⟩
end K12


set_option Elab.async false
set_option linter.all false
set_option maxRecDepth 100000
namespace K12
open PySem PySem.Spec PyProof.Rows L2
abbrev gG : Int := 100000000000000000000000000000
theorem eP_use {ta : TA} {σ : L2.St} {H : Hp} {Q : VK} {ps : List Pm} (h : EvPs ta σ ps) (hl : ps.length ≤ 1000) (k : ∀ a vs H', Same H H' → H' a = some (.lst vs) → AllP ps H' vs → Q (.ref a) H') : tLst ta σ H Q :=
  h H _ fun vs H1 s1 hvs => ⟨Nat.le_of_lt (small1000 (by rw [hvs.len]; exact hl)), fun T nT => k T vs _ (s1.trans (Same.new nT)) upd_same (hvs.same (Same.new nT))⟩
abbrev hand0 : Pm := sceneP [2, 4] [3, 6] [(7, 10, 1)] [(0, 0, 2), (1, 0, 1), (1, 1, 1)] [([5, 1], [4, 1], [1, 0]), ([3, 1], [2, 1], [1, 0])] [([3, 1], [2, 0], [1, 0]), ([3, 1], [3, 1], [0, 0])]
abbrev hand1 : Pm := sceneP [2, 4] [3] [(1, 9, 2), (5, 2, 1)] [(0, 0, 1), (1, 0, 2)] [([0, 0], [5, 2], [-5, -3])] [([-4], [1], [-5]), ([0], [2], [-2])]
abbrev hand2 : Pm := sceneP [1, 3] [2] [] [] [([0, 0], [0, 0], [0, 0])] [([0], [0], [0]), ([0], [0], [0])]
abbrev hand3 : Pm := sceneP [1, 2] [1, 2] [(2, 2, gG)] [(1, 0, 2 * gG - 1)] [([4 * gG, 2 * gG], [4 * gG - 2, 2 * gG - 1], [2, 1]), ([2 * gG, gG], [0, 0], [2 * gG, gG])] [([2, 0], [0, 0], [2, 0]), ([2 * gG, gG], [2 * gG - 1, 0], [1, 0])]
theorem row_of {xs : List Int} {p : Nat} (h1 : 1 ≤ p) (h2 : p ≤ 4) (h3 : ∀ i, i < p → 1 ≤ atL xs i) (h4 : ∀ i, i < p → atL xs i < 1073741824) (h5 : ∀ i, i < p → i + 1 < p → atL xs i ∣ atL xs (i + 1)) : Row p (atL xs) := ⟨h1, h2, h3, h4, fun i hi => h5 i (by omega) hi⟩
theorem rowA : Row 2 (atL [2, 4]) := row_of (by decide) (by decide) (by decide) (by decide) (by decide)
theorem rowB : Row 2 (atL [3, 6]) := row_of (by decide) (by decide) (by decide) (by decide) (by decide)
theorem rowC : Row 1 (atL [3]) := row_of (by decide) (by decide) (by decide) (by decide) (by decide)
theorem rowD : Row 2 (atL [1, 3]) := row_of (by decide) (by decide) (by decide) (by decide) (by decide)
theorem rowE : Row 1 (atL [2]) := row_of (by decide) (by decide) (by decide) (by decide) (by decide)
theorem rowF : Row 2 (atL [1, 2]) := row_of (by decide) (by decide) (by decide) (by decide) (by decide)
theorem hand0_ok {H : Hp} {v : V} (h : hand0.P H v) : SceneOk H v := by
  refine scene_ok (p := 2) (q := 2) rfl rfl rowA rowB ?_ ?_ ?_ ?_ ?_ h
  · intro t ht; revert t; decide
  · intro t ht; revert t; decide
  · exact ⟨trivial, by decide, by decide, trivial⟩
  · decide +kernel
  · decide +kernel
theorem hand1_ok {H : Hp} {v : V} (h : hand1.P H v) : SceneOk H v := by
  refine scene_ok (p := 2) (q := 1) rfl rfl rowA rowC ?_ ?_ ?_ ?_ ?_ h
  · intro t ht; revert t; decide
  · intro t ht; revert t; decide
  · exact ⟨trivial, by decide, trivial⟩
  · decide +kernel
  · decide +kernel
theorem hand2_ok {H : Hp} {v : V} (h : hand2.P H v) : SceneOk H v := by
  refine scene_ok (p := 2) (q := 1) rfl rfl rowD rowE ?_ ?_ ?_ ?_ ?_ h
  · intro t ht; cases ht
  · intro t ht; cases ht
  · exact trivial
  · decide +kernel
  · decide +kernel
theorem hand3_ok {H : Hp} {v : V} (h : hand3.P H v) : SceneOk H v := by
  refine scene_ok (p := 2) (q := 2) rfl rfl rowF rowF ?_ ?_ ?_ ?_ ?_ h
  · intro t ht; revert t; decide
  · intro t ht; revert t; decide
  · exact ⟨trivial, trivial⟩
  · decide +kernel
  · decide +kernel
section
variable {P : Program} {w : World} {K : PySem.W.Frag} {mg : Str → Option Value} {base : Heap}
def sp_law_hand : Sp := fun vs H Q _ => ∃ j : Nat, vs = [.int (j : Nat)] ∧ j < 4 ∧ ∀ H' v, Same H H' → SceneOk H' v → Q v H'
theorem ok_law_hand (T : Txt mg) (D : Df K mg "_law_hand" s_law_hand ["_law_number"]) : FnOk P w K mg base CX0 1 D.f D.fd ["_law_number"] sp_law_hand := by
  refine D.F.ok S_law_hand (fun vs H Q E h => ?_) (fun cdv A outer s H vs Q E hr h => ?_)
  · obtain ⟨j, rfl, _⟩ := h
    rfl
  · obtain ⟨j, rfl, hj, k⟩ := h
    refine ⟨_, (pss_cons (ps_set (i := 1) S_law_hand.nd rfl (Or.inl rfl) (pe_op op_pow pe_int pe_int))
      (pss_one (ps_ret (pe_ix ix_list (pe_lst (pa_cons (pe_tup (pa_cons (pe_tup (pa_cons (pe_tup (pa_cons pe_int (pa_cons pe_int pa_nil))) (pa_cons (pe_tup (pa_cons pe_int (pa_cons pe_int pa_nil))) pa_nil))) (pa_cons (pe_tup (pa_cons (pe_tup (pa_cons pe_int (pa_cons pe_int (pa_cons pe_int pa_nil)))) pa_nil)) (pa_cons (pe_tup (pa_cons (pe_tup (pa_cons pe_int (pa_cons pe_int (pa_cons pe_int pa_nil)))) (pa_cons (pe_tup (pa_cons pe_int (pa_cons pe_int (pa_cons pe_int pa_nil)))) (pa_cons (pe_tup (pa_cons pe_int (pa_cons pe_int (pa_cons pe_int pa_nil)))) pa_nil)))) (pa_cons (pe_tup (pa_cons (pe_tup (pa_cons (pe_tup (pa_cons pe_int (pa_cons pe_int pa_nil))) (pa_cons (pe_tup (pa_cons pe_int (pa_cons pe_int pa_nil))) (pa_cons (pe_tup (pa_cons pe_int (pa_cons pe_int pa_nil))) pa_nil)))) (pa_cons (pe_tup (pa_cons (pe_tup (pa_cons pe_int (pa_cons pe_int pa_nil))) (pa_cons (pe_tup (pa_cons pe_int (pa_cons pe_int pa_nil))) (pa_cons (pe_tup (pa_cons pe_int (pa_cons pe_int pa_nil))) pa_nil)))) pa_nil))) (pa_cons (pe_tup (pa_cons (pe_tup (pa_cons (pe_tup (pa_cons pe_int (pa_cons pe_int pa_nil))) (pa_cons (pe_tup (pa_cons pe_int (pa_cons pe_int pa_nil))) (pa_cons (pe_tup (pa_cons pe_int (pa_cons pe_int pa_nil))) pa_nil)))) (pa_cons (pe_tup (pa_cons (pe_tup (pa_cons pe_int (pa_cons pe_int pa_nil))) (pa_cons (pe_tup (pa_cons pe_int (pa_cons pe_int pa_nil))) (pa_cons (pe_tup (pa_cons pe_int (pa_cons pe_int pa_nil))) pa_nil)))) pa_nil))) pa_nil)))))) (pa_cons (pe_tup (pa_cons (pe_tup (pa_cons (pe_tup (pa_cons pe_int (pa_cons pe_int pa_nil))) (pa_cons (pe_tup (pa_cons pe_int pa_nil)) pa_nil))) (pa_cons (pe_tup (pa_cons (pe_tup (pa_cons pe_int (pa_cons pe_int (pa_cons pe_int pa_nil)))) (pa_cons (pe_tup (pa_cons pe_int (pa_cons pe_int (pa_cons pe_int pa_nil)))) pa_nil))) (pa_cons (pe_tup (pa_cons (pe_tup (pa_cons pe_int (pa_cons pe_int (pa_cons pe_int pa_nil)))) (pa_cons (pe_tup (pa_cons pe_int (pa_cons pe_int (pa_cons pe_int pa_nil)))) pa_nil))) (pa_cons (pe_tup (pa_cons (pe_tup (pa_cons (pe_tup (pa_cons pe_int (pa_cons pe_int pa_nil))) (pa_cons (pe_tup (pa_cons pe_int (pa_cons pe_int pa_nil))) (pa_cons (pe_tup (pa_cons (pe_un un_neg pe_int) (pa_cons (pe_un un_neg pe_int) pa_nil))) pa_nil)))) pa_nil)) (pa_cons (pe_tup (pa_cons (pe_tup (pa_cons (pe_tup (pa_cons (pe_un un_neg pe_int) pa_nil)) (pa_cons (pe_tup (pa_cons pe_int pa_nil)) (pa_cons (pe_tup (pa_cons (pe_un un_neg pe_int) pa_nil)) pa_nil)))) (pa_cons (pe_tup (pa_cons (pe_tup (pa_cons pe_int pa_nil)) (pa_cons (pe_tup (pa_cons pe_int pa_nil)) (pa_cons (pe_tup (pa_cons (pe_un un_neg pe_int) pa_nil)) pa_nil)))) pa_nil))) pa_nil)))))) (pa_cons (pe_tup (pa_cons (pe_tup (pa_cons (pe_tup (pa_cons pe_int (pa_cons pe_int pa_nil))) (pa_cons (pe_tup (pa_cons pe_int pa_nil)) pa_nil))) (pa_cons (pe_tup pa_nil) (pa_cons (pe_tup pa_nil) (pa_cons (pe_tup (pa_cons (pe_tup (pa_cons (pe_tup (pa_cons pe_int (pa_cons pe_int pa_nil))) (pa_cons (pe_tup (pa_cons pe_int (pa_cons pe_int pa_nil))) (pa_cons (pe_tup (pa_cons pe_int (pa_cons pe_int pa_nil))) pa_nil)))) pa_nil)) (pa_cons (pe_tup (pa_cons (pe_tup (pa_cons (pe_tup (pa_cons pe_int pa_nil)) (pa_cons (pe_tup (pa_cons pe_int pa_nil)) (pa_cons (pe_tup (pa_cons pe_int pa_nil)) pa_nil)))) (pa_cons (pe_tup (pa_cons (pe_tup (pa_cons pe_int pa_nil)) (pa_cons (pe_tup (pa_cons pe_int pa_nil)) (pa_cons (pe_tup (pa_cons pe_int pa_nil)) pa_nil)))) pa_nil))) pa_nil)))))) (pa_cons (pe_tup (pa_cons (pe_tup (pa_cons (pe_tup (pa_cons pe_int (pa_cons pe_int pa_nil))) (pa_cons (pe_tup (pa_cons pe_int (pa_cons pe_int pa_nil))) pa_nil))) (pa_cons (pe_tup (pa_cons (pe_tup (pa_cons pe_int (pa_cons pe_int (pa_cons (pv 1) pa_nil)))) pa_nil)) (pa_cons (pe_tup (pa_cons (pe_tup (pa_cons pe_int (pa_cons pe_int (pa_cons (pe_op op_sub (pe_op op_mul pe_int (pv 1)) pe_int) pa_nil)))) pa_nil)) (pa_cons (pe_tup (pa_cons (pe_tup (pa_cons (pe_tup (pa_cons (pe_op op_mul pe_int (pv 1)) (pa_cons (pe_op op_mul pe_int (pv 1)) pa_nil))) (pa_cons (pe_tup (pa_cons (pe_op op_sub (pe_op op_mul pe_int (pv 1)) pe_int) (pa_cons (pe_op op_sub (pe_op op_mul pe_int (pv 1)) pe_int) pa_nil))) (pa_cons (pe_tup (pa_cons pe_int (pa_cons pe_int pa_nil))) pa_nil)))) (pa_cons (pe_tup (pa_cons (pe_tup (pa_cons (pe_op op_mul pe_int (pv 1)) (pa_cons (pv 1) pa_nil))) (pa_cons (pe_tup (pa_cons pe_int (pa_cons pe_int pa_nil))) (pa_cons (pe_tup (pa_cons (pe_op op_mul pe_int (pv 1)) (pa_cons (pv 1) pa_nil))) pa_nil)))) pa_nil))) (pa_cons (pe_tup (pa_cons (pe_tup (pa_cons (pe_tup (pa_cons pe_int (pa_cons pe_int pa_nil))) (pa_cons (pe_tup (pa_cons pe_int (pa_cons pe_int pa_nil))) (pa_cons (pe_tup (pa_cons pe_int (pa_cons pe_int pa_nil))) pa_nil)))) (pa_cons (pe_tup (pa_cons (pe_tup (pa_cons (pe_op op_mul pe_int (pv 1)) (pa_cons (pv 1) pa_nil))) (pa_cons (pe_tup (pa_cons (pe_op op_sub (pe_op op_mul pe_int (pv 1)) pe_int) (pa_cons pe_int pa_nil))) (pa_cons (pe_tup (pa_cons pe_int (pa_cons pe_int pa_nil))) pa_nil)))) pa_nil))) pa_nil)))))) pa_nil))))) (pv 0) (fun _ _ => rfl))))), ?_⟩
    refine ⟨_, _, rfl, rfl, ⟨by decide, by decide, by decide⟩, ?_⟩
    dsimp only
    have e : (10 : Int) ^ (29 : Int).toNat = gG := by decide
    rw [e]
    refine name1 (ret1 (op1 (eP_use (ps := [hand0, hand1, hand2, hand3]) ?_ (by decide) ?_)))
    · repeat' (first | exact eP_nil | apply eP_cons | exact eP_c | exact eP_var rfl | (apply eP_tup (hl := by decide)) | apply eP_neg | apply eP_0 | (apply eP_1 (hc := .inl ⟨by decide, by decide⟩)))
    · intro a vs H' s ha hvs
      have at_ : ∀ (i : Nat) (p : Pm), [hand0, hand1, hand2, hand3][i]? = some p → i = j → (∀ v, p.P H' v → SceneOk H' v) → rIxL K (.ref a) (.int (j : Nat)) H' Q := by
        intro i p hp hij hs
        obtain ⟨v, v1, v2⟩ := hvs.get hp
        subst hij
        exact ⟨a, _, _, v, rfl, rfl, SqL.of ha, atI_nat v1, k H' v s (hs v v2)⟩
      refine ⟨_, rfl, ?_⟩
      match j, hj with
      | 0, _ => exact at_ 0 _ rfl rfl fun v h => hand0_ok h
      | 1, _ => exact at_ 1 _ rfl rfl fun v h => hand1_ok h
      | 2, _ => exact at_ 2 _ rfl rfl fun v h => hand2_ok h
      | 3, _ => exact at_ 3 _ rfl rfl fun v h => hand3_ok h
end
end K12


set_option Elab.async false
set_option linter.all false
set_option maxRecDepth 100000
namespace K12
open PySem PySem.Spec PyProof.Rows L2
def scB : V → Bool
  | .int _ => true
  | .bl _ => true
  | .non => true
  | .str _ => true
  | _ => false
theorem scB.kn {H : Hp} {v : V} (h : scB v = true) : ∃ s, Kn H v s := by
  cases v with
  | int i => exact ⟨_, .int i⟩
  | bl b => exact ⟨_, .bl b⟩
  | non => exact ⟨_, .non⟩
  | str x => exact ⟨_, .str x⟩
  | _ => cases h
def tvP (xs : List V) : Pm := tP (xs.map vP)
theorem tvP.at {xs : List V} {H : Hp} {v : V} (h : (tvP xs).P H v) : ∃ a, v = .ref a ∧ H a = some (.tup xs) := by
  obtain ⟨a, vs, h1, h2, h3⟩ := h
  refine ⟨a, h1, ?_⟩
  have : ∀ (xs : List V) (vs : List V), AllP (xs.map vP) H vs → vs = xs := by
    intro xs
    induction xs with
    | nil => intro vs h; exact h
    | cons x r ih =>
      intro vs h
      obtain ⟨v, w, e1, e2, e3⟩ := h
      rw [e1, ih w e3, show v = x from e2]
  rw [h2, this xs vs h3]
theorem bad_tups {ds : List (List V)} {H : Hp} {v : V} {p q : Nat} (h : (tP (ds.map tvP)).P H v) (hs : ∀ xs ∈ ds, ∀ x ∈ xs, scB x = true) (hb : lotB p q none (ds.map some) = false) : BadLot H v p q := by
  obtain ⟨a, vs, h1, h2, h3⟩ := h
  refine .inr ⟨a, vs, ds.map some, h1, h2, by rw [h3.len, List.length_map, List.length_map], fun i e d he hd => ?_, hb⟩
  rw [List.getElem?_map] at hd
  cases hx : ds[i]? with
  | none => rw [hx] at hd; cases hd
  | some xs =>
    rw [hx] at hd
    cases hd
    obtain ⟨u, u1, u2⟩ := h3.get (i := i) (p := tvP xs) (by rw [List.getElem?_map, hx]; rfl)
    cases he.symm.trans u1
    obtain ⟨b, rfl, b2⟩ := tvP.at u2
    exact .tup b2 fun x hxm => scB.kn (hs xs (List.mem_of_getElem? hx) x hxm)
section
variable {P : Program} {w : World} {K : PySem.W.Frag} {mg : Str → Option Value} {base : Heap}
theorem bad_kn {H : Hp} {v : V} {p q : Nat} {s : String} (k : Kn H v s) (n : s ≠ "tuple") : BadLot H v p q := .inl ⟨s, k, n⟩
abbrev badP (p q : Nat) : List Pm := [vP .non, vP (.bl true), vP (.int 0), vP (.str ""), lP [], lP [tvP [.int 0, .int 0, .int 1]], tvP [.int 0, .int 0, .int 1], tP ([[.int 0, .int 0]].map tvP), tP ([[.int 0, .int 0, .int 1, .int 1]].map tvP), tP [lP [vP (.int 0), vP (.int 0), vP (.int 1)]],
  tP ([[.int 0, .int 0, .int 0]].map tvP), tP ([[.int 0, .int 0, .int (-3)]].map tvP), tP ([[.int 0, .int 0, .bl true]].map tvP), tP ([[.bl false, .int 0, .int 1]].map tvP), tP ([[.int (p : Nat), .int 0, .int 1]].map tvP), tP ([[.int 0, .int (q : Nat), .int 1]].map tvP), tP ([[.int (-1), .int 0, .int 1]].map tvP),
  tP ([[.int 0, .int 0, .int 1], [.int 0, .int 0, .int 2]].map tvP), tP ([[.int ((p : Nat) - 1), .int ((q : Nat) - 1), .int 1], [.int 0, .int 0, .int 1]].map tvP)]
theorem bad_ok {p q : Nat} (hp : 1 ≤ p) (hq : 1 ≤ q) {j : Nat} (hj : j < 19) {H : Hp} {vs : List V} (h : AllP (badP p q) H vs) : ∃ v, vs[j]? = some v ∧ BadLot H v p q := by
  have sc : ∀ {ds : List (List V)}, (ds.all fun xs => xs.all scB) = true → ∀ xs ∈ ds, ∀ x ∈ xs, scB x = true := fun {ds} e xs hx x hm => List.all_eq_true.mp (List.all_eq_true.mp e xs hx) x hm
  match j, hj with
  | 0, _ => obtain ⟨v, v1, v2⟩ := h.get (i := 0) rfl; exact ⟨v, v1, by rw [show v = _ from v2]; exact bad_kn .non (by decide)⟩
  | 1, _ => obtain ⟨v, v1, v2⟩ := h.get (i := 1) rfl; exact ⟨v, v1, by rw [show v = _ from v2]; exact bad_kn (.bl true) (by decide)⟩
  | 2, _ => obtain ⟨v, v1, v2⟩ := h.get (i := 2) rfl; exact ⟨v, v1, by rw [show v = _ from v2]; exact bad_kn (.int 0) (by decide)⟩
  | 3, _ => obtain ⟨v, v1, v2⟩ := h.get (i := 3) rfl; exact ⟨v, v1, by rw [show v = _ from v2]; exact bad_kn (.str "") (by decide)⟩
  | 4, _ => obtain ⟨v, v1, a, ws, rfl, ha, _⟩ := h.get (i := 4) rfl; exact ⟨_, v1, bad_kn (.lst ha) (by decide)⟩
  | 5, _ => obtain ⟨v, v1, a, ws, rfl, ha, _⟩ := h.get (i := 5) rfl; exact ⟨_, v1, bad_kn (.lst ha) (by decide)⟩
  | 6, _ =>
    obtain ⟨v, v1, v2⟩ := h.get (i := 6) rfl
    obtain ⟨a, rfl, ha⟩ := tvP.at v2
    refine ⟨_, v1, .inr ⟨a, _, [none, none, none], rfl, ha, rfl, fun i e d he hd => ?_, rfl⟩⟩
    match i with
    | 0 => cases he; cases hd; exact .oth (.int _) (by decide)
    | 1 => cases he; cases hd; exact .oth (.int _) (by decide)
    | 2 => cases he; cases hd; exact .oth (.int _) (by decide)
    | i + 3 => cases he
  | 7, _ => obtain ⟨v, v1, v2⟩ := h.get (i := 7) rfl; exact ⟨v, v1, bad_tups v2 (sc rfl) rfl⟩
  | 8, _ => obtain ⟨v, v1, v2⟩ := h.get (i := 8) rfl; exact ⟨v, v1, bad_tups v2 (sc rfl) rfl⟩
  | 9, _ =>
    obtain ⟨v, v1, a, ws, rfl, ha, x, _, rfl, ⟨b, us, rfl, hb, _⟩, rfl⟩ := h.get (i := 9) rfl
    refine ⟨_, v1, .inr ⟨a, _, [none], rfl, ha, rfl, fun i e d he hd => ?_, rfl⟩⟩
    match i with
    | 0 => cases he; cases hd; exact .oth (.lst hb) (by decide)
    | i + 1 => cases he
  | 10, _ => obtain ⟨v, v1, v2⟩ := h.get (i := 10) rfl; exact ⟨v, v1, bad_tups v2 (sc rfl) (by simp [lotB, kindB, isNumV, ltV, isOneV])⟩
  | 11, _ => obtain ⟨v, v1, v2⟩ := h.get (i := 11) rfl; exact ⟨v, v1, bad_tups v2 (sc rfl) (by simp [lotB, kindB, isNumV, ltV, isOneV])⟩
  | 12, _ => obtain ⟨v, v1, v2⟩ := h.get (i := 12) rfl; exact ⟨v, v1, bad_tups v2 (sc rfl) (by simp [lotB, kindB, isNumV, ltV, isOneV])⟩
  | 13, _ => obtain ⟨v, v1, v2⟩ := h.get (i := 13) rfl; exact ⟨v, v1, bad_tups v2 (sc rfl) (by simp [lotB, kindB, isNumV, ltV, isOneV])⟩
  | 14, _ => obtain ⟨v, v1, v2⟩ := h.get (i := 14) rfl; exact ⟨v, v1, bad_tups v2 (sc rfl) (by simp [lotB, kindB, isNumV, ltV, isOneV])⟩
  | 15, _ => obtain ⟨v, v1, v2⟩ := h.get (i := 15) rfl; exact ⟨v, v1, bad_tups v2 (sc rfl) (by simp [lotB, kindB, isNumV, ltV, isOneV])⟩
  | 16, _ => obtain ⟨v, v1, v2⟩ := h.get (i := 16) rfl; exact ⟨v, v1, bad_tups v2 (sc rfl) (by simp [lotB, kindB, isNumV, ltV, isOneV])⟩
  | 17, _ => obtain ⟨v, v1, v2⟩ := h.get (i := 17) rfl; exact ⟨v, v1, bad_tups v2 (sc rfl) (by simp [lotB, kindB, isNumV, ltV, isOneV, leP, iV])⟩
  | 18, _ =>
    obtain ⟨v, v1, v2⟩ := h.get (i := 18) rfl
    refine ⟨v, v1, bad_tups v2 (sc rfl) ?_⟩
    have e : leP ((0 : Int), (0 : Int)) (((p : Nat) : Int) - 1, ((q : Nat) : Int) - 1) = true := by
      unfold leP
      refine decide_eq_true ?_
      show (0 : Int) < (p : Int) - 1 ∨ ((0 : Int) = (p : Int) - 1 ∧ (0 : Int) ≤ (q : Int) - 1)
      omega
    simp [lotB, iV, e]
  | j + 19, h => exact absurd h (by omega)
def sp_law_bad : Sp := fun vs H Q _ => ∃ j p q : Nat, vs = [.int (j : Nat), .int (p : Nat), .int (q : Nat)] ∧ j < 19 ∧ 1 ≤ p ∧ 1 ≤ q ∧ ∀ H' v, Same H H' → BadLot H' v p q → Q v H'
theorem ok_law_bad (T : Txt mg) (D : Df K mg "_law_bad" s_law_bad ["_law_number", "_law_p", "_law_q"]) : FnOk P w K mg base CX0 1 D.f D.fd ["_law_number", "_law_p", "_law_q"] sp_law_bad := by
  refine D.F.ok S_law_bad (fun vs H Q E h => ?_) (fun cdv A outer s H vs Q E hr h => ?_)
  · obtain ⟨j, p, q, rfl, _⟩ := h
    rfl
  · obtain ⟨j, p, q, rfl, hj, hp, hq, k⟩ := h
    refine ⟨_, (pss_one (ps_ret (pe_ix ix_list (pe_lst (pa_cons pe_non (pa_cons pe_bl (pa_cons pe_int (pa_cons pe_str (pa_cons (pe_lst pa_nil) (pa_cons (pe_lst (pa_cons (pe_tup (pa_cons pe_int (pa_cons pe_int (pa_cons pe_int pa_nil)))) pa_nil)) (pa_cons (pe_tup (pa_cons pe_int (pa_cons pe_int (pa_cons pe_int pa_nil)))) (pa_cons (pe_tup (pa_cons (pe_tup (pa_cons pe_int (pa_cons pe_int pa_nil))) pa_nil)) (pa_cons (pe_tup (pa_cons (pe_tup (pa_cons pe_int (pa_cons pe_int (pa_cons pe_int (pa_cons pe_int pa_nil))))) pa_nil)) (pa_cons (pe_tup (pa_cons (pe_lst (pa_cons pe_int (pa_cons pe_int (pa_cons pe_int pa_nil)))) pa_nil)) (pa_cons (pe_tup (pa_cons (pe_tup (pa_cons pe_int (pa_cons pe_int (pa_cons pe_int pa_nil)))) pa_nil)) (pa_cons (pe_tup (pa_cons (pe_tup (pa_cons pe_int (pa_cons pe_int (pa_cons (pe_un un_neg pe_int) pa_nil)))) pa_nil)) (pa_cons (pe_tup (pa_cons (pe_tup (pa_cons pe_int (pa_cons pe_int (pa_cons pe_bl pa_nil)))) pa_nil)) (pa_cons (pe_tup (pa_cons (pe_tup (pa_cons pe_bl (pa_cons pe_int (pa_cons pe_int pa_nil)))) pa_nil)) (pa_cons (pe_tup (pa_cons (pe_tup (pa_cons (pv 1) (pa_cons pe_int (pa_cons pe_int pa_nil)))) pa_nil)) (pa_cons (pe_tup (pa_cons (pe_tup (pa_cons pe_int (pa_cons (pv 2) (pa_cons pe_int pa_nil)))) pa_nil)) (pa_cons (pe_tup (pa_cons (pe_tup (pa_cons (pe_un un_neg pe_int) (pa_cons pe_int (pa_cons pe_int pa_nil)))) pa_nil)) (pa_cons (pe_tup (pa_cons (pe_tup (pa_cons pe_int (pa_cons pe_int (pa_cons pe_int pa_nil)))) (pa_cons (pe_tup (pa_cons pe_int (pa_cons pe_int (pa_cons pe_int pa_nil)))) pa_nil))) (pa_cons (pe_tup (pa_cons (pe_tup (pa_cons (pe_op op_sub (pv 1) pe_int) (pa_cons (pe_op op_sub (pv 2) pe_int) (pa_cons pe_int pa_nil)))) (pa_cons (pe_tup (pa_cons pe_int (pa_cons pe_int (pa_cons pe_int pa_nil)))) pa_nil))) pa_nil)))))))))))))))))))) (pv 0) (fun _ _ => rfl)))), ?_⟩
    refine ret1 (op1 (eP_use (ps := badP p q) ?_ (Nat.le_of_ble_eq_true rfl) ?_))
    · repeat' (first | exact eP_nil | apply eP_cons | exact eP_c | exact eP_var rfl | (apply eP_tup (hl := Nat.le_of_ble_eq_true rfl)) | (apply eP_lst (hl := Nat.le_of_ble_eq_true rfl)) | apply eP_neg | apply eP_0)
    · intro a vs H' s ha hvs
      obtain ⟨v, v1, v2⟩ := bad_ok hp hq hj hvs
      exact ⟨_, rfl, a, _, _, v, rfl, rfl, SqL.of ha, atI_nat v1, k H' v s v2⟩
end
end K12


set_option Elab.async false
set_option linter.all false
set_option maxRecDepth 100000
namespace K12
open PySem PySem.Spec PyProof.Rows L2
theorem EqD.up : ∀ {n : Nat} {H : Hp} {v u : V}, EqD n H v u → EqD (n + 1) H v u
  | 0, _, _, _, h => h.elim
  | n + 1, H, v, u, h => by
    rcases h with h | ⟨a, b, xs, ys, h1, h2, h3, h4, h5, h6⟩
    · exact .inl h
    · exact .inr ⟨a, b, xs, ys, h1, h2, h3, h4, h5, fun i x y hx hy => (h6 i x y hx hy).up⟩
theorem rooms_fits {p q : Nat} {wf hf : Nat → Int} {st : List Tri} {ld : List Ent} : (∀ c, c < q → ∀ i, i < p → want wf ld c i ≤ roomsF p q wf hf st ld c i) ↔ FitsL p q wf hf st ld := by
  have e : ∀ c i, c < q → roomsF p q wf hf st ld c i - want wf ld c i = spr q wf (rt q hf) (Aof q hf wf st ld) (q - 1 - c) i := fun c i hc => by
    unfold roomsF spr Aof
    have e5 : q - 1 - (q - 1 - c) = c := by omega
    rw [e5]
    omega
  constructor
  · intro h d hd i hi
    have h1 := h (q - 1 - d) (by omega) i hi
    have h2 := e (q - 1 - d) i (by omega)
    have e5 : q - 1 - (q - 1 - d) = d := by omega
    rw [e5] at h2
    omega
  · intro h c hc i hi
    have h1 := h (q - 1 - c) (by omega) i hi
    have h2 := e c i hc
    omega
theorem isNon_ref (a : Addr) : decide (V.ref a = V.non) = false := by simp
theorem tab_eqD {H : Hp} {x y : Addr} {n : Nat} {f : Nat → Int} (hx : H x = some (.tup (tab n f))) (hy : H y = some (.tup (tab n f))) : EqD 4 H (.ref x) (.ref y) :=
  EqD.up (EqD.up (.inr ⟨x, y, _, _, rfl, rfl, hx, hy, rfl, fun i p q hp hq => by
    have hi : i < n := by have := (List.getElem?_eq_some_iff.mp hp).1; rw [tab_len] at this; exact this
    exact .inl ⟨f i, tab_at hi hp, tab_at hi hq⟩⟩))
section
variable {P : Program} {w : World} {K : PySem.W.Frag} {mg : Str → Option Value} {base : Heap}
def sp_law_asked : Sp := fun vs H Q _ => ∃ (L S M : Addr) (p q : Nat) (wf hf : Nat → Int) (st : List Tri) (ld : List Ent), vs = [.ref L, .ref S, .ref M] ∧ ListsAt H L (tab p wf) (tab q hf) ∧ Row p wf ∧ Row q hf ∧ StockAt H S st ∧ InS st ∧ LotAt H M ld ∧ InL p q ld ∧ AscF none ld ∧ st.length ≤ 1000 ∧ ld.length ≤ 1000 ∧
  ∀ H', Same H H' → Q (.bl true) H'
theorem ok_law_asked {C : Addr} (T : Txt mg) (D : Df K mg "_law_asked" s_law_asked ["_law_rows", "_law_store", "_law_load"])
    (c__law_own_rooms : Cal P w K mg base CX0 3 "_law_own_rooms" ["_law_rows", "_law_store", "_law_load"] sp_law_own_rooms) (c__law_turn : Cal P w K mg base CX0 1 "_law_turn" ["_law_rows", "_law_store", "_law_load"] sp_law_turn)
    (c_rooms_by_heights : Cal P w K mg base (CXN P w) 7 "rooms_by_heights" ["lists", "stock", "lot"] (sp_rooms true C)) (c_rooms_by_widths : Cal P w K mg base (CXN P w) 7 "rooms_by_widths" ["lists", "stock", "lot"] (sp_rooms false C))
    (c__law_same : Cal P w K mg base CX0 5 "_law_same" ["_law_told", "_law_due"] (sp_law_same 4)) (c__law_own_strips : Cal P w K mg base CX0 2 "_law_own_strips" ["_law_rows", "_law_store", "_law_load"] sp_law_own_strips)
    (c__law_fits : Cal P w K mg base CX0 1 "_law_fits" ["_law_told"] sp_law_fits) :
    FnOk P w K mg base CX0 8 D.f D.fd ["_law_rows", "_law_store", "_law_load"] sp_law_asked := by
  refine D.F.ok S_law_asked (fun vs H Q E h => ?_) (fun cdv A outer s H vs Q E hr h => ?_)
  · obtain ⟨L, S, M, p, q, wf, hf, st, ld, rfl, _⟩ := h
    rfl
  · obtain ⟨L, S, M, p, q, wf, hf, st, ld, rfl, hL, R, T', hS, iS, hM, iL, as, nst, nld, k⟩ := h
    refine ⟨_, (pss_cons (ps_set (i := 3) S_law_asked.nd rfl (Or.inl rfl) (pe_call c__law_own_rooms.ok (hr.mono (by decide)) (by rfl) c__law_own_rooms.g c__law_own_rooms.kp c__law_own_rooms.b .nil pass0 (pa_cons (pv 0) (pa_cons (pv 1) (pa_cons (pv 2) pa_nil)))))
      (pss_cons (ps_set (i := 4) S_law_asked.nd rfl (Or.inl rfl) (pe_call c__law_turn.ok (hr.mono (by decide)) (by rfl) c__law_turn.g c__law_turn.kp c__law_turn.b .nil pass0 (pa_cons (pv 0) (pa_cons (pv 1) (pa_cons (pv 2) pa_nil)))))
      (pss_cons (ps_set (i := 5) S_law_asked.nd rfl (Or.inl rfl) (pe_call c__law_own_rooms.ok (hr.mono (by decide)) (by rfl) c__law_own_rooms.g c__law_own_rooms.kp c__law_own_rooms.b .nil pass0 (pa_cons (pe_ix ix_tup (pv 4) pe_int (fun _ _ => rfl)) (pa_cons (pe_ix ix_tup (pv 4) pe_int (fun _ _ => rfl)) (pa_cons (pe_ix ix_tup (pv 4) pe_int (fun _ _ => rfl)) pa_nil)))))
      (pss_cons (ps_set (i := 6) S_law_asked.nd rfl (Or.inl rfl) (pe_call c_rooms_by_heights.ok (hr.mono (by decide)) (by rfl) c_rooms_by_heights.g c_rooms_by_heights.kp c_rooms_by_heights.b .nil passN (pa_cons (pv 0) (pa_cons (pv 1) (pa_cons (pv 2) pa_nil)))))
      (pss_cons (ps_if (pt_not (pt_val (pe_call c__law_same.ok (hr.mono (by decide)) (by rfl) c__law_same.g c__law_same.kp c__law_same.b .nil pass0 (pa_cons (pv 6) (pa_cons (pv 3) pa_nil))))) (pss_one (ps_ret pe_bl)) pss_nil)
      (pss_cons (ps_set (i := 7) S_law_asked.nd rfl (Or.inl rfl) (pe_call c_rooms_by_widths.ok (hr.mono (by decide)) (by rfl) c_rooms_by_widths.g c_rooms_by_widths.kp c_rooms_by_widths.b .nil passN (pa_cons (pv 0) (pa_cons (pv 1) (pa_cons (pv 2) pa_nil)))))
      (pss_cons (ps_if (pt_not (pt_val (pe_call c__law_same.ok (hr.mono (by decide)) (by rfl) c__law_same.g c__law_same.kp c__law_same.b .nil pass0 (pa_cons (pv 7) (pa_cons (pv 5) pa_nil))))) (pss_one (ps_ret pe_bl)) pss_nil)
      (pss_cons (ps_set (i := 8) S_law_asked.nd rfl (Or.inl rfl) (pe_call c__law_own_strips.ok (hr.mono (by decide)) (by rfl) c__law_own_strips.g c__law_own_strips.kp c__law_own_strips.b .nil pass0 (pa_cons (pv 0) (pa_cons (pv 1) (pa_cons (pv 2) pa_nil)))))
      (pss_cons (ps_if (PW.pt (pw_or (pt_cmpR op_ne (pe_call c__law_fits.ok (hr.mono (by decide)) (by rfl) c__law_fits.g c__law_fits.kp c__law_fits.b .nil pass0 (pa_cons (pv 6) pa_nil)) (pe_cmpR op_notN (pv 8) pe_non (nomark _)) (nomark _)) (pw_or1 (pt_cmpR op_ne (pe_call c__law_fits.ok (hr.mono (by decide)) (by rfl) c__law_fits.g c__law_fits.kp c__law_fits.b .nil pass0 (pa_cons (pv 7) pa_nil)) (pe_cmpR op_notN (pv 8) pe_non (nomark _)) (nomark _))))) (pss_one (ps_ret pe_bl)) pss_nil)
      (pss_cons (ps_if (pt_cmpR op_isN (pv 8) pe_non (nomark _)) (pss_one (ps_ret pe_bl)) pss_nil)
      (pss_cons (ps_for PassesOwn.never rfl (pi_range1 (by rfl) T.range_ (pa_cons (pe_callB call_len_seq (by rfl) T.len_ (by decide +kernel) (pa_cons (pv 8) pa_nil)) pa_nil)) (pg_name (i := 9) S_law_asked.nd rfl (Or.inl rfl)) (pss_one (ps_if (pt_not (pt_val (pe_call c__law_same.ok (hr.mono (by decide)) (by rfl) c__law_same.g c__law_same.kp c__law_same.b .nil pass0 (pa_cons (pe_ix ix_tup (pe_ix ix_tup (pv 6) (pv 9) (fun _ _ => rfl)) pe_int (fun _ _ => rfl)) (pa_cons (pe_ix ix_list (pv 8) (pv 9) (fun _ _ => rfl)) pa_nil))))) (pss_one (ps_ret pe_bl)) pss_nil)))
      (pss_cons (ps_set (i := 10) S_law_asked.nd rfl (Or.inl rfl) (pe_call c__law_own_strips.ok (hr.mono (by decide)) (by rfl) c__law_own_strips.g c__law_own_strips.kp c__law_own_strips.b .nil pass0 (pa_cons (pe_ix ix_tup (pv 4) pe_int (fun _ _ => rfl)) (pa_cons (pe_ix ix_tup (pv 4) pe_int (fun _ _ => rfl)) (pa_cons (pe_ix ix_tup (pv 4) pe_int (fun _ _ => rfl)) pa_nil)))))
      (pss_cons (ps_for PassesOwn.never rfl (pi_range1 (by rfl) T.range_ (pa_cons (pe_callB call_len_seq (by rfl) T.len_ (by decide +kernel) (pa_cons (pv 10) pa_nil)) pa_nil)) (pg_name (i := 11) S_law_asked.nd rfl (Or.inl rfl)) (pss_one (ps_if (pt_not (pt_val (pe_call c__law_same.ok (hr.mono (by decide)) (by rfl) c__law_same.g c__law_same.kp c__law_same.b .nil pass0 (pa_cons (pe_ix ix_tup (pe_ix ix_tup (pv 7) (pv 11) (fun _ _ => rfl)) pe_int (fun _ _ => rfl)) (pa_cons (pe_ix ix_list (pv 10) (pv 11) (fun _ _ => rfl)) pa_nil))))) (pss_one (ps_ret pe_bl)) pss_nil)))
      (pss_one (ps_ret pe_bl))))))))))))))), ?_⟩
    have nst' : (turnS st).length ≤ 1000 := by unfold turnS; rw [List.length_map]; exact nst
    have nld' : (turnL ld).length ≤ 1000 := by unfold turnL; rw [List.length_map]; exact nld
    refine ⟨_, rfl, _, rfl, _, rfl, L, S, M, p, q, wf, hf, st, ld, rfl, hL, R, T', hS, iS, hM, iL, nst, nld, fun H1 due s1 hdue => ?_⟩
    refine ⟨_, rfl, _, rfl, _, rfl, L, S, M, _, _, st, ld, rfl, hL.same s1, hS.same s1, hM.same s1, nst, nld, fun H2 t L' S' M' s2 ht hL' hS' hM' => ?_⟩
    refine ⟨_, rfl, t, _, 0, _, rfl, rfl, SqT.of ht, atI_nat (j := 0) rfl, _, rfl, t, _, 1, _, rfl, rfl, SqT.of ht, atI_nat (j := 1) rfl, _, rfl, t, _, 2, _, rfl, rfl, SqT.of ht, atI_nat (j := 2) rfl,
      L', S', M', q, p, hf, wf, turnS st, turnL ld, rfl, hL', T', R, hS', iS.turn, hM', iL.turn, nst', nld', fun H3 across s3 hacr => ?_⟩
    have s12 := s1.trans s2
    have s13 := s12.trans s3
    refine ⟨_, rfl, _, rfl, _, rfl, L, S, _, rfl, .inl ⟨M, p, q, wf, hf, st, ld, rfl, hL.same s13, R, T', hS.same s13, iS, hM.same s13, iL, as, fun H4 told s4 htold => ?_⟩⟩
    have s14 := s13.trans s4
    have htold : RoomsL H4 told p q wf hf st ld := htold
    refine ⟨_, rfl, _, rfl, told, due, rfl, htold.eqD (hdue.same (s2.trans (s3.trans s4))), fun H5 s5 => ?_⟩
    refine ⟨_, rfl, ?_⟩
    have s15 := s14.trans s5
    refine ⟨_, rfl, _, rfl, _, rfl, L, S, _, rfl, .inl ⟨M, p, q, wf, hf, st, ld, rfl, hL.same s15, R, T', hS.same s15, iS, hM.same s15, iL, as, fun H6 other s6 hoth => ?_⟩⟩
    have hoth : RoomsL H6 other q p hf wf (turnS st) (turnL ld) := hoth
    refine ⟨_, rfl, _, rfl, other, across, rfl, hoth.eqD (hacr.same (s4.trans (s5.trans s6))), fun H7 s7 => ?_⟩
    refine ⟨_, rfl, ?_⟩
    have s17 := (s15.trans s6).trans s7
    have s47 := s5.trans (s6.trans s7)
    have t7 := htold.same s47
    have o7 := hoth.same s7
    have s37 := s4.trans s47
    by_cases hfit : FitsL p q wf hf st ld
    · have hfit2 := (both_ways R T' iL).mp hfit
      refine ⟨_, rfl, _, rfl, _, rfl, L, S, M, p, q, wf, hf, st, ld, rfl, hL.same s17, R, T', hS.same s17, iS, hM.same s17, iL, fun z => absurd hfit z, fun _ H8 strips s8 hstr => ?_⟩
      obtain ⟨sa, sxs, rfl, sg1, sg2, sg3⟩ := hstr
      refine ⟨_, rfl, told, q, p, _, _, _, rfl, t7.same s8, fun H9 b s9 hb => ?_⟩
      have eb : b = true := hb.mpr (rooms_fits.mpr hfit)
      subst eb
      refine ⟨_, rfl, rfl, rfl, _, rfl, ?_⟩
      dsimp only
      rw [isNon_ref]
      refine ite2 (fun e => absurd e (by decide)) (fun _ => ?_)
      refine ⟨_, rfl, other, p, q, _, _, _, rfl, o7.same (s8.trans s9), fun H10 b s10 hb => ?_⟩
      have eb : b = true := hb.mpr (rooms_fits.mpr hfit2)
      subst eb
      refine ⟨_, rfl, rfl, rfl, _, rfl, ?_⟩
      dsimp only
      rw [isNon_ref]
      refine ite2 (fun e => absurd e (by decide)) (fun _ => ?_)
      refine ⟨_, rfl, rfl, _, rfl, ?_⟩
      dsimp only
      rw [isNon_ref]
      refine ite2 (fun e => absurd e (by decide)) (fun _ => ?_)
      have s8t := s9.trans s10
      have s110 := (s17.trans s8).trans s8t
      -- strip by strip
      refine ⟨_, rfl, sa, _, rfl, .inl (SqL.of (s8t _ _ sg1)), _, rfl, by omega, by have := T'.le; omega, ?_⟩
      rw [sg2, Int.toNat_natCast]
      refine for_range (lo := 0) (n := q) (fun i σ H' => Same H10 H' ∧ ∃ a9, σ = [some (.ref L), some (.ref S), some (.ref M), some due, some (.ref t), some across, some told, some other, some (.ref sa), a9, none, none]) ⟨fun _ _ e => e, _, rfl⟩ ?_ ?_
      · rintro c σ H11 hc ⟨s11, a9, rfl⟩
        rw [Int.zero_add]
        have t11 := t7.same (s8.trans (s8t.trans s11))
        obtain ⟨ta, txs, rfl, ht1, ht2, ht3⟩ := t11
        obtain ⟨x, hx, rt_, ra, rb, rc, rfl, k1, k2, k3, k4⟩ := ht3 c hc
        obtain ⟨a, ha, ha2⟩ := sg3 c hc
        refine ⟨_, rfl, _, rfl, ta, _, _, _, rfl, rfl, SqT.of ht1, atI_nat hx, rt_, _, 2, _, rfl, rfl, SqT.of k1, atI_nat (j := 2) rfl, _, rfl, _, rfl, sa, _, _, _, rfl, rfl, SqL.of (s11 _ _ (s8t _ _ sg1)), atI_nat ha,
          _, _, rfl, tab_eqD k4 (s11 _ _ (s8t _ _ ha2)), fun H12 s12' => ?_⟩
        exact ⟨_, rfl, s11.trans s12', _, rfl⟩
      · rintro σ H11 ⟨s11, a9, rfl⟩
        have s211 := (s3.trans s37).trans (s8.trans (s8t.trans s11))
        have ht11 := s211 _ _ ht
        refine ⟨_, rfl, t, _, 0, _, rfl, rfl, SqT.of ht11, atI_nat (j := 0) rfl, _, rfl, t, _, 1, _, rfl, rfl, SqT.of ht11, atI_nat (j := 1) rfl, _, rfl, t, _, 2, _, rfl, rfl, SqT.of ht11, atI_nat (j := 2) rfl,
          L', S', M', q, p, hf, wf, turnS st, turnL ld, rfl, hL'.same s211, T', R, hS'.same s211, iS.turn, hM'.same s211, iL.turn, fun z => absurd hfit2 z, fun _ H12 cols s12' hcol => ?_⟩
        obtain ⟨ca, cxs, rfl, cg1, cg2, cg3⟩ := hcol
        refine ⟨_, rfl, ca, _, rfl, .inl (SqL.of cg1), _, rfl, by omega, by have := R.le; omega, ?_⟩
        rw [cg2, Int.toNat_natCast]
        refine for_range (lo := 0) (n := p) (fun i σ H' => Same H12 H' ∧ ∃ a9 a11, σ = [some (.ref L), some (.ref S), some (.ref M), some due, some (.ref t), some across, some told, some other, some (.ref sa), a9, some (.ref ca), a11]) ⟨fun _ _ e => e, _, _, rfl⟩ ?_ ?_
        · rintro c σ H13 hc ⟨s13', a9, a11, rfl⟩
          rw [Int.zero_add]
          have t13 := o7.same (s8.trans (s8t.trans (s11.trans (s12'.trans s13'))))
          obtain ⟨ta, txs, rfl, ht1, ht2, ht3⟩ := t13
          obtain ⟨x, hx, rt_, ra, rb, rc, rfl, k1, k2, k3, k4⟩ := ht3 c hc
          obtain ⟨a, ha, ha2⟩ := cg3 c hc
          refine ⟨_, rfl, _, rfl, ta, _, _, _, rfl, rfl, SqT.of ht1, atI_nat hx, rt_, _, 2, _, rfl, rfl, SqT.of k1, atI_nat (j := 2) rfl, _, rfl, _, rfl, ca, _, _, _, rfl, rfl, SqL.of (s13' _ _ cg1), atI_nat ha,
            _, _, rfl, tab_eqD k4 (s13' _ _ ha2), fun H14 s14' => ?_⟩
          exact ⟨_, rfl, s13'.trans s14', _, _, rfl⟩
        · rintro σ H13 ⟨s13', a9, a11, rfl⟩
          exact k H13 ((s110.trans s11).trans (s12'.trans s13'))
    · have hfit2 : ¬ FitsL q p hf wf (turnS st) (turnL ld) := fun z => hfit ((both_ways R T' iL).mpr z)
      refine ⟨_, rfl, _, rfl, _, rfl, L, S, M, p, q, wf, hf, st, ld, rfl, hL.same s17, R, T', hS.same s17, iS, hM.same s17, iL, fun _ H8 s8 => ?_, fun z => absurd z hfit⟩
      refine ⟨_, rfl, told, q, p, _, _, _, rfl, t7.same s8, fun H9 b s9 hb => ?_⟩
      have eb : b = false := Bool.eq_false_iff.mpr fun z => hfit (rooms_fits.mp (hb.mp z))
      subst eb
      refine ⟨_, rfl, rfl, rfl, _, rfl, ?_⟩
      refine ite2 (fun e => absurd e (by decide)) (fun _ => ?_)
      refine ⟨_, rfl, other, p, q, _, _, _, rfl, o7.same (s8.trans s9), fun H10 b s10 hb => ?_⟩
      have eb : b = false := Bool.eq_false_iff.mpr fun z => hfit2 (rooms_fits.mp (hb.mp z))
      subst eb
      refine ⟨_, rfl, rfl, rfl, _, rfl, ?_⟩
      refine ite2 (fun e => absurd e (by decide)) (fun _ => ?_)
      refine ⟨_, rfl, rfl, _, rfl, ?_⟩
      refine ite2 (fun e => ?_) (fun e => absurd (decide_eq_true rfl) e)
      exact k H10 ((s17.trans s8).trans (s9.trans s10))
end
end K12


set_option Elab.async false
set_option linter.all false
set_option maxRecDepth 100000
set_option maxHeartbeats 2000000
namespace K12
open PySem PySem.Spec PyProof.Rows L2
/-! ### keywords alone -/
def permA {α : Type} : List α → List α
  | [a, b, c] => [b, c, a]
  | _ => []
def permB {α : Type} : List α → List α
  | [a, b, c] => [c, a, b]
  | _ => []
theorem permA_rel {zs : List V} {ws : List Value} (r : Vals zs ws) : Vals (permA zs) (permA ws) := by
  match zs, ws, r with
  | [], [], .nil => exact .nil
  | [_], [_], .cons _ .nil => exact .nil
  | [_, _], [_, _], .cons _ (.cons _ .nil) => exact .nil
  | [_, _, _], [_, _, _], .cons r1 (.cons r2 (.cons r3 .nil)) => exact .cons r2 (.cons r3 (.cons r1 .nil))
  | _ :: _ :: _ :: _ :: _, _ :: _ :: _ :: _ :: _, .cons _ (.cons _ (.cons _ (.cons _ _))) => exact .nil
theorem permB_rel {zs : List V} {ws : List Value} (r : Vals zs ws) : Vals (permB zs) (permB ws) := by
  match zs, ws, r with
  | [], [], .nil => exact .nil
  | [_], [_], .cons _ .nil => exact .nil
  | [_, _], [_, _], .cons _ (.cons _ .nil) => exact .nil
  | [_, _, _], [_, _, _], .cons r1 (.cons r2 (.cons r3 .nil)) => exact .cons r3 (.cons r1 (.cons r2 .nil))
  | _ :: _ :: _ :: _ :: _, _ :: _ :: _ :: _ :: _, .cons _ (.cons _ (.cons _ (.cons _ _))) => exact .nil
abbrev KbA (K : PySem.W.Frag) (fd : FuncData) : Prop := KBn K fd ["lists", "stock", "lot"] 0 ["lot", "lists", "stock"] (fun _ ws => permA ws) (fun _ zs => permA zs)
abbrev KbB (K : PySem.W.Frag) (fd : FuncData) : Prop := KBn K fd ["lists", "stock", "lot"] 0 ["stock", "lot", "lists"] (fun _ ws => permB ws) (fun _ zs => permB zs)
section
variable {P : Program} {w : World} {K : PySem.W.Frag} {mg : Str → Option Value} {base : Heap}
theorem kb_heights {f : Addr} {fd : FuncData} (F : Fun K "rooms_by_heights" "rooms_by_heights" srooms_by_heights f fd) : KbA K fd := by
  obtain ⟨oc, od, kV, doc, pm, an, cdv, ct, osl, rfl, lk, hcd⟩ := F.ex
  refine ⟨fun s us ws X l1 l2 => ?_, fun _ r2 => permA_rel r2⟩
  match us, ws, l1, l2 with
  | [], [_, _, _], _, _ => exact .of_eq rfl
theorem kb_widths {f : Addr} {fd : FuncData} (F : Fun K "rooms_by_widths" "rooms_by_widths" srooms_by_widths f fd) : KbB K fd := by
  obtain ⟨oc, od, kV, doc, pm, an, cdv, ct, osl, rfl, lk, hcd⟩ := F.ex
  refine ⟨fun s us ws X l1 l2 => ?_, fun _ r2 => permB_rel r2⟩
  match us, ws, l1, l2 with
  | [], [_, _, _], _, _ => exact .of_eq rfl
/-- what such a call reads as -/
def tKS (gV : List V → List V) (sp : Sp) (E : L2.St → XK) (tk : TA) : TE := fun σ H Q => tk σ H fun zs H1 => zs.length = 3 ∧ sp (gV zs) H1 Q (E σ)
/-! ### a call where an error is handled -/
structure CalH (P : Program) (w : World) (K : PySem.W.Frag) (mg : Str → Option Value) (base : Heap) (CX : CXT) (k : Nat) (x : Str) (ps : List Str) (sp : Sp) where
  f : Addr
  fd : FuncData
  ok : L2H.FnH P w K mg base CX k f fd ps sp
  g : mg x = some (.ref f)
  kp : PySem.W.keepIn K (.ref f) = true
  b : Binds K fd ps []
def sp_int_same : Sp := fun vs H Q _ => ∃ i : Int, vs = [.int i, .int i] ∧ Q (.bl true) H
theorem ok_law_sameH (T : Txt mg) (D : Df K mg "_law_same" s_law_same ["_law_told", "_law_due"]) : L2H.FnH P w K mg base CX0 1 D.f D.fd ["_law_told", "_law_due"] sp_int_same := by
  obtain ⟨oc, od, kV, doc, pm, an, cdv, ct, osl, e, lk, hcd⟩ := D.F.ex
  rw [e] at lk ⊢
  refine L2H.fn_ofH lk hcd S_law_same (fun vs H Q E h => ?_) fun A outer s H vs Q E p hot hr h => ?_
  · obtain ⟨i, rfl, _⟩ := h
    rfl
  · obtain ⟨i, rfl, q⟩ := h
    refine ⟨_, (pss_cons (ps_if (pt_val (pe_callB call_isi (by rfl) T.isinstance_ (by decide +kernel) (pa_cons (pv 1) (pa_cons (pe_bltn (v := .ty "tuple") (by rfl) T.tuple_ (by decide +kernel) rfl) pa_nil)))) (pss_cons ps_never (pss_cons ps_never (pss_one ps_never))) pss_nil)
      (pss_one (ps_ret (pe_and (pe_callB call_isi (by rfl) T.isinstance_ (by decide +kernel) (pa_cons (pv 0) (pa_cons (pe_bltn (v := .ty "int") (by rfl) T.int_ (by decide +kernel) rfl) pa_nil))) (pe_and (pe_not (pe_callB call_isi (by rfl) T.isinstance_ (by decide +kernel) (pa_cons (pv 0) (pa_cons (pe_bltn (v := .ty "bool") (by rfl) T.bool_ (by decide +kernel) rfl) pa_nil)))) (pe_one (pe_cmpR op_eq (pv 0) (pv 1) (nomark _)))))))), ?_⟩
    refine ⟨_, rfl, _, .ty "tuple", _, _, false, rfl, .ty "tuple", (Kn.int i).ty, kit_ty (by decide +kernel), false, rfl, ?_⟩
    refine ⟨_, rfl, _, .ty "int", _, _, true, rfl, .ty "int", (Kn.int i).ty, kit_ty (by decide +kernel), true, rfl, ?_⟩
    refine ⟨_, rfl, _, .ty "bool", _, _, false, rfl, .ty "bool", (Kn.int i).ty, kit_ty (by decide +kernel), false, rfl, true, rfl, ?_⟩
    refine ⟨_, rfl, _, rfl, rfl, ?_⟩
    dsimp only
    rw [decV, decide_eq_true rfl]
    exact q
end
end K12


set_option Elab.async false
set_option linter.all false
set_option maxRecDepth 100000
set_option maxHeartbeats 2000000
namespace K12
open PySem PySem.Spec PyProof.Rows L2
section
variable {P : Program} {w : World} {K : PySem.W.Frag} {mg : Str → Option Value} {base : Heap}
/-- isinstance(e, c), e caught, of whatever class: the reading asks that it is of D -/
def rIsC (K : PySem.W.Frag) (D a : Addr) (cls : Value) (d : Option Addr) : List V → Hp → VK → Prop := fun xs H Q => cls = .ref D ∧ rIsD K D a d xs H Q
theorem call_isC {X : Cx} {a D : Addr} {cls : Value} {d : Option Addr} {oe : Obj} {pn : List (Addr × Obj)} (C : ExcC X.K D) (hz : Zc cls d oe) (hf : ∃ vs, oe.data = .fields vs) : CallR (X.suite a ((a, oe) :: pn)) (.builtin "isinstance") (rIsC X.K D a cls d) := by
  intro pins s σ H xs us Q I r h
  obtain ⟨e, h⟩ := h
  subst e
  exact call_isD C hz hf pins s σ H xs us Q I r h
theorem pe_KS {X : Cx} {CX : CXT} {k : Nat} {f : Addr} {fd : FuncData} {ps ks : List Str} {sp : Sp} {E : L2.St → XK} {x : Str} {p pos : Pos} {kws : List Keyword} {tk : TA} {g : List Value → List Value → List Value} {gV : List V → List V}
    (F : FnOk X.prog X.w X.K X.mg X.base CX k f fd ps sp) (hr : Room k X.A) (hg : Gl X x) (hm : X.mg x = some (.ref f)) (hk : PySem.W.keepIn X.K (.ref f) = true) (hb : KBn X.K fd ps 0 ks g (fun _ zs => gV zs)) (h3 : ks.length = 3) (hx : ∀ σ, PassesAt CX X σ (E σ)) (hkw : PK X kws tk)
    (hall : (backToKw pos (keywordEach kws X.env)).all (·.1.isSome) = true := by rfl) (hks : (backToKw pos (keywordEach kws X.env)).filterMap (·.1) = ks := by rfl) (hdb : (x == ("__debug__" : Str)) = false := by decide)
    (hpl : ((backTo pos (starEach [] X.env)).any (·.1) || (backToKw pos (keywordEach kws X.env)).any (·.1.isNone)) = false := by rfl) :
    PE X (.Call (.Name x p) [] kws pos) (tKS gV sp E tk) := by
  have h := pe_callKS (p := p) (pos := pos) F hr hg hm hk hb hx hkw hall hks hdb hpl
  rw [h3] at h
  exact h
abbrev tIsC (K : PySem.W.Frag) (C a : Addr) (cls : Value) (d : Option Addr) (c : V) : TE := tCB (rIsC K C a cls d) (tCons (tVar 4) (tCons (tC c) tNil))
def t_try (C : Addr) (W : WX) : TS := tIfS (tTest (tOp rEq (tVar 3) (tC (.int 0)))) (tDrop (tCallS (sp_rooms true C) (WE W) (tCons (tVar 0) (tCons (tVar 1) (tCons (tVar 2) tNil)))))
  (tIfS (tTest (tOp rEq (tVar 3) (tC (.int 1)))) (tDrop (tCallS (sp_rooms false C) (WE W) (tCons (tVar 0) (tCons (tVar 1) (tCons (tVar 2) tNil)))))
  (tIfS (tTest (tOp rEq (tVar 3) (tC (.int 2)))) (tDrop (tKS permA (sp_rooms true C) (WE W) (tCons (tVar 2) (tCons (tVar 0) (tCons (tVar 1) tNil)))))
    (tDrop (tKS permB (sp_rooms false C) (WE W) (tCons (tVar 1) (tCons (tVar 2) (tCons (tVar 0) tNil)))))))
def t_suite (K : PySem.W.Frag) (C CL CR a : Addr) (cls : Value) (d : Option Addr) : TS :=
  tSeq (tIfS (tOr (tNot (tB (tIsC K C a cls d (.ref C)))) (tOr (tNot (tB (tIsC K C a cls d (.ref CL)))) (tNot (tB (tIsC K C a cls d (.ty "ValueError")))))) (tRet (tC (.bl false))) tNext)
  (tSeq (tIfS (tOr (tB (tIsC K C a cls d (.ref CR))) (tOr (tNot (tB (tCB (rIsi K) (tCons (tXf a cls d C "word" (tVar 4)) (tCons (tC (.ty "str")) tNil))))) (tTest (tOp rNe (tXf a cls d C "word" (tVar 4)) (tC (.str "lot")))))) (tRet (tC (.bl false))) tNext)
  (tRet (tCallS sp_int_same (fun _ => E0) (tCons (tXf a cls d C "at" (tVar 4)) (tCons (tUn (rU fun i => V.int (-i)) (tC (.int 1))) tNil)))))
def sp_law_refused : Sp := fun vs H Q _ => ∃ (L S : Addr) (v : V) (by_ : Int) (ws hs : List V), vs = [.ref L, .ref S, v, .int by_] ∧ ListsAt H L ws hs ∧ BadLot H v ws.length hs.length ∧ ∀ H', Same H H' → Q (.bl true) H'
theorem ok_law_refused (T : Txt mg) (N : ExcN K mg) (D : Df K mg "_law_refused" s_law_refused ["_law_rows", "_law_store", "_law_load", "_law_by"])
    (c_rooms_by_heights : Cal P w K mg base (CXN P w) 7 "rooms_by_heights" ["lists", "stock", "lot"] (sp_rooms true N.C)) (c_rooms_by_widths : Cal P w K mg base (CXN P w) 7 "rooms_by_widths" ["lists", "stock", "lot"] (sp_rooms false N.C))
    (kA : KbA K c_rooms_by_heights.fd) (kB : KbB K c_rooms_by_widths.fd) (cH : CalH P w K mg base CX0 1 "_law_same" ["_law_told", "_law_due"] sp_int_same) :
    FnOk P w K mg base CX0 8 D.f D.fd ["_law_rows", "_law_store", "_law_load", "_law_by"] sp_law_refused := by
  refine D.F.ok S_law_refused (fun vs H Q E h => ?_) (fun cdv A outer s H vs Q E hr h => ?_)
  · obtain ⟨L, S, v, by_, ws, hs, rfl, _⟩ := h
    rfl
  · obtain ⟨L, S, v, by_, ws, hs, rfl, hL, hB, k⟩ := h
    refine ⟨_, pss_cons (L2N.ps_try_as (i := 4) (tb := t_try N.C) (ts := t_suite K N.C N.CL N.CR) (Wout := fun _ _ _ _ => False) rfl rfl S_law_refused.nd rfl rfl ⟨rfl, by decide, Or.inl N.gS⟩ takesN ?hb ?hsu) (pss_one (ps_ret pe_bl)), ?_⟩
    case hb =>
      intro W pn xe tk _
      exact pss_one (ps_if (pt_cmpR op_eq (pv 3) pe_int (nomark _))
        (pss_one (ps_expr (pe_callS c_rooms_by_heights.ok hr rfl c_rooms_by_heights.g c_rooms_by_heights.kp c_rooms_by_heights.b (fun σ => L2N.passAt tk σ) (by exact (pa_cons (pv 0) (pa_cons (pv 1) (pa_cons (pv 2) pa_nil)))))))
        (pss_one (ps_if (pt_cmpR op_eq (pv 3) pe_int (nomark _))
          (pss_one (ps_expr (pe_callS c_rooms_by_widths.ok hr rfl c_rooms_by_widths.g c_rooms_by_widths.kp c_rooms_by_widths.b (fun σ => L2N.passAt tk σ) (by exact (pa_cons (pv 0) (pa_cons (pv 1) (pa_cons (pv 2) pa_nil)))))))
          (pss_one (ps_if (pt_cmpR op_eq (pv 3) pe_int (nomark _))
            (pss_one (ps_expr (pe_KS c_rooms_by_heights.ok hr rfl c_rooms_by_heights.g c_rooms_by_heights.kp kA rfl (fun σ => L2N.passAt tk σ) (by exact (pk_cons (pv 2) (pk_cons (pv 0) (pk_cons (pv 1) pk_nil)))))))
            (pss_one (ps_expr (pe_KS c_rooms_by_widths.ok hr rfl c_rooms_by_widths.g c_rooms_by_widths.kp kB rfl (fun σ => L2N.passAt tk σ) (by exact (pk_cons (pv 1) (pk_cons (pv 2) (pk_cons (pv 0) pk_nil))))))))))))
    case hsu =>
      intro a oe cls d pn hz hf
      obtain ⟨vs, hvs⟩ := id hf
      have rh := (L2H.roomH_of hr).mono (show 1 ≤ 7 by decide)
      refine pss_cons (ps_if (PW.pt (pw_or (pt_not (pt_val ?i1)) (pw_or (pt_not (pt_val ?i2)) (pw_or1 (pt_not (pt_val ?i3)))))) (pss_one (ps_ret pe_bl)) pss_nil)
        (pss_cons (ps_if (PW.pt (pw_or (pt_val ?i4) (pw_or (pt_not (pt_val ?i5)) (pw_or1 (pt_cmpR op_ne (pe_xf N.X N.nW hz.zc hf (pv 4)) pe_str (nomark _)))))) (pss_one (ps_ret pe_bl)) pss_nil)
        (pss_one (ps_ret ?i6)))
      case i1 => exact pe_callB (call_isC N.E hz.zc hf) rfl T.isinstance_ (by decide +kernel) (pa_cons (pv 4) (pa_cons (pe_glob (v := .ref N.C) rfl N.gN rfl) pa_nil))
      case i2 => exact pe_callB (call_isC N.E hz.zc hf) rfl T.isinstance_ (by decide +kernel) (pa_cons (pv 4) (pa_cons (pe_glob (v := .ref N.CL) rfl N.gL rfl) pa_nil))
      case i3 => exact pe_callB (call_isC N.E hz.zc hf) rfl T.isinstance_ (by decide +kernel) (pa_cons (pv 4) (pa_cons (pe_bltn (v := .ty "ValueError") rfl T.ValueError_ (by decide +kernel) rfl) pa_nil))
      case i4 => exact pe_callB (call_isC N.E hz.zc hf) rfl T.isinstance_ (by decide +kernel) (pa_cons (pv 4) (pa_cons (pe_glob (v := .ref N.CR) rfl N.gR rfl) pa_nil))
      case i5 => exact pe_callB call_isi rfl T.isinstance_ (by decide +kernel) (pa_cons (pe_xf N.X N.nW hz.zc hf (pv 4)) (pa_cons (pe_bltn (v := .ty "str") rfl T.str_ (by decide +kernel) rfl) pa_nil))
      case i6 => exact L2H.pe_callH cH.ok ⟨rh.dp, rh.un⟩ ⟨(a, oe), ⟨rfl, vs, hvs, hz.2.2 vs hvs⟩, List.mem_cons_self⟩ rfl cH.g cH.kp cH.b (fun σ pins H s e s' I h => h.elim) (pa_cons (pe_xf N.X N.nA hz.zc hf (pv 4)) (pa_cons (pe_un un_neg pe_int) pa_nil))
    have caught : ∀ (Dn : Ends) (H' : Hp) (d : Addr) (σ : L2.St), (∀ H', Same H H' → Dn.rt (.bl true) H') → σ = [some (.ref L), some (.ref S), some v, some (.int by_), none] → Same H H' → H' d = some (.xd [("at", .int (-1)), ("word", .str "lot")]) →
        wAs K (.ref N.CS) 4 (t_suite K N.C N.CL N.CR) (fun _ _ _ _ => False) Dn (.ref N.C) (some d) σ H' := by
      rintro Dn H' d σ hD rfl s' hd
      refine ⟨true, N.ex, fun _ a na => ?_, fun z => by cases z⟩
      refine ⟨_, rfl, rfl, .ref N.C, _, true, d, _, rfl, .own _, N.kN, rfl, hd, _, rfl, ?_⟩
      refine ⟨_, rfl, rfl, .ref N.CL, _, true, d, _, rfl, .own _, N.kL, rfl, hd, _, rfl, ?_⟩
      refine ⟨_, rfl, rfl, .ty "ValueError", _, true, d, _, rfl, .ty _, N.kV, rfl, hd, _, rfl, ?_⟩
      refine ⟨_, rfl, rfl, .ref N.CR, _, false, d, _, rfl, .own _, N.kR, rfl, hd, _, rfl, ?_⟩
      refine ⟨_, rfl, rfl, rfl, d, _, .str "lot", rfl, hd, (by decide +kernel), _, .ty "str", _, _, true, rfl, .ty "str", (Kn.str _).ty, kit_ty (by decide +kernel), _, rfl, ?_⟩
      refine ⟨_, rfl, rfl, rfl, d, _, .str "lot", rfl, hd, (by decide +kernel), rfl, _, rfl, ite2 (fun e => absurd e (by decide +kernel)) (fun _ => ?_)⟩
      exact ⟨_, rfl, rfl, rfl, d, _, .int (-1), rfl, hd, (by decide +kernel), _, rfl, -1, rfl, hD H' s'⟩
    refine ⟨_, rfl, rfl, _, rfl, ite2 (fun _ => ?_) (fun _ => ?_)⟩
    · exact ⟨_, rfl, _, rfl, _, rfl, L, S, v, rfl, .inr ⟨ws, hs, hL, hB, fun H' d s' hd => caught _ H' d _ (fun H' s => k H' s) rfl s' hd⟩⟩
    refine ⟨_, rfl, rfl, _, rfl, ite2 (fun _ => ?_) (fun _ => ?_)⟩
    · exact ⟨_, rfl, _, rfl, _, rfl, L, S, v, rfl, .inr ⟨ws, hs, hL, hB, fun H' d s' hd => caught _ H' d _ (fun H' s => k H' s) rfl s' hd⟩⟩
    refine ⟨_, rfl, rfl, _, rfl, ite2 (fun _ => ?_) (fun _ => ?_)⟩
    · exact ⟨_, rfl, _, rfl, _, rfl, rfl, L, S, v, rfl, .inr ⟨ws, hs, hL, hB, fun H' d s' hd => caught _ H' d _ (fun H' s => k H' s) rfl s' hd⟩⟩
    · exact ⟨_, rfl, _, rfl, _, rfl, rfl, L, S, v, rfl, .inr ⟨ws, hs, hL, hB, fun H' d s' hd => caught _ H' d _ (fun H' s => k H' s) rfl s' hd⟩⟩
end
end K12


set_option Elab.async false
set_option linter.all false
set_option maxRecDepth 100000
set_option maxHeartbeats 2000000
namespace K12
open PySem PySem.Spec PyProof.Rows L2
theorem SmX.kp {H H' : Hp} {fd l : Addr} {ns : List Int} (f : FeedAt H fd l ns) (s : SmX fd H H') : Keeps H H' := SmX.keeps (H0 := H) f s
theorem RowsAt.keep {H H' : Hp} {S : Addr} {ts : List (Int × Int × Int)} {vs : List V} (h : RowsAt H S ts vs) (k : Keeps H H') : RowsAt H' S ts vs :=
  ⟨k _ _ h.at_, h.len, fun i t ht => let ⟨a, h1, h2⟩ := h.item i t ht; ⟨a, h1, k _ _ h2⟩⟩
theorem StockAt.keep {H H' : Hp} {S : Addr} {st : List Tri} (h : StockAt H S st) (k : Keeps H H') : StockAt H' S st := let ⟨vs, r⟩ := h; ⟨vs, r.keep k⟩
theorem LotAt.keep {H H' : Hp} {M : Addr} {ld : List Ent} (h : LotAt H M ld) (k : Keeps H H') : LotAt H' M ld := let ⟨vs, r⟩ := h; ⟨vs, r.keep k⟩
/-- .. and the lists stay lists -/
def KeepL (H H' : Hp) : Prop := Keeps H H' ∧ ∀ (b : Addr) (xs : List V), H b = some (.lst xs) → ∃ ys, H' b = some (.lst ys)
theorem KeepL.off {H H' : Hp} {fd l : Addr} {ns : List Int} (f : FeedAt H fd l ns) (f' : FeedAt H' fd l ns) (o : Off fd H H') : KeepL H H' := by
  refine ⟨SmX.kp f o.smx, fun b xs e => ?_⟩
  by_cases z : b = fd
  · obtain ⟨_, _, _, h1, _⟩ := f'
    exact ⟨_, z ▸ h1⟩
  · exact ⟨xs, (o b z).trans e⟩
theorem KeepL.same {H H' : Hp} (s : Same H H') : KeepL H H' := ⟨Keeps.of s, fun b xs e => ⟨xs, s b _ e⟩⟩
theorem KeepL.trans {H H1 H2 : Hp} (a : KeepL H H1) (b : KeepL H1 H2) : KeepL H H2 := ⟨a.1.trans b.1, fun c xs e => let ⟨_, h⟩ := a.2 c xs e; b.2 c _ h⟩
theorem Kn.keep {H H' : Hp} {v : V} {s : String} (k : Kn H v s) (e : KeepL H H') : Kn H' v s := by
  cases k with
  | non => exact .non
  | bl b => exact .bl b
  | int i => exact .int i
  | str x => exact .str x
  | lst h => obtain ⟨ys, h'⟩ := e.2 _ _ h; exact .lst h'
  | tup h => exact .tup (e.1 _ _ h)
theorem EnV.keep {H H' : Hp} {v : V} {o : Option (List V)} (h : EnV H v o) (e : KeepL H H') : EnV H' v o := by
  cases h with
  | tup h k => exact .tup (e.1 _ _ h) fun x hx => let ⟨s, z⟩ := k x hx; ⟨s, z.keep e⟩
  | oth k n => exact .oth (k.keep e) n
theorem BadLot.keep {H H' : Hp} {v : V} {p q : Nat} (h : BadLot H v p q) (e : KeepL H H') : BadLot H' v p q := by
  rcases h with ⟨s, k, n⟩ | ⟨t, es, ds, h1, h2, h3, h4, h5⟩
  · exact .inl ⟨s, k.keep e, n⟩
  · exact .inr ⟨t, es, ds, h1, e.1 _ _ h2, h3, fun i x d hx hd => (h4 i x d hx hd).keep e, h5⟩
section
variable {P : Program} {w : World} {K : PySem.W.Frag} {mg : Str → Option Value} {base : Heap}
def spLaw (K : PySem.W.Frag) : Sp := fun vs H Q _ => ∃ (a : Addr) (ns : List Int), vs = [.ref a] ∧ SqL K H a (ns.map V.int) ∧ ∀ H', Q (.bl true) H'
theorem ok_law (T : Txt mg) (N : ExcN K mg) (D : Df K mg "law" slaw ["_law_script"]) (c__law_begin : Cal P w K mg base CX0 1 "_law_begin" ["_law_script"] (sp_law_begin (K := K))) (c__law_take : Cal P w K mg base CX0 1 "_law_take" ["_law_feed", "_law_many"] sp_law_take)
    (c__law_make_row : Cal P w K mg base CX0 2 "_law_make_row" ["_law_feed", "_law_great"] sp_law_make_row) (c__law_make_store : Cal P w K mg base CX0 3 "_law_make_store" ["_law_feed", "_law_rows", "_law_great"] sp_law_make_store)
    (c__law_make_load : Cal P w K mg base CX0 2 "_law_make_load" ["_law_feed", "_law_rows", "_law_store"] sp_law_make_load) (c__law_asked : Cal P w K mg base CX0 8 "_law_asked" ["_law_rows", "_law_store", "_law_load"] sp_law_asked)
    (c__law_hand : Cal P w K mg base CX0 1 "_law_hand" ["_law_number"] sp_law_hand) (c__law_same : Cal P w K mg base CX0 5 "_law_same" ["_law_told", "_law_due"] (sp_law_same 4)) (c__law_turn : Cal P w K mg base CX0 1 "_law_turn" ["_law_rows", "_law_store", "_law_load"] sp_law_turn)
    (c__law_own_rooms : Cal P w K mg base CX0 3 "_law_own_rooms" ["_law_rows", "_law_store", "_law_load"] sp_law_own_rooms) (c__law_bad : Cal P w K mg base CX0 1 "_law_bad" ["_law_number", "_law_p", "_law_q"] sp_law_bad)
    (c__law_refused : Cal P w K mg base CX0 8 "_law_refused" ["_law_rows", "_law_store", "_law_load", "_law_by"] sp_law_refused)
    (c_rooms_by_heights : Cal P w K mg base (CXN P w) 7 "rooms_by_heights" ["lists", "stock", "lot"] (sp_rooms true N.C)) (c_rooms_by_widths : Cal P w K mg base (CXN P w) 7 "rooms_by_widths" ["lists", "stock", "lot"] (sp_rooms false N.C))
    (kA : KbA K c_rooms_by_heights.fd) (kB : KbB K c_rooms_by_widths.fd) :
    FnOk P w K mg base CX0 9 D.f D.fd ["_law_script"] (spLaw K) := by
  refine D.F.ok Slaw (fun vs H Q E h => ?_) (fun cdv A outer s H vs Q E hr h => ?_)
  · obtain ⟨a, ns, rfl, _⟩ := h
    rfl
  · obtain ⟨a, ns, rfl, ha, k⟩ := h
    refine ⟨_, (pss_cons (ps_set (i := 1) Slaw.nd rfl (Or.inl rfl) (pe_call c__law_begin.ok (hr.mono (by decide)) (by rfl) c__law_begin.g c__law_begin.kp c__law_begin.b .nil pass0 (pa_cons (pv 0) pa_nil)))
      (pss_cons (ps_set (i := 2) Slaw.nd rfl (Or.inl rfl) (pe_cmpR op_eq (pe_call c__law_take.ok (hr.mono (by decide)) (by rfl) c__law_take.g c__law_take.kp c__law_take.b .nil pass0 (pa_cons (pv 1) (pa_cons pe_int pa_nil))) pe_int (nomark _)))
      (pss_cons (ps_set (i := 3) Slaw.nd rfl (Or.inl rfl) (pe_tup (pa_cons (pe_call c__law_make_row.ok (hr.mono (by decide)) (by rfl) c__law_make_row.g c__law_make_row.kp c__law_make_row.b .nil pass0 (pa_cons (pv 1) (pa_cons (pv 2) pa_nil))) (pa_cons (pe_call c__law_make_row.ok (hr.mono (by decide)) (by rfl) c__law_make_row.g c__law_make_row.kp c__law_make_row.b .nil pass0 (pa_cons (pv 1) (pa_cons (pv 2) pa_nil))) pa_nil))))
      (pss_cons (ps_set (i := 4) Slaw.nd rfl (Or.inl rfl) (pe_call c__law_make_store.ok (hr.mono (by decide)) (by rfl) c__law_make_store.g c__law_make_store.kp c__law_make_store.b .nil pass0 (pa_cons (pv 1) (pa_cons (pv 3) (pa_cons (pv 2) pa_nil)))))
      (pss_cons (ps_set (i := 5) Slaw.nd rfl (Or.inl rfl) (pe_call c__law_make_load.ok (hr.mono (by decide)) (by rfl) c__law_make_load.g c__law_make_load.kp c__law_make_load.b .nil pass0 (pa_cons (pv 1) (pa_cons (pv 3) (pa_cons (pv 4) pa_nil)))))
      (pss_cons (ps_if (pt_not (pt_val (pe_call c__law_asked.ok (hr.mono (by decide)) (by rfl) c__law_asked.g c__law_asked.kp c__law_asked.b .nil pass0 (pa_cons (pv 3) (pa_cons (pv 4) (pa_cons (pv 5) pa_nil)))))) (pss_one (ps_ret pe_bl)) pss_nil)
      (pss_cons (ps_set (i := 6) Slaw.nd rfl (Or.inl rfl) (pe_call c__law_hand.ok (hr.mono (by decide)) (by rfl) c__law_hand.g c__law_hand.kp c__law_hand.b .nil pass0 (pa_cons (pe_call c__law_take.ok (hr.mono (by decide)) (by rfl) c__law_take.g c__law_take.kp c__law_take.b .nil pass0 (pa_cons (pv 1) (pa_cons pe_int pa_nil))) pa_nil)))
      (pss_cons (ps_if (pt_not (pt_val (pe_call c__law_same.ok (hr.mono (by decide)) (by rfl) c__law_same.g c__law_same.kp c__law_same.b .nil pass0 (pa_cons (pe_call c_rooms_by_heights.ok (hr.mono (by decide)) (by rfl) c_rooms_by_heights.g c_rooms_by_heights.kp c_rooms_by_heights.b .nil passN (pa_cons (pe_ix ix_tup (pv 6) pe_int (fun _ _ => rfl)) (pa_cons (pe_ix ix_tup (pv 6) pe_int (fun _ _ => rfl)) (pa_cons (pe_ix ix_tup (pv 6) pe_int (fun _ _ => rfl)) pa_nil)))) (pa_cons (pe_ix ix_tup (pv 6) pe_int (fun _ _ => rfl)) pa_nil))))) (pss_one (ps_ret pe_bl)) pss_nil)
      (pss_cons (ps_if (pt_not (pt_val (pe_call c__law_same.ok (hr.mono (by decide)) (by rfl) c__law_same.g c__law_same.kp c__law_same.b .nil pass0 (pa_cons (pe_call c_rooms_by_widths.ok (hr.mono (by decide)) (by rfl) c_rooms_by_widths.g c_rooms_by_widths.kp c_rooms_by_widths.b .nil passN (pa_cons (pe_ix ix_tup (pv 6) pe_int (fun _ _ => rfl)) (pa_cons (pe_ix ix_tup (pv 6) pe_int (fun _ _ => rfl)) (pa_cons (pe_ix ix_tup (pv 6) pe_int (fun _ _ => rfl)) pa_nil)))) (pa_cons (pe_ix ix_tup (pv 6) pe_int (fun _ _ => rfl)) pa_nil))))) (pss_one (ps_ret pe_bl)) pss_nil)
      (pss_cons (ps_set (i := 7) Slaw.nd rfl (Or.inl rfl) (pe_call c__law_turn.ok (hr.mono (by decide)) (by rfl) c__law_turn.g c__law_turn.kp c__law_turn.b .nil pass0 (pa_cons (pv 3) (pa_cons (pv 4) (pa_cons (pv 5) pa_nil)))))
      (pss_cons (ps_set (i := 8) Slaw.nd rfl (Or.inl rfl) (pe_KS (E := fun _ => E0) c_rooms_by_heights.ok (hr.mono (by decide)) (by rfl) c_rooms_by_heights.g c_rooms_by_heights.kp kA rfl (fun σ pins H s e s' I h => passN pins σ H s e s' I h) (pk_cons (pv 5) (pk_cons (pv 3) (pk_cons (pv 4) pk_nil)))))
      (pss_cons (ps_if (pt_not (pt_val (pe_call c__law_same.ok (hr.mono (by decide)) (by rfl) c__law_same.g c__law_same.kp c__law_same.b .nil pass0 (pa_cons (pv 8) (pa_cons (pe_call c__law_own_rooms.ok (hr.mono (by decide)) (by rfl) c__law_own_rooms.g c__law_own_rooms.kp c__law_own_rooms.b .nil pass0 (pa_cons (pv 3) (pa_cons (pv 4) (pa_cons (pv 5) pa_nil)))) pa_nil))))) (pss_one (ps_ret pe_bl)) pss_nil)
      (pss_cons (ps_set (i := 8) Slaw.nd rfl (Or.inl rfl) (pe_KS (E := fun _ => E0) c_rooms_by_widths.ok (hr.mono (by decide)) (by rfl) c_rooms_by_widths.g c_rooms_by_widths.kp kB rfl (fun σ pins H s e s' I h => passN pins σ H s e s' I h) (pk_cons (pv 4) (pk_cons (pv 5) (pk_cons (pv 3) pk_nil)))))
      (pss_cons (ps_if (pt_not (pt_val (pe_call c__law_same.ok (hr.mono (by decide)) (by rfl) c__law_same.g c__law_same.kp c__law_same.b .nil pass0 (pa_cons (pv 8) (pa_cons (pe_call c__law_own_rooms.ok (hr.mono (by decide)) (by rfl) c__law_own_rooms.g c__law_own_rooms.kp c__law_own_rooms.b .nil pass0 (pa_cons (pe_ix ix_tup (pv 7) pe_int (fun _ _ => rfl)) (pa_cons (pe_ix ix_tup (pv 7) pe_int (fun _ _ => rfl)) (pa_cons (pe_ix ix_tup (pv 7) pe_int (fun _ _ => rfl)) pa_nil)))) pa_nil))))) (pss_one (ps_ret pe_bl)) pss_nil)
      (pss_cons (ps_set (i := 9) Slaw.nd rfl (Or.inl rfl) (pe_call c__law_bad.ok (hr.mono (by decide)) (by rfl) c__law_bad.g c__law_bad.kp c__law_bad.b .nil pass0 (pa_cons (pe_call c__law_take.ok (hr.mono (by decide)) (by rfl) c__law_take.g c__law_take.kp c__law_take.b .nil pass0 (pa_cons (pv 1) (pa_cons pe_int pa_nil))) (pa_cons (pe_callB call_len_seq (by rfl) T.len_ (by decide +kernel) (pa_cons (pe_ix ix_tup (pv 3) pe_int (fun _ _ => rfl)) pa_nil)) (pa_cons (pe_callB call_len_seq (by rfl) T.len_ (by decide +kernel) (pa_cons (pe_ix ix_tup (pv 3) pe_int (fun _ _ => rfl)) pa_nil)) pa_nil)))))
      (pss_one (ps_ret (pe_and (pe_call c__law_refused.ok (hr.mono (by decide)) (by rfl) c__law_refused.g c__law_refused.kp c__law_refused.b .nil pass0 (pa_cons (pv 3) (pa_cons (pv 4) (pa_cons (pv 9) (pa_cons (pe_call c__law_take.ok (hr.mono (by decide)) (by rfl) c__law_take.g c__law_take.kp c__law_take.b .nil pass0 (pa_cons (pv 1) (pa_cons pe_int pa_nil))) pa_nil))))) (pe_one (pe_call c__law_refused.ok (hr.mono (by decide)) (by rfl) c__law_refused.g c__law_refused.kp c__law_refused.b .nil pass0 (pa_cons (pv 3) (pa_cons (pv 4) (pa_cons (pv 9) (pa_cons (pe_call c__law_take.ok (hr.mono (by decide)) (by rfl) c__law_take.g c__law_take.kp c__law_take.b .nil pass0 (pa_cons (pv 1) (pa_cons pe_int pa_nil))) pa_nil)))))))))))))))))))))))), ?_⟩
    refine ⟨_, rfl, a, ns, rfl, ha, fun H1 fd l s1 n1 n2 f1 => ?_⟩
    refine ⟨_, rfl, fd, l, ns, 3, rfl, f1, by decide, fun H2 r o2 f2 d2 => ⟨rfl, ?_⟩⟩
    dsimp only
    generalize decide (V.int r = V.int 2) = great
    refine ⟨_, rfl, _, rfl, fd, l, ns, great, rfl, f2, fun H3 t p wf s3 f3 ht htf R => ?_⟩
    refine ⟨_, rfl, _, rfl, fd, l, ns, great, rfl, f3, fun H4 t2 q hf s4 f4 ht2 ht2f T' => ?_⟩
    refine ⟨(show 2 ≤ sizeLine by decide), fun L nL => ?_⟩
    have s5 : Same H4 (upd H4 L (.tup [.ref t, .ref t2])) := Same.new nL
    have hL : ListsAt (upd H4 L (.tup [.ref t, .ref t2])) L (tab p wf) (tab q hf) := ⟨t, t2, upd_same, s5 _ _ (SmX.kp f3 s4 _ _ ht), s5 _ _ ht2⟩
    have f5 := f4.same s5
    generalize upd H4 L (.tup [.ref t, .ref t2]) = H5 at s5 hL f5 ⊢
    refine ⟨_, rfl, _, rfl, _, rfl, fd, l, L, ns, p, q, wf, hf, great, rfl, f5, hL, R, T', fun H6 S st s6 f6 hS iS n4 => ?_⟩
    have hL6 := hL.keep (SmX.kp f5 s6)
    refine ⟨_, rfl, _, rfl, _, rfl, fd, l, L, S, ns, p, q, wf, hf, st, rfl, f6, hL6, R, T', hS, iS, n4, fun H7 M ld s7 f7 hM iL as nl => ?_⟩
    have k67 := SmX.kp f6 s7
    have hL7 := hL6.keep k67
    have hS7 := hS.keep k67
    have l1 : st.length ≤ 1000 := by omega
    have l2 : ld.length ≤ 1000 := by omega
    refine ⟨_, rfl, _, rfl, _, rfl, L, S, M, p, q, wf, hf, st, ld, rfl, hL7, R, T', hS7, iS, hM, iL, as, l1, l2, fun H8 s8 => ⟨_, rfl, ?_⟩⟩
    have f8 := f7.same s8
    -- by hand
    refine ⟨_, rfl, fd, l, ns, 4, rfl, f8, by decide, fun H9 r9 o9 f9 d9 => ?_⟩
    obtain ⟨j, hj, rfl⟩ := Drawn.nat (n := 4) d9 (by decide)
    have k79 : Keeps H7 H9 := (Keeps.of s8).trans (SmX.kp f8 o9.smx)
    refine ⟨j, rfl, hj, fun H10 hv s10 hsc => ?_⟩
    obtain ⟨t0, L0, S0, M0, u1, u2, p0, q0, wf0, hf0, st0, ld0, rfl, ht0, hL0, R0, T0, hS0, iS0, hM0, iL0, as0, g1, g2⟩ := hsc
    refine ⟨_, rfl, t0, _, 0, _, rfl, rfl, SqT.of ht0, atI_nat (j := 0) rfl, _, rfl, t0, _, 1, _, rfl, rfl, SqT.of ht0, atI_nat (j := 1) rfl, _, rfl, t0, _, 2, _, rfl, rfl, SqT.of ht0, atI_nat (j := 2) rfl,
      L0, S0, _, rfl, .inl ⟨M0, p0, q0, wf0, hf0, st0, ld0, rfl, hL0, R0, T0, hS0, iS0, hM0, iL0, as0, fun H11 v11 s11 hv11 => ?_⟩⟩
    have hv11 : RoomsL H11 v11 p0 q0 wf0 hf0 st0 ld0 := hv11
    refine ⟨_, rfl, t0, _, 3, _, rfl, rfl, SqT.of (s11 _ _ ht0), atI_nat (j := 3) rfl, v11, u1, rfl, hv11.eqD (g1.same s11), fun H12 s12 => ⟨_, rfl, ?_⟩⟩
    have s1012 := s11.trans s12
    have ht12 := s1012 _ _ ht0
    refine ⟨_, rfl, t0, _, 0, _, rfl, rfl, SqT.of ht12, atI_nat (j := 0) rfl, _, rfl, t0, _, 1, _, rfl, rfl, SqT.of ht12, atI_nat (j := 1) rfl, _, rfl, t0, _, 2, _, rfl, rfl, SqT.of ht12, atI_nat (j := 2) rfl,
      L0, S0, _, rfl, .inl ⟨M0, p0, q0, wf0, hf0, st0, ld0, rfl, hL0.same s1012, R0, T0, hS0.same s1012, iS0, hM0.same s1012, iL0, as0, fun H13 v13 s13 hv13 => ?_⟩⟩
    have hv13 : RoomsL H13 v13 q0 p0 hf0 wf0 (turnS st0) (turnL ld0) := hv13
    refine ⟨_, rfl, t0, _, 4, _, rfl, rfl, SqT.of (s13 _ _ ht12), atI_nat (j := 4) rfl, v13, u2, rfl, hv13.eqD (g2.same (s1012.trans s13)), fun H14 s14 => ⟨_, rfl, ?_⟩⟩
    have s914 := s10.trans (s1012.trans (s13.trans s14))
    have k714 := k79.trans (Keeps.of s914)
    have f14 := f9.same s914
    have hL14 := hL7.keep k714
    have hS14 := hS7.keep k714
    have hM14 := hM.keep k714
    -- once more, by keywords
    refine ⟨_, rfl, _, rfl, _, rfl, L, S, M, _, _, st, ld, rfl, hL14, hS14, hM14, l1, l2, fun H15 tt L' S' M' s15 htt hL' hS' hM' => ?_⟩
    have l1' : (turnS st).length ≤ 1000 := by unfold turnS; rw [List.length_map]; exact l1
    have l2' : (turnL ld).length ≤ 1000 := by unfold turnL; rw [List.length_map]; exact l2
    refine ⟨_, rfl, _, rfl, _, rfl, rfl, L, S, _, rfl, .inl ⟨M, p, q, wf, hf, st, ld, rfl, hL14.same s15, R, T', hS14.same s15, iS, hM14.same s15, iL, as, fun H16 v16 s16 hv16 => ?_⟩⟩
    have hv16 : RoomsL H16 v16 p q wf hf st ld := hv16
    have s1416 := s15.trans s16
    refine ⟨_, rfl, _, rfl, _, rfl, _, rfl, L, S, M, p, q, wf, hf, st, ld, rfl, hL14.same s1416, R, T', hS14.same s1416, iS, hM14.same s1416, iL, l1, l2, fun H17 v17 s17 hv17 => ?_⟩
    refine ⟨v16, v17, rfl, (hv16.same s17).eqD hv17, fun H18 s18 => ⟨_, rfl, ?_⟩⟩
    have s1418 := s1416.trans (s17.trans s18)
    refine ⟨_, rfl, _, rfl, _, rfl, rfl, L, S, _, rfl, .inl ⟨M, p, q, wf, hf, st, ld, rfl, hL14.same s1418, R, T', hS14.same s1418, iS, hM14.same s1418, iL, as, fun H19 v19 s19 hv19 => ?_⟩⟩
    have hv19 : RoomsL H19 v19 q p hf wf (turnS st) (turnL ld) := hv19
    have s1519 := s16.trans (s17.trans (s18.trans s19))
    have htt19 := s1519 _ _ htt
    refine ⟨_, rfl, _, rfl, tt, _, 0, _, rfl, rfl, SqT.of htt19, atI_nat (j := 0) rfl, _, rfl, tt, _, 1, _, rfl, rfl, SqT.of htt19, atI_nat (j := 1) rfl, _, rfl, tt, _, 2, _, rfl, rfl, SqT.of htt19, atI_nat (j := 2) rfl,
      L', S', M', q, p, hf, wf, turnS st, turnL ld, rfl, hL'.same s1519, T', R, hS'.same s1519, iS.turn, hM'.same s1519, iL.turn, l1', l2', fun H20 v20 s20 hv20 => ?_⟩
    refine ⟨v19, v20, rfl, (hv19.same s20).eqD hv20, fun H21 s21 => ⟨_, rfl, ?_⟩⟩
    have s1421 := s15.trans (s1519.trans (s20.trans s21))
    have f21 := f14.same s1421
    -- a bad lot
    refine ⟨_, rfl, fd, l, ns, 19, rfl, f21, by decide, fun H22 r22 o22 f22 d22 => ?_⟩
    obtain ⟨jb, hjb, rfl⟩ := Drawn.nat (n := 19) d22 (by decide)
    have hL22 := (hL14.same s1421).keep (SmX.kp f21 o22.smx)
    obtain ⟨lw, lh, b1, b2, b3⟩ := id hL22
    refine ⟨_, rfl, L, _, 0, _, rfl, rfl, SqT.of b1, atI_nat (j := 0) rfl, lw, _, rfl, .inr (SqT.of b2), _, rfl, L, _, 1, _, rfl, rfl, SqT.of b1, atI_nat (j := 1) rfl, lh, _, rfl, .inr (SqT.of b3),
      jb, (tab p wf).length, (tab q hf).length, rfl, hjb, by rw [tab_len]; exact R.pos, by rw [tab_len]; exact T'.pos, fun H23 bv s23 hbad => ?_⟩
    have f23 := f22.same s23
    have hL23 := hL22.same s23
    refine ⟨_, rfl, _, rfl, _, rfl, _, rfl, fd, l, ns, 4, rfl, f23, by decide, fun H24 r24 o24 f24 d24 => ?_⟩
    have k24 := KeepL.off f23 f24 o24
    refine ⟨L, S, bv, r24, _, _, rfl, hL23.keep k24.1, hbad.keep k24, fun H25 s25 => ⟨_, rfl, ?_⟩⟩
    have k25 := k24.trans (KeepL.same s25)
    have f25 := f24.same s25
    refine ⟨_, rfl, _, rfl, _, rfl, _, rfl, fd, l, ns, 2, rfl, f25, by decide, fun H26 r26 o26 f26 d26 => ?_⟩
    have k26 := k25.trans (KeepL.off f25 f26 o26)
    exact ⟨L, S, bv, r26, _, _, rfl, hL23.keep k26.1, hbad.keep k26, fun H27 s27 => k H27⟩
end
end K12


set_option Elab.async false
set_option linter.all false
set_option maxRecDepth 100000
set_option maxHeartbeats 2000000
namespace K12
open PySem PySem.Spec PyProof.Rows L2
/-- every parameter is written -/
def BindF (x : Str) (st : Stmt) (ps : List Str) : Prop := ∀ (kV doc pm : Value) (an : Option Addr) (cdv ct : Value) (us : List Value), us.length = ps.length → bindArgs (PySem.W.fnOf x x (defArgs st) (defBody st) (defScope st) .none kV doc pm an cdv ct) ⟨us, []⟩ = pure (ps.zip us)
theorem bind_is_integer : BindF "is_integer" sis_integer ["thing"] := fun _ _ _ _ _ _ us hl => match us, hl with | [_], _ => rfl
theorem bind_is_number : BindF "is_number" sis_number ["thing"] := fun _ _ _ _ _ _ us hl => match us, hl with | [_], _ => rfl
theorem bind_is_kind : BindF "is_kind" sis_kind ["lists", "thing"] := fun _ _ _ _ _ _ us hl => match us, hl with | [_, _], _ => rfl
theorem bind_is_lot : BindF "is_lot" sis_lot ["lists", "thing"] := fun _ _ _ _ _ _ us hl => match us, hl with | [_, _], _ => rfl
theorem bind__is_tuple_of : BindF "_is_tuple_of" s_is_tuple_of ["thing", "many"] := fun _ _ _ _ _ _ us hl => match us, hl with | [_, _], _ => rfl
theorem bind__is_from_one : BindF "_is_from_one" s_is_from_one ["thing"] := fun _ _ _ _ _ _ us hl => match us, hl with | [_], _ => rfl
theorem bind_need_number : BindF "need_number" sneed_number ["name", "thing"] := fun _ _ _ _ _ _ us hl => match us, hl with | [_, _], _ => rfl
theorem bind_columns_in : BindF "columns_in" scolumns_in ["lists", "width"] := fun _ _ _ _ _ _ us hl => match us, hl with | [_, _], _ => rfl
theorem bind_bands_in : BindF "bands_in" sbands_in ["lists", "height"] := fun _ _ _ _ _ _ us hl => match us, hl with | [_, _], _ => rfl
theorem bind__top_parts : BindF "_top_parts" s_top_parts ["sizes", "side"] := fun _ _ _ _ _ _ us hl => match us, hl with | [_, _], _ => rfl
theorem bind_sides_of : BindF "sides_of" ssides_of ["lists", "way"] := fun _ _ _ _ _ _ us hl => match us, hl with | [_, _], _ => rfl
theorem bind_top_sums : BindF "top_sums" stop_sums ["lists", "stock", "way"] := fun _ _ _ _ _ _ us hl => match us, hl with | [_, _, _], _ => rfl
theorem bind_wants_row : BindF "wants_row" swants_row ["lists", "lot", "way", "b"] := fun _ _ _ _ _ _ us hl => match us, hl with | [_, _, _, _], _ => rfl
theorem bind_room_rows : BindF "room_rows" sroom_rows ["lists", "stock", "lot", "way"] := fun _ _ _ _ _ _ us hl => match us, hl with | [_, _, _, _], _ => rfl
theorem bind_rooms_by_heights : BindF "rooms_by_heights" srooms_by_heights ["lists", "stock", "lot"] := fun _ _ _ _ _ _ us hl => match us, hl with | [_, _, _], _ => rfl
theorem bind_rooms_by_widths : BindF "rooms_by_widths" srooms_by_widths ["lists", "stock", "lot"] := fun _ _ _ _ _ _ us hl => match us, hl with | [_, _, _], _ => rfl
theorem bind__law_begin : BindF "_law_begin" s_law_begin ["_law_script"] := fun _ _ _ _ _ _ us hl => match us, hl with | [_], _ => rfl
theorem bind__law_take : BindF "_law_take" s_law_take ["_law_feed", "_law_many"] := fun _ _ _ _ _ _ us hl => match us, hl with | [_, _], _ => rfl
theorem bind__law_make_row : BindF "_law_make_row" s_law_make_row ["_law_feed", "_law_great"] := fun _ _ _ _ _ _ us hl => match us, hl with | [_, _], _ => rfl
theorem bind__law_side : BindF "_law_side" s_law_side ["_law_feed", "_law_row", "_law_great"] := fun _ _ _ _ _ _ us hl => match us, hl with | [_, _, _], _ => rfl
theorem bind__law_make_store : BindF "_law_make_store" s_law_make_store ["_law_feed", "_law_rows", "_law_great"] := fun _ _ _ _ _ _ us hl => match us, hl with | [_, _, _], _ => rfl
theorem bind__law_make_load : BindF "_law_make_load" s_law_make_load ["_law_feed", "_law_rows", "_law_store"] := fun _ _ _ _ _ _ us hl => match us, hl with | [_, _, _], _ => rfl
theorem bind__law_hand : BindF "_law_hand" s_law_hand ["_law_number"] := fun _ _ _ _ _ _ us hl => match us, hl with | [_], _ => rfl
theorem bind__law_bad : BindF "_law_bad" s_law_bad ["_law_number", "_law_p", "_law_q"] := fun _ _ _ _ _ _ us hl => match us, hl with | [_, _, _], _ => rfl
theorem bind__law_turn : BindF "_law_turn" s_law_turn ["_law_rows", "_law_store", "_law_load"] := fun _ _ _ _ _ _ us hl => match us, hl with | [_, _, _], _ => rfl
theorem bind__law_wanted : BindF "_law_wanted" s_law_wanted ["_law_wide", "_law_load", "_law_b"] := fun _ _ _ _ _ _ us hl => match us, hl with | [_, _, _], _ => rfl
theorem bind__law_bands : BindF "_law_bands" s_law_bands ["_law_high", "_law_side_here", "_law_b"] := fun _ _ _ _ _ _ us hl => match us, hl with | [_, _, _], _ => rfl
theorem bind__law_top_bands : BindF "_law_top_bands" s_law_top_bands ["_law_wide", "_law_high", "_law_store", "_law_b"] := fun _ _ _ _ _ _ us hl => match us, hl with | [_, _, _, _], _ => rfl
theorem bind__law_own_rooms : BindF "_law_own_rooms" s_law_own_rooms ["_law_rows", "_law_store", "_law_load"] := fun _ _ _ _ _ _ us hl => match us, hl with | [_, _, _], _ => rfl
theorem bind__law_cut : BindF "_law_cut" s_law_cut ["_law_wide", "_law_free", "_law_x", "_law_many"] := fun _ _ _ _ _ _ us hl => match us, hl with | [_, _, _, _], _ => rfl
theorem bind__law_own_strips : BindF "_law_own_strips" s_law_own_strips ["_law_rows", "_law_store", "_law_load"] := fun _ _ _ _ _ _ us hl => match us, hl with | [_, _, _], _ => rfl
theorem bind__law_same : BindF "_law_same" s_law_same ["_law_told", "_law_due"] := fun _ _ _ _ _ _ us hl => match us, hl with | [_, _], _ => rfl
theorem bind__law_fits : BindF "_law_fits" s_law_fits ["_law_told"] := fun _ _ _ _ _ _ us hl => match us, hl with | [_], _ => rfl
theorem bind__law_refused : BindF "_law_refused" s_law_refused ["_law_rows", "_law_store", "_law_load", "_law_by"] := fun _ _ _ _ _ _ us hl => match us, hl with | [_, _, _, _], _ => rfl
theorem bind__law_asked : BindF "_law_asked" s_law_asked ["_law_rows", "_law_store", "_law_load"] := fun _ _ _ _ _ _ us hl => match us, hl with | [_, _, _], _ => rfl
theorem bind_law : BindF "law" slaw ["_law_script"] := fun _ _ _ _ _ _ us hl => match us, hl with | [_], _ => rfl
section
variable {P : Program} {w : World} {K : PySem.W.Frag} {mg : Str → Option Value} {base : Heap}
def dfMk {h : Heap} {x : Str} {st : Stmt} {ps : List Str} {f : Addr} {oc : Value} {od an : Option Addr} {osl : Array (Option Value)} {kV doc pm cdv ct : Value} (b : BindF x st ps) (X : K.In h) (G : h.Ns mainGlobals mg) (a : PySem.W.nsIn K mainGlobals x = some (some (.ref f)))
    (l : K.lookup f = some ⟨oc, od, .func (PySem.W.fnOf x x (defArgs st) (defBody st) (defScope st) .none kV doc pm an cdv ct), osl⟩) (c : PySem.W.codeIn K cdv x = true) (k : PySem.W.keepIn K (.ref f) = true) : Df K mg x st ps :=
  ⟨f, _, fun_mk l c k, PySem.W.mg_of X G a, (fun_mk l c k).binds b⟩
def excMk {h : Heap} {C CS CL CR fI : Addr} {nm q : Str} {N : Addr} {bs bm : List Value} {sn : List Str} {sub : List Value} {ab : Bool} {col : Option Bool} {dd : Option Addr} {m0 m1 m2 m3 m5 : Option Value} {oc : Value} {od an : Option Addr} {osl : Array (Option Value)} {kV doc pm cdv ct : Value} (X : K.In h) (G : h.Ns mainGlobals mg)
    (aN : PySem.W.nsIn K mainGlobals "NotUsable" = some (some (.ref C))) (aS : PySem.W.nsIn K mainGlobals "SheetError" = some (some (.ref CS))) (aL : PySem.W.nsIn K mainGlobals "LayError" = some (some (.ref CL))) (aR : PySem.W.nsIn K mainGlobals "Refused" = some (some (.ref CR)))
    (xL : K.lookup C = some (excClassObj nm q C N bs bm true sn sub ab col dd m0 m1 m2 m3 m5 "ValueError.__new__")) (xV : PySem.HandSPX.refsVE bm = true)
    (sa : PySem.W.findIn K (.ref C) "__setattr__" = some (some (.builtin "object.__setattr__"))) (ga : PySem.W.findIn K (.ref C) "__getattribute__" = some (some (.builtin "BaseException.__getattribute__"))) (gg : PySem.W.findIn K (.ref C) "__getattr__" = some none)
    (nW : PySem.W.findIn K (.ref C) "word" = some none) (nA : PySem.W.findIn K (.ref C) "at" = some none) (iC : PySem.W.findIn K (.ref C) "__init__" = some (some (.ref fI))) (tI : PySem.W.typeIn K (.ref fI) = some (.type "function"))
    (kC : PySem.W.keepIn K (.ref C) = true) (eC : PySem.W.subIn K (.ref C) (.type "BaseException") = some true) (tC : PySem.W.typeIn K (.ref C) = some (.type "type")) (hC : PySem.W.hasDictIn K C = true)
    (ha : PySem.W.findIn K (.ref C) "__class__" = some (some (.builtin "object.__class__"))) (hn : PySem.W.specialIn K (.builtin "object.__class__") "__get__" = some (some (.builtin "getset_descriptor.__get__"))) (ht : PySem.W.takesIn K (.builtin "object.__class__") = some true) (hm : PySem.W.mroIn K C (.type "object") = some true)
    (s1 : PySem.W.subIn K (.ref CS) (.type "BaseException") = some true) (s2 : PySem.W.hasDictIn K CS = true) (s3 : PySem.W.typeIn K (.ref CS) = some (.type "type")) (s4 : PySem.W.subIn K (.ref C) (.ref CS) = some true)
    (kN : PySem.W.kitOne K (.ref C) (.ref C) = some true) (kL : PySem.W.kitOne K (.ref C) (.ref CL) = some true) (kVE : PySem.W.kitOne K (.ref C) (.type "ValueError") = some true) (kR : PySem.W.kitOne K (.ref C) (.ref CR) = some false)
    (l : K.lookup fI = some ⟨oc, od, .func (PySem.W.fnOf "__init__" "NotUsable.__init__" (defArgs sNotUsable_init) (defBody sNotUsable_init) (defScope sNotUsable_init) .none kV doc pm an cdv ct), osl⟩) (c : PySem.W.codeIn K cdv "NotUsable.__init__" = true) (k : PySem.W.keepIn K (.ref fI) = true) : ExcN K mg where
  C := C
  CS := CS
  CL := CL
  CR := CR
  fI := fI
  fdI := _
  gN := PySem.W.mg_of X G aN
  gS := PySem.W.mg_of X G aS
  gL := PySem.W.mg_of X G aL
  gR := PySem.W.mg_of X G aR
  T := ⟨⟨nm, q, N, bs, bm, sn, sub, ab, col, dd, m0, m1, m2, m3, m5, xL, xV⟩, sa, eC, tC, kC⟩
  iC := iC
  tI := tI
  nW := nW
  nA := nA
  X := ⟨ga, gg, eC, hC⟩
  E := ⟨ga, gg, eC, hC, ha, hn, ht, hm⟩
  ex := PySem.W.exm_ref s1 s2 s3 s4
  kN := kN
  kL := kL
  kV := kVE
  kR := kR
  FI := fun_mk l c k
  bI := (fun_mk l c k).binds fun _ _ _ _ _ _ us hl => match us, hl with | [_, _, _], _ => rfl
theorem withDf {R : Prop} {h : Heap} {x : Str} {st : Stmt} {ps : List Str} {f : Addr} {oc : Value} {od an : Option Addr} {osl : Array (Option Value)} {kV doc pm cdv ct : Value} (b : BindF x st ps) (X : K.In h) (G : h.Ns mainGlobals mg) (a : PySem.W.nsIn K mainGlobals x = some (some (.ref f)))
    (l : K.lookup f = some ⟨oc, od, .func (PySem.W.fnOf x x (defArgs st) (defBody st) (defScope st) .none kV doc pm an cdv ct), osl⟩) (c : PySem.W.codeIn K cdv x = true) (k : PySem.W.keepIn K (.ref f) = true) (go : Df K mg x st ps → R) : R := go (dfMk b X G a l c k)
theorem withExc {R : Prop} {h : Heap} {C CS CL CR fI : Addr} {nm q : Str} {N : Addr} {bs bm : List Value} {sn : List Str} {sub : List Value} {ab : Bool} {col : Option Bool} {dd : Option Addr} {m0 m1 m2 m3 m5 : Option Value} {oc : Value} {od an : Option Addr} {osl : Array (Option Value)} {kV doc pm cdv ct : Value} (X : K.In h) (G : h.Ns mainGlobals mg)
    (aN : PySem.W.nsIn K mainGlobals "NotUsable" = some (some (.ref C))) (aS : PySem.W.nsIn K mainGlobals "SheetError" = some (some (.ref CS))) (aL : PySem.W.nsIn K mainGlobals "LayError" = some (some (.ref CL))) (aR : PySem.W.nsIn K mainGlobals "Refused" = some (some (.ref CR)))
    (xL : K.lookup C = some (excClassObj nm q C N bs bm true sn sub ab col dd m0 m1 m2 m3 m5 "ValueError.__new__")) (xV : PySem.HandSPX.refsVE bm = true)
    (sa : PySem.W.findIn K (.ref C) "__setattr__" = some (some (.builtin "object.__setattr__"))) (ga : PySem.W.findIn K (.ref C) "__getattribute__" = some (some (.builtin "BaseException.__getattribute__"))) (gg : PySem.W.findIn K (.ref C) "__getattr__" = some none)
    (nW : PySem.W.findIn K (.ref C) "word" = some none) (nA : PySem.W.findIn K (.ref C) "at" = some none) (iC : PySem.W.findIn K (.ref C) "__init__" = some (some (.ref fI))) (tI : PySem.W.typeIn K (.ref fI) = some (.type "function"))
    (kC : PySem.W.keepIn K (.ref C) = true) (eC : PySem.W.subIn K (.ref C) (.type "BaseException") = some true) (tC : PySem.W.typeIn K (.ref C) = some (.type "type")) (hC : PySem.W.hasDictIn K C = true)
    (ha : PySem.W.findIn K (.ref C) "__class__" = some (some (.builtin "object.__class__"))) (hn : PySem.W.specialIn K (.builtin "object.__class__") "__get__" = some (some (.builtin "getset_descriptor.__get__"))) (ht : PySem.W.takesIn K (.builtin "object.__class__") = some true) (hm : PySem.W.mroIn K C (.type "object") = some true)
    (s1 : PySem.W.subIn K (.ref CS) (.type "BaseException") = some true) (s2 : PySem.W.hasDictIn K CS = true) (s3 : PySem.W.typeIn K (.ref CS) = some (.type "type")) (s4 : PySem.W.subIn K (.ref C) (.ref CS) = some true)
    (kN : PySem.W.kitOne K (.ref C) (.ref C) = some true) (kL : PySem.W.kitOne K (.ref C) (.ref CL) = some true) (kVE : PySem.W.kitOne K (.ref C) (.type "ValueError") = some true) (kR : PySem.W.kitOne K (.ref C) (.ref CR) = some false)
    (l : K.lookup fI = some ⟨oc, od, .func (PySem.W.fnOf "__init__" "NotUsable.__init__" (defArgs sNotUsable_init) (defBody sNotUsable_init) (defScope sNotUsable_init) .none kV doc pm an cdv ct), osl⟩) (c : PySem.W.codeIn K cdv "NotUsable.__init__" = true) (k : PySem.W.keepIn K (.ref fI) = true) (go : ExcN K mg → R) : R :=
  go (excMk X G aN aS aL aR xL xV sa ga gg nW nA iC tI kC eC tC hC ha hn ht hm s1 s2 s3 s4 kN kL kVE kR l c k)
theorem withTxt {R : Prop} {h : Heap} (X : K.In h) (G : h.Ns mainGlobals mg) (t1 : PySem.W.nsIn K mainGlobals "len" = some none) (t2 : PySem.W.nsIn K mainGlobals "isinstance" = some none) (t3 : PySem.W.nsIn K mainGlobals "int" = some none) (t4 : PySem.W.nsIn K mainGlobals "bool" = some none) (t5 : PySem.W.nsIn K mainGlobals "tuple" = some none) (t6 : PySem.W.nsIn K mainGlobals "str" = some none) (t7 : PySem.W.nsIn K mainGlobals "list" = some none) (t8 : PySem.W.nsIn K mainGlobals "min" = some none) (t9 : PySem.W.nsIn K mainGlobals "max" = some none) (t10 : PySem.W.nsIn K mainGlobals "sum" = some none) (t11 : PySem.W.nsIn K mainGlobals "range" = some none) (t12 : PySem.W.nsIn K mainGlobals "reversed" = some none) (t13 : PySem.W.nsIn K mainGlobals "enumerate" = some none) (t14 : PySem.W.nsIn K mainGlobals "zip" = some none) (t15 : PySem.W.nsIn K mainGlobals "ValueError" = some none) (go : Txt mg → R) : R :=
  go ⟨PySem.W.mg_none_of X G t1, PySem.W.mg_none_of X G t2, PySem.W.mg_none_of X G t3, PySem.W.mg_none_of X G t4, PySem.W.mg_none_of X G t5, PySem.W.mg_none_of X G t6, PySem.W.mg_none_of X G t7, PySem.W.mg_none_of X G t8, PySem.W.mg_none_of X G t9, PySem.W.mg_none_of X G t10, PySem.W.mg_none_of X G t11, PySem.W.mg_none_of X G t12, PySem.W.mg_none_of X G t13, PySem.W.mg_none_of X G t14, PySem.W.mg_none_of X G t15⟩
/-- all together -/
theorem ok_all (T : Txt mg) (N : ExcN K mg) (D_is_integer : Df K mg "is_integer" sis_integer ["thing"]) (D_is_number : Df K mg "is_number" sis_number ["thing"]) (D_is_kind : Df K mg "is_kind" sis_kind ["lists", "thing"]) (D_is_lot : Df K mg "is_lot" sis_lot ["lists", "thing"]) (D__is_tuple_of : Df K mg "_is_tuple_of" s_is_tuple_of ["thing", "many"]) (D__is_from_one : Df K mg "_is_from_one" s_is_from_one ["thing"]) (D_need_number : Df K mg "need_number" sneed_number ["name", "thing"]) (D_columns_in : Df K mg "columns_in" scolumns_in ["lists", "width"]) (D_bands_in : Df K mg "bands_in" sbands_in ["lists", "height"]) (D__top_parts : Df K mg "_top_parts" s_top_parts ["sizes", "side"]) (D_sides_of : Df K mg "sides_of" ssides_of ["lists", "way"]) (D_top_sums : Df K mg "top_sums" stop_sums ["lists", "stock", "way"]) (D_wants_row : Df K mg "wants_row" swants_row ["lists", "lot", "way", "b"]) (D_room_rows : Df K mg "room_rows" sroom_rows ["lists", "stock", "lot", "way"]) (D_rooms_by_heights : Df K mg "rooms_by_heights" srooms_by_heights ["lists", "stock", "lot"]) (D_rooms_by_widths : Df K mg "rooms_by_widths" srooms_by_widths ["lists", "stock", "lot"]) (D__law_begin : Df K mg "_law_begin" s_law_begin ["_law_script"]) (D__law_take : Df K mg "_law_take" s_law_take ["_law_feed", "_law_many"]) (D__law_make_row : Df K mg "_law_make_row" s_law_make_row ["_law_feed", "_law_great"]) (D__law_side : Df K mg "_law_side" s_law_side ["_law_feed", "_law_row", "_law_great"]) (D__law_make_store : Df K mg "_law_make_store" s_law_make_store ["_law_feed", "_law_rows", "_law_great"]) (D__law_make_load : Df K mg "_law_make_load" s_law_make_load ["_law_feed", "_law_rows", "_law_store"]) (D__law_hand : Df K mg "_law_hand" s_law_hand ["_law_number"]) (D__law_bad : Df K mg "_law_bad" s_law_bad ["_law_number", "_law_p", "_law_q"]) (D__law_turn : Df K mg "_law_turn" s_law_turn ["_law_rows", "_law_store", "_law_load"]) (D__law_wanted : Df K mg "_law_wanted" s_law_wanted ["_law_wide", "_law_load", "_law_b"]) (D__law_bands : Df K mg "_law_bands" s_law_bands ["_law_high", "_law_side_here", "_law_b"]) (D__law_top_bands : Df K mg "_law_top_bands" s_law_top_bands ["_law_wide", "_law_high", "_law_store", "_law_b"]) (D__law_own_rooms : Df K mg "_law_own_rooms" s_law_own_rooms ["_law_rows", "_law_store", "_law_load"]) (D__law_cut : Df K mg "_law_cut" s_law_cut ["_law_wide", "_law_free", "_law_x", "_law_many"]) (D__law_own_strips : Df K mg "_law_own_strips" s_law_own_strips ["_law_rows", "_law_store", "_law_load"]) (D__law_same : Df K mg "_law_same" s_law_same ["_law_told", "_law_due"]) (D__law_fits : Df K mg "_law_fits" s_law_fits ["_law_told"]) (D__law_refused : Df K mg "_law_refused" s_law_refused ["_law_rows", "_law_store", "_law_load", "_law_by"]) (D__law_asked : Df K mg "_law_asked" s_law_asked ["_law_rows", "_law_store", "_law_load"]) (D_law : Df K mg "law" slaw ["_law_script"]) : FnOk P w K mg base CX0 9 D_law.f D_law.fd ["_law_script"] (spLaw K) := by
  let c_is_integer := D_is_integer.cal (ok_is_integer (P := P) (w := w) (base := base) T D_is_integer)
  let c_is_number := D_is_number.cal (ok_is_number (P := P) (w := w) (base := base) T D_is_number c_is_integer)
  let c__is_from_one := D__is_from_one.cal (ok_is_from_one (P := P) (w := w) (base := base) T D__is_from_one c_is_number)
  let c__is_tuple_of := D__is_tuple_of.cal (ok_is_tuple_of (P := P) (w := w) (base := base) T D__is_tuple_of)
  let c_is_kind := D_is_kind.cal (ok_is_kind (P := P) (w := w) (base := base) T D_is_kind c_is_number c__is_tuple_of)
  let c_is_lot := D_is_lot.cal (ok_is_lot (P := P) (w := w) (base := base) T D_is_lot c_is_kind c__is_tuple_of c__is_from_one)
  let c_need_number := D_need_number.cal (ok_need_number (P := P) (w := w) (base := base) T D_need_number c_is_number)
  let c__top_parts := D__top_parts.cal (ok_top_parts (P := P) (w := w) (base := base) T D__top_parts)
  let c_columns_in := D_columns_in.cal (ok_columns_in (P := P) (w := w) (base := base) T D_columns_in c_need_number c__top_parts)
  let c_bands_in := D_bands_in.cal (ok_bands_in (P := P) (w := w) (base := base) T D_bands_in c_need_number c__top_parts)
  let c_sides_of := D_sides_of.cal (ok_sides_of (P := P) (w := w) (base := base) T D_sides_of)
  let c_top_sums := D_top_sums.cal (ok_top_sums (P := P) (w := w) (base := base) T D_top_sums c_sides_of c_columns_in c_bands_in)
  let c_wants_row := D_wants_row.cal (ok_wants_row (P := P) (w := w) (base := base) T D_wants_row c_sides_of)
  let c_room_rows := D_room_rows.cal (ok_room_rows (P := P) (w := w) (base := base) T D_room_rows c_sides_of c_top_sums c_wants_row)
  let c_rooms_by_heights := D_rooms_by_heights.cal (ok_rooms_by_heights (P := P) (w := w) (base := base) T N D_rooms_by_heights c_is_lot c_room_rows)
  let c_rooms_by_widths := D_rooms_by_widths.cal (ok_rooms_by_widths (P := P) (w := w) (base := base) T N D_rooms_by_widths c_is_lot c_room_rows)
  let c__law_begin := D__law_begin.cal (ok_law_begin (P := P) (w := w) (base := base) T D__law_begin)
  let c__law_take := D__law_take.cal (ok_law_take (P := P) (w := w) (base := base) T D__law_take)
  let c__law_make_row := D__law_make_row.cal (ok_law_make_row (P := P) (w := w) (base := base) T D__law_make_row c__law_take)
  let c__law_side := D__law_side.cal (ok_law_side (P := P) (w := w) (base := base) T D__law_side c__law_take)
  let c__law_make_store := D__law_make_store.cal (ok_law_make_store (P := P) (w := w) (base := base) T D__law_make_store c__law_take c__law_side)
  let c__law_make_load := D__law_make_load.cal (ok_law_make_load (P := P) (w := w) (base := base) T D__law_make_load c__law_take)
  let c__law_turn := D__law_turn.cal (ok_law_turn (P := P) (w := w) (base := base) T D__law_turn)
  let c__law_wanted := D__law_wanted.cal (ok_law_wanted (P := P) (w := w) (base := base) T D__law_wanted)
  let c__law_bands := D__law_bands.cal (ok_law_bands (P := P) (w := w) (base := base) T D__law_bands)
  let c__law_top_bands := D__law_top_bands.cal (ok_law_top_bands (P := P) (w := w) (base := base) T D__law_top_bands c__law_bands)
  let c__law_own_rooms := D__law_own_rooms.cal (ok_law_own_rooms (P := P) (w := w) (base := base) T D__law_own_rooms c__law_wanted c__law_top_bands)
  let c__law_cut := D__law_cut.cal (ok_law_cut (P := P) (w := w) (base := base) T D__law_cut)
  let c__law_own_strips := D__law_own_strips.cal (ok_law_own_strips (P := P) (w := w) (base := base) T D__law_own_strips c__law_bands c__law_cut)
  let c0 := D__law_same.cal (ok_law_same0 (P := P) (w := w) (base := base) D__law_same)
  let c1 := D__law_same.cal (ok_law_same T D__law_same c0)
  let c2 := D__law_same.cal (ok_law_same T D__law_same c1)
  let c3 := D__law_same.cal (ok_law_same T D__law_same c2)
  let c4 := D__law_same.cal (ok_law_same T D__law_same c3)
  let c__law_same := c4
  let cH : CalH P w K mg base CX0 1 "_law_same" ["_law_told", "_law_due"] sp_int_same := ⟨D__law_same.f, D__law_same.fd, ok_law_sameH T D__law_same, D__law_same.g, D__law_same.F.kp, D__law_same.b⟩
  let c__law_fits := D__law_fits.cal (ok_law_fits (P := P) (w := w) (base := base) T D__law_fits)
  let c__law_hand := D__law_hand.cal (ok_law_hand (P := P) (w := w) (base := base) T D__law_hand)
  let c__law_bad := D__law_bad.cal (ok_law_bad (P := P) (w := w) (base := base) T D__law_bad)
  let c__law_asked := D__law_asked.cal (ok_law_asked (P := P) (w := w) (base := base) T D__law_asked c__law_own_rooms c__law_turn c_rooms_by_heights c_rooms_by_widths c__law_same c__law_own_strips c__law_fits)
  let c__law_refused := D__law_refused.cal (ok_law_refused (P := P) (w := w) (base := base) T N D__law_refused c_rooms_by_heights c_rooms_by_widths (kb_heights D_rooms_by_heights.F) (kb_widths D_rooms_by_widths.F) cH)
  exact ok_law T N D_law c__law_begin c__law_take c__law_make_row c__law_make_store c__law_make_load c__law_asked c__law_hand c__law_same c__law_turn c__law_own_rooms c__law_bad c__law_refused c_rooms_by_heights c_rooms_by_widths (kb_heights D_rooms_by_heights.F) (kb_widths D_rooms_by_widths.F)
end
end K12


set_option Elab.async false
open PySem PySem.W PyProof.Rows in
set_option maxRecDepth 100000 in
set_option maxHeartbeats 0 in
theorem PySem.Challenge.cw_onesheetmore_k12_whole_rooms_both_ways_holds : PySem.Challenge.rw_onesheetmore_k12_whole_rooms_both_ways.Holds := by
  w_on; o_law; k_head; (case hw => w_witness2)
  k_fill
  refine L2.walk_of (l := PySem.Challenge.rw_onesheetmore_k12_whole_rooms_both_ways) (n := 63) (k := 9) (x := "_law_script") (CX := fun _ => L2.CX0) (sp := fun w => K12.spLaw _) rfl (by decide) rfl ⟨rfl, by decide, by decide⟩ (fun w h Y => PySem.W.kIn_of Y) ?F (fun _ _ a ns _ _ hS => ⟨a, ns, rfl, hS, fun _ => rfl⟩) fun _ _ _ _ _ z => z
  case F =>
    intro w mg fa h KX G hmg
    refine' K12.withDf K12.bind_is_integer KX G ?a0 ?l0 ?c0 ?k0 fun D_is_integer => ?m0
    (case a0 => k_is); (case l0 => k_is); (case c0 => k_is); (case k0 => k_is)
    refine' K12.withDf K12.bind_is_number KX G ?a1 ?l1 ?c1 ?k1 fun D_is_number => ?m1
    (case a1 => k_is); (case l1 => k_is); (case c1 => k_is); (case k1 => k_is)
    refine' K12.withDf K12.bind_is_kind KX G ?a2 ?l2 ?c2 ?k2 fun D_is_kind => ?m2
    (case a2 => k_is); (case l2 => k_is); (case c2 => k_is); (case k2 => k_is)
    refine' K12.withDf K12.bind_is_lot KX G ?a3 ?l3 ?c3 ?k3 fun D_is_lot => ?m3
    (case a3 => k_is); (case l3 => k_is); (case c3 => k_is); (case k3 => k_is)
    refine' K12.withDf K12.bind__is_tuple_of KX G ?a4 ?l4 ?c4 ?k4 fun D__is_tuple_of => ?m4
    (case a4 => k_is); (case l4 => k_is); (case c4 => k_is); (case k4 => k_is)
    refine' K12.withDf K12.bind__is_from_one KX G ?a5 ?l5 ?c5 ?k5 fun D__is_from_one => ?m5
    (case a5 => k_is); (case l5 => k_is); (case c5 => k_is); (case k5 => k_is)
    refine' K12.withDf K12.bind_need_number KX G ?a6 ?l6 ?c6 ?k6 fun D_need_number => ?m6
    (case a6 => k_is); (case l6 => k_is); (case c6 => k_is); (case k6 => k_is)
    refine' K12.withDf K12.bind_columns_in KX G ?a7 ?l7 ?c7 ?k7 fun D_columns_in => ?m7
    (case a7 => k_is); (case l7 => k_is); (case c7 => k_is); (case k7 => k_is)
    refine' K12.withDf K12.bind_bands_in KX G ?a8 ?l8 ?c8 ?k8 fun D_bands_in => ?m8
    (case a8 => k_is); (case l8 => k_is); (case c8 => k_is); (case k8 => k_is)
    refine' K12.withDf K12.bind__top_parts KX G ?a9 ?l9 ?c9 ?k9 fun D__top_parts => ?m9
    (case a9 => k_is); (case l9 => k_is); (case c9 => k_is); (case k9 => k_is)
    refine' K12.withDf K12.bind_sides_of KX G ?a10 ?l10 ?c10 ?k10 fun D_sides_of => ?m10
    (case a10 => k_is); (case l10 => k_is); (case c10 => k_is); (case k10 => k_is)
    refine' K12.withDf K12.bind_top_sums KX G ?a11 ?l11 ?c11 ?k11 fun D_top_sums => ?m11
    (case a11 => k_is); (case l11 => k_is); (case c11 => k_is); (case k11 => k_is)
    refine' K12.withDf K12.bind_wants_row KX G ?a12 ?l12 ?c12 ?k12 fun D_wants_row => ?m12
    (case a12 => k_is); (case l12 => k_is); (case c12 => k_is); (case k12 => k_is)
    refine' K12.withDf K12.bind_room_rows KX G ?a13 ?l13 ?c13 ?k13 fun D_room_rows => ?m13
    (case a13 => k_is); (case l13 => k_is); (case c13 => k_is); (case k13 => k_is)
    refine' K12.withDf K12.bind_rooms_by_heights KX G ?a14 ?l14 ?c14 ?k14 fun D_rooms_by_heights => ?m14
    (case a14 => k_is); (case l14 => k_is); (case c14 => k_is); (case k14 => k_is)
    refine' K12.withDf K12.bind_rooms_by_widths KX G ?a15 ?l15 ?c15 ?k15 fun D_rooms_by_widths => ?m15
    (case a15 => k_is); (case l15 => k_is); (case c15 => k_is); (case k15 => k_is)
    refine' K12.withDf K12.bind__law_begin KX G ?a16 ?l16 ?c16 ?k16 fun D__law_begin => ?m16
    (case a16 => k_is); (case l16 => k_is); (case c16 => k_is); (case k16 => k_is)
    refine' K12.withDf K12.bind__law_take KX G ?a17 ?l17 ?c17 ?k17 fun D__law_take => ?m17
    (case a17 => k_is); (case l17 => k_is); (case c17 => k_is); (case k17 => k_is)
    refine' K12.withDf K12.bind__law_make_row KX G ?a18 ?l18 ?c18 ?k18 fun D__law_make_row => ?m18
    (case a18 => k_is); (case l18 => k_is); (case c18 => k_is); (case k18 => k_is)
    refine' K12.withDf K12.bind__law_side KX G ?a19 ?l19 ?c19 ?k19 fun D__law_side => ?m19
    (case a19 => k_is); (case l19 => k_is); (case c19 => k_is); (case k19 => k_is)
    refine' K12.withDf K12.bind__law_make_store KX G ?a20 ?l20 ?c20 ?k20 fun D__law_make_store => ?m20
    (case a20 => k_is); (case l20 => k_is); (case c20 => k_is); (case k20 => k_is)
    refine' K12.withDf K12.bind__law_make_load KX G ?a21 ?l21 ?c21 ?k21 fun D__law_make_load => ?m21
    (case a21 => k_is); (case l21 => k_is); (case c21 => k_is); (case k21 => k_is)
    refine' K12.withDf K12.bind__law_hand KX G ?a22 ?l22 ?c22 ?k22 fun D__law_hand => ?m22
    (case a22 => k_is); (case l22 => k_is); (case c22 => k_is); (case k22 => k_is)
    refine' K12.withDf K12.bind__law_bad KX G ?a23 ?l23 ?c23 ?k23 fun D__law_bad => ?m23
    (case a23 => k_is); (case l23 => k_is); (case c23 => k_is); (case k23 => k_is)
    refine' K12.withDf K12.bind__law_turn KX G ?a24 ?l24 ?c24 ?k24 fun D__law_turn => ?m24
    (case a24 => k_is); (case l24 => k_is); (case c24 => k_is); (case k24 => k_is)
    refine' K12.withDf K12.bind__law_wanted KX G ?a25 ?l25 ?c25 ?k25 fun D__law_wanted => ?m25
    (case a25 => k_is); (case l25 => k_is); (case c25 => k_is); (case k25 => k_is)
    refine' K12.withDf K12.bind__law_bands KX G ?a26 ?l26 ?c26 ?k26 fun D__law_bands => ?m26
    (case a26 => k_is); (case l26 => k_is); (case c26 => k_is); (case k26 => k_is)
    refine' K12.withDf K12.bind__law_top_bands KX G ?a27 ?l27 ?c27 ?k27 fun D__law_top_bands => ?m27
    (case a27 => k_is); (case l27 => k_is); (case c27 => k_is); (case k27 => k_is)
    refine' K12.withDf K12.bind__law_own_rooms KX G ?a28 ?l28 ?c28 ?k28 fun D__law_own_rooms => ?m28
    (case a28 => k_is); (case l28 => k_is); (case c28 => k_is); (case k28 => k_is)
    refine' K12.withDf K12.bind__law_cut KX G ?a29 ?l29 ?c29 ?k29 fun D__law_cut => ?m29
    (case a29 => k_is); (case l29 => k_is); (case c29 => k_is); (case k29 => k_is)
    refine' K12.withDf K12.bind__law_own_strips KX G ?a30 ?l30 ?c30 ?k30 fun D__law_own_strips => ?m30
    (case a30 => k_is); (case l30 => k_is); (case c30 => k_is); (case k30 => k_is)
    refine' K12.withDf K12.bind__law_same KX G ?a31 ?l31 ?c31 ?k31 fun D__law_same => ?m31
    (case a31 => k_is); (case l31 => k_is); (case c31 => k_is); (case k31 => k_is)
    refine' K12.withDf K12.bind__law_fits KX G ?a32 ?l32 ?c32 ?k32 fun D__law_fits => ?m32
    (case a32 => k_is); (case l32 => k_is); (case c32 => k_is); (case k32 => k_is)
    refine' K12.withDf K12.bind__law_refused KX G ?a33 ?l33 ?c33 ?k33 fun D__law_refused => ?m33
    (case a33 => k_is); (case l33 => k_is); (case c33 => k_is); (case k33 => k_is)
    refine' K12.withDf K12.bind__law_asked KX G ?a34 ?l34 ?c34 ?k34 fun D__law_asked => ?m34
    (case a34 => k_is); (case l34 => k_is); (case c34 => k_is); (case k34 => k_is)
    refine' K12.withDf K12.bind_law KX G ?a35 ?l35 ?c35 ?k35 fun D_law => ?m35
    (case a35 => k_is); (case l35 => k_is); (case c35 => k_is); (case k35 => k_is)
    refine' K12.withTxt KX G ?t1 ?t2 ?t3 ?t4 ?t5 ?t6 ?t7 ?t8 ?t9 ?t10 ?t11 ?t12 ?t13 ?t14 ?t15 fun T => ?mT
    (case t1 => k_is); (case t2 => k_is); (case t3 => k_is); (case t4 => k_is); (case t5 => k_is); (case t6 => k_is); (case t7 => k_is); (case t8 => k_is); (case t9 => k_is); (case t10 => k_is); (case t11 => k_is); (case t12 => k_is); (case t13 => k_is); (case t14 => k_is); (case t15 => k_is)
    refine' K12.withExc KX G ?aN ?aS ?aL ?aR ?xL ?xV ?sa ?ga ?gg ?nW ?nA ?iC ?tI ?kC ?eC ?tC ?hC ?ha ?hn ?ht ?hm ?s1 ?s2 ?s3 ?s4 ?kN ?kL ?kV ?kR ?l ?c ?k fun N => ?mN
    (case aN => k_is)
    (case aS => k_is)
    (case aL => k_is)
    (case aR => k_is)
    (case xL => k_is)
    (case xV => decide +kernel)
    (case sa => first | k_is | rfl)
    (case ga => first | k_is | rfl)
    (case gg => first | k_is | rfl)
    (case nW => first | k_is | rfl)
    (case nA => first | k_is | rfl)
    (case iC => first | k_is | rfl)
    (case tI => first | k_is | rfl)
    (case kC => first | k_is | rfl)
    (case eC => first | k_is | rfl)
    (case tC => first | k_is | rfl)
    (case hC => first | k_is | rfl)
    (case ha => first | k_is | rfl)
    (case hn => first | k_is | rfl)
    (case ht => first | k_is | rfl)
    (case hm => first | k_is | rfl)
    (case s1 => first | k_is | rfl)
    (case s2 => first | k_is | rfl)
    (case s3 => first | k_is | rfl)
    (case s4 => first | k_is | rfl)
    (case kN => first | kit_is | k_is | rfl)
    (case kL => first | kit_is | k_is | rfl)
    (case kV => first | kit_is | k_is | rfl)
    (case kR => first | kit_is | k_is | rfl)
    (case l => k_is)
    (case c => k_is)
    (case k => k_is)
    have e := hmg.symm.trans D_law.g
    cases e
    refine ⟨D_law.fd, fun s v => ?_, fun base _ _ => K12.ok_all T N D_is_integer D_is_number D_is_kind D_is_lot D__is_tuple_of D__is_from_one D_need_number D_columns_in D_bands_in D__top_parts D_sides_of D_top_sums D_wants_row D_room_rows D_rooms_by_heights D_rooms_by_widths D__law_begin D__law_take D__law_make_row D__law_side D__law_make_store D__law_make_load D__law_hand D__law_bad D__law_turn D__law_wanted D__law_bands D__law_top_bands D__law_own_rooms D__law_cut D__law_own_strips D__law_same D__law_fits D__law_refused D__law_asked D_law⟩
    obtain ⟨oc, od, kV, doc, pm, an, cdv, ct, osl, e, _, _⟩ := D_law.F.ex
    rw [e]
    exact .of_eq rfl

