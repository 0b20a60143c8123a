import PyProof.Rows.All
import Wide.All
import OpenK.AllK
import Wide.FinOn
import HandS.ForMost
import KE.KStateDown
import Lean
import HandS.Exc
import HandS.Defaults
import HandS.HeadHook1
import HandS.HeadHook2
import HandS.Head0
import HandS.Head1
import HandS.Head2
import HandS.Head3
import HandS.HeadEnd
import KE.GoesEnum
import KE.DataMinMax
import KE.DatumOrd
import HandS.Evl
import HandS.Wide
import HandS.Gcd
import HandS.Conv
import HandS.Deep
import HandS.IsInst
import HandS.Style
import HandS.Flow
import HandS.Sort
import HandS.SortKw
import HandS.Walk
import HandS.MakeKwOnly
import PySem.Challenge.RW_cushioned_k29_whole_great_tables
set_option Elab.async false
set_option linter.all false
set_option maxRecDepth 100000
/-! ## CuMath -/
namespace Cu

/-- gcd of whole numbers, as the program's gcd gives it -/
abbrev ig (a b : Int) : Int := ((Nat.gcd a.natAbs b.natAbs : Nat) : Int)

def Hit (L : List (Int × Int)) (t : Int) : Prop := ∃ c ∈ L, t % c.2 = c.1
def Wf (c : Int × Int) : Prop := 0 ≤ c.1 ∧ c.1 < c.2
def Disj (a b : Int × Int) : Prop := ∀ t : Int, t % a.2 = a.1 → t % b.2 = b.1 → False
theorem Disj.symm {a b : Int × Int} (h : Disj a b) : Disj b a := fun t x y => h t y x

theorem mod_iff {t m r : Int} (h0 : 0 ≤ r) (h1 : r < m) : t % m = r ↔ m ∣ t - r := by
  constructor
  · intro h
    refine ⟨t / m, ?_⟩
    have := Int.emod_add_mul_ediv t m
    omega
  · rintro ⟨k, hk⟩
    have e : t = r + m * k := by omega
    rw [e, Int.add_mul_emod_self_left]
    exact Int.emod_eq_of_lt h0 h1

theorem ig_pos {a b : Int} (h : 0 < a) : 0 < ig a b := by
  have : 0 < Nat.gcd a.natAbs b.natAbs := Nat.gcd_pos_of_pos_left _ (by omega)
  show (0 : Int) < ((Nat.gcd a.natAbs b.natAbs : Nat) : Int)
  omega
theorem ig_dvd_left (a b : Int) : ig a b ∣ a := Int.ofNat_dvd_left.mpr (Nat.gcd_dvd_left _ _)
theorem ig_dvd_right (a b : Int) : ig a b ∣ b := Int.ofNat_dvd_left.mpr (Nat.gcd_dvd_right _ _)
theorem dvd_ig {a b c : Int} (h1 : c ∣ a) (h2 : c ∣ b) : c ∣ ig a b := by
  have := Nat.dvd_gcd (Int.natAbs_dvd_natAbs.mpr h1) (Int.natAbs_dvd_natAbs.mpr h2)
  exact Int.natAbs_dvd.mp (Int.ofNat_dvd.mpr this)
theorem ig_le_left {a b : Int} (h : 0 < a) : ig a b ≤ a := Int.le_of_dvd h (ig_dvd_left a b)

/-- the parts behind the division by the gcd have none but 1 in common -/
theorem ig_div {m n : Int} (hm : 0 < m) : ig (m / ig m n) (n / ig m n) = 1 := by
  have e1 : (m / ig m n).natAbs = m.natAbs / Nat.gcd m.natAbs n.natAbs := by
    rw [Int.natAbs_ediv_of_dvd (ig_dvd_left m n)]
    rfl
  have e2 : (n / ig m n).natAbs = n.natAbs / Nat.gcd m.natAbs n.natAbs := by
    rw [Int.natAbs_ediv_of_dvd (ig_dvd_right m n)]
    rfl
  have h : Nat.gcd (m.natAbs / Nat.gcd m.natAbs n.natAbs) (n.natAbs / Nat.gcd m.natAbs n.natAbs) = 1 := Nat.gcd_div_gcd_div_gcd_of_pos_left (by omega)
  show ((Nat.gcd (m / ig m n).natAbs (n / ig m n).natAbs : Nat) : Int) = 1
  rw [e1, e2, h]
  rfl

/-- two classes whose remainders differ modulo the gcd -/
theorem crt_none {r m s n : Int} (h : (s - r) % ig m n ≠ 0) {t : Int} (h1 : t % m = r) (h2 : t % n = s) : False := by
  apply h
  apply Int.emod_eq_zero_of_dvd
  have a1 : ig m n ∣ t - r := Int.dvd_trans (ig_dvd_left m n) (by rw [← h1]; exact Int.dvd_self_sub_emod)
  have a2 : ig m n ∣ t - s := Int.dvd_trans (ig_dvd_right m n) (by rw [← h2]; exact Int.dvd_self_sub_emod)
  have := Int.dvd_sub a1 a2
  have e : t - r - (t - s) = s - r := by omega
  rwa [e] at this

/-- the class of the numbers in two classes: x a number whose product with m / g leaves 1 modulo n / g -/
theorem crt_some {r m s n x : Int} (hr0 : 0 ≤ r) (hr : r < m) (hs0 : 0 ≤ s) (hs : s < n) (h : (s - r) % ig m n = 0) (hx : (n / ig m n) ∣ (m / ig m n) * x - 1)
    {M c : Int} (eM0 : M = m / ig m n * n) (ec0 : c = (r + m * ((s - r) / ig m n * x % (n / ig m n))) % M) :
    0 < M ∧ 0 ≤ c ∧ c < M ∧ ∀ t : Int, t % M = c ↔ t % m = r ∧ t % n = s := by
  have hm : 0 < m := by omega
  have hn : 0 < n := by omega
  have hg := ig_pos (a := m) (b := n) hm
  obtain ⟨m', em⟩ := ig_dvd_left m n
  obtain ⟨n', en⟩ := ig_dvd_right m n
  generalize hG : ig m n = g at *
  have em' : m / g = m' := by rw [em]; exact Int.mul_ediv_cancel_left _ (by omega)
  have en' : n / g = n' := by rw [en]; exact Int.mul_ediv_cancel_left _ (by omega)
  have hm' : 0 < m' := by
    rcases Int.lt_or_le 0 m' with q | q
    · exact q
    · have := Int.mul_nonpos_of_nonneg_of_nonpos (Int.le_of_lt hg) q
      omega
  have hn' : 0 < n' := by
    rcases Int.lt_or_le 0 n' with q | q
    · exact q
    · have := Int.mul_nonpos_of_nonneg_of_nonpos (Int.le_of_lt hg) q
      omega
  have eM : M = m' * n := by rw [eM0, em']
  have hM : 0 < M := by rw [eM]; exact Int.mul_pos hm' hn
  refine ⟨hM, by rw [ec0]; exact Int.emod_nonneg _ (by omega), by rw [ec0]; exact Int.emod_lt_of_pos _ hM, ?_⟩
  rw [em', en'] at hx
  obtain ⟨d, ed⟩ : g ∣ s - r := Int.dvd_of_emod_eq_zero h
  have ed' : (s - r) / g = d := by rw [ed]; exact Int.mul_ediv_cancel_left _ (by omega)
  -- the number itself
  let y := r + m * (d * x % n')
  have ec : c = y % M := by
    rw [ec0, ed', en']
  have y1 : m ∣ y - r := ⟨d * x % n', by show r + m * (d * x % n') - r = _; omega⟩
  have y2 : n ∣ y - s := by
    obtain ⟨k, hk⟩ := hx
    have e1 : d * x % n' = d * x - n' * (d * x / n') := by
      have := Int.emod_add_mul_ediv (d * x) n'
      omega
    refine ⟨d * k - m' * (d * x / n'), ?_⟩
    show r + m * (d * x % n') - s = _
    rw [e1, en, em]
    have e2 : s = r + g * d := by omega
    rw [e2]
    grind
  have key : ∀ z : Int, M ∣ z ↔ m ∣ z ∧ n ∣ z := by
    intro z
    constructor
    · intro hz
      refine ⟨Int.dvd_trans ⟨n', ?_⟩ hz, Int.dvd_trans ⟨m', ?_⟩ hz⟩
      · rw [eM, en, em]; grind
      · rw [eM]; exact Int.mul_comm _ _
    · rintro ⟨⟨a, ha⟩, ⟨b, hb⟩⟩
      obtain ⟨k, hk⟩ := hx
      -- n' divides m' * a, so it divides a
      have e1 : m' * a = n' * b := by
        have : g * (m' * a) = g * (n' * b) := by
          rw [← Int.mul_assoc, ← Int.mul_assoc, ← em, ← en, ← ha, ← hb]
        exact Int.eq_of_mul_eq_mul_left (by omega) this
      have e2 : a = n' * (b * x - k * a) := by
        have : m' * a * x - a = n' * k * a := by
          have : (m' * x - 1) * a = n' * k * a := by rw [hk]
          grind
        rw [e1] at this
        grind
      refine ⟨b * x - k * a, ?_⟩
      rw [ha, e2, eM, en, em]
      grind
  intro t
  rw [ec]
  constructor
  · intro ht
    have hd : M ∣ t - y := by
      have e := Int.emod_eq_emod_iff_emod_sub_eq_zero.mp ht
      exact Int.dvd_of_emod_eq_zero e
    obtain ⟨d1, d2⟩ := (key _).mp hd
    refine ⟨(mod_iff hr0 hr).mpr ?_, (mod_iff hs0 hs).mpr ?_⟩
    · have := Int.dvd_add d1 y1
      have e : t - y + (y - r) = t - r := by omega
      rwa [e] at this
    · have := Int.dvd_add d2 y2
      have e : t - y + (y - s) = t - s := by omega
      rwa [e] at this
  · rintro ⟨t1, t2⟩
    have d1 := (mod_iff hr0 hr).mp t1
    have d2 := (mod_iff hs0 hs).mp t2
    apply Int.emod_eq_emod_iff_emod_sub_eq_zero.mpr
    apply Int.emod_eq_zero_of_dvd
    refine (key _).mpr ⟨?_, ?_⟩
    · have := Int.dvd_sub d1 y1
      have e : t - r - (y - r) = t - y := by omega
      rwa [e] at this
    · have := Int.dvd_sub d2 y2
      have e : t - s - (y - s) = t - y := by omega
      rwa [e] at this
end Cu

/-! ## CuMath2 -/
namespace Cu
theorem dvd_of_mod {a m : Int} (h : a % m = 0) : m ∣ a := Int.dvd_of_emod_eq_zero h
/-! ### the inverse: Euclid's way -/
structure Eu (a m : Int) (l r f g : Int) : Prop where
  l0 : 0 < l
  r0 : 0 ≤ r
  dl : m ∣ f * a - l
  dr : m ∣ g * a - r
  co : ig l r = 1
  sg : (0 ≤ f ∧ g ≤ 0 ∧ f * r - g * l = m) ∨ (f ≤ 0 ∧ 0 ≤ g ∧ g * l - f * r = m)
  fb : -m ≤ f ∧ f ≤ m
  lb : l ≤ a + m
  rb : r ≤ a + m
theorem ig_comm (a b : Int) : ig a b = ig b a := by
  show ((Nat.gcd a.natAbs b.natAbs : Nat) : Int) = ((Nat.gcd b.natAbs a.natAbs : Nat) : Int)
  rw [Nat.gcd_comm]
theorem ig_eq_of_dvd {a b c d : Int} (ha : 0 < a) (hc : 0 < c) (h1 : ∀ z : Int, z ∣ a ∧ z ∣ b ↔ z ∣ c ∧ z ∣ d) : ig a b = ig c d := by
  have p1 := ig_pos (a := a) (b := b) ha
  have p2 := ig_pos (a := c) (b := d) hc
  have q1 : ig a b ∣ ig c d := by
    obtain ⟨u, v⟩ := (h1 _).mp ⟨ig_dvd_left a b, ig_dvd_right a b⟩
    exact dvd_ig u v
  have q2 : ig c d ∣ ig a b := by
    obtain ⟨u, v⟩ := (h1 _).mpr ⟨ig_dvd_left c d, ig_dvd_right c d⟩
    exact dvd_ig u v
  have r1 := Int.le_of_dvd p2 q1
  have r2 := Int.le_of_dvd p1 q2
  omega
theorem Eu.start {a m : Int} (ha : 0 < a) (hm : 0 < m) (h : ig a m = 1) : Eu a m a m 1 0 where
  l0 := ha
  r0 := by omega
  dl := ⟨0, by omega⟩
  dr := ⟨-1, by omega⟩
  co := h
  sg := .inl ⟨by omega, by omega, by omega⟩
  fb := by omega
  lb := by omega
  rb := by omega
theorem Eu.gb {a m l r f g : Int} (e : Eu a m l r f g) : -m ≤ g ∧ g ≤ m := by
  have hl := e.l0
  have hr := e.r0
  rcases e.sg with ⟨h1, h2, h3⟩ | ⟨h1, h2, h3⟩
  · have p1 : 0 ≤ f * r := Int.mul_nonneg h1 hr
    have p2 : (-g) * 1 ≤ (-g) * l := Int.mul_le_mul_of_nonneg_left (by omega) (by omega)
    have p3 : (-g) * l = -(g * l) := Int.neg_mul _ _
    omega
  · have p1 : 0 ≤ (-f) * r := Int.mul_nonneg (by omega) hr
    have p2 : g * 1 ≤ g * l := Int.mul_le_mul_of_nonneg_left (by omega) (by omega)
    have p3 : (-f) * r = -(f * r) := Int.neg_mul _ _
    omega
theorem Eu.turn {a m l r f g : Int} (e : Eu a m l r f g) (hr : 0 < r) : Eu a m r (l - l / r * r) g (f - l / r * g) ∧ l - l / r * r < r := by
  have hm := Int.emod_add_mul_ediv l r
  have h1 := Int.emod_nonneg l (show r ≠ 0 by omega)
  have h2 := Int.emod_lt_of_pos l hr
  have hc : r * (l / r) = l / r * r := Int.mul_comm _ _
  have q0 : 0 ≤ l / r := Int.ediv_nonneg (Int.le_of_lt e.l0) (by omega)
  refine ⟨⟨hr, by omega, e.dr, ?_, ?_, ?_, e.gb, e.rb, by have := e.rb; omega⟩, by omega⟩
  · have := Int.dvd_sub e.dl (Int.dvd_mul_of_dvd_right e.dr (b := l / r))
    have q : f * a - l - l / r * (g * a - r) = (f - l / r * g) * a - (l - l / r * r) := by grind
    rwa [q] at this
  · rw [← e.co]
    refine ig_eq_of_dvd hr e.l0 fun z => ?_
    constructor
    · rintro ⟨u, v⟩
      have := Int.dvd_add v (Int.dvd_mul_of_dvd_right u (b := l / r))
      have q : l - l / r * r + l / r * r = l := by omega
      rw [q] at this
      exact ⟨this, u⟩
    · rintro ⟨u, v⟩
      exact ⟨v, Int.dvd_sub u (Int.dvd_mul_of_dvd_right v (b := l / r))⟩
  · rcases e.sg with ⟨s1, s2, s3⟩ | ⟨s1, s2, s3⟩
    · refine .inr ⟨s2, ?_, by grind⟩
      have := Int.mul_nonneg q0 (show 0 ≤ -g by omega)
      rw [Int.mul_neg] at this
      omega
    · refine .inl ⟨s2, ?_, by grind⟩
      have := Int.mul_nonneg q0 s2
      omega
theorem ig_zero {l : Int} (h : 0 < l) : ig l 0 = l := by
  show ((Nat.gcd l.natAbs (0 : Int).natAbs : Nat) : Int) = l
  rw [show (0 : Int).natAbs = 0 from rfl, Nat.gcd_zero_right]
  omega
def IsInv (a m x : Int) : Prop := 0 ≤ x ∧ x < m ∧ m ∣ a * x - 1
theorem Eu.fin {a m l r f g : Int} (e : Eu a m l r f g) (hm : 0 < m) (hr : ¬ 0 < r) : IsInv a m (f % m) := by
  have r0 : r = 0 := by have := e.r0; omega
  have l1 : l = 1 := by
    have := e.co
    rw [r0, ig_zero e.l0] at this
    exact this
  refine ⟨Int.emod_nonneg _ (by omega), Int.emod_lt_of_pos _ hm, ?_⟩
  have h1 := e.dl
  rw [l1] at h1
  have h2 : f % m = f - m * (f / m) := by
    have := Int.emod_add_mul_ediv f m
    omega
  rw [h2]
  have h3 := Int.dvd_sub h1 (Int.dvd_mul_right m (a * (f / m)))
  have q : f * a - 1 - m * (a * (f / m)) = a * (f - m * (f / m)) - 1 := by grind
  rwa [q] at h3
theorem IsInv.uniq {a m x y : Int} (h1 : IsInv a m x) (h2 : IsInv a m y) : x = y := by
  obtain ⟨a1, a2, a3⟩ := h1
  obtain ⟨b1, b2, b3⟩ := h2
  have h3 := Int.dvd_sub (Int.dvd_mul_of_dvd_right a3 (b := y)) (Int.dvd_mul_of_dvd_right b3 (b := x))
  have q : y * (a * x - 1) - x * (a * y - 1) = x - y := by grind
  rw [q] at h3
  obtain ⟨k, hk⟩ := h3
  have : k = 0 := by
    rcases Int.lt_trichotomy k 0 with q | q | q
    · have : m * k ≤ m * (-1) := Int.mul_le_mul_of_nonneg_left (by omega) (by omega)
      omega
    · exact q
    · have : m * 1 ≤ m * k := Int.mul_le_mul_of_nonneg_left (by omega) (by omega)
      omega
  rw [this] at hk
  omega
open Classical in
/-- the number that the program's inverse gives -/
noncomputable def inv (a m : Int) : Int := if h : ∃ x, IsInv a m x then h.choose else 0
theorem inv_eq {a m x : Int} (h : IsInv a m x) : inv a m = x := by
  have h2 : ∃ x, IsInv a m x := ⟨x, h⟩
  unfold inv
  rw [dif_pos h2]
  exact h2.choose_spec.uniq h
theorem inv_is {a m : Int} (ha : 0 < a) (hm : 0 < m) (h : ig a m = 1) : IsInv a m (inv a m) := by
  -- Euclid's way ends
  have go : ∀ (n : Nat) (l r f g : Int), r.toNat ≤ n → Eu a m l r f g → ∃ x, IsInv a m x := by
    intro n
    induction n with
    | zero =>
      intro l r f g hn e
      exact ⟨_, e.fin hm (by omega)⟩
    | succ n ih =>
      intro l r f g hn e
      by_cases hr : 0 < r
      · obtain ⟨e2, lt⟩ := e.turn hr
        exact ih _ _ _ _ (by omega) e2
      · exact ⟨_, e.fin hm hr⟩
  obtain ⟨x, hx⟩ := go _ _ _ _ _ (Nat.le_refl _) (Eu.start ha hm h)
  rw [inv_eq hx]
  exact hx
/-! ### chinese -/
open Classical in
noncomputable def chi (a b : Int × Int) : Option (Int × Int) :=
  if (b.1 - a.1) % ig a.2 b.2 = 0 then
    some ((a.1 + a.2 * ((b.1 - a.1) / ig a.2 b.2 * inv (a.2 / ig a.2 b.2) (b.2 / ig a.2 b.2) % (b.2 / ig a.2 b.2))) % (a.2 / ig a.2 b.2 * b.2), a.2 / ig a.2 b.2 * b.2)
  else none
theorem div_pos {m n : Int} (hm : 0 < m) : 0 < m / ig m n := by
  have hg := ig_pos (a := m) (b := n) hm
  have := ig_le_left (a := m) (b := n) hm
  exact Int.ediv_pos_of_pos_of_dvd hm (by omega) (ig_dvd_left m n)
theorem div_pos_right {m n : Int} (hm : 0 < m) (hn : 0 < n) : 0 < n / ig m n := by
  have hg := ig_pos (a := m) (b := n) hm
  exact Int.ediv_pos_of_pos_of_dvd hn (by omega) (ig_dvd_right m n)
theorem chi_none {a b : Int × Int} (h : chi a b = none) : Disj a b := by
  unfold chi at h
  split at h
  · cases h
  · rename_i hn
    exact fun t h1 h2 => crt_none hn h1 h2
theorem chi_some {a b c : Int × Int} (ha : Wf a) (hb : Wf b) (h : chi a b = some c) : Wf c ∧ c.2 ≤ a.2 * b.2 ∧ ∀ t : Int, t % c.2 = c.1 ↔ t % a.2 = a.1 ∧ t % b.2 = b.1 := by
  unfold chi at h
  split at h
  · rename_i hz
    obtain ⟨ha0, ha1⟩ := ha
    obtain ⟨hb0, hb1⟩ := hb
    have hm : 0 < a.2 := by omega
    have hn : 0 < b.2 := by omega
    have hi := inv_is (div_pos hm) (div_pos_right hm hn) (ig_div hm)
    cases h
    obtain ⟨p1, p2, p3, p4⟩ := crt_some ha0 ha1 hb0 hb1 hz hi.2.2 rfl rfl
    refine ⟨⟨p2, p3⟩, ?_, p4⟩
    have hg := ig_pos (a := a.2) (b := b.2) hm
    exact Int.mul_le_mul_of_nonneg_right (Int.ediv_le_self _ (by omega)) (by omega)
  · cases h
theorem disj_iff {a b : Int × Int} (ha : Wf a) (hb : Wf b) : Disj a b ↔ (b.1 - a.1) % ig a.2 b.2 ≠ 0 := by
  constructor
  · intro h hz
    cases e : chi a b with
    | none =>
      unfold chi at e
      rw [if_pos hz] at e
      cases e
    | some c =>
      obtain ⟨⟨p1, p2⟩, _, p3⟩ := chi_some ha hb e
      obtain ⟨q1, q2⟩ := (p3 c.1).mp (Int.emod_eq_of_lt p1 p2)
      exact h _ q1 q2
  · exact fun h t h1 h2 => crt_none h h1 h2
/-- the test of are_apart -/
theorem apart_iff {a b : Int × Int} (ha : Wf a) (hb : Wf b) : Disj a b ↔ a.1 % ig a.2 b.2 ≠ b.1 % ig a.2 b.2 := by
  rw [disj_iff ha hb]
  constructor
  · intro h e
    exact h (Int.emod_eq_emod_iff_emod_sub_eq_zero.mp e.symm)
  · intro h e
    exact h (Int.emod_eq_emod_iff_emod_sub_eq_zero.mpr e).symm
/-! ### crossed -/
noncomputable def crossF (l r : List (Int × Int)) : List (Int × Int) := l.flatMap fun a => r.filterMap (chi a)
def AllWf (l : List (Int × Int)) : Prop := ∀ c ∈ l, Wf c
theorem mem_cross {l r : List (Int × Int)} {c : Int × Int} : c ∈ crossF l r ↔ ∃ a ∈ l, ∃ b ∈ r, chi a b = some c := by
  unfold crossF
  simp only [List.mem_flatMap, List.mem_filterMap]
theorem cross_wf {l r : List (Int × Int)} (hl : AllWf l) (hr : AllWf r) : AllWf (crossF l r) := fun c hc => by
  obtain ⟨a, ha, b, hb, e⟩ := mem_cross.mp hc
  exact (chi_some (hl a ha) (hr b hb) e).1
theorem cross_hit {l r : List (Int × Int)} (hl : AllWf l) (hr : AllWf r) (t : Int) : Hit (crossF l r) t ↔ Hit l t ∧ Hit r t := by
  constructor
  · rintro ⟨c, hc, ht⟩
    obtain ⟨a, ha, b, hb, e⟩ := mem_cross.mp hc
    obtain ⟨h1, h2⟩ := ((chi_some (hl a ha) (hr b hb) e).2.2 t).mp ht
    exact ⟨⟨a, ha, h1⟩, ⟨b, hb, h2⟩⟩
  · rintro ⟨⟨a, ha, h1⟩, ⟨b, hb, h2⟩⟩
    cases e : chi a b with
    | none => exact (chi_none e t h1 h2).elim
    | some c => exact ⟨c, mem_cross.mpr ⟨a, ha, b, hb, e⟩, ((chi_some (hl a ha) (hr b hb) e).2.2 t).mpr ⟨h1, h2⟩⟩
theorem cross_len {l r : List (Int × Int)} : (crossF l r).length ≤ l.length * r.length := by
  unfold crossF
  induction l with
  | nil => simp
  | cons a l ih =>
    rw [List.flatMap_cons, List.length_append, List.length_cons, Nat.succ_mul]
    have := List.length_filterMap_le (chi a) r
    omega
theorem pairwise_append {α : Type} {R : α → α → Prop} {l r : List α} (h1 : l.Pairwise R) (h2 : r.Pairwise R) (h3 : ∀ a ∈ l, ∀ b ∈ r, R a b) : (l ++ r).Pairwise R := List.pairwise_append.mpr ⟨h1, h2, h3⟩
theorem cross_disj {l r : List (Int × Int)} (hl : AllWf l) (hr : AllWf r) (dl : l.Pairwise Disj) (dr : r.Pairwise Disj) : (crossF l r).Pairwise Disj := by
  unfold crossF
  induction l with
  | nil => exact List.Pairwise.nil
  | cons a l ih =>
    rw [List.flatMap_cons]
    obtain ⟨d1, d2⟩ := List.pairwise_cons.mp dl
    have hl' : AllWf l := fun c hc => hl c (List.mem_cons_of_mem _ hc)
    refine pairwise_append ?_ (ih hl' d2) ?_
    · rw [List.pairwise_filterMap]
      refine List.Pairwise.imp_of_mem (R := Disj) (fun {b b'} hb hb' d c hc c' hc' t h1 h2 => ?_) dr
      exact d t (((chi_some (hl a List.mem_cons_self) (hr b hb) hc).2.2 t).mp h1).2 (((chi_some (hl a List.mem_cons_self) (hr b' hb') hc').2.2 t).mp h2).2
    · intro c hc c' hc' t h1 h2
      obtain ⟨b, hb, e⟩ := List.mem_filterMap.mp hc
      obtain ⟨a', ha', b', hb', e'⟩ := mem_cross.mp (show c' ∈ crossF l r from hc')
      exact d1 a' ha' t (((chi_some (hl a List.mem_cons_self) (hr b hb) e).2.2 t).mp h1).1 (((chi_some (hl' a' ha') (hr b' hb') e').2.2 t).mp h2).1
def ModLe (l : List (Int × Int)) (B : Int) : Prop := ∀ c ∈ l, c.2 ≤ B
theorem cross_mod {l r : List (Int × Int)} {B C : Int} (hl : AllWf l) (hr : AllWf r) (bl : ModLe l B) (br : ModLe r C) : ModLe (crossF l r) (B * C) := fun c hc => by
  obtain ⟨a, ha, b, hb, e⟩ := mem_cross.mp hc
  have h1 := (chi_some (hl a ha) (hr b hb) e).2.1
  have h2 := bl a ha
  have h3 := br b hb
  have ha' := hl a ha
  have hb' := hr b hb
  obtain ⟨w1, w2⟩ := ha'
  obtain ⟨w3, w4⟩ := hb'
  have k1 : a.2 * b.2 ≤ B * b.2 := Int.mul_le_mul_of_nonneg_right h2 (by omega)
  have k2 : B * b.2 ≤ B * C := Int.mul_le_mul_of_nonneg_left h3 (by omega)
  omega
theorem cross_nil {l r : List (Int × Int)} : crossF l r = [] ↔ ∀ a ∈ l, ∀ b ∈ r, chi a b = none := by
  constructor
  · intro h a ha b hb
    cases e : chi a b with
    | none => rfl
    | some c =>
      have : c ∈ crossF l r := mem_cross.mpr ⟨a, ha, b, hb, e⟩
      rw [h] at this
      cases this
  · intro h
    refine List.eq_nil_iff_forall_not_mem.mpr fun c hc => ?_
    obtain ⟨a, ha, b, hb, e⟩ := mem_cross.mp hc
    rw [h a ha b hb] at e
    cases e
end Cu

/-! ## CuMath3 -/
namespace Cu
/-! ### solved, modulus 2 * s -/
def solvedF (f r s : Int) : List (Int × Int) :=
  if f = 0 then (if r % (2 * s) = 0 then [(0, 1)] else [])
  else if f = 1 then [(r % (2 * s), 2 * s)]
  else if f = -1 then [((-r) % (2 * s), 2 * s)]
  else if (if f < 0 then -r else r) % 2 = 1 then []
  else [((if f < 0 then -r else r) / 2 % s, s)]
theorem hit_one {r m t : Int} (h0 : 0 ≤ r) (h1 : r < m) : Hit [(r, m)] t ↔ m ∣ t - r := by
  rw [← mod_iff h0 h1]
  constructor
  · rintro ⟨c, hc, ht⟩
    rw [List.mem_singleton.mp hc] at ht
    exact ht
  · intro h
    exact ⟨(r, m), List.mem_singleton.mpr rfl, h⟩
theorem hit_mod {x m t : Int} (hm : 0 < m) : Hit [(x % m, m)] t ↔ m ∣ t - x := by
  rw [hit_one (Int.emod_nonneg _ (by omega)) (Int.emod_lt_of_pos _ hm)]
  have e := Int.emod_add_mul_ediv x m
  constructor
  · intro h
    have h2 := Int.dvd_sub h (Int.dvd_mul_right m (x / m))
    have q : t - x % m - m * (x / m) = t - x := by omega
    rwa [q] at h2
  · intro h
    have h2 := Int.dvd_add h (Int.dvd_mul_right m (x / m))
    have q : t - x + m * (x / m) = t - x % m := by omega
    rwa [q] at h2
theorem hit_nil {t : Int} : ¬ Hit [] t := by
  rintro ⟨c, hc, _⟩
  cases hc
theorem hit_all {t : Int} : Hit [(0, 1)] t := ⟨(0, 1), List.mem_singleton.mpr rfl, by show t % 1 = 0; omega⟩
theorem dvd_neg' {m a b : Int} (h : a = -b) : m ∣ a ↔ m ∣ b := by
  rw [h]
  exact Int.dvd_neg
theorem solved_hit {f r s : Int} (hs : 1 ≤ s) (h1 : -2 ≤ f) (h2 : f ≤ 2) (t : Int) : Hit (solvedF f r s) t ↔ 2 * s ∣ f * t - r := by
  unfold solvedF
  by_cases c0 : f = 0
  · rw [if_pos c0, c0]
    have e : (0 : Int) * t - r = -r := by omega
    rw [e, dvd_neg' rfl]
    by_cases c : r % (2 * s) = 0
    · rw [if_pos c]
      exact ⟨fun _ => Int.dvd_of_emod_eq_zero c, fun _ => hit_all⟩
    · rw [if_neg c]
      exact ⟨fun h => (hit_nil h).elim, fun h => (c (Int.emod_eq_zero_of_dvd h)).elim⟩
  · rw [if_neg c0]
    by_cases c1 : f = 1
    · rw [if_pos c1, c1, hit_mod (by omega)]
      have e : (1 : Int) * t - r = t - r := by omega
      rw [e]
    · rw [if_neg c1]
      by_cases c2 : f = -1
      · rw [if_pos c2, c2, hit_mod (by omega)]
        exact (dvd_neg' (by omega)).symm
      · rw [if_neg c2]
        have main : ∀ q : Int, Hit (if q % 2 = 1 then [] else [(q / 2 % s, s)]) t ↔ 2 * s ∣ 2 * t - q := by
          intro q
          by_cases cq : q % 2 = 1
          · rw [if_pos cq]
            refine ⟨fun h => (hit_nil h).elim, fun ⟨k, hk⟩ => ?_⟩
            have e : 2 * t - q = 2 * (s * k) := by rw [hk, Int.mul_assoc]
            omega
          · rw [if_neg cq, hit_mod (by omega)]
            have e : 2 * t - q = 2 * (t - q / 2) := by omega
            rw [e]
            constructor
            · rintro ⟨k, hk⟩
              exact ⟨k, by rw [hk, Int.mul_assoc]⟩
            · rintro ⟨k, hk⟩
              refine ⟨k, ?_⟩
              rw [Int.mul_assoc] at hk
              omega
        rcases (show f = 2 ∨ f = -2 by omega) with e | e
        · rw [e, if_neg (show ¬ (2 : Int) < 0 by omega)]
          exact main r
        · rw [e, if_pos (show (-2 : Int) < 0 by omega), main (-r)]
          exact dvd_neg' (by omega)
theorem solved_form (f r s : Int) : solvedF f r s = [] ∨ solvedF f r s = [(0, 1)] ∨ (∃ x, solvedF f r s = [(x % (2 * s), 2 * s)]) ∨ ∃ x, solvedF f r s = [(x % s, s)] := by
  unfold solvedF
  by_cases c0 : f = 0
  · rw [if_pos c0]
    by_cases c : r % (2 * s) = 0
    · rw [if_pos c]
      exact .inr (.inl rfl)
    · rw [if_neg c]
      exact .inl rfl
  · rw [if_neg c0]
    by_cases c1 : f = 1
    · rw [if_pos c1]
      exact .inr (.inr (.inl ⟨_, rfl⟩))
    · rw [if_neg c1]
      by_cases c2 : f = -1
      · rw [if_pos c2]
        exact .inr (.inr (.inl ⟨_, rfl⟩))
      · rw [if_neg c2]
        by_cases c3 : (if f < 0 then -r else r) % 2 = 1
        · rw [if_pos c3]
          exact .inl rfl
        · rw [if_neg c3]
          exact .inr (.inr (.inr ⟨_, rfl⟩))
theorem solved_wf {f r s : Int} (hs : 1 ≤ s) : AllWf (solvedF f r s) := by
  have one : ∀ x m : Int, 0 < m → AllWf [(x % m, m)] := fun x m hm c hc => by
    rw [List.mem_singleton.mp hc]
    exact ⟨Int.emod_nonneg _ (by omega), Int.emod_lt_of_pos _ hm⟩
  rcases solved_form f r s with e | e | ⟨x, e⟩ | ⟨x, e⟩
  · rw [e]
    intro c hc
    cases hc
  · rw [e]
    intro c hc
    rw [List.mem_singleton.mp hc]
    exact ⟨by decide, by decide⟩
  · rw [e]
    exact one _ _ (by omega)
  · rw [e]
    exact one _ _ (by omega)
theorem solved_len {f r s : Int} : (solvedF f r s).length ≤ 1 := by
  rcases solved_form f r s with e | e | ⟨x, e⟩ | ⟨x, e⟩ <;> rw [e]
  · exact Nat.zero_le _
  · exact Nat.le_refl _
  · exact Nat.le_refl _
  · exact Nat.le_refl _
theorem solved_mod {f r s : Int} (hs : 1 ≤ s) : ModLe (solvedF f r s) (2 * s) := by
  rcases solved_form f r s with e | e | ⟨x, e⟩ | ⟨x, e⟩ <;> rw [e] <;> intro c hc
  · cases hc
  · rw [List.mem_singleton.mp hc]
    show (1 : Int) ≤ 2 * s
    omega
  · rw [List.mem_singleton.mp hc]
    show 2 * s ≤ 2 * s
    omega
  · rw [List.mem_singleton.mp hc]
    show s ≤ 2 * s
    omega
/-! ### united -/
def unitedF (l r : List (Int × Int)) : List (Int × Int) :=
  if (0, 1) ∈ l ∨ (0, 1) ∈ r then [(0, 1)] else l ++ r.filter fun c => decide (c ∉ l)
theorem mem_united {l r : List (Int × Int)} (h : ¬ ((0, 1) ∈ l ∨ (0, 1) ∈ r)) (c : Int × Int) : c ∈ unitedF l r ↔ c ∈ l ∨ c ∈ r := by
  unfold unitedF
  rw [if_neg h, List.mem_append, List.mem_filter]
  constructor
  · rintro (q | ⟨q, _⟩)
    · exact .inl q
    · exact .inr q
  · rintro (q | q)
    · exact .inl q
    · by_cases z : c ∈ l
      · exact .inl z
      · exact .inr ⟨q, decide_eq_true z⟩
theorem united_hit {l r : List (Int × Int)} (t : Int) : Hit (unitedF l r) t ↔ Hit l t ∨ Hit r t := by
  by_cases h : (0, 1) ∈ l ∨ (0, 1) ∈ r
  · have e : unitedF l r = [(0, 1)] := if_pos h
    rw [e]
    refine ⟨fun _ => ?_, fun _ => hit_all⟩
    have z : t % 1 = 0 := by omega
    rcases h with h | h
    · exact .inl ⟨_, h, z⟩
    · exact .inr ⟨_, h, z⟩
  · constructor
    · rintro ⟨c, hc, ht⟩
      rcases (mem_united h c).mp hc with q | q
      · exact .inl ⟨c, q, ht⟩
      · exact .inr ⟨c, q, ht⟩
    · rintro (⟨c, hc, ht⟩ | ⟨c, hc, ht⟩)
      · exact ⟨c, (mem_united h c).mpr (.inl hc), ht⟩
      · exact ⟨c, (mem_united h c).mpr (.inr hc), ht⟩
theorem united_all {P : Int × Int → Prop} {l r : List (Int × Int)} (h0 : P (0, 1)) (h1 : ∀ c ∈ l, P c) (h2 : ∀ c ∈ r, P c) : ∀ c ∈ unitedF l r, P c := by
  intro c hc
  by_cases h : (0, 1) ∈ l ∨ (0, 1) ∈ r
  · have e : unitedF l r = [(0, 1)] := if_pos h
    rw [e] at hc
    rw [List.mem_singleton.mp hc]
    exact h0
  · rcases (mem_united h c).mp hc with q | q
    · exact h1 c q
    · exact h2 c q
theorem united_len {l r : List (Int × Int)} (h1 : l.length ≤ 1) (h2 : r.length ≤ 1) : (unitedF l r).length ≤ 2 := by
  unfold unitedF
  split
  · exact Nat.le_succ 1
  · rw [List.length_append]
    have := List.length_filter_le (fun c => decide (c ∉ l)) r
    omega
/-! ### when two parts are at one place -/
def meetF (s a u b v : Int) : List (Int × Int) := unitedF (solvedF (u - v) (b - a) s) (solvedF (u + v) (-b - a) s)
def fold (s p : Int) : Int := if 2 * s - p % (2 * s) < p % (2 * s) then 2 * s - p % (2 * s) else p % (2 * s)
theorem fold_range {s p : Int} (hs : 1 ≤ s) : 0 ≤ fold s p ∧ fold s p ≤ s := by
  have h1 := Int.emod_nonneg p (show 2 * s ≠ 0 by omega)
  have h2 := Int.emod_lt_of_pos p (show 0 < 2 * s by omega)
  unfold fold
  split <;> omega
theorem fold_self {s p : Int} (h0 : 0 ≤ p) (h1 : p ≤ s) (hs : 1 ≤ s) : fold s p = p := by
  unfold fold
  by_cases h : p < 2 * s
  · rw [Int.emod_eq_of_lt h0 h, if_neg (by omega)]
  · omega
theorem fold_iff {s p q : Int} (hs : 1 ≤ s) : fold s p = fold s q ↔ 2 * s ∣ p - q ∨ 2 * s ∣ p + q := by
  have a1 := Int.emod_nonneg p (show 2 * s ≠ 0 by omega)
  have a2 := Int.emod_lt_of_pos p (show 0 < 2 * s by omega)
  have b1 := Int.emod_nonneg q (show 2 * s ≠ 0 by omega)
  have b2 := Int.emod_lt_of_pos q (show 0 < 2 * s by omega)
  have ea := Int.emod_add_mul_ediv p (2 * s)
  have eb := Int.emod_add_mul_ediv q (2 * s)
  generalize p % (2 * s) = x at *
  generalize q % (2 * s) = y at *
  generalize p / (2 * s) = k at *
  generalize q / (2 * s) = l at *
  have d1 : 2 * s ∣ p - q ↔ x = y := by
    have e : p - q = (x - y) + 2 * s * (k - l) := by rw [← ea, ← eb, Int.mul_sub]; omega
    rw [e]
    constructor
    · intro h
      have h2 := Int.dvd_sub h (Int.dvd_mul_right (2 * s) (k - l))
      rw [Int.add_sub_cancel] at h2
      obtain ⟨j, hj⟩ := h2
      rcases Int.lt_trichotomy j 0 with c | c | c
      · have : 2 * s * j ≤ 2 * s * (-1) := Int.mul_le_mul_of_nonneg_left (by omega) (by omega)
        omega
      · rw [c] at hj; omega
      · have : 2 * s * 1 ≤ 2 * s * j := Int.mul_le_mul_of_nonneg_left (by omega) (by omega)
        omega
    · intro h
      rw [h]
      exact ⟨k - l, by omega⟩
  have d2 : 2 * s ∣ p + q ↔ x + y = 0 ∨ x + y = 2 * s := by
    have e : p + q = (x + y) + 2 * s * (k + l) := by rw [← ea, ← eb, Int.mul_add]; omega
    rw [e]
    constructor
    · intro h
      have h2 := Int.dvd_sub h (Int.dvd_mul_right (2 * s) (k + l))
      rw [Int.add_sub_cancel] at h2
      obtain ⟨j, hj⟩ := h2
      rcases Int.lt_trichotomy j 1 with c | c | c
      · have : 2 * s * j ≤ 2 * s * 0 := Int.mul_le_mul_of_nonneg_left (by omega) (by omega)
        omega
      · rw [c] at hj; omega
      · have : 2 * s * 2 ≤ 2 * s * j := Int.mul_le_mul_of_nonneg_left (by omega) (by omega)
        omega
    · rintro (h | h)
      · rw [h]
        exact ⟨k + l, by omega⟩
      · rw [h]
        exact ⟨1 + (k + l), by rw [Int.mul_add (2 * s) 1]; omega⟩
  have ef : fold s p = if 2 * s - x < x then 2 * s - x else x := by
    unfold fold
    have : p % (2 * s) = x := by rw [← ea, Int.add_mul_emod_self_left]; exact Int.emod_eq_of_lt a1 a2
    rw [this]
  have eg : fold s q = if 2 * s - y < y then 2 * s - y else y := by
    unfold fold
    have : q % (2 * s) = y := by rw [← eb, Int.add_mul_emod_self_left]; exact Int.emod_eq_of_lt b1 b2
    rw [this]
  rw [d1, d2, ef, eg]
  constructor
  · intro h
    split at h <;> split at h <;> omega
  · intro h
    split <;> split <;> omega
theorem fold_period {s p k : Int} (hs : 1 ≤ s) : fold s (p + 2 * s * k) = fold s p := (fold_iff hs).mpr (.inl ⟨k, by omega⟩)
def Step (u : Int) : Prop := u = -1 ∨ u = 0 ∨ u = 1
theorem meet_hit {s a u b v : Int} (hs : 1 ≤ s) (hu : Step u) (hv : Step v) (t : Int) : Hit (meetF s a u b v) t ↔ fold s (a + u * t) = fold s (b + v * t) := by
  have u1 : -1 ≤ u ∧ u ≤ 1 := by rcases hu with h | h | h <;> omega
  have v1 : -1 ≤ v ∧ v ≤ 1 := by rcases hv with h | h | h <;> omega
  unfold meetF
  rw [united_hit, solved_hit hs (by omega) (by omega), solved_hit hs (by omega) (by omega), fold_iff hs]
  have e1 : (u - v) * t - (b - a) = a + u * t - (b + v * t) := by rw [Int.sub_mul]; omega
  have e2 : (u + v) * t - (-b - a) = a + u * t + (b + v * t) := by rw [Int.add_mul]; omega
  rw [e1, e2]
theorem meet_wf {s a u b v : Int} (hs : 1 ≤ s) : AllWf (meetF s a u b v) := united_all ⟨by decide, by decide⟩ (solved_wf hs) (solved_wf hs)
theorem meet_mod {s a u b v : Int} (hs : 1 ≤ s) : ModLe (meetF s a u b v) (2 * s) := united_all (by show (1 : Int) ≤ 2 * s; omega) (solved_mod hs) (solved_mod hs)
theorem meet_len {s a u b v : Int} : (meetF s a u b v).length ≤ 2 := united_len solved_len solved_len
theorem solved_zero {r s : Int} : solvedF 0 r s = [(0, 1)] ∨ solvedF 0 r s = [] := by
  unfold solvedF
  rw [if_pos rfl]
  by_cases c : r % (2 * s) = 0
  · exact .inl (if_pos c)
  · exact .inr (if_neg c)
theorem pw_short {l : List (Int × Int)} (h : l.length ≤ 1) : l.Pairwise Disj := by
  match l, h with
  | [], _ => exact .nil
  | [a], _ => exact List.pairwise_singleton _ _
  | _ :: _ :: _, h => exact absurd h (by simp)
theorem united_nil_left {r : List (Int × Int)} (h : r.length ≤ 1) : (unitedF [] r).length ≤ 1 := by
  unfold unitedF
  split
  · exact Nat.le_refl _
  · rw [List.nil_append]
    exact Nat.le_trans (List.length_filter_le _ _) h
theorem united_nil_right {l : List (Int × Int)} (h : l.length ≤ 1) : (unitedF l []).length ≤ 1 := by
  unfold unitedF
  split
  · exact Nat.le_refl _
  · rw [List.filter_nil, List.append_nil]
    exact h
theorem united_whole {l r : List (Int × Int)} (h : (0, 1) ∈ l ∨ (0, 1) ∈ r) : (unitedF l r).length ≤ 1 := by
  have e : unitedF l r = [(0, 1)] := if_pos h
  rw [e]
  exact Nat.le_refl _
theorem meet_disj {s a u b v : Int} (hs : 1 ≤ s) (hu : Step u) (hv : Step v) : (meetF s a u b v).Pairwise Disj := by
  have z : ∀ x y : Int, solvedF (u - v) x s = solvedF 0 x s ∨ solvedF (u + v) y s = solvedF 0 y s ∨ ((u - v = 1 ∨ u - v = -1) ∧ (u + v = 1 ∨ u + v = -1)) := by
    intro x y
    rcases hu with rfl | rfl | rfl <;> rcases hv with rfl | rfl | rfl
    · exact .inl rfl
    · exact .inr (.inr ⟨by omega, by omega⟩)
    · exact .inr (.inl rfl)
    · exact .inr (.inr ⟨by omega, by omega⟩)
    · exact .inl rfl
    · exact .inr (.inr ⟨by omega, by omega⟩)
    · exact .inr (.inl rfl)
    · exact .inr (.inr ⟨by omega, by omega⟩)
    · exact .inl rfl
  unfold meetF
  rcases z (b - a) (-b - a) with h | h | ⟨h1, h2⟩
  · rw [h]
    refine pw_short ?_
    rcases solved_zero (r := b - a) (s := s) with q | q
    · rw [q]
      exact united_whole (.inl (List.mem_singleton.mpr rfl))
    · rw [q]
      exact united_nil_left solved_len
  · rw [h]
    refine pw_short ?_
    rcases solved_zero (r := -b - a) (s := s) with q | q
    · rw [q]
      exact united_whole (.inr (List.mem_singleton.mpr rfl))
    · rw [q]
      exact united_nil_right solved_len
  · have one : ∀ (f x : Int), f = 1 ∨ f = -1 → ∃ y, solvedF f x s = [(y % (2 * s), 2 * s)] := by
      intro f x hf
      unfold solvedF
      rcases hf with rfl | rfl
      · exact ⟨x, by rw [if_neg (by decide), if_pos rfl]⟩
      · exact ⟨-x, by rw [if_neg (by decide), if_neg (by decide), if_pos rfl]⟩
    obtain ⟨x, ex⟩ := one _ (b - a) h1
    obtain ⟨y, ey⟩ := one _ (-b - a) h2
    rw [ex, ey]
    unfold unitedF
    split
    · exact List.pairwise_singleton _ _
    · by_cases e : ((y % (2 * s), 2 * s) : Int × Int) ∉ [(x % (2 * s), 2 * s)]
      · rw [List.filter_cons, if_pos (decide_eq_true e)]
        refine List.pairwise_cons.mpr ⟨fun c hc t t1 t2 => ?_, List.pairwise_singleton _ _⟩
        have ec : c = (y % (2 * s), 2 * s) := List.mem_singleton.mp hc
        rw [ec] at t2
        have t1' : t % (2 * s) = x % (2 * s) := t1
        have t2' : t % (2 * s) = y % (2 * s) := t2
        exact e (List.mem_singleton.mpr (by rw [← t1', ← t2']))
      · rw [List.filter_cons, if_neg (by rw [decide_eq_false e]; exact Bool.false_ne_true)]
        exact List.pairwise_singleton _ _
/-! ### orders of classes do not matter -/
theorem hit_perm {l r : List (Int × Int)} (h : l.Perm r) (t : Int) : Hit l t ↔ Hit r t := by
  constructor
  · rintro ⟨c, hc, ht⟩
    exact ⟨c, h.mem_iff.mp hc, ht⟩
  · rintro ⟨c, hc, ht⟩
    exact ⟨c, h.mem_iff.mpr hc, ht⟩
theorem wf_perm {l r : List (Int × Int)} (h : l.Perm r) (w : AllWf r) : AllWf l := fun c hc => w c (h.mem_iff.mp hc)
theorem mod_perm {l r : List (Int × Int)} {B : Int} (h : l.Perm r) (w : ModLe r B) : ModLe l B := fun c hc => w c (h.mem_iff.mp hc)
theorem disj_perm {l r : List (Int × Int)} (h : l.Perm r) (w : r.Pairwise Disj) : l.Pairwise Disj := (h.pairwise_iff fun {_ _} d => d.symm).mpr w
/-! ### sets of minutes -/
/-- the minutes of a Times -/
def TS (st : Int) (en : Option Int) (l : List (Int × Int)) (t : Int) : Prop := st ≤ t ∧ (∀ e, en = some e → t ≤ e) ∧ Hit l t
/-- the first one from m on -/
def IsNext (S : Int → Prop) (m : Int) : Option Int → Prop
  | none => ∀ t, m ≤ t → ¬ S t
  | some x => m ≤ x ∧ S x ∧ ∀ t, m ≤ t → S t → x ≤ t
theorem IsNext.uniq {S : Int → Prop} {m : Int} {a b : Option Int} (ha : IsNext S m a) (hb : IsNext S m b) : a = b := by
  cases a with
  | none =>
    cases b with
    | none => rfl
    | some y => exact (ha y hb.1 hb.2.1).elim
  | some x =>
    cases b with
    | none => exact (hb x ha.1 ha.2.1).elim
    | some y =>
      have h1 := ha.2.2 y hb.1 hb.2.1
      have h2 := hb.2.2 x ha.1 ha.2.1
      have e : x = y := by omega
      rw [e]
theorem IsNext.congr {S T : Int → Prop} {m : Int} {a : Option Int} (h : ∀ t, m ≤ t → (S t ↔ T t)) (ha : IsNext S m a) : IsNext T m a := by
  cases a with
  | none => exact fun t ht hT => ha t ht ((h t ht).mpr hT)
  | some x => exact ⟨ha.1, (h x ha.1).mp ha.2.1, fun t ht hT => ha.2.2 t ht ((h t ht).mpr hT)⟩
/-- the first minute of a class from a minute on -/
def nx (c : Int × Int) (m : Int) : Int := m + (c.1 - m) % c.2
theorem nx_spec {c : Int × Int} (h : Wf c) (m : Int) : m ≤ nx c m ∧ nx c m % c.2 = c.1 ∧ ∀ t, m ≤ t → t % c.2 = c.1 → nx c m ≤ t := by
  obtain ⟨h0, h1⟩ := h
  have a1 := Int.emod_nonneg (c.1 - m) (show c.2 ≠ 0 by omega)
  have a2 := Int.emod_lt_of_pos (c.1 - m) (show 0 < c.2 by omega)
  have ea := Int.emod_add_mul_ediv (c.1 - m) c.2
  unfold nx
  refine ⟨by omega, ?_, fun t ht hc => ?_⟩
  · refine (mod_iff h0 h1).mpr ⟨-((c.1 - m) / c.2), ?_⟩
    rw [Int.mul_neg]
    omega
  · obtain ⟨k, hk⟩ := (mod_iff h0 h1).mp hc
    generalize (c.1 - m) % c.2 = x at *
    generalize (c.1 - m) / c.2 = j at *
    -- t = c.1 + c.2 * k, m = c.1 - x - c.2 * j
    have e : t - m = x + c.2 * (k + j) := by rw [Int.mul_add]; omega
    rcases Int.lt_or_le (k + j) 0 with q | q
    · have : c.2 * (k + j) ≤ c.2 * (-1) := Int.mul_le_mul_of_nonneg_left (by omega) (by omega)
      omega
    · have : 0 ≤ c.2 * (k + j) := Int.mul_nonneg (by omega) q
      omega
/-- what next_from reckons: the least of the classes' first minutes, if it is within -/
theorem next_some {l : List (Int × Int)} {m x : Int} (w : AllWf l) (h1 : ∃ c ∈ l, nx c m = x) (h2 : ∀ c ∈ l, x ≤ nx c m) : m ≤ x ∧ Hit l x ∧ ∀ t, m ≤ t → Hit l t → x ≤ t := by
  obtain ⟨c, hc, e⟩ := h1
  obtain ⟨a1, a2, _⟩ := nx_spec (w c hc) m
  rw [e] at a1 a2
  refine ⟨a1, ⟨c, hc, a2⟩, ?_⟩
  rintro t ht ⟨d, hd, hdt⟩
  have q := (nx_spec (w d hd) m).2.2 t ht hdt
  have := h2 d hd
  omega
end Cu
namespace Cu
/-! ### solved once the sign is taken off -/
def solvedG (f r s : Int) : List (Int × Int) :=
  if f = 0 then (if r % (2 * s) = 0 then [(0, 1)] else [])
  else if f = 1 then [(r % (2 * s), 2 * s)]
  else if r % 2 = 1 then [] else [(r / 2 % s, s)]
theorem solved_pos {f r s : Int} (h : ¬ f < 0) : solvedF f r s = solvedG f r s := by
  unfold solvedF solvedG
  by_cases c0 : f = 0
  · rw [if_pos c0, if_pos c0]
  · rw [if_neg c0, if_neg c0]
    by_cases c1 : f = 1
    · rw [if_pos c1, if_pos c1]
    · rw [if_neg c1, if_neg c1, if_neg (show ¬ f = -1 by omega), if_neg h]
theorem solved_neg {f r s : Int} (h : f < 0) : solvedF f r s = solvedG (-f) (-r) s := by
  unfold solvedF solvedG
  rw [if_neg (show ¬ f = 0 by omega), if_neg (show ¬ f = 1 by omega), if_neg (show ¬ -f = 0 by omega)]
  by_cases c1 : f = -1
  · rw [if_pos c1, if_pos (show -f = 1 by omega)]
  · rw [if_neg c1, if_neg (show ¬ -f = 1 by omega), if_pos h]
theorem nodup_short {α : Type} {l : List α} (h : l.length ≤ 1) : l.Nodup := by
  match l, h with
  | [], _ => exact List.Pairwise.nil
  | [a], _ => exact List.pairwise_singleton _ _
  | _ :: _ :: _, h => exact absurd h (by simp)
theorem united_nodup {l r : List (Int × Int)} (hl : l.Nodup) (hr : r.Nodup) : (unitedF l r).Nodup := by
  unfold unitedF
  split
  · exact List.pairwise_singleton _ _
  · refine List.nodup_append.mpr ⟨hl, hr.sublist List.filter_sublist, fun a ha b hb e => ?_⟩
    have h2 := (List.mem_filter.mp hb).2
    rw [← e] at h2
    exact of_decide_eq_true h2 ha
/-- the classes met so far, each once -/
theorem united_perm {l r d : List (Int × Int)} (h : ¬ ((0, 1) ∈ l ∨ (0, 1) ∈ r)) (hl : l.Nodup) (hr : r.Nodup) (hd : d.Nodup) (hm : ∀ c, c ∈ d ↔ c ∈ l ++ r) : d.Perm (unitedF l r) :=
  (List.perm_ext_iff_of_nodup hd (united_nodup hl hr)).mpr fun c => by
    rw [hm, mem_united h, List.mem_append]
theorem mem_take_succ {α : Type} {l : List α} {i : Nat} {x c : α} (h : l[i]? = some x) : c ∈ l.take (i + 1) ↔ c ∈ l.take i ∨ c = x := by
  rw [List.take_add_one, h, List.mem_append]
  exact or_congr Iff.rfl List.mem_singleton
end Cu

/-! ## CuText -/
set_option maxRecDepth 100000
namespace Cu
open PySem L2
def top (i : Nat) : Stmt := PySem.Challenge.pw_cushioned_k29_whole_great_tables.main.body.getD i (.Pass ⟨0, 0, 0, 0⟩)
abbrev sRequire : Stmt := top 10
abbrev sTableInit : Stmt := inClass (top 11) 0
abbrev sTableIsPoint : Stmt := inClass (top 11) 1
abbrev sTableCheckPoint : Stmt := inClass (top 11) 2
abbrev sIsName : Stmt := top 16
abbrev sIsBall : Stmt := top 17
abbrev sCheckBall : Stmt := top 18
abbrev sCheckBalls : Stmt := top 19
abbrev sInverse : Stmt := top 22
abbrev sChinese : Stmt := top 23
abbrev sSolved : Stmt := top 24
abbrev sUnited : Stmt := top 25
abbrev sPointClasses : Stmt := top 26
abbrev sMeetingClasses : Stmt := top 27
abbrev sCrossed : Stmt := top 28
abbrev sIsClass : Stmt := top 31
abbrev sAreApart : Stmt := top 32
abbrev sTimesInit : Stmt := inClass (top 33) 0
abbrev sTimesIsWithin : Stmt := inClass (top 33) 1
abbrev sTimesHolds : Stmt := inClass (top 33) 2
abbrev sTimesNextFrom : Stmt := inClass (top 33) 3
abbrev sEarlierEnd : Stmt := top 34
abbrev sBoth : Stmt := top 35
abbrev sPartClasses : Stmt := top 37
abbrev sAtPoint : Stmt := top 38
abbrev sMeetings : Stmt := top 39
abbrev sAllMeet : Stmt := top 40
abbrev sFirstMeeting : Stmt := top 41
abbrev sNever : Stmt := top 43
abbrev sShows : Stmt := top 44
abbrev sCheckNever : Stmt := top 45
abbrev sWatched : Stmt := top 48
abbrev sMeetsWhile : Stmt := top 49
abbrev sFirstSlot : Stmt := top 50
abbrev sLawRow : Stmt := top 52
abbrev sLawNumbers : Stmt := top 53
abbrev sLawPick : Stmt := top 54
abbrev sLawBig : Stmt := top 55
abbrev sLawBigBall : Stmt := top 56
abbrev sLawFold : Stmt := top 57
abbrev sLawPlace : Stmt := top 58
abbrev sLawAt : Stmt := top 59
abbrev sLawThree : Stmt := top 60
abbrev sLawSlot : Stmt := top 61
abbrev sLaw : Stmt := top 62
end Cu

/-! ## CuFacts -/
set_option maxRecDepth 100000
set_option maxHeartbeats 0
namespace Cu
open PySem PySem.Spec PyProof.Rows L2

def dRequire : He.DefD := ⟨("require", none), "require", "require", defArgs sRequire, defBody sRequire, defScope sRequire, [], []⟩
def dTableInit : He.DefD := ⟨("Table", some "__init__"), "__init__", "Table.__init__", defArgs sTableInit, defBody sTableInit, defScope sTableInit, [.adr (He.dflAt ("Table", some "__init__") 0)], []⟩
def dTableIsPoint : He.DefD := ⟨("Table", some "is_point"), "is_point", "Table.is_point", defArgs sTableIsPoint, defBody sTableIsPoint, defScope sTableIsPoint, [], []⟩
def dTableCheckPoint : He.DefD := ⟨("Table", some "check_point"), "check_point", "Table.check_point", defArgs sTableCheckPoint, defBody sTableCheckPoint, defScope sTableCheckPoint, [], []⟩
def dIsName : He.DefD := ⟨("is_name", none), "is_name", "is_name", defArgs sIsName, defBody sIsName, defScope sIsName, [], []⟩
def dIsBall : He.DefD := ⟨("is_ball", none), "is_ball", "is_ball", defArgs sIsBall, defBody sIsBall, defScope sIsBall, [], []⟩
def dCheckBall : He.DefD := ⟨("check_ball", none), "check_ball", "check_ball", defArgs sCheckBall, defBody sCheckBall, defScope sCheckBall, [], []⟩
def dCheckBalls : He.DefD := ⟨("check_balls", none), "check_balls", "check_balls", defArgs sCheckBalls, defBody sCheckBalls, defScope sCheckBalls, [], []⟩
def dInverse : He.DefD := ⟨("inverse", none), "inverse", "inverse", defArgs sInverse, defBody sInverse, defScope sInverse, [], []⟩
def dChinese : He.DefD := ⟨("chinese", none), "chinese", "chinese", defArgs sChinese, defBody sChinese, defScope sChinese, [], []⟩
def dSolved : He.DefD := ⟨("solved", none), "solved", "solved", defArgs sSolved, defBody sSolved, defScope sSolved, [], []⟩
def dUnited : He.DefD := ⟨("united", none), "united", "united", defArgs sUnited, defBody sUnited, defScope sUnited, [], []⟩
def dPointClasses : He.DefD := ⟨("point_classes", none), "point_classes", "point_classes", defArgs sPointClasses, defBody sPointClasses, defScope sPointClasses, [], []⟩
def dMeetingClasses : He.DefD := ⟨("meeting_classes", none), "meeting_classes", "meeting_classes", defArgs sMeetingClasses, defBody sMeetingClasses, defScope sMeetingClasses, [], []⟩
def dCrossed : He.DefD := ⟨("crossed", none), "crossed", "crossed", defArgs sCrossed, defBody sCrossed, defScope sCrossed, [], []⟩
def dIsClass : He.DefD := ⟨("is_class", none), "is_class", "is_class", defArgs sIsClass, defBody sIsClass, defScope sIsClass, [], []⟩
def dAreApart : He.DefD := ⟨("are_apart", none), "are_apart", "are_apart", defArgs sAreApart, defBody sAreApart, defScope sAreApart, [], []⟩
def dTimesInit : He.DefD := ⟨("Times", some "__init__"), "__init__", "Times.__init__", defArgs sTimesInit, defBody sTimesInit, defScope sTimesInit, [], []⟩
def dTimesIsWithin : He.DefD := ⟨("Times", some "is_within"), "is_within", "Times.is_within", defArgs sTimesIsWithin, defBody sTimesIsWithin, defScope sTimesIsWithin, [], []⟩
def dTimesHolds : He.DefD := ⟨("Times", some "holds"), "holds", "Times.holds", defArgs sTimesHolds, defBody sTimesHolds, defScope sTimesHolds, [], []⟩
def dTimesNextFrom : He.DefD := ⟨("Times", some "next_from"), "next_from", "Times.next_from", defArgs sTimesNextFrom, defBody sTimesNextFrom, defScope sTimesNextFrom, [], []⟩
def dEarlierEnd : He.DefD := ⟨("earlier_end", none), "earlier_end", "earlier_end", defArgs sEarlierEnd, defBody sEarlierEnd, defScope sEarlierEnd, [], []⟩
def dBoth : He.DefD := ⟨("both", none), "both", "both", defArgs sBoth, defBody sBoth, defScope sBoth, [], []⟩
def dPartClasses : He.DefD := ⟨("part_classes", none), "part_classes", "part_classes", defArgs sPartClasses, defBody sPartClasses, defScope sPartClasses, [], []⟩
def dAtPoint : He.DefD := ⟨("at_point", none), "at_point", "at_point", defArgs sAtPoint, defBody sAtPoint, defScope sAtPoint, [], []⟩
def dMeetings : He.DefD := ⟨("meetings", none), "meetings", "meetings", defArgs sMeetings, defBody sMeetings, defScope sMeetings, [], []⟩
def dAllMeet : He.DefD := ⟨("all_meet", none), "all_meet", "all_meet", defArgs sAllMeet, defBody sAllMeet, defScope sAllMeet, [], []⟩
def dFirstMeeting : He.DefD := ⟨("first_meeting", none), "first_meeting", "first_meeting", defArgs sFirstMeeting, defBody sFirstMeeting, defScope sFirstMeeting, [], [("minute", .int 0)]⟩
def dNever : He.DefD := ⟨("never", none), "never", "never", defArgs sNever, defBody sNever, defScope sNever, [], []⟩
def dShows : He.DefD := ⟨("shows", none), "shows", "shows", defArgs sShows, defBody sShows, defScope sShows, [], []⟩
def dCheckNever : He.DefD := ⟨("check_never", none), "check_never", "check_never", defArgs sCheckNever, defBody sCheckNever, defScope sCheckNever, [], []⟩
def dWatched : He.DefD := ⟨("watched", none), "watched", "watched", defArgs sWatched, defBody sWatched, defScope sWatched, [], []⟩
def dMeetsWhile : He.DefD := ⟨("meets_while", none), "meets_while", "meets_while", defArgs sMeetsWhile, defBody sMeetsWhile, defScope sMeetsWhile, [], []⟩
def dFirstSlot : He.DefD := ⟨("first_slot", none), "first_slot", "first_slot", defArgs sFirstSlot, defBody sFirstSlot, defScope sFirstSlot, [], []⟩
def dLawRow : He.DefD := ⟨("_law_row", none), "_law_row", "_law_row", defArgs sLawRow, defBody sLawRow, defScope sLawRow, [], []⟩
def dLawNumbers : He.DefD := ⟨("_law_numbers", none), "_law_numbers", "_law_numbers", defArgs sLawNumbers, defBody sLawNumbers, defScope sLawNumbers, [], []⟩
def dLawPick : He.DefD := ⟨("_law_pick", none), "_law_pick", "_law_pick", defArgs sLawPick, defBody sLawPick, defScope sLawPick, [], []⟩
def dLawBig : He.DefD := ⟨("_law_big", none), "_law_big", "_law_big", defArgs sLawBig, defBody sLawBig, defScope sLawBig, [], []⟩
def dLawBigBall : He.DefD := ⟨("_law_big_ball", none), "_law_big_ball", "_law_big_ball", defArgs sLawBigBall, defBody sLawBigBall, defScope sLawBigBall, [], []⟩
def dLawFold : He.DefD := ⟨("_law_fold", none), "_law_fold", "_law_fold", defArgs sLawFold, defBody sLawFold, defScope sLawFold, [], []⟩
def dLawPlace : He.DefD := ⟨("_law_place", none), "_law_place", "_law_place", defArgs sLawPlace, defBody sLawPlace, defScope sLawPlace, [], []⟩
def dLawAt : He.DefD := ⟨("_law_at", none), "_law_at", "_law_at", defArgs sLawAt, defBody sLawAt, defScope sLawAt, [], []⟩
def dLawThree : He.DefD := ⟨("_law_three", none), "_law_three", "_law_three", defArgs sLawThree, defBody sLawThree, defScope sLawThree, [], []⟩
def dLawSlot : He.DefD := ⟨("_law_slot", none), "_law_slot", "_law_slot", defArgs sLawSlot, defBody sLawSlot, defScope sLawSlot, [], []⟩
def dLaw : He.DefD := ⟨("law", none), "law", "law", defArgs sLaw, defBody sLaw, defScope sLaw, [], []⟩
def fnA : List He.DefD := [dRequire, dTableInit, dTableIsPoint, dTableCheckPoint, dIsName, dIsBall, dCheckBall, dCheckBalls, dInverse, dChinese, dSolved, dUnited, dPointClasses, dMeetingClasses, dCrossed, dIsClass, dAreApart, dTimesInit, dTimesIsWithin, dTimesHolds, dTimesNextFrom, dEarlierEnd, dBoth]
def fnB : List He.DefD := [dPartClasses, dAtPoint, dMeetings, dAllMeet, dFirstMeeting, dNever, dShows, dCheckNever, dWatched, dMeetsWhile, dFirstSlot, dLawRow, dLawNumbers, dLawPick, dLawBig, dLawBigBall, dLawFold, dLawPlace, dLawAt, dLawThree, dLawSlot, dLaw]
def fn : List He.DefD := fnA ++ fnB
def faA : List He.Fa := [.glo "require", .glo "is_name", .glo "is_ball", .glo "check_ball", .glo "check_balls", .glo "inverse", .glo "chinese", .glo "solved", .glo "united", .glo "point_classes", .glo "meeting_classes", .glo "crossed", .glo "is_class", .glo "are_apart", .glo "earlier_end", .glo "both", .glo "part_classes", .glo "at_point", .glo "meetings", .glo "all_meet", .glo "first_meeting", .glo "never", .glo "shows", .glo "check_never", .glo "watched", .glo "meets_while", .glo "first_slot", .glo "_law_row", .glo "_law_numbers", .glo "_law_pick", .glo "_law_big", .glo "_law_big_ball", .glo "_law_fold", .glo "_law_place", .glo "_law_at", .glo "_law_three", .glo "_law_slot", .glo "law"]
def faB : List He.Fa := [.glo "Table", .glo "Times", .glo "WHOLE", .free "len", .free "all", .free "any", .free "tuple", .free "enumerate", .free "list", .free "sorted", .free "isinstance", .free "int", .free "max", .free "min", .free "abs", .free "range", .int "MOST" (10 ^ 30), .int "MOST_POCKETS" (12), .int "MOST_NAME_CHARS" (12), .int "MOST_BALLS" (12), .int "MOST_CLASSES" (64), .int "MOST_MINUTES" (10000), .str "NAME_CHARS" "abcdefghijklmnopqrstuvwxyz0123456789", .cls "Table", .mkr "Table", .noat "Table" "width", .noat "Table" "height", .noat "Table" "pockets", .meth "Table" "is_point", .meth "Table" "check_point", .cls "Times", .mkr "Times", .noat "Times" "start", .noat "Times" "end", .noat "Times" "classes", .meth "Times" "is_within", .meth "Times" "holds", .meth "Times" "next_from"]
def fa : List He.Fa := faA ++ faB
def nmA : List PySem.Str := ["_wall", "CushionedError", "InvalidTable", "InvalidBall", "InvalidQuestion", "MOST", "MOST_POCKETS", "require", "Table", "NAME_CHARS", "MOST_NAME_CHARS", "MOST_BALLS", "is_name", "is_ball", "check_ball", "check_balls", "WHOLE", "inverse", "chinese", "solved", "united", "point_classes", "meeting_classes", "crossed", "MOST_CLASSES", "is_class"]
def nmB : List PySem.Str := ["are_apart", "Times", "earlier_end", "both", "part_classes", "at_point", "meetings", "all_meet", "first_meeting", "never", "shows", "check_never", "MOST_MINUTES", "watched", "meets_while", "first_slot", "_law_row", "_law_numbers", "_law_pick", "_law_big", "_law_big_ball", "_law_fold", "_law_place", "_law_at", "_law_three", "_law_slot"]
def names : List PySem.Str := nmA ++ nmB
/-- the only item of WHOLE -/
def whAt (K : PySem.W.Frag) : Addr := match K.lookup (He.ga K "WHOLE") with
  | some ⟨_, _, .seq its _, _⟩ => (match its.toList with
    | [.ref a] => a
    | _ => 0)
  | _ => 0
def tupAtB (K : PySem.W.Frag) (a : Addr) (vs : List V) : Bool := match K.lookup a with
  | some ⟨.type c, _, .seq its _, _⟩ => decide (c = "tuple") && (decide (its.size ≤ sizeLine) && He.relAll vs its.toList)
  | _ => false
theorem tupAtB_ok {K : PySem.W.Frag} {a : Addr} {vs : List V} (h : tupAtB K a vs = true) (H : Hp) : SqT K H a vs := by
  unfold tupAtB at h
  cases q : K.lookup a with
  | none =>
    rw [q] at h
    cases h
  | some o =>
    obtain ⟨oc, od, dt, osl⟩ := o
    rw [q] at h
    cases oc with
    | type c =>
      cases dt with
      | seq its n =>
        obtain ⟨h1, h2⟩ := He.ba (show (decide (c = "tuple") && (decide (its.size ≤ sizeLine) && He.relAll vs its.toList)) = true from h)
        obtain ⟨h3, h4⟩ := He.ba h2
        exact .inr ⟨_, its, n, q, congrArg Value.type (of_decide_eq_true h1), rfl, of_decide_eq_true h3, He.relAll_ok h4⟩
      | _ => cases h
    | _ => cases dt <;> cases h
/-- the default of a table's pockets -/
def pkAt (K : PySem.W.Frag) : Addr := He.dflAt ("Table", some "__init__") 0 K
def exB (K : PySem.W.Frag) : Bool := He.lstB K "WHOLE" [.adr whAt] && (tupAtB K (whAt K) [.int 0, .int 1] && (tupAtB K (pkAt K) [] && decide (PySem.W.nsIn K mainGlobals "gcd" = some (some (.builtin "math.gcd")))))
abbrev AlC : Type := He.AlD × Bool
def obsC (K : PySem.W.Frag) : AlC := (He.obsD fa fn K, exB K)
def valC : AlC := (He.valD fn, true)
def SaysC (K : PySem.W.Frag) : Prop := obsC K = valC
/-- what the walks lean on -/
structure Txt (K : PySem.W.Frag) (mg : Str → Option Value) : Prop where
  df : ∀ (i : Nat) (d : He.DefD), fn[i]? = some d → ∃ fd, FunD K d.name d.qual d.params d.body d.scope (d.dvs K) (d.kws K) (He.fAd K d.at_) fd
  fc : ∀ (i : Nat) (f : He.Fa), fa[i]? = some f → f.ok K = true
  gl : ∀ x, (He.Fa.glo x).ok K = true → mg x = some (.ref (He.ga K x))
  fr : ∀ x, (He.Fa.free x).ok K = true → mg x = none
  it : ∀ x i, (He.Fa.int x i).ok K = true → ∃ t, mg x = some (.int i t)
  st : ∀ x z, (He.Fa.str x z).ok K = true → ∃ t, mg x = some (.str z t)
  whL : ∀ H : Hp, SqL K H (He.ga K "WHOLE") [.ref (whAt K)]
  whT : ∀ H : Hp, SqT K H (whAt K) [.int 0, .int 1]
  pkT : ∀ H : Hp, SqT K H (pkAt K) []
  gcd : mg "gcd" = some (.builtin "math.gcd")
theorem txt_of {K : PySem.W.Frag} {h : Heap} {mg : Str → Option Value} (X : K.In h) (G : h.Ns mainGlobals mg) (c : SaysC K) : Txt K mg := by
  have c1 : He.SaysD fa fn K := congrArg (fun z : AlC => z.1) c
  have c2 : exB K = true := congrArg (fun z : AlC => z.2) c
  obtain ⟨e1, c2⟩ := He.ba c2
  obtain ⟨e2, c2⟩ := He.ba c2
  obtain ⟨e3, e4⟩ := He.ba c2
  exact ⟨fun i d e => c1.def_ i e, fun i f e => c1.fact i e, fun x e => He.glo_ok X G e, fun x e => He.free_ok X G e, fun x i e => He.int_ok X G e, fun x z e => He.str_ok X G e,
    fun H => He.lstB_ok e1 H, fun H => tupAtB_ok e2 H, fun H => tupAtB_ok e3 H, PySem.W.mg_of X G (of_decide_eq_true e4)⟩
section
variable {K : PySem.W.Frag} {mg : Str → Option Value}
theorem Txt.fRequire (T : Txt K mg) : ∃ fd, FunD K "require" "require" (defArgs sRequire) (defBody sRequire) (defScope sRequire) [] [] (He.ga K "require") fd := T.df 0 dRequire rfl
theorem Txt.fTableInit (T : Txt K mg) : ∃ fd, FunD K "__init__" "Table.__init__" (defArgs sTableInit) (defBody sTableInit) (defScope sTableInit) [V.ref (pkAt K)] [] (He.ma K (He.ga K "Table") "__init__") fd := T.df 1 dTableInit rfl
theorem Txt.fTableIsPoint (T : Txt K mg) : ∃ fd, FunD K "is_point" "Table.is_point" (defArgs sTableIsPoint) (defBody sTableIsPoint) (defScope sTableIsPoint) [] [] (He.ma K (He.ga K "Table") "is_point") fd := T.df 2 dTableIsPoint rfl
theorem Txt.fTableCheckPoint (T : Txt K mg) : ∃ fd, FunD K "check_point" "Table.check_point" (defArgs sTableCheckPoint) (defBody sTableCheckPoint) (defScope sTableCheckPoint) [] [] (He.ma K (He.ga K "Table") "check_point") fd := T.df 3 dTableCheckPoint rfl
theorem Txt.fIsName (T : Txt K mg) : ∃ fd, FunD K "is_name" "is_name" (defArgs sIsName) (defBody sIsName) (defScope sIsName) [] [] (He.ga K "is_name") fd := T.df 4 dIsName rfl
theorem Txt.fIsBall (T : Txt K mg) : ∃ fd, FunD K "is_ball" "is_ball" (defArgs sIsBall) (defBody sIsBall) (defScope sIsBall) [] [] (He.ga K "is_ball") fd := T.df 5 dIsBall rfl
theorem Txt.fCheckBall (T : Txt K mg) : ∃ fd, FunD K "check_ball" "check_ball" (defArgs sCheckBall) (defBody sCheckBall) (defScope sCheckBall) [] [] (He.ga K "check_ball") fd := T.df 6 dCheckBall rfl
theorem Txt.fCheckBalls (T : Txt K mg) : ∃ fd, FunD K "check_balls" "check_balls" (defArgs sCheckBalls) (defBody sCheckBalls) (defScope sCheckBalls) [] [] (He.ga K "check_balls") fd := T.df 7 dCheckBalls rfl
theorem Txt.fInverse (T : Txt K mg) : ∃ fd, FunD K "inverse" "inverse" (defArgs sInverse) (defBody sInverse) (defScope sInverse) [] [] (He.ga K "inverse") fd := T.df 8 dInverse rfl
theorem Txt.fChinese (T : Txt K mg) : ∃ fd, FunD K "chinese" "chinese" (defArgs sChinese) (defBody sChinese) (defScope sChinese) [] [] (He.ga K "chinese") fd := T.df 9 dChinese rfl
theorem Txt.fSolved (T : Txt K mg) : ∃ fd, FunD K "solved" "solved" (defArgs sSolved) (defBody sSolved) (defScope sSolved) [] [] (He.ga K "solved") fd := T.df 10 dSolved rfl
theorem Txt.fUnited (T : Txt K mg) : ∃ fd, FunD K "united" "united" (defArgs sUnited) (defBody sUnited) (defScope sUnited) [] [] (He.ga K "united") fd := T.df 11 dUnited rfl
theorem Txt.fPointClasses (T : Txt K mg) : ∃ fd, FunD K "point_classes" "point_classes" (defArgs sPointClasses) (defBody sPointClasses) (defScope sPointClasses) [] [] (He.ga K "point_classes") fd := T.df 12 dPointClasses rfl
theorem Txt.fMeetingClasses (T : Txt K mg) : ∃ fd, FunD K "meeting_classes" "meeting_classes" (defArgs sMeetingClasses) (defBody sMeetingClasses) (defScope sMeetingClasses) [] [] (He.ga K "meeting_classes") fd := T.df 13 dMeetingClasses rfl
theorem Txt.fCrossed (T : Txt K mg) : ∃ fd, FunD K "crossed" "crossed" (defArgs sCrossed) (defBody sCrossed) (defScope sCrossed) [] [] (He.ga K "crossed") fd := T.df 14 dCrossed rfl
theorem Txt.fIsClass (T : Txt K mg) : ∃ fd, FunD K "is_class" "is_class" (defArgs sIsClass) (defBody sIsClass) (defScope sIsClass) [] [] (He.ga K "is_class") fd := T.df 15 dIsClass rfl
theorem Txt.fAreApart (T : Txt K mg) : ∃ fd, FunD K "are_apart" "are_apart" (defArgs sAreApart) (defBody sAreApart) (defScope sAreApart) [] [] (He.ga K "are_apart") fd := T.df 16 dAreApart rfl
theorem Txt.fTimesInit (T : Txt K mg) : ∃ fd, FunD K "__init__" "Times.__init__" (defArgs sTimesInit) (defBody sTimesInit) (defScope sTimesInit) [] [] (He.ma K (He.ga K "Times") "__init__") fd := T.df 17 dTimesInit rfl
theorem Txt.fTimesIsWithin (T : Txt K mg) : ∃ fd, FunD K "is_within" "Times.is_within" (defArgs sTimesIsWithin) (defBody sTimesIsWithin) (defScope sTimesIsWithin) [] [] (He.ma K (He.ga K "Times") "is_within") fd := T.df 18 dTimesIsWithin rfl
theorem Txt.fTimesHolds (T : Txt K mg) : ∃ fd, FunD K "holds" "Times.holds" (defArgs sTimesHolds) (defBody sTimesHolds) (defScope sTimesHolds) [] [] (He.ma K (He.ga K "Times") "holds") fd := T.df 19 dTimesHolds rfl
theorem Txt.fTimesNextFrom (T : Txt K mg) : ∃ fd, FunD K "next_from" "Times.next_from" (defArgs sTimesNextFrom) (defBody sTimesNextFrom) (defScope sTimesNextFrom) [] [] (He.ma K (He.ga K "Times") "next_from") fd := T.df 20 dTimesNextFrom rfl
theorem Txt.fEarlierEnd (T : Txt K mg) : ∃ fd, FunD K "earlier_end" "earlier_end" (defArgs sEarlierEnd) (defBody sEarlierEnd) (defScope sEarlierEnd) [] [] (He.ga K "earlier_end") fd := T.df 21 dEarlierEnd rfl
theorem Txt.fBoth (T : Txt K mg) : ∃ fd, FunD K "both" "both" (defArgs sBoth) (defBody sBoth) (defScope sBoth) [] [] (He.ga K "both") fd := T.df 22 dBoth rfl
theorem Txt.fPartClasses (T : Txt K mg) : ∃ fd, FunD K "part_classes" "part_classes" (defArgs sPartClasses) (defBody sPartClasses) (defScope sPartClasses) [] [] (He.ga K "part_classes") fd := T.df 23 dPartClasses rfl
theorem Txt.fAtPoint (T : Txt K mg) : ∃ fd, FunD K "at_point" "at_point" (defArgs sAtPoint) (defBody sAtPoint) (defScope sAtPoint) [] [] (He.ga K "at_point") fd := T.df 24 dAtPoint rfl
theorem Txt.fMeetings (T : Txt K mg) : ∃ fd, FunD K "meetings" "meetings" (defArgs sMeetings) (defBody sMeetings) (defScope sMeetings) [] [] (He.ga K "meetings") fd := T.df 25 dMeetings rfl
theorem Txt.fAllMeet (T : Txt K mg) : ∃ fd, FunD K "all_meet" "all_meet" (defArgs sAllMeet) (defBody sAllMeet) (defScope sAllMeet) [] [] (He.ga K "all_meet") fd := T.df 26 dAllMeet rfl
theorem Txt.fFirstMeeting (T : Txt K mg) : ∃ fd, FunD K "first_meeting" "first_meeting" (defArgs sFirstMeeting) (defBody sFirstMeeting) (defScope sFirstMeeting) [] [("minute", V.int 0)] (He.ga K "first_meeting") fd := T.df 27 dFirstMeeting rfl
theorem Txt.fNever (T : Txt K mg) : ∃ fd, FunD K "never" "never" (defArgs sNever) (defBody sNever) (defScope sNever) [] [] (He.ga K "never") fd := T.df 28 dNever rfl
theorem Txt.fShows (T : Txt K mg) : ∃ fd, FunD K "shows" "shows" (defArgs sShows) (defBody sShows) (defScope sShows) [] [] (He.ga K "shows") fd := T.df 29 dShows rfl
theorem Txt.fCheckNever (T : Txt K mg) : ∃ fd, FunD K "check_never" "check_never" (defArgs sCheckNever) (defBody sCheckNever) (defScope sCheckNever) [] [] (He.ga K "check_never") fd := T.df 30 dCheckNever rfl
theorem Txt.fWatched (T : Txt K mg) : ∃ fd, FunD K "watched" "watched" (defArgs sWatched) (defBody sWatched) (defScope sWatched) [] [] (He.ga K "watched") fd := T.df 31 dWatched rfl
theorem Txt.fMeetsWhile (T : Txt K mg) : ∃ fd, FunD K "meets_while" "meets_while" (defArgs sMeetsWhile) (defBody sMeetsWhile) (defScope sMeetsWhile) [] [] (He.ga K "meets_while") fd := T.df 32 dMeetsWhile rfl
theorem Txt.fFirstSlot (T : Txt K mg) : ∃ fd, FunD K "first_slot" "first_slot" (defArgs sFirstSlot) (defBody sFirstSlot) (defScope sFirstSlot) [] [] (He.ga K "first_slot") fd := T.df 33 dFirstSlot rfl
theorem Txt.fLawRow (T : Txt K mg) : ∃ fd, FunD K "_law_row" "_law_row" (defArgs sLawRow) (defBody sLawRow) (defScope sLawRow) [] [] (He.ga K "_law_row") fd := T.df 34 dLawRow rfl
theorem Txt.fLawNumbers (T : Txt K mg) : ∃ fd, FunD K "_law_numbers" "_law_numbers" (defArgs sLawNumbers) (defBody sLawNumbers) (defScope sLawNumbers) [] [] (He.ga K "_law_numbers") fd := T.df 35 dLawNumbers rfl
theorem Txt.fLawPick (T : Txt K mg) : ∃ fd, FunD K "_law_pick" "_law_pick" (defArgs sLawPick) (defBody sLawPick) (defScope sLawPick) [] [] (He.ga K "_law_pick") fd := T.df 36 dLawPick rfl
theorem Txt.fLawBig (T : Txt K mg) : ∃ fd, FunD K "_law_big" "_law_big" (defArgs sLawBig) (defBody sLawBig) (defScope sLawBig) [] [] (He.ga K "_law_big") fd := T.df 37 dLawBig rfl
theorem Txt.fLawBigBall (T : Txt K mg) : ∃ fd, FunD K "_law_big_ball" "_law_big_ball" (defArgs sLawBigBall) (defBody sLawBigBall) (defScope sLawBigBall) [] [] (He.ga K "_law_big_ball") fd := T.df 38 dLawBigBall rfl
theorem Txt.fLawFold (T : Txt K mg) : ∃ fd, FunD K "_law_fold" "_law_fold" (defArgs sLawFold) (defBody sLawFold) (defScope sLawFold) [] [] (He.ga K "_law_fold") fd := T.df 39 dLawFold rfl
theorem Txt.fLawPlace (T : Txt K mg) : ∃ fd, FunD K "_law_place" "_law_place" (defArgs sLawPlace) (defBody sLawPlace) (defScope sLawPlace) [] [] (He.ga K "_law_place") fd := T.df 40 dLawPlace rfl
theorem Txt.fLawAt (T : Txt K mg) : ∃ fd, FunD K "_law_at" "_law_at" (defArgs sLawAt) (defBody sLawAt) (defScope sLawAt) [] [] (He.ga K "_law_at") fd := T.df 41 dLawAt rfl
theorem Txt.fLawThree (T : Txt K mg) : ∃ fd, FunD K "_law_three" "_law_three" (defArgs sLawThree) (defBody sLawThree) (defScope sLawThree) [] [] (He.ga K "_law_three") fd := T.df 42 dLawThree rfl
theorem Txt.fLawSlot (T : Txt K mg) : ∃ fd, FunD K "_law_slot" "_law_slot" (defArgs sLawSlot) (defBody sLawSlot) (defScope sLawSlot) [] [] (He.ga K "_law_slot") fd := T.df 43 dLawSlot rfl
theorem Txt.fLaw (T : Txt K mg) : ∃ fd, FunD K "law" "law" (defArgs sLaw) (defBody sLaw) (defScope sLaw) [] [] (He.ga K "law") fd := T.df 44 dLaw rfl
theorem Txt.gRequire (T : Txt K mg) : mg "require" = some (.ref (He.ga K "require")) := T.gl _ (T.fc 0 _ rfl)
theorem Txt.gIsName (T : Txt K mg) : mg "is_name" = some (.ref (He.ga K "is_name")) := T.gl _ (T.fc 1 _ rfl)
theorem Txt.gIsBall (T : Txt K mg) : mg "is_ball" = some (.ref (He.ga K "is_ball")) := T.gl _ (T.fc 2 _ rfl)
theorem Txt.gCheckBall (T : Txt K mg) : mg "check_ball" = some (.ref (He.ga K "check_ball")) := T.gl _ (T.fc 3 _ rfl)
theorem Txt.gCheckBalls (T : Txt K mg) : mg "check_balls" = some (.ref (He.ga K "check_balls")) := T.gl _ (T.fc 4 _ rfl)
theorem Txt.gInverse (T : Txt K mg) : mg "inverse" = some (.ref (He.ga K "inverse")) := T.gl _ (T.fc 5 _ rfl)
theorem Txt.gChinese (T : Txt K mg) : mg "chinese" = some (.ref (He.ga K "chinese")) := T.gl _ (T.fc 6 _ rfl)
theorem Txt.gSolved (T : Txt K mg) : mg "solved" = some (.ref (He.ga K "solved")) := T.gl _ (T.fc 7 _ rfl)
theorem Txt.gUnited (T : Txt K mg) : mg "united" = some (.ref (He.ga K "united")) := T.gl _ (T.fc 8 _ rfl)
theorem Txt.gPointClasses (T : Txt K mg) : mg "point_classes" = some (.ref (He.ga K "point_classes")) := T.gl _ (T.fc 9 _ rfl)
theorem Txt.gMeetingClasses (T : Txt K mg) : mg "meeting_classes" = some (.ref (He.ga K "meeting_classes")) := T.gl _ (T.fc 10 _ rfl)
theorem Txt.gCrossed (T : Txt K mg) : mg "crossed" = some (.ref (He.ga K "crossed")) := T.gl _ (T.fc 11 _ rfl)
theorem Txt.gIsClass (T : Txt K mg) : mg "is_class" = some (.ref (He.ga K "is_class")) := T.gl _ (T.fc 12 _ rfl)
theorem Txt.gAreApart (T : Txt K mg) : mg "are_apart" = some (.ref (He.ga K "are_apart")) := T.gl _ (T.fc 13 _ rfl)
theorem Txt.gEarlierEnd (T : Txt K mg) : mg "earlier_end" = some (.ref (He.ga K "earlier_end")) := T.gl _ (T.fc 14 _ rfl)
theorem Txt.gBoth (T : Txt K mg) : mg "both" = some (.ref (He.ga K "both")) := T.gl _ (T.fc 15 _ rfl)
theorem Txt.gPartClasses (T : Txt K mg) : mg "part_classes" = some (.ref (He.ga K "part_classes")) := T.gl _ (T.fc 16 _ rfl)
theorem Txt.gAtPoint (T : Txt K mg) : mg "at_point" = some (.ref (He.ga K "at_point")) := T.gl _ (T.fc 17 _ rfl)
theorem Txt.gMeetings (T : Txt K mg) : mg "meetings" = some (.ref (He.ga K "meetings")) := T.gl _ (T.fc 18 _ rfl)
theorem Txt.gAllMeet (T : Txt K mg) : mg "all_meet" = some (.ref (He.ga K "all_meet")) := T.gl _ (T.fc 19 _ rfl)
theorem Txt.gFirstMeeting (T : Txt K mg) : mg "first_meeting" = some (.ref (He.ga K "first_meeting")) := T.gl _ (T.fc 20 _ rfl)
theorem Txt.gNever (T : Txt K mg) : mg "never" = some (.ref (He.ga K "never")) := T.gl _ (T.fc 21 _ rfl)
theorem Txt.gShows (T : Txt K mg) : mg "shows" = some (.ref (He.ga K "shows")) := T.gl _ (T.fc 22 _ rfl)
theorem Txt.gCheckNever (T : Txt K mg) : mg "check_never" = some (.ref (He.ga K "check_never")) := T.gl _ (T.fc 23 _ rfl)
theorem Txt.gWatched (T : Txt K mg) : mg "watched" = some (.ref (He.ga K "watched")) := T.gl _ (T.fc 24 _ rfl)
theorem Txt.gMeetsWhile (T : Txt K mg) : mg "meets_while" = some (.ref (He.ga K "meets_while")) := T.gl _ (T.fc 25 _ rfl)
theorem Txt.gFirstSlot (T : Txt K mg) : mg "first_slot" = some (.ref (He.ga K "first_slot")) := T.gl _ (T.fc 26 _ rfl)
theorem Txt.gLawRow (T : Txt K mg) : mg "_law_row" = some (.ref (He.ga K "_law_row")) := T.gl _ (T.fc 27 _ rfl)
theorem Txt.gLawNumbers (T : Txt K mg) : mg "_law_numbers" = some (.ref (He.ga K "_law_numbers")) := T.gl _ (T.fc 28 _ rfl)
theorem Txt.gLawPick (T : Txt K mg) : mg "_law_pick" = some (.ref (He.ga K "_law_pick")) := T.gl _ (T.fc 29 _ rfl)
theorem Txt.gLawBig (T : Txt K mg) : mg "_law_big" = some (.ref (He.ga K "_law_big")) := T.gl _ (T.fc 30 _ rfl)
theorem Txt.gLawBigBall (T : Txt K mg) : mg "_law_big_ball" = some (.ref (He.ga K "_law_big_ball")) := T.gl _ (T.fc 31 _ rfl)
theorem Txt.gLawFold (T : Txt K mg) : mg "_law_fold" = some (.ref (He.ga K "_law_fold")) := T.gl _ (T.fc 32 _ rfl)
theorem Txt.gLawPlace (T : Txt K mg) : mg "_law_place" = some (.ref (He.ga K "_law_place")) := T.gl _ (T.fc 33 _ rfl)
theorem Txt.gLawAt (T : Txt K mg) : mg "_law_at" = some (.ref (He.ga K "_law_at")) := T.gl _ (T.fc 34 _ rfl)
theorem Txt.gLawThree (T : Txt K mg) : mg "_law_three" = some (.ref (He.ga K "_law_three")) := T.gl _ (T.fc 35 _ rfl)
theorem Txt.gLawSlot (T : Txt K mg) : mg "_law_slot" = some (.ref (He.ga K "_law_slot")) := T.gl _ (T.fc 36 _ rfl)
theorem Txt.gLaw (T : Txt K mg) : mg "law" = some (.ref (He.ga K "law")) := T.gl _ (T.fc 37 _ rfl)
theorem Txt.gTable (T : Txt K mg) : mg "Table" = some (.ref (He.ga K "Table")) := T.gl _ (T.fc 38 _ rfl)
theorem Txt.gTimes (T : Txt K mg) : mg "Times" = some (.ref (He.ga K "Times")) := T.gl _ (T.fc 39 _ rfl)
theorem Txt.gWHOLE (T : Txt K mg) : mg "WHOLE" = some (.ref (He.ga K "WHOLE")) := T.gl _ (T.fc 40 _ rfl)
theorem Txt.zLen (T : Txt K mg) : mg "len" = none := T.fr _ (T.fc 41 _ rfl)
theorem Txt.zAll (T : Txt K mg) : mg "all" = none := T.fr _ (T.fc 42 _ rfl)
theorem Txt.zAny (T : Txt K mg) : mg "any" = none := T.fr _ (T.fc 43 _ rfl)
theorem Txt.zTuple (T : Txt K mg) : mg "tuple" = none := T.fr _ (T.fc 44 _ rfl)
theorem Txt.zEnumerate (T : Txt K mg) : mg "enumerate" = none := T.fr _ (T.fc 45 _ rfl)
theorem Txt.zList (T : Txt K mg) : mg "list" = none := T.fr _ (T.fc 46 _ rfl)
theorem Txt.zSorted (T : Txt K mg) : mg "sorted" = none := T.fr _ (T.fc 47 _ rfl)
theorem Txt.zIsinstance (T : Txt K mg) : mg "isinstance" = none := T.fr _ (T.fc 48 _ rfl)
theorem Txt.zInt (T : Txt K mg) : mg "int" = none := T.fr _ (T.fc 49 _ rfl)
theorem Txt.zMax (T : Txt K mg) : mg "max" = none := T.fr _ (T.fc 50 _ rfl)
theorem Txt.zMin (T : Txt K mg) : mg "min" = none := T.fr _ (T.fc 51 _ rfl)
theorem Txt.zAbs (T : Txt K mg) : mg "abs" = none := T.fr _ (T.fc 52 _ rfl)
theorem Txt.zRange (T : Txt K mg) : mg "range" = none := T.fr _ (T.fc 53 _ rfl)
theorem Txt.iMOST (T : Txt K mg) : ∃ t, mg "MOST" = some (.int (10 ^ 30) t) := T.it _ _ (T.fc 54 _ rfl)
theorem Txt.iMOSTPOCKETS (T : Txt K mg) : ∃ t, mg "MOST_POCKETS" = some (.int (12) t) := T.it _ _ (T.fc 55 _ rfl)
theorem Txt.iMOSTNAMECHARS (T : Txt K mg) : ∃ t, mg "MOST_NAME_CHARS" = some (.int (12) t) := T.it _ _ (T.fc 56 _ rfl)
theorem Txt.iMOSTBALLS (T : Txt K mg) : ∃ t, mg "MOST_BALLS" = some (.int (12) t) := T.it _ _ (T.fc 57 _ rfl)
theorem Txt.iMOSTCLASSES (T : Txt K mg) : ∃ t, mg "MOST_CLASSES" = some (.int (64) t) := T.it _ _ (T.fc 58 _ rfl)
theorem Txt.iMOSTMINUTES (T : Txt K mg) : ∃ t, mg "MOST_MINUTES" = some (.int (10000) t) := T.it _ _ (T.fc 59 _ rfl)
theorem Txt.sCHARS (T : Txt K mg) : ∃ t, mg "NAME_CHARS" = some (.str "abcdefghijklmnopqrstuvwxyz0123456789" t) := T.st _ _ (T.fc 60 _ rfl)
theorem Txt.cTable (T : Txt K mg) : Cls K (He.ga K "Table") := He.cls_ok (T.fc 61 _ rfl)
theorem Txt.kTable (T : Txt K mg) : Mk K (He.ga K "Table") (He.ma K (He.ga K "Table") "__init__") := He.mkr_ok (T.fc 62 _ rfl)
theorem Txt.nTableWidth (T : Txt K mg) : NoAttr K (He.ga K "Table") "width" := He.noat_ok (T.fc 63 _ rfl)
theorem Txt.nTableHeight (T : Txt K mg) : NoAttr K (He.ga K "Table") "height" := He.noat_ok (T.fc 64 _ rfl)
theorem Txt.nTablePockets (T : Txt K mg) : NoAttr K (He.ga K "Table") "pockets" := He.noat_ok (T.fc 65 _ rfl)
theorem Txt.mTableIsPoint (T : Txt K mg) : Meth K (He.ga K "Table") "is_point" (He.ma K (He.ga K "Table") "is_point") := He.meth_ok (T.fc 66 _ rfl)
theorem Txt.mTableCheckPoint (T : Txt K mg) : Meth K (He.ga K "Table") "check_point" (He.ma K (He.ga K "Table") "check_point") := He.meth_ok (T.fc 67 _ rfl)
theorem Txt.cTimes (T : Txt K mg) : Cls K (He.ga K "Times") := He.cls_ok (T.fc 68 _ rfl)
theorem Txt.kTimes (T : Txt K mg) : Mk K (He.ga K "Times") (He.ma K (He.ga K "Times") "__init__") := He.mkr_ok (T.fc 69 _ rfl)
theorem Txt.nTimesStart (T : Txt K mg) : NoAttr K (He.ga K "Times") "start" := He.noat_ok (T.fc 70 _ rfl)
theorem Txt.nTimesEnd (T : Txt K mg) : NoAttr K (He.ga K "Times") "end" := He.noat_ok (T.fc 71 _ rfl)
theorem Txt.nTimesClasses (T : Txt K mg) : NoAttr K (He.ga K "Times") "classes" := He.noat_ok (T.fc 72 _ rfl)
theorem Txt.mTimesIsWithin (T : Txt K mg) : Meth K (He.ga K "Times") "is_within" (He.ma K (He.ga K "Times") "is_within") := He.meth_ok (T.fc 73 _ rfl)
theorem Txt.mTimesHolds (T : Txt K mg) : Meth K (He.ga K "Times") "holds" (He.ma K (He.ga K "Times") "holds") := He.meth_ok (T.fc 74 _ rfl)
theorem Txt.mTimesNextFrom (T : Txt K mg) : Meth K (He.ga K "Times") "next_from" (He.ma K (He.ga K "Times") "next_from") := He.meth_ok (T.fc 75 _ rfl)
end
end Cu

/-! ## CuHead -/
set_option maxRecDepth 100000
set_option maxHeartbeats 0
namespace Cu
open PySem PySem.Spec PyProof.Rows L2
def obsCG (n : Nat) (g : Addr → Option Obj) : AlC := obsC (He.frG g (He.asD g n))
def hkC (n : Nat) : PySem.W.Hook where
  α := AlC
  obs := fun s => obsCG n s.heap.get?
  val := fun _ => valC
  says := fun _ h => ∃ K : PySem.W.Frag, K.In h ∧ SaysC K
  of := fun _ _ e => ⟨_, He.frG_in, e⟩
  keeps := fun _ _ _ ⟨K, hK, c⟩ k => ⟨K, PySem.W.Frag.In.keeps hK k, c⟩
abbrev R : PySem.W.OpenRow := PySem.W.OpenLaw.row PySem.Challenge.rw_cushioned_k29_whole_great_tables
abbrev hk : PySem.W.Hook := hkC 6
def ob (s : PySem.W.SharedT) : AlC := obsCG 6 (HandSHeadRun.getT s)
theorem ob_eq (s : PySem.W.SharedT) : ob s = hk.obs s.abs := by
  have e : HandSHeadRun.getT s = s.abs.heap.get? := funext (HandSHeadRun.getT_eq s)
  show obsCG 6 (HandSHeadRun.getT s) = obsCG 6 s.abs.heap.get?
  rw [e]
theorem run (w : World) : HandSHeadRun.RunEqI R (PySem.W.view R.prog [0, 62]) hk ob 6000 names w := by
  unfold HandSHeadRun.RunEqI
  kernel_rfl
end Cu

/-! ## CuKit -/
set_option maxRecDepth 100000
set_option maxHeartbeats 4000000
namespace Cu
open PySem PySem.Spec PyProof.Rows L2 Evl
/-! ### a def by its name, with its promise -/
def Def (P : Program) (w : World) (K : PySem.W.Frag) (mg : Str → Option Value) (base : Heap) (k : Nat) (x : Str) (ps : List Str) (sp : Sp) : Prop :=
  ∃ fd, FnOk P w K mg base CX0 k (He.ga K x) fd ps sp ∧ Binds K fd ps [] ∧ mg x = some (.ref (He.ga K x)) ∧ PySem.W.keepIn K (.ref (He.ga K x)) = true
theorem pe_def {X : Cx} {k n : Nat} {x : Str} {ps : List Str} {sp : Sp} {e : Expr} {es : List Expr} {t : TA} {p pos : Pos} (D : Def X.prog X.w X.K X.mg X.base k x ps sp) (hr : Room n X.A) (ha : PA X (e :: es) t) (hk : k ≤ n := by decide) (hg : Gl X x := by rfl)
    (hdb : (x == ("__debug__" : Str)) = false := by decide) (he : starEach (e :: es) X.env = (false, eval e X.env) :: starEach es X.env := by rfl) (hpl : (backTo pos (starEach es X.env)).any (·.1) = false := by rfl) : PE X (.Call (.Name x p) (e :: es) [] pos) (tCall sp [] E0 t) := by
  obtain ⟨fd, F, b, m, kp⟩ := D
  exact pe_call F (hr.mono hk) hg m kp b .nil pass0 ha hdb he hpl
section
variable {P : Program} {w : World} {K : PySem.W.Frag} {mg : Str → Option Value} {base : Heap}
theorem mk_def {x : Str} {st : Stmt} {N ps : List Str} {k : Nat} {sp : Sp} (F : ∃ fd, FunD K x x (defArgs st) (defBody st) (defScope st) [] [] (He.ga K x) fd) (g : mg x = some (.ref (He.ga K x))) (S : FnScope N ps (defScope st))
    (hb : ∀ (kV doc pm : Value) (an : Option Addr) (cdv ct : Value) (us : List Value), us.length = ps.length → bindArgs (PySem.W.fnOf x x (defArgs st) (defBody st) (defScope st) .none kV doc pm an cdv ct) ⟨us, []⟩ = pure (ps.zip us))
    (len : ∀ vs H Q E, sp vs H Q E → vs.length = ps.length)
    (hbody : ∀ (cdv : Value) (A : Around) (outer : List Env) (s : Shared) (H : Hp) (vs : List V) (Q : VK) (E : XK), Room k (A.deeper (envOfC x (defScope st) s.heap.objs.size (He.ga K x) cdv)) → sp vs H Q E →
      ∃ t, PSs (cxOf CX0 P w K mg base N x (defScope st) (He.ga K x) cdv A outer s H E).nox (defBody st) t ∧ t { nx := fun _ H' => Q .non H', rt := Q } (start N vs) H) : Def P w K mg base (k + 1) x ps sp := by
  obtain ⟨fd, F⟩ := F
  refine ⟨fd, F.ok S len fun cdv A outer s H vs Q E hr h => ?_, FunD.bindsN F hb, g, F.kp⟩
  obtain ⟨t, h1, h2⟩ := hbody cdv A outer s H vs Q E hr h
  exact ⟨t, h1.nox, h2⟩
/-- a method -/
def Met (P : Program) (w : World) (K : PySem.W.Frag) (mg : Str → Option Value) (base : Heap) (k : Nat) (C m : Str) (ps : List Str) (sp : Sp) : Prop :=
  ∃ fd, FnOk P w K mg base CX0 k (He.ma K (He.ga K C) m) fd ps sp ∧ Binds K fd ps []
theorem mk_met {C x q : Str} {st : Stmt} {N ps : List Str} {k : Nat} {sp : Sp} (F : ∃ fd, FunD K x q (defArgs st) (defBody st) (defScope st) [] [] (He.ma K (He.ga K C) x) fd) (S : FnScope N ps (defScope st))
    (hb : ∀ (kV doc pm : Value) (an : Option Addr) (cdv ct : Value) (us : List Value), us.length = ps.length → bindArgs (PySem.W.fnOf x q (defArgs st) (defBody st) (defScope st) .none kV doc pm an cdv ct) ⟨us, []⟩ = pure (ps.zip us))
    (len : ∀ vs H Q E, sp vs H Q E → vs.length = ps.length)
    (hbody : ∀ (cdv : Value) (A : Around) (outer : List Env) (s : Shared) (H : Hp) (vs : List V) (Q : VK) (E : XK), Room k (A.deeper (envOfC q (defScope st) s.heap.objs.size (He.ma K (He.ga K C) x) cdv)) → sp vs H Q E →
      ∃ t, PSs (cxOf CX0 P w K mg base N q (defScope st) (He.ma K (He.ga K C) x) cdv A outer s H E).nox (defBody st) t ∧ t { nx := fun _ H' => Q .non H', rt := Q } (start N vs) H) : Met P w K mg base (k + 1) C x ps sp := by
  obtain ⟨fd, F⟩ := F
  refine ⟨fd, F.ok S len fun cdv A outer s H vs Q E hr h => ?_, FunD.bindsN F hb⟩
  obtain ⟨t, h1, h2⟩ := hbody cdv A outer s H vs Q E hr h
  exact ⟨t, h1.nox, h2⟩
end
theorem pe_met {X : Cx} {K : PySem.W.Frag} {k n : Nat} {C m : Str} {ps : List Str} {sp : Sp} {o e : Expr} {es : List Expr} {ta : TE} {t : TA} {apos pos : Pos} {pl : Sem Bool} (D : Met X.prog X.w K X.mg X.base k C m ps sp) (ho : PE X o ta) (c : Cls K (He.ga K C)) (hm : Meth K (He.ga K C) m (He.ma K (He.ga K C) m)) (hr : Room n X.A) (ha : PA X (e :: es) t) (hK : X.K = K := by rfl) (hk : k ≤ n := by decide)
    (hst : starEach (e :: es) X.env = (false, eval e X.env) :: starEach es X.env := by rfl) (hpl : (backTo pos (starEach es X.env)).any (·.1) = false := by rfl)
    (ht : eval (.Call (.Attribute o m apos) (e :: es) [] pos) X.env = (do
      let ov ← eval o X.env
      standAt apos.atName
      let (f, first) ← holding [ov] (getMethod ov m pl)
      callWith pos f first (backTo pos (starEach (e :: es) X.env)) (backToKw pos (keywordEach [] X.env))) := by rfl) :
    PE X (.Call (.Attribute o m apos) (e :: es) [] pos) (tMeth (He.ga K C) m sp [] E0 ta t) := by
  subst hK
  obtain ⟨fd, F, b⟩ := D
  exact pe_meth ho c hm F (hr.mono hk) b .nil pass0 ha hst hpl ht
/-- a module's number, a module's text -/
theorem pe_gi {X : Cx} {x : Str} {i : Int} {pos : Pos} (h : ∃ t, X.mg x = some (.int i t)) (hg : Gl X x := by rfl) (hd : (x == ("__debug__" : Str)) = false := by decide) : PE X (.Name x pos) (tC (.int i)) := by
  obtain ⟨t, h⟩ := h
  exact pe_glob hg h ⟨t, rfl⟩ hd
theorem pe_gs {X : Cx} {x : Str} {z : Str} {pos : Pos} (h : ∃ t, X.mg x = some (.str z t)) (hg : Gl X x := by rfl) (hd : (x == ("__debug__" : Str)) = false := by decide) : PE X (.Name x pos) (tC (.str z)) := by
  obtain ⟨t, h⟩ := h
  exact pe_glob hg h ⟨t, rfl⟩ hd
theorem _root_.L2.Room.units65 {k : Nat} {A : Around} (r : Room k A) : A.units + 65 < cLine := by
  have := r.un
  omega
/-- an expression that is never come to -/
theorem pe_nv {X : Cx} {e : Expr} : PE X e (fun _ _ _ => False) := ⟨fun _ _ _ _ _ _ h => h.elim⟩
/-! ### tuples of two numbers, lists of them -/
def TupC (K : PySem.W.Frag) (H : Hp) (v : V) (c : Int × Int) : Prop := ∃ a, v = .ref a ∧ SqT K H a [.int c.1, .int c.2]
def LstC (K : PySem.W.Frag) (H : Hp) (p : Addr) (L : List (Int × Int)) : Prop := ∃ vs, H p = some (.lst vs) ∧ Paired (TupC K H) vs L
section
variable {K : PySem.W.Frag} {H H' : Hp} {p : Addr} {L : List (Int × Int)} {vs : List V} {v : V} {c : Int × Int}
theorem TupC.up (e : Ex H H') (h : TupC K H v c) : TupC K H' v c := let ⟨a, q, t⟩ := h; ⟨a, q, ex_t e t⟩
theorem prs_up (e : Ex H H') (h : Paired (TupC K H) vs L) : Paired (TupC K H') vs L := Paired.mapP h fun _ _ q => q.up e
theorem LstC.up (e : Ex H H') (h : LstC K H p L) : LstC K H' p L := let ⟨vs, q, t⟩ := h; ⟨vs, e _ _ q, prs_up e t⟩
theorem paired_get {α β : Type} {F : α → β → Prop} : ∀ {l : List α} {r : List β} {i : Nat} {x : α}, Paired F l r → l[i]? = some x → ∃ y, r[i]? = some y ∧ F x y
  | _, _, _, _, .nil, e => by simp at e
  | _, _, 0, _, .cons r _, e => by simp at e; subst e; exact ⟨_, rfl, r⟩
  | _, _, i + 1, x, .cons _ t, e => by
    obtain ⟨u, h1, h2⟩ := paired_get (i := i) (x := x) t (by simpa using e)
    exact ⟨u, by simpa using h1, h2⟩
theorem paired_app {α β : Type} {F : α → β → Prop} : ∀ {l l' : List α} {r r' : List β}, Paired F l r → Paired F l' r' → Paired F (l ++ l') (r ++ r')
  | _, _, _, _, .nil, s => s
  | _, _, _, _, .cons r t, s => .cons r (paired_app t s)
theorem mem_paired {α β : Type} {F : α → β → Prop} : ∀ {l : List α} {r : List β} {x : α}, Paired F l r → x ∈ l → ∃ y ∈ r, F x y
  | _, _, _, .nil, e => by cases e
  | _, _, x, .cons (a := a) (b := b) f t, e => by
    rcases List.mem_cons.mp e with q | q
    · subst q
      exact ⟨b, List.mem_cons_self, f⟩
    · obtain ⟨y, h1, h2⟩ := mem_paired t q
      exact ⟨y, List.mem_cons_of_mem _ h1, h2⟩
/-- another order of the one list is one of the other -/
theorem paired_perm {α β : Type} {F : α → β → Prop} {l l' : List α} (h : l'.Perm l) : ∀ {r : List β}, Paired F l r → ∃ r', r'.Perm r ∧ Paired F l' r' := by
  have key : ∀ {l l' : List α}, l.Perm l' → ∀ {r : List β}, Paired F l r → ∃ r', r.Perm r' ∧ Paired F l' r' := by
    intro l l' h
    induction h with
    | nil => intro r p; exact ⟨r, List.Perm.refl _, p⟩
    | cons x h ih =>
      intro r p
      cases p with
      | cons f t =>
        obtain ⟨r', h1, h2⟩ := ih t
        exact ⟨_ :: r', h1.cons _, .cons f h2⟩
    | swap x y l =>
      intro r p
      cases p with
      | cons f t =>
        cases t with
        | cons f2 t2 => exact ⟨_, List.Perm.swap _ _ _, .cons f2 (.cons f t2)⟩
    | trans h1 h2 ih1 ih2 =>
      intro r p
      obtain ⟨r1, a1, b1⟩ := ih1 p
      obtain ⟨r2, a2, b2⟩ := ih2 b1
      exact ⟨r2, a1.trans a2, b2⟩
  intro r p
  obtain ⟨r', h1, h2⟩ := key h.symm p
  exact ⟨r', h1.symm, h2⟩
end
theorem le0 {α : Type} : ([] : List α).length ≤ sizeLine := (by decide : (0 : Nat) ≤ sizeLine)
theorem le1 {α : Type} {a : α} : [a].length ≤ sizeLine := (by decide : (1 : Nat) ≤ sizeLine)
theorem le2 {α : Type} {a b : α} : [a, b].length ≤ sizeLine := (by decide : (2 : Nat) ≤ sizeLine)
theorem le3 {α : Type} {a b c : α} : [a, b, c].length ≤ sizeLine := (by decide : (3 : Nat) ≤ sizeLine)
theorem le4 {α : Type} {a b c d : α} : [a, b, c, d].length ≤ sizeLine := (by decide : (4 : Nat) ≤ sizeLine)
theorem le5 {α : Type} {a b c d e : α} : [a, b, c, d, e].length ≤ sizeLine := (by decide : (5 : Nat) ≤ sizeLine)
theorem le6 {α : Type} {a b c d e f : α} : [a, b, c, d, e, f].length ≤ sizeLine := (by decide : (6 : Nat) ≤ sizeLine)
theorem lst_one {K : PySem.W.Frag} {H : Hp} {p l : Addr} {a b : Int} (np : H p = none) (nl : L2.upd H p (.tup [.int a, .int b]) l = none) : LstC K (L2.upd (L2.upd H p (.tup [.int a, .int b])) l (.lst [.ref p])) l [(a, b)] ∧ Ex H (L2.upd (L2.upd H p (.tup [.int a, .int b])) l (.lst [.ref p])) := by
  have hp : L2.upd H p (.tup [.int a, .int b]) p = some (.tup [.int a, .int b]) := upd_same
  exact ⟨⟨_, upd_same, .cons ⟨p, rfl, SqT.of ((Ex.new nl) _ _ hp)⟩ .nil⟩, (Ex.new np).trans (Ex.new nl)⟩
theorem lst_nil {K : PySem.W.Frag} {H : Hp} {l : Addr} : LstC K (L2.upd H l (.lst [])) l [] := ⟨_, upd_same, .nil⟩
/-! ### classes as data -/
def pd (c : Int × Int) : PyData := .tuple [.int c.1, .int c.2]
theorem dp_tup {K : PySem.W.Frag} {H : Hp} {v : V} {c : Int × Int} (h : TupC K H v c) : Dp K H v (pd c) := by
  obtain ⟨a, rfl, h⟩ := h
  exact .tup h (.cons (.int _) (.cons (.int _) .nil))
theorem dp_all {K : PySem.W.Frag} {H : Hp} : ∀ {vs : List V} {L : List (Int × Int)}, Paired (TupC K H) vs L → DpAll K H vs (L.map pd)
  | _, _, .nil => .nil
  | _, _, .cons f t => .cons (dp_tup f) (dp_all t)
theorem dp_lst {K : PySem.W.Frag} {H : Hp} {p : Addr} {L : List (Int × Int)} (h : LstC K H p L) : Dp K H (.ref p) (.list (L.map pd)) := by
  obtain ⟨vs, h, q⟩ := h
  exact .lst (SqL.of h) (dp_all q)
theorem pd_lay (c : Int × Int) : (pd c).canLay0 = true := by simp [pd, PyData.canLay0, PyData.canLayAll0]
theorem pd_depth (c : Int × Int) : (pd c).depth = 1 := by simp [pd, PyData.depth, PyData.depthAll]
theorem pds_lay : ∀ L : List (Int × Int), PyData.canLayAll0 (L.map pd) = true
  | [] => by simp [PyData.canLayAll0]
  | z :: zs => by simp [PyData.canLayAll0, pd_lay z, pds_lay zs]
theorem pds_depth : ∀ L : List (Int × Int), PyData.depthAll (L.map pd) ≤ 1
  | [] => by simp [PyData.depthAll]
  | z :: zs => by
    have h1 := pds_depth zs
    have h2 := pd_depth z
    simp only [List.map_cons, PyData.depthAll]
    omega
theorem pd_shaped (c : Int × Int) : SeqAt.shaped (pd c) = true := by
  have h := pd_depth c
  show ((pd c).canLay0 && decide ((pd c).depth ≤ 64)) = true
  rw [Bool.and_eq_true]
  exact ⟨pd_lay c, decide_eq_true (by omega)⟩
theorem pds_shaped (L : List (Int × Int)) : SeqAt.shaped (.list (L.map pd)) = true := by
  have h1 := pds_depth L
  have h2 : PyData.depth (.list (L.map pd)) ≤ 64 := by
    simp only [PyData.depth]
    omega
  show (PyData.canLay0 (.list (L.map pd)) && decide (PyData.depth (.list (L.map pd)) ≤ 64)) = true
  rw [Bool.and_eq_true]
  exact ⟨by simp only [PyData.canLay0]; exact pds_lay L, decide_eq_true h2⟩
theorem pd_eqv (a b : Int × Int) : PyData.eqv (pd a) (pd b) = decide (a = b) := by
  obtain ⟨x, y⟩ := a
  obtain ⟨z, w⟩ := b
  have e : PyData.eqv (pd (x, y)) (pd (z, w)) = ((x == z) && ((y == w) && true)) := by simp only [pd, PyData.eqv, PyData.eqvAll]
  rw [e, Bool.and_true, Bool.eq_iff_iff]
  simp
theorem pds_any (L : List (Int × Int)) (c : Int × Int) : ((L.map pd).any fun z => PyData.eqv z (pd c)) = decide (c ∈ L) := by
  rw [Bool.eq_iff_iff, List.any_eq_true, decide_eq_true_iff]
  constructor
  · rintro ⟨z, hz, he⟩
    obtain ⟨d, hd, rfl⟩ := List.mem_map.mp hz
    rw [pd_eqv] at he
    rw [← of_decide_eq_true he]
    exact hd
  · intro h
    exact ⟨pd c, List.mem_map.mpr ⟨c, h, rfl⟩, by rw [pd_eqv]; exact decide_eq_true rfl⟩
/-! ### keys that are classes -/
def keyC (c : Int × Int) : List Key := [.inl c.2, .inl c.1]
theorem keyC_inj {a b : Int × Int} (h : keyC a = keyC b) : a = b := by
  obtain ⟨x, y⟩ := a
  obtain ⟨z, w⟩ := b
  have h2 : ([Sum.inl y, Sum.inl x] : List Key) = [Sum.inl w, Sum.inl z] := h
  simp at h2
  rw [h2.1, h2.2]
theorem keys_put {kvs : List (List Key × V)} {d : List (Int × Int)} {c : Int × Int} {v : V} (h : kvs.map (·.1) = d.map keyC) : (putK kvs (keyC c) v).map (·.1) = (if c ∈ d then d else d ++ [c]).map keyC := by
  have e : (kvs.any fun kv => decide (kv.1 = keyC c)) = decide (c ∈ d) := by
    rw [Bool.eq_iff_iff, List.any_eq_true, decide_eq_true_iff]
    constructor
    · rintro ⟨kv, hk, he⟩
      have : kv.1 ∈ d.map keyC := by rw [← h]; exact List.mem_map.mpr ⟨kv, hk, rfl⟩
      obtain ⟨b, hb, eb⟩ := List.mem_map.mp this
      rw [of_decide_eq_true he] at eb
      rw [← keyC_inj eb]
      exact hb
    · intro hc
      have : keyC c ∈ kvs.map (·.1) := by rw [h]; exact List.mem_map.mpr ⟨c, hc, rfl⟩
      obtain ⟨kv, hk, he⟩ := List.mem_map.mp this
      exact ⟨kv, hk, decide_eq_true he⟩
  unfold putK
  rw [e]
  by_cases hc : c ∈ d
  · rw [if_pos (decide_eq_true hc), if_pos hc, ← h, List.map_map]
    refine List.map_congr_left fun kv _ => ?_
    show (if kv.1 = keyC c then (kv.1, v) else kv).1 = kv.1
    split <;> rfl
  · rw [if_neg (by rw [decide_eq_false hc]; exact Bool.false_ne_true), if_neg hc, List.map_append, List.map_append, h]
    rfl
/-! ### comprehensions without a test -/
theorem lc_all {J : It} {n : Nat} {G : Hp → Prop} {Y : Nat → Hp → V → Hp → Prop} (w : Walk J n G Y) {g : TG} {te : TE} {v : List Nat} {σ : L2.St} {H1 : Hp} {D : Addr} {Qd : Hp → Prop} (z : n ≤ 10000) (hD : H1 D = none) (Gd : Nat → V → Hp → Prop)
    (hG : ∀ H', Ex H1 H' → G H') (m1 : ∀ i y H H', Ex H H' → Gd i y H → Gd i y H') (m2 : ∀ i y H ac ac', H D = some (.lst ac) → Gd i y H → Gd i y (upd H D (.lst ac')))
    (el : ∀ i x H H' ac, i < n → Ex H1 H → H D = some (.lst ac) → Y i H x H' → ∀ R : VK, (∀ y H'', Ex H H'' → Gd i y H'' → R y H'') → g x (wipe σ v) H' fun σ2 H2 => wipe σ2 v = wipe σ v ∧ te σ2 H2 R)
    (fin : ∀ ys H', Ex H1 H' → H' D = some (.lst ys) → ys.length = n → (∀ i y, ys[i]? = some y → Gd i y H') → Qd H') :
    ∃ W : Nat → Nat → Hp → Prop, (∃ m, W 0 m (upd H1 D (.lst []))) ∧ ∀ i m H, W i m H →
      (J.stop i H ∧ Qd H) ∨ (J.go i H ∧ ∃ Nx : Hp → Prop, (∀ H', Nx H' → ∃ m', m' < m ∧ W (i + 1) m' H') ∧ ∀ x H', J.yld i H x H' → g x (wipe σ v) H' fun σ2 H2 => wipe σ2 v = wipe σ v ∧ tYes σ2 H2 fun b H3 =>
        if b = true then te σ2 H3 fun y H4 => ∃ acc, H4 D = some (.lst acc) ∧ acc.length < sizeLine ∧ Nx (upd H4 D (.lst (acc ++ [y]))) else Nx H3) := by
  refine lc_it w (fun i H' => Ex H1 H' ∧ ∃ ys, H' D = some (.lst ys) ∧ ys.length = i ∧ ∀ j y, ys[j]? = some y → Gd j y H') ⟨Ex.new hD, [], upd_same, rfl, fun j y h => by simp at h⟩ (fun i H' _ p => hG H' p.1) ?_ ?_
  · rintro i x H H' hi ⟨e, ys, hy, hl, ha⟩ y
    refine el i x H H' ys hi e hy y _ fun yv H'' e2 gd => ⟨ys, e2 _ _ hy, sz_lt (by omega), Ex.mut (e.trans e2) hD, ys ++ [yv], upd_same, by rw [List.length_append, List.length_singleton, hl], fun j u hj => ?_⟩
    refine m2 _ _ _ _ _ (e2 _ _ hy) ?_
    by_cases hji : j < ys.length
    · rw [List.getElem?_append_left hji] at hj
      exact m1 _ _ _ _ e2 (ha j u hj)
    · rw [List.getElem?_append_right (by omega)] at hj
      have hj0 : j - ys.length = 0 := by
        obtain ⟨h1, _⟩ := List.getElem?_eq_some_iff.mp hj
        simp at h1
        omega
      rw [hj0] at hj
      have e3 : yv = u := Option.some.inj hj
      have e4 : j = i := by omega
      rw [← e3, e4]
      exact gd
  · rintro H' ⟨e, ys, hy, hl, ha⟩
    exact fin ys H' e hy hl ha
/-- a list by its items -/
theorem list_of_get {α : Type} {ys : List α} {n : Nat} {h : Nat → α} (hl : ys.length = n) (hy : ∀ (i : Nat) (y : α), ys[i]? = some y → y = h i) : ys = (List.range n).map h := by
  apply List.ext_getElem?
  intro i
  rw [List.getElem?_map]
  by_cases hi : i < n
  · rw [List.getElem?_range hi]
    have hi2 : i < ys.length := by omega
    have e := hy i ys[i] (List.getElem?_eq_getElem hi2)
    rw [List.getElem?_eq_getElem hi2, e]
    rfl
  · rw [List.getElem?_eq_none (by omega), List.getElem?_eq_none (by simpa using hi)]
    rfl
theorem bl_of_get {ys : List V} {n : Nat} {h : Nat → Bool} (hl : ys.length = n) (hy : ∀ (i : Nat) (y : V), ys[i]? = some y → y = V.bl (h i)) : ys = ((List.range n).map h).map V.bl := by
  rw [List.map_map]
  exact list_of_get hl hy
/-- two lists beside one another by their items -/
theorem paired_of_get {α β : Type} {F : α → β → Prop} : ∀ {l : List α} {r : List β}, l.length = r.length → (∀ (i : Nat) (x : α) (y : β), l[i]? = some x → r[i]? = some y → F x y) → Paired F l r
  | [], [], _, _ => .nil
  | [], _ :: _, h, _ => by simp at h
  | _ :: _, [], h, _ => by simp at h
  | x :: l, y :: r, h, f => .cons (f 0 x y rfl rfl) (paired_of_get (by simpa using h) fun i x y h1 h2 => f (i + 1) x y (by simpa using h1) (by simpa using h2))
theorem tyT {K : PySem.W.Frag} {H : Hp} {a : Addr} {xs : List V} (h : SqT K H a xs) : TyX K H (.ref a) (.type "tuple") := by
  rcases h with (h | ⟨o, h⟩) | ⟨o, its, n, h, c, _⟩
  · exact .base (.tup h)
  · exact .fTuple h
  · exact .kTuple h c
/-- a tuple stays where a list changes -/
theorem sqt_upd {K : PySem.W.Frag} {H : Hp} {a D : Addr} {xs ac : List V} {o : HO} (hD : H D = some (.lst ac)) (h : SqT K H a xs) : SqT K (upd H D o) a xs := by
  rcases h with (h | ⟨ob, h⟩) | h
  · exact .inl (.inl (by rw [upd_ne (ne_of h hD (fun z => by cases z))]; exact h))
  · exact .inl (.inr ⟨ob, by rw [upd_ne (ne_of h hD (fun z => by cases z))]; exact h⟩)
  · exact .inr h
theorem TupC.upd {K : PySem.W.Frag} {H : Hp} {D : Addr} {v : V} {c : Int × Int} {ac : List V} {o : HO} (hD : H D = some (.lst ac)) (h : TupC K H v c) : TupC K (L2.upd H D o) v c := let ⟨a, q, t⟩ := h; ⟨a, q, sqt_upd hD t⟩
/-! ### tests of numbers -/
theorem neI {a b : Int} : (!decide (V.int a = V.int b)) = true ↔ a ≠ b := by
  by_cases h : a = b
  · subst h
    simp
  · rw [decide_eq_false (fun e => h (V.int.inj e))]
    exact ⟨fun _ => h, fun _ => rfl⟩
theorem eqI {a b : Int} : decide (V.int a = V.int b) = true ↔ a = b := by
  by_cases h : a = b
  · subst h
    simp
  · rw [decide_eq_false (fun e => h (V.int.inj e))]
    exact ⟨fun z => absurd z Bool.false_ne_true, fun z => absurd z h⟩
/-- if a test of numbers: its two ways -/
theorem iteNe {a b : Int} {A B : Prop} (h1 : a ≠ b → A) (h2 : a = b → B) : if (!decide (V.int a = V.int b)) = true then A else B :=
  ite2 (fun c => h1 (neI.mp c)) fun c => h2 (Classical.byContradiction fun z => c (neI.mpr z))
theorem iteEq {a b : Int} {A B : Prop} (h1 : a = b → A) (h2 : a ≠ b → B) : if decide (V.int a = V.int b) = true then A else B :=
  ite2 (fun c => h1 (eqI.mp c)) fun c => h2 fun z => c (eqI.mpr z)
theorem iteD {c A B : Prop} [Decidable c] (h1 : c → A) (h2 : ¬ c → B) : if decide c = true then A else B := ite2 (fun q => h1 (of_decide_eq_true q)) fun q => h2 fun z => q (decide_eq_true z)
/-! ### numbers to 2 ^ 1000 -/
def Big : Int := 2 ^ 1000
theorem big_pos : 0 < Big := by unfold Big; decide +kernel
theorem big_ge : 10 ^ 200 ≤ Big := by unfold Big; decide +kernel
theorem big_nat : Big.natAbs < 2 ^ 1001 := by unfold Big; decide +kernel
theorem big_abs {i : Int} (h0 : -Big ≤ i) (h1 : i ≤ Big) : i.natAbs < 2 ^ 1001 := by
  have h := big_nat
  have p := big_pos
  generalize (2 : Nat) ^ 1001 = z at *
  omega
theorem big_mul {i j : Int} (h0 : -Big ≤ i) (h1 : i ≤ Big) (h2 : -Big ≤ j) (h3 : j ≤ Big) : CMulW i j := wide_mul (big_abs h0 h1) (big_abs h2 h3) (by decide) (by decide) (by decide)
theorem big_div {i j : Int} (h0 : 0 < j) (h1 : j ≤ Big) : CDivW i j := wide_div h0 (big_abs (by omega) h1) (by decide) (by decide)
end Cu

/-! ## CuInv -/
set_option maxRecDepth 100000
set_option maxHeartbeats 4000000
namespace Cu
open PySem PySem.Spec PyProof.Rows L2 Evl
section
variable {P : Program} {w : World} {K : PySem.W.Frag} {mg : Str → Option Value} {base : Heap}
/-! ### inverse -/
def spInverse : Sp := fun vs H Q _ => ∃ a m : Int, vs = [.int a, .int m] ∧ 0 < a ∧ a ≤ Big ∧ 0 < m ∧ m ≤ Big ∧ ig a m = 1 ∧ ∀ H', Ex H H' → Q (.int (inv a m)) H'
theorem scInverse : FnScope ["number", "modulus", "left", "right", "factor", "following", "quotient"] ["number", "modulus"] (defScope sInverse) := ⟨rfl, rfl, rfl, by decide +kernel, rfl, by decide +kernel, by decide +kernel⟩
/-- the numbers on Euclid's way are small -/
theorem Eu.small {a m l r f g : Int} (e : Eu a m l r f g) (ha : a ≤ Big) (hm : m ≤ Big) : (-Big ≤ f ∧ f ≤ Big) ∧ (-Big ≤ g ∧ g ≤ Big) := by
  have h1 := e.fb
  have h2 := e.gb
  omega
theorem D_Inverse (T : Txt K mg) : Def P w K mg base 1 "inverse" ["number", "modulus"] spInverse := by
  refine mk_def T.fInverse T.gInverse scInverse (fun _ _ _ _ _ _ us hl => match us, hl with | [_, _], _ => rfl) ?_ ?_
  · rintro vs H Q E ⟨a, m, rfl, _⟩
    rfl
  · rintro cdv A outer s H vs Q E hr ⟨a, m, rfl, ha0, ha, hm0, hm, hg, k⟩
    have nd := scInverse.nd
    refine ⟨_, pss_cons (ps_par (i := 2) (j := 3) rfl nd rfl rfl (by decide) rfl rfl (pa_cons (pv 0) (pa_cons (pv 1) pa_nil)) (by rfl))
      (pss_cons (ps_asg (pe_tup (pa_cons pe_int (pa_cons pe_int pa_nil))) (pg_tup rfl (pgs_cons (pg_name (i := 4) nd rfl (.inl rfl)) (pgs_cons (pg_name (i := 5) nd rfl (.inl rfl)) pgs_nil))))
      (pss_cons (ps_while PassesOwn.never (pt_cmpR op_gt (pv 3) pe_int (nomark _))
        (pss_cons (ps_set (i := 6) nd rfl (.inl rfl) (pe_op op_fdivW (pv 2) (pv 3)))
        (pss_cons (ps_par (i := 2) (j := 3) rfl nd rfl rfl (by decide) rfl rfl (pa_cons (pv 3) (pa_cons (pe_op op_sub (pv 2) (pe_op op_mulW (pv 6) (pv 3))) pa_nil)) (by rfl))
        (pss_one (ps_par (i := 4) (j := 5) rfl nd rfl rfl (by decide) rfl rfl (pa_cons (pv 5) (pa_cons (pe_op op_sub (pv 4) (pe_op op_mulW (pv 6) (pv 5))) pa_nil)) (by rfl))))))
      (pss_one (ps_ret (pe_op op_mod (pv 4) (pv 1)))))), ?_⟩
    refine ⟨_, rfl, _, rfl, _, _, rfl, ?_⟩
    refine ⟨by show 2 ≤ sizeLine; decide, fun p np => ⟨p, _, rfl, SqT.of upd_same, rfl, _, _, rfl, _, _, rfl, rfl, ?_⟩⟩
    refine ⟨fun n σ' H' => Ex H H' ∧ ∃ (l r f g : Int) (q : Option V), σ' = [some (.int a), some (.int m), some (.int l), some (.int r), some (.int f), some (.int g), q] ∧ Eu a m l r f g ∧ l ≤ Big ∧ r ≤ Big ∧ n = r.toNat,
      ⟨_, Ex.new np, a, m, 1, 0, none, rfl, Eu.start ha0 hm0 hg, ha, hm, rfl⟩, ?_⟩
    rintro n σ' H' ⟨ex, l, r, f, g, q, rfl, E, hl, hrB, rfl⟩
    refine ⟨_, rfl, _, _, rfl, rfl, _, rfl, ?_⟩
    refine ite2 (fun c => ?_) (fun c => ?_)
    · have c : 0 < r := of_decide_eq_true c
      obtain ⟨E2, lt⟩ := E.turn c
      obtain ⟨s1, s2⟩ := E.small ha hm
      have q0 : 0 ≤ l / r := Int.ediv_nonneg (Int.le_of_lt E.l0) (by omega)
      have q1 : l / r ≤ l := Int.ediv_le_self _ (Int.le_of_lt E.l0)
      have bp := big_pos
      refine ⟨fun σ' H' => Ex H H' ∧ ∃ (l' r' f' g' : Int) (q : Option V), σ' = [some (.int a), some (.int m), some (.int l'), some (.int r'), some (.int f'), some (.int g'), q] ∧ Eu a m l' r' f' g' ∧ l' ≤ Big ∧ r' ≤ Big ∧ r' < r, ?_, ?_⟩
      · rintro σ' H' ⟨ex', l', r', f', g', q, rfl, E', hl', hr', lt'⟩
        exact ⟨r'.toNat, by have := E'.r0; omega, ex', l', r', f', g', q, rfl, E', hl', hr', rfl⟩
      · refine ⟨_, rfl, _, rfl, _, _, rfl, rfl, big_div c hrB, ?_⟩
        refine ⟨_, rfl, _, rfl, _, rfl, _, rfl, _, _, rfl, rfl, big_mul (by omega) (by omega) (by omega) hrB, _, _, rfl, rfl, _, _, rfl, ?_⟩
        refine ⟨_, rfl, _, rfl, _, rfl, _, rfl, _, _, rfl, rfl, big_mul (by omega) (by omega) s2.1 s2.2, _, _, rfl, rfl, _, _, rfl, ?_⟩
        exact ⟨ex, _, _, _, _, _, rfl, E2, hrB, by omega, lt⟩
    · have c : ¬ 0 < r := fun z => c (decide_eq_true z)
      refine ⟨_, rfl, _, rfl, _, _, rfl, rfl, hm0, ?_⟩
      have e := k _ ex
      rw [inv_eq (E.fin hm0 c)] at e
      exact e
end
end Cu

/-! ## CuChi -/
set_option maxRecDepth 100000
set_option maxHeartbeats 4000000
namespace Cu
open PySem PySem.Spec PyProof.Rows L2 Evl
section
variable {P : Program} {w : World} {K : PySem.W.Frag} {mg : Str → Option Value} {base : Heap}
/-! ### chinese -/
def spChinese (K : PySem.W.Frag) : Sp := fun vs H Q _ => ∃ (x y : V) (a b : Int × Int), vs = [x, y] ∧ TupC K H x a ∧ TupC K H y b ∧ Wf a ∧ Wf b ∧ a.2 ≤ Big ∧ b.2 ≤ Big ∧
  (chi a b = none → ∀ H', Ex H H' → Q .non H') ∧ ∀ c, chi a b = some c → ∀ v H', Ex H H' → TupC K H' v c → Q v H'
theorem scChinese : FnScope ["one", "other", "first", "size", "second", "width", "divisor", "step", "modulus"] ["one", "other"] (defScope sChinese) := ⟨rfl, rfl, rfl, by decide +kernel, rfl, by decide +kernel, by decide +kernel⟩
theorem D_Chinese (T : Txt K mg) : Def P w K mg base 2 "chinese" ["one", "other"] (spChinese K) := by
  refine mk_def T.fChinese T.gChinese scChinese (fun _ _ _ _ _ _ us hl => match us, hl with | [_, _], _ => rfl) ?_ ?_
  · rintro vs H Q E ⟨x, y, a, b, rfl, _⟩
    rfl
  · rintro cdv A outer s H vs Q E hr ⟨x, y, ⟨r, m⟩, ⟨s', n⟩, rfl, ⟨p, rfl, hp⟩, ⟨q, rfl, hq⟩, wa, wb, la, lb, kN, kS⟩
    have nd := scChinese.nd
    refine ⟨_, pss_cons (ps_asg (pv 0) (pg_tup rfl (pgs_cons (pg_name (i := 2) nd rfl (.inl rfl)) (pgs_cons (pg_name (i := 3) nd rfl (.inl rfl)) pgs_nil))))
      (pss_cons (ps_asg (pv 1) (pg_tup rfl (pgs_cons (pg_name (i := 4) nd rfl (.inl rfl)) (pgs_cons (pg_name (i := 5) nd rfl (.inl rfl)) pgs_nil))))
      (pss_cons (ps_set (i := 6) nd rfl (.inl rfl) (pe_callBfun cr_gcd (by rfl) T.gcd (pa_cons (pv 3) (pa_cons (pv 5) pa_nil))))
      (pss_cons (ps_if (pt_cmpR op_ne (pe_op op_mod (pe_op op_sub (pv 4) (pv 2)) (pv 6)) pe_int (nomark _)) (pss_one (ps_ret pe_non)) pss_nil)
      (pss_cons (ps_set (i := 7) nd rfl (.inl rfl) (pe_op op_mulW (pe_op op_fdivW (pe_op op_sub (pv 4) (pv 2)) (pv 6)) (pe_def (D_Inverse T) hr (pa_cons (pe_op op_fdivW (pv 3) (pv 6)) (pa_cons (pe_op op_fdivW (pv 5) (pv 6)) pa_nil)))))
      (pss_cons (ps_set (i := 8) nd rfl (.inl rfl) (pe_op op_mulW (pe_op op_fdivW (pv 3) (pv 6)) (pv 5)))
      (pss_one (ps_ret (pe_tup (pa_cons (pe_op op_mod (pe_op op_add (pv 2) (pe_op op_mulW (pv 3) (pe_op op_mod (pv 7) (pe_op op_fdivW (pv 5) (pv 6))))) (pv 8)) (pa_cons (pv 8) pa_nil)))))))))), ?_⟩
    have r0 : 0 ≤ r := wa.1
    have r1 : r < m := wa.2
    have s0 : 0 ≤ s' := wb.1
    have s1 : s' < n := wb.2
    have la : m ≤ Big := la
    have lb : n ≤ Big := lb
    have m0 : 0 < m := by omega
    have n0 : 0 < n := by omega
    have g0 := ig_pos (a := m) (b := n) m0
    have gl := ig_le_left (a := m) (b := n) m0
    have d1 := div_pos (n := n) m0
    have d2 := div_pos_right (m := m) m0 n0
    have d3 : m / ig m n ≤ m := Int.ediv_le_self _ (by omega)
    have d4 : n / ig m n ≤ n := Int.ediv_le_self _ (by omega)
    have bp := big_pos
    have hp : SqT K H p [.int r, .int m] := hp
    have hq : SqT K H q [.int s', .int n] := hq
    have G1 : CDivW m (ig m n) := big_div g0 (by omega)
    have G2 : CDivW n (ig m n) := big_div g0 (by omega)
    have G3 : CDivW (s' - r) (ig m n) := big_div g0 (by omega)
    have b1 : m / ig m n ≤ Big := by omega
    have b2 : n / ig m n ≤ Big := by omega
    refine ⟨_, rfl, p, _, rfl, hp, rfl, _, _, rfl, _, _, rfl, rfl, ?_⟩
    refine ⟨_, rfl, q, _, rfl, hq, rfl, _, _, rfl, _, _, rfl, rfl, ?_⟩
    refine ⟨_, rfl, _, rfl, _, _, rfl, ?_⟩
    refine ⟨_, rfl, _, rfl, _, _, rfl, rfl, _, rfl, _, _, rfl, rfl, g0, rfl, _, rfl, ?_⟩
    refine iteNe (a := (s' - r) % ig m n) (b := 0) (fun c => ?_) (fun z => ?_)
    · refine kN ?_ H (Ex.refl H)
      unfold chi
      exact if_neg c
    · have iv := inv_is d1 d2 (ig_div m0)
      have i1 := iv.1
      have i2 := iv.2.1
      have q1 : -Big ≤ (s' - r) / ig m n ∧ (s' - r) / ig m n ≤ Big := by
        have e := Int.emod_add_mul_ediv (s' - r) (ig m n)
        rw [z] at e
        generalize (s' - r) / ig m n = d at *
        rcases Int.lt_or_le d 0 with c | c
        · have : ig m n * d ≤ 1 * d := Int.mul_le_mul_of_nonpos_right (by omega) (by omega)
          omega
        · have : 1 * d ≤ ig m n * d := Int.mul_le_mul_of_nonneg_right (by omega) c
          omega
      have M1 : CMulW ((s' - r) / ig m n) (inv (m / ig m n) (n / ig m n)) := big_mul q1.1 q1.2 (by omega) (by omega)
      have M2 : CMulW (m / ig m n) n := big_mul (by omega) (by omega) (by omega) (by omega)
      have M0 : 0 < m / ig m n * n := Int.mul_pos d1 n0
      have t1 := Int.emod_nonneg ((s' - r) / ig m n * inv (m / ig m n) (n / ig m n)) (show n / ig m n ≠ 0 by omega)
      have t2 := Int.emod_lt_of_pos ((s' - r) / ig m n * inv (m / ig m n) (n / ig m n)) d2
      have M3 : CMulW m ((s' - r) / ig m n * inv (m / ig m n) (n / ig m n) % (n / ig m n)) := big_mul (by omega) (by omega) (by omega) (by omega)
      refine ⟨_, rfl, _, rfl, _, _, rfl, rfl, _, rfl, _, _, rfl, rfl, G3, _, rfl, _, rfl, _, _, rfl, rfl, G1, _, rfl, _, rfl, _, _, rfl, rfl, G2, _, _, rfl, d1, b1, d2, b2, ig_div m0, fun H1 e1 => ?_⟩
      refine ⟨_, _, rfl, rfl, M1, ?_⟩
      refine ⟨_, rfl, _, rfl, _, _, rfl, rfl, G1, _, rfl, _, _, rfl, rfl, M2, ?_⟩
      refine ⟨_, rfl, _, rfl, _, rfl, _, rfl, _, rfl, _, _, rfl, rfl, G2, _, _, rfl, rfl, d2, _, _, rfl, rfl, M3, _, _, rfl, rfl, _, rfl, _, _, rfl, rfl, M0, _, rfl, ?_⟩
      refine ⟨by show 2 ≤ sizeLine; decide, fun v nv => ?_⟩
      refine kS _ (if_pos z) _ _ (e1.trans (Ex.new nv)) ⟨v, rfl, SqT.of upd_same⟩
end
end Cu

/-! ## CuCls -/
set_option maxRecDepth 100000
set_option maxHeartbeats 4000000
namespace Cu
open PySem PySem.Spec PyProof.Rows L2 Evl
section
variable {P : Program} {w : World} {K : PySem.W.Frag} {mg : Str → Option Value} {base : Heap}
/-! ### are_apart -/
def spApart (K : PySem.W.Frag) : Sp := fun vs H Q _ => ∃ (x y : V) (a b : Int × Int), vs = [x, y] ∧ TupC K H x a ∧ TupC K H y b ∧ Wf a ∧ Wf b ∧ Disj a b ∧ Q (.bl true) H
abbrev NAreApart : List Str := ["one", "other", "divisor"]
theorem scAreApart : FnScope NAreApart ["one", "other"] (defScope sAreApart) := ⟨rfl, rfl, rfl, by decide +kernel, rfl, by decide +kernel, by decide +kernel⟩
theorem D_AreApart (T : Txt K mg) : Def P w K mg base 1 "are_apart" ["one", "other"] (spApart K) := by
  refine mk_def T.fAreApart T.gAreApart scAreApart (fun _ _ _ _ _ _ us hl => match us, hl with | [_, _], _ => rfl) ?_ ?_
  · rintro vs H Q E ⟨x, y, a, b, rfl, _⟩
    rfl
  · rintro cdv A outer s H vs Q E hr ⟨x, y, a, b, rfl, ⟨p, rfl, hp⟩, ⟨q, rfl, hq⟩, wa, wb, dj, k⟩
    have nd := scAreApart.nd
    refine ⟨_, (pss_cons (ps_set (i := 2) nd rfl (Or.inl rfl) (pe_callBfun cr_gcd (by rfl) T.gcd (pa_cons (pe_ix ix_tup (pv 0) pe_int (fun _ _ => rfl)) (pa_cons (pe_ix ix_tup (pv 1) pe_int (fun _ _ => rfl)) pa_nil))))
      (pss_one (ps_ret (pe_cmpR op_ne (pe_op op_mod (pe_ix ix_tup (pv 0) pe_int (fun _ _ => rfl)) (pv 2)) (pe_op op_mod (pe_ix ix_tup (pv 1) pe_int (fun _ _ => rfl)) (pv 2)) (nomark _))))), ?_⟩
    have g0 := ig_pos (a := a.2) (b := b.2) (by have := wa.1; have := wa.2; omega)
    refine ⟨_, rfl, p, _, _, _, rfl, rfl, hp, rfl, _, rfl, q, _, _, _, rfl, rfl, hq, rfl, _, _, rfl, ?_⟩
    refine ⟨_, rfl, p, _, _, _, rfl, rfl, hp, rfl, _, rfl, _, _, rfl, rfl, g0, _, rfl, q, _, _, _, rfl, rfl, hq, rfl, _, rfl, _, _, rfl, rfl, g0, rfl, ?_⟩
    have e := neI.mpr ((apart_iff wa wb).mp dj)
    have k2 : Q (.bl (!decide (V.int (a.1 % ig a.2 b.2) = V.int (b.1 % ig a.2 b.2)))) H := by rw [e]; exact k
    exact k2
/-! ### is_class -/
def spIsClass (K : PySem.W.Frag) : Sp := fun vs H Q _ => ∃ (x : V) (a : Int × Int), vs = [x] ∧ TupC K H x a ∧ Wf a ∧ ∀ H', Ex H H' → Q (.bl true) H'
abbrev NIsClass : List Str := ["one", "part"]
theorem scIsClass : FnScope NIsClass ["one"] (defScope sIsClass) := ⟨rfl, rfl, rfl, by decide +kernel, rfl, by decide +kernel, by decide +kernel⟩
theorem D_IsClass (T : Txt K mg) : Def P w K mg base 1 "is_class" ["one"] (spIsClass K) := by
  refine mk_def T.fIsClass T.gIsClass scIsClass (fun _ _ _ _ _ _ us hl => match us, hl with | [_], _ => rfl) ?_ ?_
  · rintro vs H Q E ⟨x, a, rfl, _⟩
    rfl
  · rintro cdv A outer s H vs Q E hr ⟨x, a, rfl, ⟨p, rfl, hp⟩, wa, k⟩
    have nd := scIsClass.nd
    refine ⟨_, (pss_cons (ps_if (PW.pt (pw_or (pt_not (pt_val (pe_callB call_isiT (by rfl) T.zIsinstance (by decide +kernel) (pa_cons (pv 0) (pa_cons (pe_tup (pa_cons (pe_bltn (v := .ty "tuple") (by rfl) T.zTuple (by decide +kernel) rfl) (pa_cons (pe_bltn (v := .ty "list") (by rfl) T.zList (by decide +kernel) rfl) pa_nil))) pa_nil))))) (pw_or (pt_cmpR op_ne (pe_callB call_len_seq (by rfl) T.zLen PySem.boot_len (pa_cons (pv 0) pa_nil)) pe_int (nomark _)) (pw_or1 (pt_not (pt_val (pe_callB (cr_all rfl) (by rfl) T.zAll (by decide +kernel) (pa_cons (pe_lc (own := [("part", 1)]) rfl nd (pi_tup (pv 0)) (blkOk_by (N := NIsClass) (sc := defScope sIsClass) (by decide +kernel)) (fun _ _ _ _ _ => (pg_name (i := 1) nd rfl (Or.inl rfl))) (fun _ _ _ _ _ => pts_nil) (fun _ _ _ _ _ => (pe_callB (call_isi : CallR _ _ (rIsi K)) (by rfl) T.zIsinstance (by decide +kernel) (pa_cons (pv 1) (pa_cons (pe_bltn (v := .ty "int") (by rfl) T.zInt (by decide +kernel) rfl) pa_nil))))) pa_nil)))))))) (pss_one (ps_ret pe_bl)) pss_nil)
      (pss_one (ps_ret (pe_chain op_le op_lt pe_int (pe_ix ix_tup (pv 0) pe_int (fun _ _ => rfl)) (pe_ix ix_tup (pv 0) pe_int (fun _ _ => rfl)))))), ?_⟩
    refine ⟨_, rfl, by show 2 ≤ sizeLine; decide, fun q nq => ⟨_, q, _, _, [.type "tuple", .type "list"], true, rfl, upd_same, .cons (.ty _) (.cons (.ty _) .nil), tyT (ex_t (Ex.new nq) hp), ?_, true, rfl, ?_⟩⟩
    · first | rfl | decide +kernel
    have hp1 : SqT K (upd H q (.tup [.ty "tuple", .ty "list"])) p [.int a.1, .int a.2] := ex_t (Ex.new nq) hp
    have e1 : Ex H (upd H q (.tup [.ty "tuple", .ty "list"])) := Ex.new nq
    generalize upd H q (.tup [.ty "tuple", .ty "list"]) = H1 at *
    refine iteF ?_
    refine ⟨_, rfl, p, _, rfl, .inr hp1, rfl, _, rfl, ?_⟩
    refine iteF ?_
    refine ⟨_, rfl, p, rfl, ⟨_, hp1⟩, fun D hD => lc_all (walk_tup (xs := [.int a.1, .int a.2])) (n := 2) (by decide) hD (fun _ y _ => y = .bl true) (fun H' e => ex_t e hp1) (fun _ _ _ _ _ h => h) (fun _ _ _ _ _ _ h => h) ?_ ?_⟩
    · rintro i y H2 _ ac hi e hD2 ⟨rfl, hy⟩ R k2
      obtain ⟨n, rfl⟩ : ∃ n, y = V.int n := by
        match i, hi, hy with
        | 0, _, hy => exact ⟨_, (Option.some.inj hy).symm⟩
        | 1, _, hy => exact ⟨_, (Option.some.inj hy).symm⟩
      refine ⟨rfl, _, rfl, _, _, _, .type "int", true, rfl, .ty _, .base (.int _), ?_, k2 _ _ (Ex.refl _) rfl⟩
      first | rfl | decide +kernel | exact kit_ty (by decide +kernel)
    · rintro ys H2 e hy hl ha
      have e2 := bl_of_get (h := fun _ => true) hl ha
      rw [e2] at hy
      refine ⟨D, _, rfl, SqL.of hy, true, rfl, ?_⟩
      refine iteF ?_
      have hp2 := ex_t e hp1
      refine ⟨_, rfl, p, _, _, _, rfl, rfl, hp2, rfl, _, _, rfl, rfl, _, rfl, ?_⟩
      rw [if_pos (decide_eq_true wa.1)]
      refine ⟨_, rfl, p, _, _, _, rfl, rfl, hp2, rfl, _, _, rfl, rfl, ?_⟩
      have k2 := k H2 (e1.trans e)
      have w2 : decide (a.1 < a.2) = true := decide_eq_true wa.2
      rw [← w2] at k2
      exact k2
end
end Cu

/-! ## CuCls2 -/
set_option maxRecDepth 100000
set_option maxHeartbeats 4000000
namespace Cu
open PySem PySem.Spec PyProof.Rows L2 Evl
section
variable {P : Program} {w : World} {K : PySem.W.Frag} {mg : Str → Option Value} {base : Heap}
/-! ### solved -/
def spSolved (K : PySem.W.Frag) : Sp := fun vs H Q _ => ∃ f r s : Int, vs = [.int f, .int r, .int (2 * s)] ∧ 1 ≤ s ∧ -2 ≤ f ∧ f ≤ 2 ∧ ∀ p H', Ex H H' → LstC K H' p (solvedF f r s) → Q (.ref p) H'
abbrev NSolved : List Str := ["factor", "right", "modulus"]
theorem scSolved : FnScope NSolved ["factor", "right", "modulus"] (defScope sSolved) := ⟨rfl, rfl, rfl, by decide +kernel, rfl, by decide +kernel, by decide +kernel⟩
theorem D_Solved (T : Txt K mg) : Def P w K mg base 1 "solved" ["factor", "right", "modulus"] (spSolved K) := by
  refine mk_def T.fSolved T.gSolved scSolved (fun _ _ _ _ _ _ us hl => match us, hl with | [_, _, _], _ => rfl) ?_ ?_
  · rintro vs H Q E ⟨f, r, s, rfl, _⟩
    rfl
  · rintro cdv A outer s H vs Q E hr ⟨f, r, s, rfl, hs, hf1, hf2, k⟩
    have nd := scSolved.nd
    refine ⟨_, (pss_cons (ps_if (pt_cmpR op_lt (pv 0) pe_int (nomark _)) (pss_cons (ps_set (i := 0) nd rfl (Or.inl rfl) (pe_un un_neg (pv 0)))
      (pss_one (ps_set (i := 1) nd rfl (Or.inl rfl) (pe_un un_neg (pv 1))))) pss_nil)
      (pss_cons (ps_if (pt_cmpR op_eq (pv 0) pe_int (nomark _)) (pss_one (ps_ret (pe_ifExp (pt_cmpR op_eq (pe_op op_mod (pv 1) (pv 2)) pe_int (nomark _)) (pe_callTy call_list_of (by rfl) T.zList (by decide +kernel) (pa_cons (pe_glob (v := .ref (He.ga K "WHOLE")) (by rfl) T.gWHOLE rfl) pa_nil)) (pe_lst pa_nil)))) pss_nil)
      (pss_cons (ps_if (pt_cmpR op_eq (pv 0) pe_int (nomark _)) (pss_one (ps_ret (pe_lst (pa_cons (pe_tup (pa_cons (pe_op op_mod (pv 1) (pv 2)) (pa_cons (pv 2) pa_nil))) pa_nil)))) pss_nil)
      (pss_cons (ps_if (pt_cmpR op_eq (pe_op op_mod (pv 2) pe_int) pe_int (nomark _)) (pss_one (ps_ret (pe_lst (pa_cons (pe_tup (pa_cons (pe_op op_mod (pe_op op_mulW (pv 1) (pe_op op_fdiv (pe_op op_add (pv 2) pe_int) pe_int)) (pv 2)) (pa_cons (pv 2) pa_nil))) pa_nil)))) pss_nil)
      (pss_cons (ps_if (pt_cmpR op_eq (pe_op op_mod (pv 1) pe_int) pe_int (nomark _)) (pss_one (ps_ret (pe_lst pa_nil))) pss_nil)
      (pss_one (ps_ret (pe_lst (pa_cons (pe_tup (pa_cons (pe_op op_mod (pe_op op_fdiv (pv 1) pe_int) (pe_op op_fdiv (pv 2) pe_int)) (pa_cons (pe_op op_fdiv (pv 2) pe_int) pa_nil))) pa_nil))))))))), ?_⟩
    refine ⟨_, rfl, _, _, rfl, rfl, _, rfl, iteD (fun c => ?a) (fun c => ?b)⟩
    case' a =>
      refine ⟨_, rfl, _, rfl, ?_⟩
      refine ⟨_, rfl, _, rfl, ?_⟩
      rw [solved_neg c] at k
      have h0 : 0 ≤ -f := by omega
      have h2 : -f ≤ 2 := by omega
      clear c hf1 hf2
      dsimp only
      generalize -f = f', -r = r' at *
    case' b =>
      rw [solved_pos c] at k
      have h0 : 0 ≤ f := by omega
      have h2 : f ≤ 2 := by omega
      clear c hf1 hf2
      generalize f = f', r = r' at *
    all_goals
      have m0 : 0 < 2 * s := by omega
      unfold solvedG at k
      refine ⟨_, rfl, rfl, _, rfl, iteEq (fun c => ?_) (fun c => ?_)⟩
      · rw [if_pos c] at k
        refine ⟨_, rfl, _, rfl, _, _, rfl, rfl, m0, rfl, _, rfl, iteEq (a := r' % (2 * s)) (b := 0) (fun z => ?_) (fun z => ?_)⟩
        · rw [if_pos z] at k
          refine ⟨_, _, rfl, .inl (T.whL _), fun l nl => k l _ (Ex.new nl) ⟨_, upd_same, .cons ⟨_, rfl, T.whT _⟩ .nil⟩⟩
        · rw [if_neg z] at k
          exact ⟨by decide, fun l nl => k l _ (Ex.new nl) lst_nil⟩
      · rw [if_neg c] at k
        refine ⟨_, rfl, rfl, _, rfl, iteEq (fun c1 => ?_) (fun c1 => ?_)⟩
        · rw [if_pos c1] at k
          refine ⟨_, rfl, _, rfl, _, _, rfl, rfl, m0, _, rfl, le2, fun p np => ⟨le1, fun l nl => ?_⟩⟩
          obtain ⟨q1, q2⟩ := lst_one (K := K) np nl
          exact k l _ q2 q1
        · rw [if_neg c1] at k
          refine ⟨_, rfl, _, _, rfl, rfl, by show (0 : Int) < 2; decide, rfl, _, rfl, iteEq (a := 2 * s % 2) (b := 1) (fun z => by omega) (fun _ => ?_)⟩
          refine ⟨_, rfl, _, _, rfl, rfl, by show (0 : Int) < 2; decide, rfl, _, rfl, iteEq (a := r' % 2) (b := 1) (fun z => ?_) (fun z => ?_)⟩
          · rw [if_pos z] at k
            exact ⟨by decide, fun l nl => k l _ (Ex.new nl) lst_nil⟩
          · rw [if_neg z] at k
            have e2 : 2 * s / 2 = s := by omega
            refine ⟨_, rfl, _, _, rfl, rfl, ⟨by decide, by decide⟩, _, rfl, _, _, rfl, rfl, ⟨by decide, by decide⟩, _, _, rfl, rfl, by omega, _, rfl, _, _, rfl, rfl, ⟨by decide, by decide⟩, le2, fun p np => ⟨le1, fun l nl => ?_⟩⟩
            obtain ⟨q1, q2⟩ := lst_one (K := K) np nl
            have el : [(r' / 2 % (2 * s / 2), 2 * s / 2)] = [(r' / 2 % s, s)] := by rw [e2]
            exact k l _ q2 (el ▸ q1)
end
end Cu

/-! ## CuCls3 -/
set_option maxRecDepth 100000
set_option maxHeartbeats 4000000
namespace Cu
open PySem PySem.Spec PyProof.Rows L2 Evl
section
variable {P : Program} {w : World} {K : PySem.W.Frag} {mg : Str → Option Value} {base : Heap}
/-! ### united -/
def spUnited (K : PySem.W.Frag) : Sp := fun vs H Q _ => ∃ (p q : Addr) (l r : List (Int × Int)), vs = [.ref p, .ref q] ∧ LstC K H p l ∧ LstC K H q r ∧ l.length ≤ 1 ∧ r.length ≤ 1 ∧
  ∀ a H' L, H a = none → Ex H H' → L.Perm (unitedF l r) → LstC K H' a L → Q (.ref a) H'
abbrev NUnited : List Str := ["one", "other", "found", "remainder", "modulus"]
theorem scUnited : FnScope NUnited ["one", "other"] (defScope sUnited) := ⟨rfl, rfl, rfl, by decide +kernel, rfl, by decide +kernel, by decide +kernel⟩
/-- sorted pairs, turned round: [(b, a) for a, b in sorted(..)] -/
theorem keys_strong {H : Hp} {kvs : List (List Key × V)} {bs : List Addr} (h : IsKeys H kvs bs) : ∀ {d : List (Int × Int)}, kvs.map (·.1) = d.map keyC → Paired (fun x c => ∃ a, x = V.ref a ∧ H a = some (.tup [.int c.2, .int c.1])) (bs.map V.ref) d := by
  have h' : Paired (fun (p : List Key × V) b => H b = some (.tup (p.1.map kV))) kvs bs := h
  clear h
  induction h' with
  | nil =>
    intro d e
    cases d with
    | nil => exact .nil
    | cons _ _ => cases e
  | cons f t ih =>
    intro d e
    cases d with
    | nil => cases e
    | cons c d =>
      rw [List.map_cons, List.map_cons] at e
      injection e with e1 e2
      refine .cons ⟨_, rfl, ?_⟩ (ih e2)
      rw [e1] at f
      exact f
theorem D_United (T : Txt K mg) : Def P w K mg base 1 "united" ["one", "other"] (spUnited K) := by
  refine mk_def T.fUnited T.gUnited scUnited (fun _ _ _ _ _ _ us hl => match us, hl with | [_, _], _ => rfl) ?_ ?_
  · rintro vs H Q E ⟨p, q, l, r, rfl, _⟩
    rfl
  · rintro cdv A outer s H vs Q E hr ⟨p, q, l, r, rfl, hp, hq, ll, lr, k⟩
    have nd := scUnited.nd
    refine ⟨_, (pss_cons (ps_if (PW.pt (pw_or (pt_cmpR (op_inD hr.units65) (pe_ix ix_list (pe_glob (v := .ref (He.ga K "WHOLE")) (by rfl) T.gWHOLE rfl) pe_int (fun _ _ => rfl)) (pv 0) (by rfl)) (pw_or1 (pt_cmpR (op_inD hr.units65) (pe_ix ix_list (pe_glob (v := .ref (He.ga K "WHOLE")) (by rfl) T.gWHOLE rfl) pe_int (fun _ _ => rfl)) (pv 1) (by rfl))))) (pss_one (ps_ret (pe_callTy call_list_of (by rfl) T.zList (by decide +kernel) (pa_cons (pe_glob (v := .ref (He.ga K "WHOLE")) (by rfl) T.gWHOLE rfl) pa_nil)))) pss_nil)
      (pss_cons (ps_set (i := 2) nd rfl (Or.inl rfl) pe_dnewT)
      (pss_cons (ps_for PassesOwn.never rfl (pi_list (pe_op op_cat (pv 0) (pv 1))) (pg_tup rfl (pgs_cons (pg_name (i := 3) nd rfl (Or.inl rfl)) (pgs_cons (pg_name (i := 4) nd rfl (Or.inl rfl)) pgs_nil))) (pss_one (ps_dput (hu_of hr) (pv 2) (pe_tup (pa_cons (pv 4) (pa_cons (pv 3) pa_nil))) pe_bl rfl)))
      (pss_one (ps_ret (pe_lc (own := [("modulus", 4), ("remainder", 3)]) rfl nd (pi_list (pe_callB cr_sortedP (by rfl) T.zSorted (by decide +kernel) (pa_cons (pe_callTy (call_list_dT rfl) (by rfl) T.zList (by decide +kernel) (pa_cons (pv 2) pa_nil)) pa_nil))) (blkOk_by (N := NUnited) (sc := defScope sUnited) (by decide +kernel)) (fun _ _ _ _ _ => (pg_tup (n := 2) rfl (pgs_cons (pg_name (i := 4) nd rfl (Or.inl rfl)) (pgs_cons (pg_name (i := 3) nd rfl (Or.inl rfl)) pgs_nil)) : PG _ _ (gTup K 2 _))) (fun _ _ _ _ _ => pts_nil) (fun _ _ _ _ _ => (pe_tup (pa_cons (pv 3) (pa_cons (pv 4) pa_nil)))))))))), ?_⟩
    have whole : (0, 1) ∈ l ∨ (0, 1) ∈ r → tRet (tCB (fun xs H Q => ∃ p ys, xs = [V.ref p] ∧ (SqL K H p ys ∨ SqT K H p ys) ∧ ∀ (l : Addr), H l = none → Q (V.ref l) (upd H l (HO.lst ys))) (tCons (tC (V.ref (He.ga K "WHOLE"))) tNil))
        { nx := fun _ H' => Q .non H', rt := Q } [some (.ref p), some (.ref q), none, none, none] H := fun h =>
      ⟨_, _, rfl, .inl (T.whL _), fun a na => k a _ [(0, 1)] na (Ex.new na) (by have e : unitedF l r = [(0, 1)] := if_pos h; rw [e]) ⟨_, upd_same, .cons ⟨_, rfl, T.whT _⟩ .nil⟩⟩
    refine ⟨_, _, _, _, rfl, rfl, T.whL _, rfl, _, rfl, pd (0, 1), _, dp_tup ⟨_, rfl, T.whT _⟩, dp_lst hp, pd_shaped _, pds_shaped _, _, rfl, ?_⟩
    rw [pds_any]
    refine iteD (fun c => ?_) (fun c1 => ?_)
    · exact whole (.inl c)
    refine ⟨_, _, _, _, rfl, rfl, T.whL _, rfl, _, rfl, pd (0, 1), _, dp_tup ⟨_, rfl, T.whT _⟩, dp_lst hq, pd_shaped _, pds_shaped _, _, rfl, ?_⟩
    rw [pds_any]
    refine iteD (fun c => ?_) (fun c2 => ?_)
    · exact whole (.inr c)
    clear whole
    have hno : ¬ ((0, 1) ∈ l ∨ (0, 1) ∈ r) := fun z => z.elim c1 c2
    obtain ⟨vs1, hp1, pp⟩ := hp
    obtain ⟨vs2, hq1, pq⟩ := hq
    have l1 := pp.length
    have l2 := pq.length
    -- found = {}
    intro dd nd0
    -- one + other
    refine ⟨_, rfl, _, rfl, _, _, _, _, rfl, rfl, (Ex.new nd0) _ _ hp1, (Ex.new nd0) _ _ hq1, sz_of (by omega), fun b nb => ?_⟩
    have hb0 := fresh_back (Ex.new nd0) nb
    have pr : Paired (TupC K H) (vs1 ++ vs2) (l ++ r) := paired_app pp pq
    have ex1 : Ex H (upd (upd H dd (.dT [])) b (.lst (vs1 ++ vs2))) := (Ex.new nd0).trans (Ex.new nb)
    have hb1 : upd (upd H dd (.dT [])) b (.lst (vs1 ++ vs2)) b = some (.lst (vs1 ++ vs2)) := upd_same
    have hd1 : upd (upd H dd (.dT [])) b (.lst (vs1 ++ vs2)) dd = some (.dT []) := (Ex.new nb) _ _ upd_same
    generalize upd (upd H dd (.dT [])) b (.lst (vs1 ++ vs2)) = H1 at *
    refine ⟨b, rfl, ⟨_, SqL.of hb1⟩, for_list (K := K) (a := b) (xs := vs1 ++ vs2) (fun i σ' H' => ∃ (kvs : List (List Key × V)) (d : List (Int × Int)) (v3 v4 : Option V), σ' = [some (.ref p), some (.ref q), some (.ref dd), v3, v4] ∧ Ex H H' ∧ H' dd = some (.dT kvs) ∧
      H' b = some (.lst (vs1 ++ vs2)) ∧ kvs.map (·.1) = d.map keyC ∧ d.Nodup ∧ (∀ c, c ∈ d ↔ c ∈ (l ++ r).take i) ∧ kvs.length ≤ i) ⟨[], [], none, none, rfl, ex1, hd1, hb1, rfl, List.Pairwise.nil, fun c => by simp, Nat.le_refl _⟩ (fun i σ' H' _ ⟨_, _, _, _, _, _, _, h, _⟩ => SqL.of h) ?_ ?_⟩
    · rintro i x σ' H' hi ⟨kvs, d, v3, v4, rfl, ex, hd, hb, hk, hn, hm, hl⟩
      obtain ⟨c, hc, tc⟩ := paired_get pr hi
      obtain ⟨a, rfl, ha⟩ := tc.up ex
      have hi2 : i < 2 := by
        have h := (List.getElem?_eq_some_iff.mp hi).1
        rw [List.length_append] at h
        omega
      have hsz : kvs.length < sizeLine := sz_lt (by omega)
      refine ⟨a, _, rfl, ha, rfl, _, _, rfl, _, _, rfl, rfl, ?_⟩
      refine ⟨_, rfl, _, rfl, _, rfl, le2, fun t nt => ⟨dd, _, rfl, DPut.t (k := keyC c) ((Ex.new nt) _ _ hd) upd_same hsz, ?_⟩⟩
      refine ⟨_, if c ∈ d then d else d ++ [c], _, _, rfl, Ex.mut (ex.trans (Ex.new nt)) nd0, upd_same, ?_, keys_put hk, ?_, fun e => ?_, Nat.le_trans (length_putK _ _ _) (by omega)⟩
      · rw [upd_ne (ne_of hb hd (fun z => by cases z))]
        exact (Ex.new nt) _ _ hb
      · by_cases h : c ∈ d
        · rw [if_pos h]
          exact hn
        · rw [if_neg h]
          exact List.nodup_append.mpr ⟨hn, List.pairwise_singleton _ _, fun x hx y hy e => h (by rw [List.mem_singleton.mp hy] at e; rw [← e]; exact hx)⟩
      · rw [mem_take_succ hc, ← hm]
        by_cases h : c ∈ d
        · rw [if_pos h]
          exact ⟨.inl, fun z => z.elim id (fun q => by rw [q]; exact h)⟩
        · rw [if_neg h, List.mem_append, List.mem_singleton]
    · rintro σ' H' ⟨kvs, d, v3, v4, rfl, ex, hd, hb, hk, hn, hm, hl⟩
      have e1 : (l ++ r).take (vs1 ++ vs2).length = l ++ r := List.take_of_length_le (by rw [List.length_append, List.length_append]; omega)
      rw [e1] at hm
      have hperm := united_perm hno (nodup_short ll) (nodup_short lr) hn hm
      refine ⟨_, rfl, dd, kvs, rfl, .inl hd, fun q1 bs nq1 ik => ?_⟩
      have st := keys_strong ik hk
      refine ⟨_, _, rfl, SqL.of upd_same, fun x hx => ?_, fun ys q2 py nq2 => ?_⟩
      · obtain ⟨c, _, a, rfl, ha⟩ := mem_paired st hx
        exact ⟨a, _, _, rfl, (Ex.new nq1) _ _ ha⟩
      obtain ⟨L, pL, st2⟩ := paired_perm py st
      have hq2 : upd (upd H' q1 (.lst (bs.map V.ref))) q2 (.lst ys) q2 = some (.lst ys) := upd_same
      have ex2 : Ex H' (upd (upd H' q1 (.lst (bs.map V.ref))) q2 (.lst ys)) := (Ex.new nq1).trans (Ex.new nq2)
      generalize upd (upd H' q1 (.lst (bs.map V.ref))) q2 (.lst ys) = H2 at *
      refine ⟨q2, rfl, ⟨_, SqL.of hq2⟩, fun D hD => lc_all (walk_list (xs := ys)) (by have h1 := st2.length; have h2 := pL.length_eq; have h3 := hperm.length_eq; have h4 := united_len ll lr; omega) hD (fun i y H'' => ∀ c, L[i]? = some c → TupC K H'' y c) (fun H'' e => SqL.of (e _ _ hq2))
        (fun i y Ha Hb e h c hc => (h c hc).up e) (fun i y Ha ac ac' hDa h c hc => (h c hc).upd hDa) ?_ ?_⟩
      · rintro i x H3 _ ac hi e3 hD3 ⟨rfl, hx⟩ R k2
        obtain ⟨c, hc, a, rfl, ha⟩ := paired_get st2 hx
        refine ⟨a, _, rfl, SqT.of ((ex2.trans e3) _ _ ha), rfl, _, _, rfl, _, _, rfl, rfl, rfl, _, rfl, _, rfl, le2, fun t nt => ?_⟩
        refine k2 _ _ (Ex.new nt) fun c' hc' => ?_
        rw [hc] at hc'
        cases hc'
        exact ⟨t, rfl, SqT.of upd_same⟩
      · rintro zs H3 e3 hz lz gz
        refine k D H3 L (fresh_back (ex.trans ex2) hD) ((ex.trans ex2).trans e3) (pL.trans hperm) ⟨zs, hz, paired_of_get (by rw [lz, st2.length]) fun i x y hx hy => gz i x hx y hy⟩
end
end Cu

/-! ## CuCls4 -/
set_option maxRecDepth 100000
set_option maxHeartbeats 4000000
namespace Cu
open PySem PySem.Spec PyProof.Rows L2 Evl
section
variable {P : Program} {w : World} {K : PySem.W.Frag} {mg : Str → Option Value} {base : Heap}
/-! ### point_classes, meeting_classes -/
theorem point_meet (s a u g : Int) : unitedF (solvedF u (g - a) s) (solvedF u (-g - a) s) = meetF s a u g 0 := by
  unfold meetF
  rw [Int.sub_zero, Int.add_zero]
theorem Step.le {u : Int} (h : Step u) : -1 ≤ u ∧ u ≤ 1 := by
  rcases h with h | h | h <;> omega
def spPoint (K : PySem.W.Frag) : Sp := fun vs H Q _ => ∃ s a u g : Int, vs = [.int s, .int a, .int u, .int g] ∧ 1 ≤ s ∧ Step u ∧ ∀ p H' L, H p = none → Ex H H' → L.Perm (meetF s a u g 0) → LstC K H' p L → Q (.ref p) H'
abbrev NPointClasses : List Str := ["size", "at", "step", "goal"]
theorem scPointClasses : FnScope NPointClasses ["size", "at", "step", "goal"] (defScope sPointClasses) := ⟨rfl, rfl, rfl, by decide +kernel, rfl, by decide +kernel, by decide +kernel⟩
theorem D_PointClasses (T : Txt K mg) : Def P w K mg base 2 "point_classes" ["size", "at", "step", "goal"] (spPoint K) := by
  refine mk_def T.fPointClasses T.gPointClasses scPointClasses (fun _ _ _ _ _ _ us hl => match us, hl with | [_, _, _, _], _ => rfl) ?_ ?_
  · rintro vs H Q E ⟨s, a, u, g, rfl, _⟩
    rfl
  · rintro cdv A outer s0 H vs Q E hr ⟨s, a, u, g, rfl, hs, hu, k⟩
    have nd := scPointClasses.nd
    refine ⟨_, (pss_one (ps_ret (pe_def (D_United T) hr (pa_cons (pe_def (D_Solved T) hr (pa_cons (pv 2) (pa_cons (pe_op op_sub (pv 3) (pv 1)) (pa_cons (pe_op op_mul pe_int (pv 0)) pa_nil)))) (pa_cons (pe_def (D_Solved T) hr (pa_cons (pv 2) (pa_cons (pe_op op_sub (pe_un un_neg (pv 3)) (pv 1)) (pa_cons (pe_op op_mul pe_int (pv 0)) pa_nil)))) pa_nil))))), ?_⟩
    have u1 := hu.le
    refine ⟨_, rfl, _, rfl, _, rfl, _, _, rfl, rfl, _, rfl, _, _, rfl, rfl, .inl ⟨by decide, by decide⟩, u, g - a, s, rfl, hs, by omega, by omega, fun p1 H1 e1 h1 => ?_⟩
    refine ⟨_, rfl, _, rfl, _, rfl, _, rfl, _, _, rfl, rfl, _, rfl, _, _, rfl, rfl, .inl ⟨by decide, by decide⟩, u, -g - a, s, rfl, hs, by omega, by omega, fun p2 H2 e2 h2 => ?_⟩
    refine ⟨p1, p2, _, _, rfl, h1.up e2, h2, solved_len, solved_len, fun p3 H3 L n3 e3 pL h3 => ?_⟩
    rw [point_meet] at pL
    exact k p3 H3 L (fresh_back (e1.trans e2) n3) ((e1.trans e2).trans e3) pL h3
def spMeeting (K : PySem.W.Frag) : Sp := fun vs H Q _ => ∃ s a u b v : Int, vs = [.int s, .int a, .int u, .int b, .int v] ∧ 1 ≤ s ∧ Step u ∧ Step v ∧ ∀ p H' L, H p = none → Ex H H' → L.Perm (meetF s a u b v) → LstC K H' p L → Q (.ref p) H'
abbrev NMeetingClasses : List Str := ["size", "at", "step", "other", "move"]
theorem scMeetingClasses : FnScope NMeetingClasses ["size", "at", "step", "other", "move"] (defScope sMeetingClasses) := ⟨rfl, rfl, rfl, by decide +kernel, rfl, by decide +kernel, by decide +kernel⟩
theorem D_MeetingClasses (T : Txt K mg) : Def P w K mg base 2 "meeting_classes" ["size", "at", "step", "other", "move"] (spMeeting K) := by
  refine mk_def T.fMeetingClasses T.gMeetingClasses scMeetingClasses (fun _ _ _ _ _ _ us hl => match us, hl with | [_, _, _, _, _], _ => rfl) ?_ ?_
  · rintro vs H Q E ⟨s, a, u, b, v, rfl, _⟩
    rfl
  · rintro cdv A outer s0 H vs Q E hr ⟨s, a, u, b, v, rfl, hs, hu, hv, k⟩
    have nd := scMeetingClasses.nd
    refine ⟨_, (pss_one (ps_ret (pe_def (D_United T) hr (pa_cons (pe_def (D_Solved T) hr (pa_cons (pe_op op_sub (pv 2) (pv 4)) (pa_cons (pe_op op_sub (pv 3) (pv 1)) (pa_cons (pe_op op_mul pe_int (pv 0)) pa_nil)))) (pa_cons (pe_def (D_Solved T) hr (pa_cons (pe_op op_add (pv 2) (pv 4)) (pa_cons (pe_op op_sub (pe_un un_neg (pv 3)) (pv 1)) (pa_cons (pe_op op_mul pe_int (pv 0)) pa_nil)))) pa_nil))))), ?_⟩
    have u1 := hu.le
    have v1 := hv.le
    refine ⟨_, rfl, _, rfl, _, _, rfl, rfl, _, rfl, _, rfl, _, _, rfl, rfl, _, rfl, _, _, rfl, rfl, .inl ⟨by decide, by decide⟩, u - v, b - a, s, rfl, hs, by omega, by omega, fun p1 H1 e1 h1 => ?_⟩
    refine ⟨_, rfl, _, rfl, _, _, rfl, rfl, _, rfl, _, rfl, _, rfl, _, _, rfl, rfl, _, rfl, _, _, rfl, rfl, .inl ⟨by decide, by decide⟩, u + v, -b - a, s, rfl, hs, by omega, by omega, fun p2 H2 e2 h2 => ?_⟩
    exact ⟨p1, p2, _, _, rfl, h1.up e2, h2, solved_len, solved_len, fun p3 H3 L n3 e3 pL h3 => k p3 H3 L (fresh_back (e1.trans e2) n3) ((e1.trans e2).trans e3) pL h3⟩
/-! ### crossed -/
def TupR (H : Hp) (x : V) (c : Int × Int) : Prop := ∃ a, x = V.ref a ∧ H a = some (.tup [.int c.2, .int c.1])
theorem TupR.up {H H' : Hp} {x : V} {c : Int × Int} (e : Ex H H') (h : TupR H x c) : TupR H' x c := let ⟨a, q, t⟩ := h; ⟨a, q, e _ _ t⟩
theorem TupR.upd {H : Hp} {D : Addr} {x : V} {c : Int × Int} {ac : List V} {o : HO} (hD : H D = some (.lst ac)) (h : TupR H x c) : TupR (L2.upd H D o) x c := let ⟨a, q, t⟩ := h; ⟨a, q, by rw [upd_ne (ne_of t hD (fun z => by cases z))]; exact t⟩
def spCrossed (K : PySem.W.Frag) : Sp := fun vs H Q _ => ∃ (p q : Addr) (l r : List (Int × Int)), vs = [.ref p, .ref q] ∧ LstC K H p l ∧ LstC K H q r ∧ AllWf l ∧ AllWf r ∧ ModLe l Big ∧ ModLe r Big ∧ l.length ≤ 16 ∧ r.length ≤ 16 ∧
  ∀ a H' L, Ex H H' → L.Perm (crossF l r) → LstC K H' a L → Q (.ref a) H'
abbrev NCrossed : List Str := ["one", "other", "found", "first", "second", "common", "modulus", "remainder"]
theorem scCrossed : FnScope NCrossed ["one", "other"] (defScope sCrossed) := ⟨rfl, rfl, rfl, by decide +kernel, rfl, by decide +kernel, by decide +kernel⟩
theorem cross_step {l r : List (Int × Int)} {i : Nat} {a : Int × Int} (h : l[i]? = some a) : crossF (l.take (i + 1)) r = crossF (l.take i) r ++ r.filterMap (chi a) := by
  unfold crossF
  rw [List.take_add_one, h, List.flatMap_append]
  congr 1
  show List.flatMap _ [a] = _
  rw [List.flatMap_cons, List.flatMap_nil, List.append_nil]
theorem fm_step {r : List (Int × Int)} {f : Int × Int → Option (Int × Int)} {j : Nat} {b : Int × Int} (h : r[j]? = some b) : (r.take (j + 1)).filterMap f = (r.take j).filterMap f ++ (f b).toList := by
  rw [List.take_add_one, h, List.filterMap_append]
  congr 1
theorem D_Crossed (T : Txt K mg) : Def P w K mg base 3 "crossed" ["one", "other"] (spCrossed K) := by
  refine mk_def T.fCrossed T.gCrossed scCrossed (fun _ _ _ _ _ _ us hl => match us, hl with | [_, _], _ => rfl) ?_ ?_
  · rintro vs H Q E ⟨p, q, l, r, rfl, _⟩
    rfl
  · rintro cdv A outer s H vs Q E hr ⟨p, q, l, r, rfl, ⟨vs1, hp, pp⟩, ⟨vs2, hq, pq⟩, wl, wr, bl, br, ll, lr, k⟩
    have nd := scCrossed.nd
    refine ⟨_, (pss_cons (ps_set (i := 2) nd rfl (Or.inl rfl) (pe_lst pa_nil))
      (pss_cons (ps_for PassesOwn.never rfl (pi_list (pv 0)) (pg_name (i := 3) nd rfl (Or.inl rfl)) (pss_one (ps_for PassesOwn.never rfl (pi_list (pv 1)) (pg_name (i := 4) nd rfl (Or.inl rfl)) (pss_cons (ps_set (i := 5) nd rfl (Or.inl rfl) (pe_def (D_Chinese T) hr (pa_cons (pv 3) (pa_cons (pv 4) pa_nil))))
      (pss_one (ps_if (pt_cmpR op_notN (pv 5) pe_non (nomark _)) (pss_one (ps_expr (pe_bm PySem.F.plainAttrs_list PySem.F.slot_list_append PySem.F.type_list_append mt_append (pv 2) (pa_cons (pe_tup (pa_cons (pe_ix ix_tup (pv 5) pe_int (fun _ _ => rfl)) (pa_cons (pe_ix ix_tup (pv 5) pe_int (fun _ _ => rfl)) pa_nil))) pa_nil)))) pss_nil))))))
      (pss_one (ps_ret (pe_lc (own := [("modulus", 6), ("remainder", 7)]) rfl nd (pi_list (pe_callB cr_sortedP (by rfl) T.zSorted (by decide +kernel) (pa_cons (pv 2) pa_nil))) (blkOk_by (N := NCrossed) (sc := defScope sCrossed) (by decide +kernel)) (fun _ _ _ _ _ => (pg_tup (n := 2) rfl (pgs_cons (pg_name (i := 6) nd rfl (Or.inl rfl)) (pgs_cons (pg_name (i := 7) nd rfl (Or.inl rfl)) pgs_nil)) : PG _ _ (gTup K 2 _))) (fun _ _ _ _ _ => pts_nil) (fun _ _ _ _ _ => (pe_tup (pa_cons (pv 7) (pa_cons (pv 6) pa_nil))))))))), ?_⟩
    have l1 := pp.length
    have l2 := pq.length
    refine ⟨le0, fun f nf => ?_⟩
    have hf1 : upd H f (.lst []) f = some (.lst []) := upd_same
    have ex1 : Ex H (upd H f (.lst [])) := Ex.new nf
    generalize upd H f (.lst []) = H1 at *
    refine ⟨_, rfl, p, rfl, ⟨_, SqL.of (ex1 _ _ hp)⟩, for_list (K := K) (a := p) (xs := vs1) (fun i σ' H' => ∃ (fs : List V) (v3 v4 v5 : Option V), σ' = [some (.ref p), some (.ref q), some (.ref f), v3, v4, v5, none, none] ∧ Ex H H' ∧ H' f = some (.lst fs) ∧ Paired (TupR H') fs (crossF (l.take i) r))
      ⟨[], none, none, none, rfl, ex1, hf1, .nil⟩ (fun i σ' H' _ ⟨_, _, _, _, _, e, _⟩ => SqL.of (e _ _ hp)) ?_ ?_⟩
    · rintro i x σ' H' hi ⟨fs, v3, v4, v5, rfl, ex, hf, pf⟩
      obtain ⟨a, ha, ta⟩ := paired_get pp hi
      refine ⟨_, rfl, q, rfl, ⟨_, SqL.of (ex _ _ hq)⟩, for_list (K := K) (a := q) (xs := vs2) (fun j σ' H' => ∃ (fs : List V) (v4 v5 : Option V), σ' = [some (.ref p), some (.ref q), some (.ref f), some x, v4, v5, none, none] ∧ Ex H H' ∧ H' f = some (.lst fs) ∧ Paired (TupR H') fs (crossF (l.take i) r ++ (r.take j).filterMap (chi a)))
        ⟨fs, v4, v5, rfl, ex, hf, by simpa using pf⟩ (fun i σ' H' _ ⟨_, _, _, _, e, _⟩ => SqL.of (e _ _ hq)) ?_ ?_⟩
      · rintro j y σ' H' hj ⟨fs, v4, v5, rfl, ex, hf, pf⟩
        obtain ⟨b, hb, tb⟩ := paired_get pq hj
        have am : a ∈ l := List.mem_of_getElem? ha
        have bm : b ∈ r := List.mem_of_getElem? hb
        have hlen : fs.length < sizeLine := by
          have e1 := pf.length
          have e2 := cross_len (l := l.take i) (r := r)
          have e3 := List.length_filterMap_le (chi a) (r.take j)
          have e4 : (l.take i).length * r.length ≤ 16 * 16 := Nat.mul_le_mul (by rw [List.length_take]; omega) (by omega)
          rw [List.length_append] at e1
          rw [List.length_take] at e3
          exact sz_lt (by omega)
        refine ⟨_, rfl, _, rfl, x, y, a, b, rfl, ta.up ex, tb.up ex, wl a am, wr b bm, bl a am, br b bm, fun hn H2 e2 => ?_, fun c hc v H2 e2 tv => ?_⟩
        · refine ⟨_, rfl, rfl, _, rfl, iteF ?_⟩
          refine ⟨fs, _, _, rfl, ex.trans e2, e2 _ _ hf, ?_⟩
          rw [fm_step hb, hn]
          show Paired (TupR H2) fs (crossF (l.take i) r ++ ((r.take j).filterMap (chi a) ++ []))
          rw [List.append_nil]
          exact Paired.mapP pf fun _ _ z => z.up e2
        · obtain ⟨t, rfl, ht⟩ := tv
          refine ⟨_, rfl, rfl, _, rfl, iteT ?_⟩
          refine ⟨_, rfl, .inl ⟨rfl, _, SqL.of (e2 _ _ hf)⟩, ?_⟩
          refine ⟨_, rfl, t, _, _, _, rfl, rfl, ht, rfl, _, rfl, t, _, _, _, rfl, rfl, ht, rfl, le2, fun n nn => ?_⟩
          refine ⟨f, _, _, rfl, rfl, (Ex.new nn) _ _ (e2 _ _ hf), hlen, ?_⟩
          have e3 := e2.trans (Ex.new (o := .tup [.int c.2, .int c.1]) nn)
          refine ⟨_, _, _, rfl, Ex.mut (ex.trans e3) nf, upd_same, ?_⟩
          rw [fm_step hb, hc, ← List.append_assoc]
          refine paired_app (Paired.mapP pf fun _ _ z => (z.up e3).upd (e3 _ _ hf)) (.cons ⟨n, rfl, ?_⟩ .nil)
          have hn1 : upd H2 n (.tup [.int c.2, .int c.1]) n = some (.tup [.int c.2, .int c.1]) := upd_same
          exact (upd_ne (ne_of hn1 (e3 _ _ hf) (fun z => by cases z))).trans hn1
      · rintro σ' H' ⟨fs, v4, v5, rfl, ex, hf, pf⟩
        refine ⟨fs, _, _, _, rfl, ex, hf, ?_⟩
        rw [cross_step ha]
        have e : r.take vs2.length = r := List.take_of_length_le (by omega)
        rw [e] at pf
        exact pf
    · rintro σ' H' ⟨fs, v3, v4, v5, rfl, ex, hf, pf⟩
      have e : l.take vs1.length = l := List.take_of_length_le (by omega)
      rw [e] at pf
      refine ⟨_, rfl, f, _, rfl, SqL.of hf, fun x hx => ?_, fun ys q2 py nq2 => ?_⟩
      · obtain ⟨c, _, a, rfl, ha⟩ := mem_paired pf hx
        exact ⟨a, _, _, rfl, ha⟩
      obtain ⟨L, pL, st2⟩ := paired_perm py pf
      have hq2 : upd H' q2 (.lst ys) q2 = some (.lst ys) := upd_same
      have ex2 : Ex H' (upd H' q2 (.lst ys)) := Ex.new nq2
      generalize upd H' q2 (.lst ys) = H2 at *
      have hys : ys.length ≤ 10000 := by
        have h1 := st2.length
        have h2 := pL.length_eq
        have h3 := cross_len (l := l) (r := r)
        have h4 : l.length * r.length ≤ 16 * 16 := Nat.mul_le_mul ll lr
        omega
      refine ⟨q2, rfl, ⟨_, SqL.of hq2⟩, fun D hD => lc_all (walk_list (xs := ys)) hys hD (fun i y H'' => ∀ c, L[i]? = some c → TupC K H'' y c) (fun H'' e => SqL.of (e _ _ hq2))
        (fun i y Ha Hb e h c hc => (h c hc).up e) (fun i y Ha ac ac' hDa h c hc => (h c hc).upd hDa) ?_ ?_⟩
      · rintro i x H3 _ ac hi e3 hD3 ⟨rfl, hx⟩ R k2
        obtain ⟨c, hc, a, rfl, ha⟩ := paired_get st2 hx
        refine ⟨a, _, rfl, SqT.of ((ex2.trans e3) _ _ ha), rfl, _, _, rfl, _, _, rfl, rfl, rfl, _, rfl, _, rfl, le2, fun t nt => ?_⟩
        refine k2 _ _ (Ex.new nt) fun c' hc' => ?_
        rw [hc] at hc'
        cases hc'
        exact ⟨t, rfl, SqT.of upd_same⟩
      · rintro zs H3 e3 hz lz gz
        refine k D H3 L ((ex.trans ex2).trans e3) pL ⟨zs, hz, paired_of_get (by rw [lz, st2.length]) fun i x y hx hy => gz i x hx y hy⟩
end
end Cu

/-! ## CuTimes -/
set_option maxRecDepth 100000
set_option maxHeartbeats 4000000
namespace Cu
open PySem PySem.Spec PyProof.Rows L2 Evl
/-! ### a Times at an address -/
def enV : Option Int → V
  | none => .non
  | some e => .int e
/-- what stood before x was made still stands -/
def Out (x : Addr) (H H' : Hp) : Prop := ∀ H0, H0 x = none → Ex H0 H → Ex H0 H'
theorem Out.of {x : Addr} {H H' : Hp} (e : Ex H H') : Out x H H' := fun _ _ z => z.trans e
theorem Out.trans {x : Addr} {H H1 H2 : Hp} (a : Out x H H1) (b : Out x H1 H2) : Out x H H2 := fun H0 n e => b H0 n (a H0 n e)
theorem Out.upd {x : Addr} {H : Hp} {o : HO} : Out x H (upd H x o) := fun _ n e => Ex.mut e n
theorem Out.ex {x : Addr} {H H' : Hp} (o : Out x H H') (h : H x = none) : Ex H H' := o H h (Ex.refl H)
/-- a change of the object at x keeps the others -/
theorem upd_ins {H : Hp} {x a : Addr} {o : HO} {C : Addr} {dx : Addr} {fs : List (Str × V)} {o' : HO} (hx : H x = some (.ins C dx fs)) (h : H a = some o) (ne : o ≠ .ins C dx fs) : L2.upd H x o' a = some o := by
  rw [upd_ne (ne_of h hx ne)]
  exact h
theorem sqt_updI {K : PySem.W.Frag} {H : Hp} {a x C dx : Addr} {xs : List V} {fs : List (Str × V)} {o : HO} (hD : H x = some (.ins C dx fs)) (h : SqT K H a xs) : SqT K (upd H x o) a xs := by
  rcases h with (h | ⟨ob, h⟩) | h
  · exact .inl (.inl (upd_ins hD h (fun z => by cases z)))
  · exact .inl (.inr ⟨ob, upd_ins hD h (fun z => by cases z)⟩)
  · exact .inr h
theorem TupC.updI {K : PySem.W.Frag} {H : Hp} {x C dx : Addr} {v : V} {c : Int × Int} {fs : List (Str × V)} {o : HO} (hD : H x = some (.ins C dx fs)) (h : TupC K H v c) : TupC K (L2.upd H x o) v c := let ⟨a, q, t⟩ := h; ⟨a, q, sqt_updI hD t⟩
theorem LstC.updI {K : PySem.W.Frag} {H : Hp} {x C dx p : Addr} {L : List (Int × Int)} {fs : List (Str × V)} {o : HO} (hD : H x = some (.ins C dx fs)) (h : LstC K H p L) : LstC K (L2.upd H x o) p L :=
  let ⟨vs, q, t⟩ := h; ⟨vs, upd_ins hD q (fun z => by cases z), Paired.mapP t fun _ _ z => z.updI hD⟩
theorem TupR.updI {H : Hp} {x C dx : Addr} {v : V} {c : Int × Int} {fs : List (Str × V)} {o : HO} (hD : H x = some (.ins C dx fs)) (h : TupR H v c) : TupR (L2.upd H x o) v c := let ⟨a, q, t⟩ := h; ⟨a, q, upd_ins hD t (fun z => by cases z)⟩
theorem iteEnd {en : Option Int} {A B : Prop} (hS : ∀ e, en = some e → B → A) (r : B) : if (!decide (enV en = V.non)) = true then A else B := by
  cases en with
  | none => exact iteF r
  | some e => exact iteT (hS e rfl r)
theorem ins_two {H H' : Hp} {x C dx r : Addr} {rs : List V} {L : List (Int × Int)} {f1 f2 : List (Str × V)} (e : Ex H H') (hx : H' x = some (.ins C dx [])) (hR : H' r = some (.lst rs)) (pR : Paired (TupR H') rs L) :
    Out x H (L2.upd (L2.upd H' x (.ins C dx f1)) x (.ins C dx f2)) ∧ L2.upd (L2.upd H' x (.ins C dx f1)) x (.ins C dx f2) x = some (.ins C dx f2) ∧ L2.upd (L2.upd H' x (.ins C dx f1)) x (.ins C dx f2) r = some (.lst rs) ∧
    Paired (TupR (L2.upd (L2.upd H' x (.ins C dx f1)) x (.ins C dx f2))) rs L := by
  have h2 : L2.upd H' x (.ins C dx f1) x = some (.ins C dx f1) := upd_same
  exact ⟨((Out.of e).trans Out.upd).trans Out.upd, upd_same, upd_ins h2 (upd_ins hx hR (fun z => by cases z)) (fun z => by cases z), Paired.mapP pR fun _ _ z => (z.updI hx).updI h2⟩
theorem pf0 {f : Str} {v : V} : putF f v [] = [(f, v)] := rfl
theorem pf1 {u v : V} : putF ("end" : Str) v [("start", u)] = ([("start", u), ("end", v)] : List (Str × V)) := rfl
theorem pf2 {u v z : V} : putF ("classes" : Str) z [("start", u), ("end", v)] = ([("start", u), ("end", v), ("classes", z)] : List (Str × V)) := rfl
theorem walk_enumI {K : PySem.W.Frag} {a : Addr} {xs : List V} : Walk (Ite K a) xs.length (fun H => SqL K H a xs) (fun i H v H' => ∃ t z, v = .ref t ∧ H t = none ∧ H' = L2.upd H t (.tup [.int (i : Nat), z]) ∧ xs[i]? = some z) :=
  walk_enum.mono (fun _ h => h) fun i H x H' _ _ ⟨t, _, z, h1, h2, h3, h4, h5⟩ => by
    cases h4
    exact ⟨t, z, h1, h2, h3, h5⟩
def TimesA (K : PySem.W.Frag) (H : Hp) (a : Addr) (st : Int) (en : Option Int) (L : List (Int × Int)) : Prop :=
  ∃ dx cp, H a = some (.ins (He.ga K "Times") dx [("start", .int st), ("end", enV en), ("classes", .ref cp)]) ∧ LstC K H cp L
def TimesF (K : PySem.W.Frag) (H0 H : Hp) (a : Addr) (st : Int) (en : Option Int) (L : List (Int × Int)) : Prop :=
  ∃ dx cp, H0 cp = none ∧ H a = some (.ins (He.ga K "Times") dx [("start", .int st), ("end", enV en), ("classes", .ref cp)]) ∧ LstC K H cp L
theorem TimesF.toA {K : PySem.W.Frag} {H0 H : Hp} {a : Addr} {st : Int} {en : Option Int} {L : List (Int × Int)} (h : TimesF K H0 H a st en L) : TimesA K H a st en L := let ⟨dx, cp, _, q, t⟩ := h; ⟨dx, cp, q, t⟩
theorem TimesF.back {K : PySem.W.Frag} {H0 H1 H : Hp} {a : Addr} {st : Int} {en : Option Int} {L : List (Int × Int)} (e : Ex H0 H1) (h : TimesF K H1 H a st en L) : TimesF K H0 H a st en L := let ⟨dx, cp, n, q, t⟩ := h; ⟨dx, cp, fresh_back e n, q, t⟩
theorem TimesA.up {K : PySem.W.Frag} {H H' : Hp} {a : Addr} {st : Int} {en : Option Int} {L : List (Int × Int)} (e : Ex H H') (h : TimesA K H a st en L) : TimesA K H' a st en L := let ⟨dx, cp, q, t⟩ := h; ⟨dx, cp, e _ _ q, t.up e⟩
theorem cut_from {xs : List V} {k : Nat} : cutV xs (some (k : Int)) none = xs.drop k := by
  unfold cutV
  rw [HT.sIx_nat, HT.sIx_none]
  by_cases h : k ≤ xs.length
  · rw [Nat.min_eq_left h]
    exact List.take_of_length_le (by rw [List.length_drop]; omega)
  · rw [Nat.min_eq_right (by omega), List.drop_of_length_le (Nat.le_refl _), List.drop_of_length_le (by omega)]
    exact List.take_nil
theorem lt0 {α : Type} : ([] : List α).length < 1000 := (by decide : (0 : Nat) < 1000)
theorem lt1 {α : Type} {a : α} : [a].length < 1000 := (by decide : (1 : Nat) < 1000)
theorem lt2 {α : Type} {a b : α} : [a, b].length < 1000 := (by decide : (2 : Nat) < 1000)
theorem cut_to {xs : List V} {k : Nat} : cutV xs none (some (k : Int)) = xs.take k := by
  unfold cutV
  rw [HT.sIx_nat, HT.sIx_none, List.drop_zero, Nat.sub_zero]
  by_cases h : k ≤ xs.length
  · rw [Nat.min_eq_left h]
  · rw [Nat.min_eq_right (by omega), List.take_of_length_le (Nat.le_refl _), List.take_of_length_le (by omega)]
section
variable {P : Program} {w : World} {K : PySem.W.Frag} {mg : Str → Option Value} {base : Heap}
/-! ### Times.__init__ -/
def spTimesInit (K : PySem.W.Frag) : Sp := fun vs H Q _ => ∃ (x dx cp : Addr) (st : Int) (en : Option Int) (L : List (Int × Int)), vs = [.ref x, .int st, enV en, .ref cp] ∧ H x = some (.ins (He.ga K "Times") dx []) ∧ LstC K H cp L ∧ AllWf L ∧ L.Pairwise Disj ∧ L.length ≤ 64 ∧
  0 ≤ st ∧ (∀ e, en = some e → 0 ≤ e) ∧ ∀ H' L', Out x H H' → L'.Perm L → TimesF K H H' x st en L' → Q .non H'
abbrev NTimesInit : List Str := ["self", "start", "end", "classes", "rows", "one", "at", "modulus", "remainder", "other"]
theorem scTimesInit : FnScope NTimesInit ["self", "start", "end", "classes"] (defScope sTimesInit) := ⟨rfl, rfl, rfl, by decide +kernel, rfl, by decide +kernel, by decide +kernel⟩
theorem D_TimesInit (T : Txt K mg) : Met P w K mg base 2 "Times" "__init__" ["self", "start", "end", "classes"] (spTimesInit K) := by
  refine mk_met T.fTimesInit scTimesInit (fun _ _ _ _ _ _ us hl => match us, hl with | [_, _, _, _], _ => rfl) ?_ ?_
  · rintro vs H Q E ⟨x, dx, cp, st, en, L, rfl, _⟩
    rfl
  · rintro cdv A outer s H vs Q E hr ⟨x, dx, cp, st, en, L, rfl, hx, ⟨cs, hc, pc⟩, wl, dl, ll, hst, hen, k⟩
    have nd := scTimesInit.nd
    refine ⟨_, (pss_cons (ps_if (PW.pt (pw_or (pt_cmpR op_lt (pv 1) pe_int (nomark _)) (pw_or (PW.pt (pw_and (pt_cmpR op_notN (pv 2) pe_non (nomark _)) (pw_and1 (pt_cmpR op_lt (pv 2) pe_int (nomark _))))) (pw_or1 (pt_cmpR op_gt (pe_callB call_len_seq (by rfl) T.zLen PySem.boot_len (pa_cons (pv 3) pa_nil)) (pe_gi T.iMOSTCLASSES) (nomark _)))))) (pss_one ps_never) pss_nil)
      (pss_cons (ps_set (i := 4) nd rfl (Or.inl rfl) (pe_lst pa_nil))
      (pss_cons (ps_for PassesOwn.never rfl (pi_list (pv 3)) (pg_name (i := 5) nd rfl (Or.inr rfl)) (pss_cons (ps_if (pt_not (pt_val (pe_def (D_IsClass T) hr (pa_cons (pv 5) pa_nil)))) (pss_one ps_never) pss_nil)
      (pss_one (ps_expr (pe_bm PySem.F.plainAttrs_list PySem.F.slot_list_append PySem.F.type_list_append mt_append (pv 4) (pa_cons (pe_tup (pa_cons (pe_ix ix_tup (pv 5) pe_int (fun _ _ => rfl)) (pa_cons (pe_ix ix_tup (pv 5) pe_int (fun _ _ => rfl)) pa_nil))) pa_nil))))))
      (pss_cons (ps_fld (pv 0) (pv 1) rfl)
      (pss_cons (ps_fld (pv 0) (pv 2) rfl)
      (pss_cons (ps_fld (pv 0) (pe_lc (own := [("modulus", 7), ("remainder", 8)]) rfl nd (pi_list (pe_callB cr_sortedP (by rfl) T.zSorted (by decide +kernel) (pa_cons (pv 4) pa_nil))) (blkOk_by (N := NTimesInit) (sc := defScope sTimesInit) (by decide +kernel)) (fun _ _ _ _ _ => (pg_tup (n := 2) rfl (pgs_cons (pg_name (i := 7) nd rfl (Or.inl rfl)) (pgs_cons (pg_name (i := 8) nd rfl (Or.inl rfl)) pgs_nil)) : PG _ _ (gTup K 2 _))) (fun _ _ _ _ _ => pts_nil) (fun _ _ _ _ _ => (pe_tup (pa_cons (pv 8) (pa_cons (pv 7) pa_nil))))) rfl)
      (pss_one (ps_for PassesOwn.never rfl (pi_enum (by rfl) T.zEnumerate (pa_cons (pe_fld (pv 0) rfl) pa_nil)) (pg_tup rfl (pgs_cons (pg_name (i := 6) nd rfl (Or.inl rfl)) (pgs_cons (pg_name (i := 5) nd rfl (Or.inr rfl)) pgs_nil))) (pss_one (ps_if (pt_not (pt_val (pe_callB (cr_all rfl) (by rfl) T.zAll (by decide +kernel) (pa_cons (pe_lc (own := [("other", 9)]) rfl nd (pi_list (pe_slice sl_list (pe_fld (pv 0) rfl) (po_some (pe_op op_add (pv 6) pe_int)) po_none)) (blkOk_by (N := NTimesInit) (sc := defScope sTimesInit) (by decide +kernel)) (fun _ _ _ _ _ => (pg_name (i := 9) nd rfl (Or.inl rfl))) (fun _ _ _ _ _ => pts_nil) (fun _ _ _ _ _ => (pe_def (D_AreApart T) hr (pa_cons (pv 5) (pa_cons (pv 9) pa_nil))))) pa_nil)))) (pss_one ps_never) pss_nil)))))))))), ?_⟩
    have lc := pc.length
    refine ⟨_, rfl, _, _, rfl, rfl, _, rfl, iteD (fun c => by omega) (fun c => ?_)⟩
    refine ⟨_, rfl, rfl, _, rfl, ?_⟩
    refine iteEnd (fun e he rest => ?_) ?_
    · have h0 := hen e he
      refine ⟨_, rfl, e, 0, by rw [he]; rfl, rfl, _, rfl, ?_⟩
      have hd : decide (e < 0) = false := decide_eq_false (by omega)
      rw [hd]
      exact rest
    refine iteF ?_
    refine ⟨_, rfl, cp, cs, rfl, .inl (SqL.of hc), _, _, rfl, rfl, _, rfl, iteD (fun c => by omega) (fun c => ?_)⟩
    refine ⟨le0, fun r nr => ?_⟩
    have hr1 : upd H r (.lst []) r = some (.lst []) := upd_same
    have ex1 : Ex H (upd H r (.lst [])) := Ex.new nr
    generalize upd H r (.lst []) = H1 at *
    refine ⟨_, rfl, cp, rfl, ⟨_, SqL.of (ex1 _ _ hc)⟩, for_list (K := K) (a := cp) (xs := cs) (fun i σ' H' => ∃ (rs : List V) (v5 : Option V), σ' = [some (.ref x), some (.int st), some (enV en), some (.ref cp), some (.ref r), v5, none, none, none, none] ∧ Ex H H' ∧ H' r = some (.lst rs) ∧ Paired (TupR H') rs (L.take i))
      ⟨[], none, rfl, ex1, hr1, .nil⟩ (fun i σ' H' _ ⟨_, _, _, e, _⟩ => SqL.of (e _ _ hc)) ?_ ?_⟩
    · rintro i y σ' H' hi ⟨rs, v5, rfl, ex, hR, pR⟩
      obtain ⟨a, ha, ta⟩ := paired_get pc hi
      have am : a ∈ L := List.mem_of_getElem? ha
      refine ⟨_, rfl, y, a, rfl, ta.up ex, wl a am, fun H2 e2 => ⟨true, rfl, ?_⟩⟩
      refine iteF ?_
      obtain ⟨t, rfl, ht⟩ := ta.up (ex.trans e2)
      refine ⟨_, rfl, .inl ⟨rfl, _, SqL.of (e2 _ _ hR)⟩, ?_⟩
      refine ⟨_, rfl, t, _, _, _, rfl, rfl, ht, rfl, _, rfl, t, _, _, _, rfl, rfl, ht, rfl, le2, fun n nn => ?_⟩
      have hlen : rs.length < sizeLine := by
        have e1 := pR.length
        rw [List.length_take] at e1
        exact sz_lt (by omega)
      refine ⟨r, _, _, rfl, rfl, (Ex.new nn) _ _ (e2 _ _ hR), hlen, ?_⟩
      have e3 := e2.trans (Ex.new (o := .tup [.int a.2, .int a.1]) nn)
      refine ⟨_, _, rfl, Ex.mut (ex.trans e3) nr, upd_same, ?_⟩
      rw [List.take_add_one, ha]
      refine paired_app (Paired.mapP pR fun _ _ z => (z.up e3).upd (e3 _ _ hR)) (.cons ⟨n, rfl, ?_⟩ .nil)
      have hn1 : upd H2 n (.tup [.int a.2, .int a.1]) n = some (.tup [.int a.2, .int a.1]) := upd_same
      exact (upd_ne (ne_of hn1 (e3 _ _ hR) (fun z => by cases z))).trans hn1
    · rintro σ' H' ⟨rs, v5, rfl, ex, hR, pR⟩
      have eL : L.take cs.length = L := List.take_of_length_le (by omega)
      rw [eL] at pR
      have hx1 := ex _ _ hx
      refine ⟨_, rfl, _, rfl, x, _, dx, _, rfl, hx1, T.cTimes, T.nTimesStart, lt0, ?_⟩
      have hx2 : upd H' x (.ins (He.ga K "Times") dx [("start", .int st)]) x = some (.ins (He.ga K "Times") dx [("start", .int st)]) := upd_same
      refine ⟨_, rfl, _, rfl, x, _, dx, _, rfl, hx2, T.cTimes, T.nTimesEnd, lt1, ?_⟩
      have nB : ∀ d, d ≠ x → upd (upd H' x (.ins (He.ga K "Times") dx [("start", .int st)])) x (.ins (He.ga K "Times") dx [("start", .int st), ("end", enV en)]) d = none → H' d = none := fun d ne h => by rw [upd_ne ne, upd_ne ne] at h; exact h
      obtain ⟨oB, hxB, hRB, pRB⟩ := ins_two (f1 := [("start", .int st)]) (f2 := [("start", .int st), ("end", enV en)]) ex hx1 hR pR
      rw [pf0, pf1]
      generalize upd (upd H' x (.ins (He.ga K "Times") dx [("start", .int st)])) x (.ins (He.ga K "Times") dx [("start", .int st), ("end", enV en)]) = HB at *
      refine ⟨_, rfl, r, _, rfl, SqL.of hRB, fun y hy => ?_, fun ys q2 py nq2 => ?_⟩
      · obtain ⟨c, _, a, rfl, ha⟩ := mem_paired pRB hy
        exact ⟨a, _, _, rfl, ha⟩
      obtain ⟨L', pL, st2⟩ := paired_perm py pRB
      have hq2 : upd HB q2 (.lst ys) q2 = some (.lst ys) := upd_same
      have ex2 : Ex HB (upd HB q2 (.lst ys)) := Ex.new nq2
      generalize upd HB q2 (.lst ys) = H2 at *
      have hys : ys.length ≤ 10000 := by
        have h1 := st2.length
        have h2 := pL.length_eq
        omega
      refine ⟨q2, rfl, ⟨_, SqL.of hq2⟩, fun D hD => lc_all (walk_list (xs := ys)) hys hD (fun i y H'' => ∀ c, L'[i]? = some c → TupC K H'' y c) (fun H'' e => SqL.of (e _ _ hq2))
        (fun i y Ha Hb e h c hc => (h c hc).up e) (fun i y Ha ac ac' hDa h c hc => (h c hc).upd hDa) ?_ ?_⟩
      · rintro i y H3 _ ac hi e3 hD3 ⟨rfl, hy⟩ R k2
        obtain ⟨c, hc, a, rfl, ha⟩ := paired_get st2 hy
        refine ⟨a, _, rfl, SqT.of ((ex2.trans e3) _ _ ha), rfl, _, _, rfl, _, _, rfl, rfl, rfl, _, rfl, _, rfl, le2, fun t nt => ?_⟩
        refine k2 _ _ (Ex.new nt) fun c' hc' => ?_
        rw [hc] at hc'
        cases hc'
        exact ⟨t, rfl, SqT.of upd_same⟩
      rintro zs H3 e3 hz lz gz
      have pz : Paired (TupC K H3) zs L' := paired_of_get (by rw [lz, st2.length]) fun i u v hu hv => gz i u hu v hv
      have hx3 := (ex2.trans e3) _ _ hxB
      refine ⟨_, rfl, x, _, dx, _, rfl, hx3, T.cTimes, T.nTimesClasses, lt2, ?_⟩
      have nD : H D = none := by
        have h1 := fresh_back ex2 hD
        have h2 : H' D = none := by
          have ne : D ≠ x := fun z => by rw [z, hxB] at h1; cases h1
          exact nB D ne h1
        exact fresh_back ex h2
      rw [pf2]
      have o3 : Out x H (upd H3 x (.ins (He.ga K "Times") dx [("start", .int st), ("end", enV en), ("classes", .ref D)])) := (oB.trans (Out.of (ex2.trans e3))).trans Out.upd
      have hz4 : upd H3 x (.ins (He.ga K "Times") dx [("start", .int st), ("end", enV en), ("classes", .ref D)]) D = some (.lst zs) := upd_ins hx3 hz (fun z => by cases z)
      have pz4 : Paired (TupC K (upd H3 x (.ins (He.ga K "Times") dx [("start", .int st), ("end", enV en), ("classes", .ref D)]))) zs L' := Paired.mapP pz fun _ _ z => z.updI hx3
      have hx4 : upd H3 x (.ins (He.ga K "Times") dx [("start", .int st), ("end", enV en), ("classes", .ref D)]) x = _ := upd_same
      generalize upd H3 x (.ins (He.ga K "Times") dx [("start", .int st), ("end", enV en), ("classes", .ref D)]) = H4 at *
      have lz4 := pz4.length
      refine ⟨_, rfl, x, _, dx, _, _, rfl, hx4, T.cTimes, T.nTimesClasses, rfl, D, zs, rfl, SqL.of hz4, for_it (walk_enumI (xs := zs)) (fun i σ' H' => ∃ (v5 v6 : Option V), σ' = [some (.ref x), some (.int st), some (enV en), some (.ref cp), some (.ref r), v5, v6, none, none, none] ∧ Ex H4 H')
        ⟨_, _, rfl, Ex.refl _⟩ (fun i σ' H' _ ⟨_, _, _, e⟩ => SqL.of (e _ _ hz4)) ?_ ?_⟩
      · rintro i y σ' H' H'' hi ⟨v5, v6, rfl, e4⟩ ⟨t, z, rfl, nt, rfl, hz5⟩
        obtain ⟨a, ha, ta⟩ := paired_get pz4 hz5
        refine ⟨t, _, rfl, SqT.of upd_same, rfl, _, _, rfl, _, _, rfl, rfl, ?_⟩
        have e5 := e4.trans (Ex.new (o := .tup [.int (i : Nat), z]) nt)
        generalize upd H' t (.tup [.int (i : Nat), z]) = H5 at *
        refine ⟨_, rfl, x, _, dx, _, _, rfl, e5 _ _ hx4, T.cTimes, T.nTimesClasses, rfl, _, rfl, _, _, rfl, rfl, _, rfl, ?_⟩
        have ec : cutV zs (some ((i : Int) + 1)) none = zs.drop (i + 1) := cut_from (k := i + 1)
        refine ⟨D, zs, rfl, SqL.of (e5 _ _ hz4), fun p np => ?_⟩
        rw [ec]
        have hp : upd H5 p (.lst (zs.drop (i + 1))) p = some (.lst (zs.drop (i + 1))) := upd_same
        have e6 := e5.trans (Ex.new (o := .lst (zs.drop (i + 1))) np)
        generalize upd H5 p (.lst (zs.drop (i + 1))) = H6 at *
        have am : a ∈ L' := List.mem_of_getElem? ha
        have dl' := disj_perm pL dl
        refine ⟨p, rfl, ⟨_, SqL.of hp⟩, fun D2 hD2 => lc_all (walk_list (xs := zs.drop (i + 1))) (by rw [List.length_drop]; omega) hD2 (fun _ y _ => y = .bl true) (fun H'' e => SqL.of (e _ _ hp)) (fun _ _ _ _ _ h => h) (fun _ _ _ _ _ _ h => h) ?_ ?_⟩
        · rintro j y H7 _ ac hj e7 hD7 ⟨rfl, hy⟩ R k2
          rw [List.getElem?_drop] at hy
          obtain ⟨b, hb, tb⟩ := paired_get pz4 hy
          have bm : b ∈ L' := List.mem_of_getElem? hb
          have dj : Disj a b := by
            obtain ⟨h1, h2⟩ := List.getElem?_eq_some_iff.mp ha
            obtain ⟨h3, h4⟩ := List.getElem?_eq_some_iff.mp hb
            have := List.pairwise_iff_getElem.mp dl' i (i + 1 + j) h1 h3 (by omega)
            rw [h2, h4] at this
            exact this
          refine ⟨rfl, _, rfl, _, rfl, z, y, a, b, rfl, ta.up (e6.trans e7), tb.up (e6.trans e7), wf_perm pL wl a am, wf_perm pL wl b bm, dj, k2 _ _ (Ex.refl _) rfl⟩
        · rintro bs H7 e7 hb lb gb
          have e8 := bl_of_get (h := fun _ => true) lb gb
          rw [e8] at hb
          have eall : ((List.range (zs.drop (i + 1)).length).map fun _ => true).all id = true := by
            rw [List.all_eq_true]
            intro u hu
            obtain ⟨_, _, rfl⟩ := List.mem_map.mp hu
            rfl
          refine ⟨D2, _, rfl, SqL.of hb, ?_⟩
          rw [eall]
          refine ⟨true, rfl, ?_⟩
          refine iteF ?_
          exact ⟨_, _, rfl, e6.trans e7⟩
      · rintro σ' H' ⟨v5, v6, rfl, e4⟩
        exact k H' L' (o3.trans (Out.of e4)) pL ⟨dx, D, nD, e4 _ _ hx4, zs, e4 _ _ hz4, prs_up e4 pz4⟩
end
end Cu

/-! ## CuTimes2 -/
set_option maxRecDepth 100000
set_option maxHeartbeats 4000000
namespace Cu
open PySem PySem.Spec PyProof.Rows L2 Evl
theorem pe_mkTimes {X : Cx} {n : Nat} {e : Expr} {es : List Expr} {t : TA} {p pos : Pos} (T : Txt X.K X.mg) (hr : Room n X.A) (ha : PA X (e :: es) t) (hk : 3 ≤ n := by decide) (hg : Gl X "Times" := by rfl) (he : starEach (e :: es) X.env = (false, eval e X.env) :: starEach es X.env := by rfl) (hpl : (backTo pos (starEach es X.env)).any (·.1) = false := by rfl) :
    PE X (.Call (.Name "Times" p) (e :: es) [] pos) (tMake (He.ga X.K "Times") (spTimesInit X.K) [] E0 t) := by
  obtain ⟨fd, F, b⟩ := (D_TimesInit T : Met X.prog X.w X.K X.mg X.base 2 "Times" "__init__" ["self", "start", "end", "classes"] (spTimesInit X.K))
  exact pe_make T.kTimes F (hr.mono hk) hg T.gTimes b .nil pass0 ha (by decide) he hpl
theorem mk_times {K : PySem.W.Frag} {H : Hp} {cp : Addr} {st : Int} {en : Option Int} {L : List (Int × Int)} {Q : VK} {E : XK} (hL : LstC K H cp L) (wl : AllWf L) (dl : L.Pairwise Disj) (ll : L.length ≤ 64) (hst : 0 ≤ st) (hen : ∀ e, en = some e → 0 ≤ e)
    (k : ∀ x H' L', Ex H H' → L'.Perm L → TimesF K H H' x st en L' → Q (.ref x) H') :
    ∀ x dx, H x = none → H dx = none → dx ≠ x → spTimesInit K (.ref x :: ([.int st, enV en, .ref cp] ++ [])) (upd (upd H dx (.own x)) x (.ins (He.ga K "Times") dx [])) (fun v H2 => v = .non ∧ Q (.ref x) H2) E := by
  intro x dx nx nd ne
  have n2 : upd H dx (.own x) x = none := (upd_ne ne.symm).trans nx
  have ex : Ex H (upd (upd H dx (.own x)) x (.ins (He.ga K "Times") dx [])) := (Ex.new nd).trans (Ex.new n2)
  exact ⟨x, dx, cp, st, en, L, rfl, upd_same, hL.up ex, wl, dl, ll, hst, hen, fun H' L' o p t => ⟨rfl, k x H' L' (o H nx ex) p (t.back ex)⟩⟩
def inB (st : Int) (en : Option Int) (m : Int) : Bool := decide (st ≤ m) && (match en with | none => true | some e => decide (m ≤ e))
theorem inB_iff {st : Int} {en : Option Int} {m : Int} : inB st en m = true ↔ st ≤ m ∧ ∀ e, en = some e → m ≤ e := by
  unfold inB
  cases en with
  | none => simp
  | some e => simp
theorem map_of_get {α β : Type} {ys : List β} {L : List α} {g : α → β} (hl : ys.length = L.length) (h : ∀ (i : Nat) (y : β), ys[i]? = some y → ∀ c, L[i]? = some c → y = g c) : ys = L.map g := by
  apply List.ext_getElem?
  intro i
  rw [List.getElem?_map]
  cases e : L[i]? with
  | none =>
    rw [List.getElem?_eq_none_iff] at e
    exact List.getElem?_eq_none (by omega)
  | some c =>
    obtain ⟨hi, _⟩ := List.getElem?_eq_some_iff.mp e
    have e2 : ys[i]? = some ys[i] := List.getElem?_eq_getElem (by omega)
    rw [e2, h i _ e2 c e]
    rfl
section
variable {P : Program} {w : World} {K : PySem.W.Frag} {mg : Str → Option Value} {base : Heap}
/-! ### is_within -/
def spIsWithin (K : PySem.W.Frag) : Sp := fun vs H Q _ => ∃ (a : Addr) (m st : Int) (en : Option Int) (L : List (Int × Int)), vs = [.ref a, .int m] ∧ TimesA K H a st en L ∧ Q (.bl (inB st en m)) H
abbrev NTimesIsWithin : List Str := ["self", "minute"]
theorem scTimesIsWithin : FnScope NTimesIsWithin ["self", "minute"] (defScope sTimesIsWithin) := ⟨rfl, rfl, rfl, by decide +kernel, rfl, by decide +kernel, by decide +kernel⟩
theorem D_TimesIsWithin (T : Txt K mg) : Met P w K mg base 1 "Times" "is_within" ["self", "minute"] (spIsWithin K) := by
  refine mk_met T.fTimesIsWithin scTimesIsWithin (fun _ _ _ _ _ _ us hl => match us, hl with | [_, _], _ => rfl) ?_ ?_
  · rintro vs H Q E ⟨x, m, st, en, L, rfl, _⟩
    rfl
  · rintro cdv A outer s H vs Q E hr ⟨x, m, st, en, L, rfl, ⟨dx, cp, hx, hc⟩, k⟩
    have nd := scTimesIsWithin.nd
    refine ⟨_, (pss_one (ps_ret (pe_and (pe_cmpR op_ge (pv 1) (pe_fld (pv 0) rfl) (nomark _)) (pe_one (pe_or (pe_cmpR op_isN (pe_fld (pv 0) rfl) pe_non (nomark _)) (pe_one (pe_cmpR op_le (pv 1) (pe_fld (pv 0) rfl) (nomark _)))))))), ?_⟩
    refine ⟨_, rfl, _, rfl, x, _, dx, _, _, rfl, hx, T.cTimes, T.nTimesStart, rfl, _, _, rfl, rfl, _, rfl, ?_⟩
    refine iteD (fun c => ?_) (fun c => ?_)
    · refine ⟨_, rfl, x, _, dx, _, _, rfl, hx, T.cTimes, T.nTimesEnd, rfl, rfl, _, rfl, ?_⟩
      cases en with
      | none =>
        refine iteT ?_
        have e : inB st none m = true := inB_iff.mpr ⟨c, fun _ h => by cases h⟩
        rw [e] at k
        exact k
      | some e =>
        refine iteF ?_
        refine ⟨_, rfl, _, rfl, x, _, dx, _, _, rfl, hx, T.cTimes, T.nTimesEnd, rfl, _, _, rfl, rfl, ?_⟩
        have e2 : inB st (some e) m = decide (m ≤ e) := by
          unfold inB
          rw [decide_eq_true c, Bool.true_and]
        rw [e2] at k
        exact k
    · have e : inB st en m = false := by
        unfold inB
        rw [decide_eq_false c, Bool.false_and]
      rw [e] at k
      exact k
/-! ### holds -/
def spHolds (K : PySem.W.Frag) : Sp := fun vs H Q _ => ∃ (a : Addr) (m st : Int) (en : Option Int) (L : List (Int × Int)), vs = [.ref a, .int m] ∧ TimesA K H a st en L ∧ AllWf L ∧ L.length ≤ 256 ∧ ∀ b H', Ex H H' → (b = true ↔ TS st en L m) → Q (.bl b) H'
abbrev NTimesHolds : List Str := ["self", "minute", "remainder", "modulus"]
theorem scTimesHolds : FnScope NTimesHolds ["self", "minute"] (defScope sTimesHolds) := ⟨rfl, rfl, rfl, by decide +kernel, rfl, by decide +kernel, by decide +kernel⟩
theorem D_TimesHolds (T : Txt K mg) : Met P w K mg base 2 "Times" "holds" ["self", "minute"] (spHolds K) := by
  refine mk_met T.fTimesHolds scTimesHolds (fun _ _ _ _ _ _ us hl => match us, hl with | [_, _], _ => rfl) ?_ ?_
  · rintro vs H Q E ⟨x, m, st, en, L, rfl, _⟩
    rfl
  · rintro cdv A outer s H vs Q E hr ⟨x, m, st, en, L, rfl, ⟨dx, cp, hx, zs, hz, pz⟩, wl, ll, k⟩
    have nd := scTimesHolds.nd
    refine ⟨_, (pss_cons (ps_if (pt_not (pt_val (pe_met (D_TimesIsWithin T) (pv 0) T.cTimes T.mTimesIsWithin hr (pa_cons (pv 1) pa_nil)))) (pss_one (ps_ret pe_bl)) pss_nil)
      (pss_one (ps_ret (pe_callB (cr_any rfl) (by rfl) T.zAny (by decide +kernel) (pa_cons (pe_lc (own := [("remainder", 2), ("modulus", 3)]) rfl nd (pi_list (pe_fld (pv 0) rfl)) (blkOk_by (N := NTimesHolds) (sc := defScope sTimesHolds) (by decide +kernel)) (fun _ _ _ _ _ => (pg_tup (n := 2) rfl (pgs_cons (pg_name (i := 2) nd rfl (Or.inl rfl)) (pgs_cons (pg_name (i := 3) nd rfl (Or.inl rfl)) pgs_nil)) : PG _ _ (gTup K 2 _))) (fun _ _ _ _ _ => pts_nil) (fun _ _ _ _ _ => (pe_cmpR op_eq (pe_op op_mod (pv 1) (pv 3)) (pv 2) (nomark _)))) pa_nil))))), ?_⟩
    have lz := pz.length
    refine ⟨_, rfl, x, dx, _, rfl, hx, rfl, _, rfl, x, m, st, en, L, rfl, ⟨dx, cp, hx, zs, hz, pz⟩, _, rfl, ?_⟩
    cases hb : inB st en m with
    | false =>
      refine iteT ?_
      refine k _ _ (Ex.refl _) ⟨fun h => absurd h Bool.false_ne_true, fun h => ?_⟩
      have := inB_iff.mpr ⟨h.1, h.2.1⟩
      rw [hb] at this
      exact this
    | true =>
      refine iteF ?_
      obtain ⟨b1, b2⟩ := inB_iff.mp hb
      refine ⟨_, rfl, x, _, dx, _, _, rfl, hx, T.cTimes, T.nTimesClasses, rfl, cp, rfl, ⟨_, SqL.of hz⟩, fun D hD => lc_all (walk_list (xs := zs)) (by omega) hD (fun i y _ => ∀ c, L[i]? = some c → y = .bl (decide (V.int (m % c.2) = V.int c.1))) (fun H'' e => SqL.of (e _ _ hz)) (fun _ _ _ _ _ h => h) (fun _ _ _ _ _ _ h => h) ?_ ?_⟩
      · rintro i y H3 _ ac hi e3 hD3 ⟨rfl, hy⟩ R k2
        obtain ⟨c, hc, a, rfl, ha⟩ := paired_get pz hy
        have wc := wl c (List.mem_of_getElem? hc)
        have c0 : 0 < c.2 := by have := wc.1; have := wc.2; omega
        refine ⟨a, _, rfl, ex_t e3 ha, rfl, _, _, rfl, _, _, rfl, rfl, rfl, ?_⟩
        refine ⟨_, rfl, _, rfl, _, _, rfl, rfl, c0, _, rfl, rfl, ?_⟩
        refine k2 _ _ (Ex.refl _) fun c' hc' => ?_
        rw [hc] at hc'
        cases hc'
        rfl
      · rintro bs H3 e3 hbs lb gb
        have e4 : bs = (L.map fun c => decide (V.int (m % c.2) = V.int c.1)).map V.bl := by
          rw [List.map_map]
          exact map_of_get (by omega) gb
        rw [e4] at hbs
        refine ⟨D, _, rfl, SqL.of hbs, k _ _ e3 ?_⟩
        rw [List.any_map, List.any_eq_true]
        constructor
        · rintro ⟨c, hc, he⟩
          exact ⟨b1, b2, c, hc, eqI.mp he⟩
        · rintro ⟨_, _, c, hc, he⟩
          exact ⟨c, hc, eqI.mpr he⟩
/-! ### next_from -/
def spNextFrom (K : PySem.W.Frag) : Sp := fun vs H Q _ => ∃ (a : Addr) (m st : Int) (en : Option Int) (L : List (Int × Int)), vs = [.ref a, .int m] ∧ TimesA K H a st en L ∧ AllWf L ∧ L.length ≤ 256 ∧ ∀ o H', Ex H H' → IsNext (TS st en L) m o → Q (enV o) H'
abbrev NTimesNextFrom : List Str := ["self", "minute", "first", "found", "remainder", "modulus"]
theorem scTimesNextFrom : FnScope NTimesNextFrom ["self", "minute"] (defScope sTimesNextFrom) := ⟨rfl, rfl, rfl, by decide +kernel, rfl, by decide +kernel, by decide +kernel⟩
theorem D_TimesNextFrom (T : Txt K mg) : Met P w K mg base 2 "Times" "next_from" ["self", "minute"] (spNextFrom K) := by
  refine mk_met T.fTimesNextFrom scTimesNextFrom (fun _ _ _ _ _ _ us hl => match us, hl with | [_, _], _ => rfl) ?_ ?_
  · rintro vs H Q E ⟨x, m, st, en, L, rfl, _⟩
    rfl
  · rintro cdv A outer s H vs Q E hr ⟨x, m, st, en, L, rfl, ⟨dx, cp, hx, zs, hz0, pz⟩, wl, ll, k⟩
    have nd := scTimesNextFrom.nd
    refine ⟨_, (pss_cons (ps_set (i := 2) nd rfl (Or.inr rfl) (pe_callB (call_max2 rfl) (by rfl) T.zMax (by decide +kernel) (pa_cons (pv 1) (pa_cons (pe_fld (pv 0) rfl) pa_nil))))
      (pss_cons (ps_setLc (i := 3) (own := [("remainder", 4), ("modulus", 5)]) rfl nd rfl rfl (sw_true rfl rfl rfl (by decide +kernel)) (pi_list (pe_fld (pv 0) rfl)) (blkOk_by (N := NTimesNextFrom) (sc := defScope sTimesNextFrom) (by decide +kernel)) (fun _ _ _ _ _ => (pg_tup (n := 2) rfl (pgs_cons (pg_name (i := 4) nd rfl (Or.inl rfl)) (pgs_cons (pg_name (i := 5) nd rfl (Or.inl rfl)) pgs_nil)) : PG _ _ (gTup K 2 _))) (fun _ _ _ _ _ => pts_nil) (fun _ _ _ _ _ => (pe_op op_add (pv 2) (pe_op op_mod (pe_op op_sub (pv 4) (pv 2)) (pv 5)))))
      (pss_cons (ps_if (PW.pt (pw_or (pt_not (pt_truth (pv 3) (by intro _; rfl))) (pw_or1 (pt_not (pt_val (pe_met (D_TimesIsWithin T) (pv 0) T.cTimes T.mTimesIsWithin hr (pa_cons (pe_callB (cr_min rfl) (by rfl) T.zMin (by decide +kernel) (pa_cons (pv 3) pa_nil)) pa_nil))))))) (pss_one (ps_ret pe_non)) pss_nil)
      (pss_one (ps_ret (pe_callB (cr_min rfl) (by rfl) T.zMin (by decide +kernel) (pa_cons (pv 3) pa_nil))))))), ?_⟩
    have lz := pz.length
    refine ⟨_, rfl, _, rfl, x, _, dx, _, _, rfl, hx, T.cTimes, T.nTimesStart, rfl, _, _, rfl, ?_⟩
    generalize hf : (if st > m then st else m) = f
    refine ⟨_, rfl, x, _, dx, _, _, rfl, hx, T.cTimes, T.nTimesClasses, rfl, cp, rfl, ⟨_, SqL.of hz0⟩, fun D hD => lc_all (walk_list (xs := zs)) (by omega) hD (fun i y _ => ∀ c, L[i]? = some c → y = .int (nx c f)) (fun H'' e => SqL.of (e _ _ hz0)) (fun _ _ _ _ _ h => h) (fun _ _ _ _ _ _ h => h) ?_ ?_⟩
    · rintro i y H3 _ ac hi e3 hD3 ⟨rfl, hy⟩ R k2
      obtain ⟨c, hc, a, rfl, ha⟩ := paired_get pz hy
      have wc := wl c (List.mem_of_getElem? hc)
      have c0 : 0 < c.2 := by have := wc.1; have := wc.2; omega
      refine ⟨a, _, rfl, ex_t e3 ha, rfl, _, _, rfl, _, _, rfl, rfl, rfl, ?_⟩
      refine ⟨_, rfl, _, rfl, _, rfl, _, _, rfl, rfl, _, rfl, _, _, rfl, rfl, c0, _, _, rfl, rfl, ?_⟩
      refine k2 _ _ (Ex.refl _) fun c' hc' => ?_
      rw [hc] at hc'
      cases hc'
      rfl
    · rintro bs H3 e3 hbs lb gb
      have e4 : bs = (L.map fun c => nx c f).map V.int := by
        rw [List.map_map]
        exact map_of_get (by omega) gb
      rw [e4] at hbs
      refine ⟨_, rfl, _, .inl ⟨_, SqL.of hbs, rfl⟩, ?_⟩
      cases L with
      | nil =>
        refine iteT ?_
        refine iteT ?_
        refine k none _ e3 ?_
        rintro t _ ⟨_, _, c, hc, _⟩
        cases hc
      | cons c0 L0 =>
        refine iteF ?_
        refine ⟨_, rfl, x, dx, _, rfl, e3 _ _ hx, rfl, _, rfl, D, _, rfl, SqL.of hbs, by simp, fun z hz hle => ?_⟩
        refine ⟨x, z, st, en, c0 :: L0, rfl, TimesA.up e3 ⟨dx, cp, hx, zs, hz0, pz⟩, _, rfl, ?_⟩
        have hm : m ≤ f ∧ st ≤ f ∧ (f = m ∨ f = st) := by
          rw [← hf]
          split <;> omega
        have main : ∀ z, z ∈ (c0 :: L0).map (fun c => nx c f) → (∀ y ∈ (c0 :: L0).map (fun c => nx c f), z ≤ y) → f ≤ z ∧ Hit (c0 :: L0) z ∧ ∀ t, f ≤ t → Hit (c0 :: L0) t → z ≤ t := fun z hz hle => by
          obtain ⟨c, hc, he⟩ := List.mem_map.mp hz
          exact next_some wl ⟨c, hc, he⟩ fun c hc => hle _ (List.mem_map.mpr ⟨c, hc, rfl⟩)
        obtain ⟨m1, m2, m3⟩ := main z hz hle
        cases hb : inB st en z with
        | false =>
          refine iteT ?_
          refine k none _ e3 ?_
          rintro t ht ⟨h1, h2, h3⟩
          have h4 := m3 t (by omega) h3
          have := inB_iff.mpr ⟨(by omega : st ≤ z), fun e he => (by have := h2 e he; omega : z ≤ e)⟩
          rw [hb] at this
          exact Bool.false_ne_true this
        | true =>
          refine iteF ?_
          obtain ⟨b1, b2⟩ := inB_iff.mp hb
          refine ⟨_, rfl, D, _, rfl, SqL.of hbs, by simp, fun z2 hz2 hle2 => ?_⟩
          have e5 : z2 = z := by
            have h1 := hle2 z hz
            have h2 := hle z2 hz2
            omega
          subst e5
          exact k (some z2) _ e3 ⟨by omega, ⟨b1, b2, m2⟩, fun t ht ⟨h1, _, h3⟩ => m3 t (by omega) h3⟩
/-! ### earlier_end -/
def minO : Option Int → Option Int → Option Int
  | none, b => b
  | some a, none => some a
  | some a, some b => some (if b < a then b else a)
theorem minO_le {a b : Option Int} {m : Int} : (∀ e, minO a b = some e → m ≤ e) ↔ (∀ e, a = some e → m ≤ e) ∧ ∀ e, b = some e → m ≤ e := by
  cases a with
  | none => simp [minO]
  | some a =>
    cases b with
    | none => simp [minO]
    | some b =>
      simp only [minO, Option.some.injEq, forall_eq']
      split <;> omega
def spEarlierEnd : Sp := fun vs H Q _ => ∃ a b : Option Int, vs = [enV a, enV b] ∧ Q (enV (minO a b)) H
abbrev NEarlierEnd : List Str := ["one", "other"]
theorem scEarlierEnd : FnScope NEarlierEnd ["one", "other"] (defScope sEarlierEnd) := ⟨rfl, rfl, rfl, by decide +kernel, rfl, by decide +kernel, by decide +kernel⟩
theorem D_EarlierEnd (T : Txt K mg) : Def P w K mg base 1 "earlier_end" ["one", "other"] spEarlierEnd := by
  refine mk_def T.fEarlierEnd T.gEarlierEnd scEarlierEnd (fun _ _ _ _ _ _ us hl => match us, hl with | [_, _], _ => rfl) ?_ ?_
  · rintro vs H Q E ⟨a, b, rfl, _⟩
    rfl
  · rintro cdv A outer s H vs Q E hr ⟨a, b, rfl, k⟩
    have nd := scEarlierEnd.nd
    refine ⟨_, (pss_cons (ps_if (PW.pt (pw_or (pt_cmpR op_isN (pv 0) pe_non (nomark _)) (pw_or1 (pt_cmpR op_isN (pv 1) pe_non (nomark _))))) (pss_one (ps_ret (pe_ifExp (pt_cmpR op_isN (pv 0) pe_non (nomark _)) (pv 1) (pv 0)))) pss_nil)
      (pss_one (ps_ret (pe_callB (call_min2 rfl) (by rfl) T.zMin (by decide +kernel) (pa_cons (pv 0) (pa_cons (pv 1) pa_nil)))))), ?_⟩
    cases a with
    | none =>
      refine ⟨_, rfl, rfl, _, rfl, ?_⟩
      refine iteT ?_
      refine iteT ?_
      refine ⟨_, rfl, rfl, _, rfl, ?_⟩
      refine iteT ?_
      exact ⟨_, rfl, k⟩
    | some a =>
      refine ⟨_, rfl, rfl, _, rfl, ?_⟩
      refine iteF ?_
      refine ⟨_, rfl, rfl, _, rfl, ?_⟩
      cases b with
      | none =>
        refine iteT ?_
        refine ⟨_, rfl, rfl, _, rfl, ?_⟩
        refine iteF ?_
        exact ⟨_, rfl, k⟩
      | some b =>
        refine iteF ?_
        exact ⟨_, rfl, _, rfl, _, _, rfl, k⟩
end
end Cu

/-! ## CuTimes3 -/
set_option maxRecDepth 100000
set_option maxHeartbeats 4000000
namespace Cu
open PySem PySem.Spec PyProof.Rows L2 Evl
def mx (a b : Int) : Int := if b > a then b else a
section
variable {P : Program} {w : World} {K : PySem.W.Frag} {mg : Str → Option Value} {base : Heap}
/-! ### both -/
def spBoth (K : PySem.W.Frag) : Sp := fun vs H Q _ => ∃ (a b : Addr) (s1 s2 : Int) (e1 e2 : Option Int) (L M : List (Int × Int)), vs = [.ref a, .ref b] ∧ TimesA K H a s1 e1 L ∧ TimesA K H b s2 e2 M ∧ AllWf L ∧ AllWf M ∧ ModLe L Big ∧ ModLe M Big ∧
  L.length ≤ 16 ∧ M.length ≤ 16 ∧ L.length * M.length ≤ 64 ∧ L.Pairwise Disj ∧ M.Pairwise Disj ∧ 0 ≤ s1 ∧ 0 ≤ s2 ∧ (∀ e, minO e1 e2 = some e → 0 ≤ e) ∧
  ∀ x H' R, Ex H H' → R.Perm (crossF L M) → TimesA K H' x (mx s1 s2) (minO e1 e2) R → Q (.ref x) H'
abbrev NBoth : List Str := ["one", "other", "end"]
theorem scBoth : FnScope NBoth ["one", "other"] (defScope sBoth) := ⟨rfl, rfl, rfl, by decide +kernel, rfl, by decide +kernel, by decide +kernel⟩
theorem D_Both (T : Txt K mg) : Def P w K mg base 4 "both" ["one", "other"] (spBoth K) := by
  refine mk_def T.fBoth T.gBoth scBoth (fun _ _ _ _ _ _ us hl => match us, hl with | [_, _], _ => rfl) ?_ ?_
  · rintro vs H Q E ⟨a, b, _, _, _, _, _, _, rfl, _⟩
    rfl
  · rintro cdv A outer s H vs Q E hr ⟨a, b, s1, s2, e1, e2, L, M, rfl, ⟨d1, c1, ha, h1⟩, ⟨d2, c2, hb, h2⟩, wl, wm, bl, bm, ll, lm, lp, dl, dm, hs1, hs2, he, k⟩
    have nd := scBoth.nd
    refine ⟨_, (pss_cons (ps_set (i := 2) nd rfl (Or.inl rfl) (pe_def (D_EarlierEnd T) hr (pa_cons (pe_fld (pv 0) rfl) (pa_cons (pe_fld (pv 1) rfl) pa_nil))))
      (pss_one (ps_ret (pe_mkTimes T hr (pa_cons (pe_callB (call_max2 rfl) (by rfl) T.zMax (by decide +kernel) (pa_cons (pe_fld (pv 0) rfl) (pa_cons (pe_fld (pv 1) rfl) pa_nil))) (pa_cons (pv 2) (pa_cons (pe_def (D_Crossed T) hr (pa_cons (pe_fld (pv 0) rfl) (pa_cons (pe_fld (pv 1) rfl) pa_nil))) pa_nil))))))), ?_⟩
    refine ⟨_, rfl, a, _, d1, _, _, rfl, ha, T.cTimes, T.nTimesEnd, rfl, _, rfl, b, _, d2, _, _, rfl, hb, T.cTimes, T.nTimesEnd, rfl, e1, e2, rfl, ?_⟩
    refine ⟨_, rfl, a, _, d1, _, _, rfl, ha, T.cTimes, T.nTimesStart, rfl, _, rfl, b, _, d2, _, _, rfl, hb, T.cTimes, T.nTimesStart, rfl, _, _, rfl, _, rfl, ?_⟩
    refine ⟨_, rfl, a, _, d1, _, _, rfl, ha, T.cTimes, T.nTimesClasses, rfl, _, rfl, b, _, d2, _, _, rfl, hb, T.cTimes, T.nTimesClasses, rfl, ?_⟩
    refine ⟨c1, c2, L, M, rfl, h1, h2, wl, wm, bl, bm, ll, lm, fun p H1 R e pR hp => ?_⟩
    have l1 := pR.length_eq
    have l2 := cross_len (l := L) (r := M)
    exact mk_times hp (wf_perm pR (cross_wf wl wm)) (disj_perm pR (cross_disj wl wm dl dm)) (by omega) (by split <;> omega) he fun x H' R' ex pR' ht => k x H' R' (e.trans ex) (pR'.trans pR) ht.toA
/-! ### require -/
def spRequire : Sp := fun vs H Q _ => vs = [.bl true] ∧ Q .non H
abbrev NRequire : List Str := ["holds"]
theorem scRequire : FnScope NRequire ["holds"] (defScope sRequire) := ⟨rfl, rfl, rfl, by decide +kernel, rfl, by decide +kernel, by decide +kernel⟩
theorem D_Require (T : Txt K mg) : Def P w K mg base 1 "require" ["holds"] spRequire := by
  refine mk_def T.fRequire T.gRequire scRequire (fun _ _ _ _ _ _ us hl => match us, hl with | [_], _ => rfl) ?_ ?_
  · rintro vs H Q E ⟨rfl, _⟩
    rfl
  · rintro cdv A outer s H vs Q E hr ⟨rfl, k⟩
    have nd := scRequire.nd
    refine ⟨_, (pss_one (ps_if (pt_not (pt_val (pv 0))) (pss_one ps_never) pss_nil)), ?_⟩
    refine ⟨_, rfl, true, rfl, ?_⟩
    refine iteF ?_
    exact k
end
end Cu

/-! ## CuEnum -/
set_option maxRecDepth 100000
set_option maxHeartbeats 4000000
namespace Cu
open PySem PySem.Spec PyProof.Rows L2 Evl
/-! ### enumerate of a tuple that has nothing -/
theorem meets_enum1 {v : Value} {o : Obj} {Fh : Heap → Prop} (B : Begins v o Fh) :
    Meets (Builtin.«enumerate.__new__» ⟨[.type "enumerate", v], []⟩) (fun _ R s => Fh s.heap ∧ R (.ok (.ret (.ref (s.heap.push o).objs.size)))
      { s with heap := (s.heap.push o).push { cls := .type "enumerate", data := .fields #[.none, .bool false, .ref s.heap.objs.size, rawInt 0, .none, .none] } }) :=
  .of_wp fun prog w A R s h => by
    obtain ⟨hp, g, d, tk, os⟩ := s
    obtain ⟨h1, h⟩ := h
    have hsub := sub_enumerate
    have q1 : ∀ {A' : Around} {E : Value → Shared → Prop} {Q : Value → Shared → Prop}, Q (.ref hp.objs.size) ⟨hp.push o, g, d, tk, os⟩ → wpAny (model prog w) A' (pyIter v) Q E ⟨hp, g, d, tk, os⟩ :=
      fun q => B.iter prog w _ _ ⟨hp, g, d, tk, os⟩ _ h1 q
    wp_walk using q1
    refine wpAny_stack_any fun st => wpAny_pure ?_
    split
    · rename_i c _ _ _ _ _
      cases (c == Value.type "enumerate")
      · wp_walk using q1
        exact ⟨_, rfl, h⟩
      · wp_walk using q1
        exact ⟨_, rfl, h⟩
    · wp_walk using q1
      exact ⟨_, rfl, h⟩
theorem enum_begins1 {prog : Program} {w : World} {A : Around} {E : Value → Shared → Prop} {s : Shared} {v : Value} {o : Obj} {Fh : Heap → Prop} {Q : Value → Shared → Prop} (B : Begins v o Fh) (h1 : Fh s.heap)
    (h : ∀ h', IsEnum h' (s.heap.objs.size + 1) s.heap.objs.size 0 .none → h'.get? s.heap.objs.size = some o → (∀ b o, s.heap.get? b = some o → h'.get? b = some o) → Q (.ref (s.heap.objs.size + 1)) { s with heap := h' }) :
    wpAny (model prog w) A (call (.type "enumerate") [v]) Q E s := by
  refine callType_new F.called_enumerate (by decide) (F.typeCall_enumerate_1 _) (F.newCall_enumerate_1 _) (fun obj => F.args_object_init_2 obj _) F.entry_enumerate_new (meets_enum1 B) ⟨h1, ?_⟩
  have hz : (s.heap.push o).objs.size = s.heap.objs.size + 1 := Heap.size_push ..
  show _ ∧ _
  rw [hz]
  have he : IsEnum ((s.heap.push o).push { cls := .type "enumerate", data := .fields #[.none, .bool false, .ref s.heap.objs.size, rawInt 0, .none, .none] }) (s.heap.objs.size + 1) s.heap.objs.size 0 .none := by
    have := Heap.get?_push_size (s.heap.push o) (o := { cls := .type "enumerate", data := .fields #[.none, .bool false, .ref s.heap.objs.size, rawInt 0, .none, .none] }) rfl
    rw [hz] at this
    exact this
  exact ⟨⟨_, he, rfl⟩, h _ he (Heap.get?_push_of_some _ (Heap.get?_push_size _ B.free)) fun b o x => Heap.get?_push_of_some _ (Heap.get?_push_of_some _ x)⟩
/-- no turn at all -/
def Ite0 (K : PySem.W.Frag) (a : Addr) : It := ⟨fun _ _ => False, fun _ _ _ _ => False, fun _ H => SqT K H a []⟩
theorem turn_enum0 {P : Program} {w : World} {K : PySem.W.Frag} {elts : List Expr} {kk : Nat} {tpos : Pos} (a e it : Addr) :
    Turn P w K (.Tuple elts kk tpos) (Ite0 K a) [e, it] e (fun _ h => (∃ old, IsEnum h e it 0 old) ∧ h.IsTupleIter it a 0 ∧ e ≠ it ∧ a ≠ it) where
  mem := by simp
  obj := fun i h st b hb => by
    obtain ⟨⟨old, he⟩, ⟨o, ho, hc, hd⟩, _⟩ := st
    have e' : b = e ∨ b = it := by simpa using hb
    rcases e' with z | z
    · rw [z]; exact ⟨_, he, fun v q => nomatch q⟩
    · rw [z]; exact ⟨o, ho, fun v q => by rw [hd] at q; cases q⟩
  keep := fun i h h' st k => let ⟨⟨old, he⟩, hi, hne⟩ := st; ⟨⟨old, k e (by simp) _ he⟩, hi.at fun o q => k it (by simp) o q, hne⟩
  item := fun X hP hw hK hc i pins s σ H E I hf st hg => False.elim hg
  done := by
    intro X hP hw hK hc i pins s σ H E I hf st hg
    subst hP hw hK
    obtain ⟨⟨old, he⟩, hit, hne, hat⟩ := st
    obtain ⟨its, rv, p, hz⟩ := I.tuple hg
    cases rv
    obtain ⟨f0, f1, f2, f3, f4, f5⟩ := hf it (by simp)
    exact wpAny_pyNext_enum_endD (n := 0) (Draws.tuple (A := X.A.in1) (show X.A.in1.handled = none from I.ok.hd hc) it a hat #[]) he ⟨hit, p⟩ fun h' eb => ⟨rfl, I.turned (t' := s.toks) (fun b o hb q => eb b o hb q) f0 f1 f3 f4 f5⟩
  self := fun A i s Q E st h => let ⟨⟨_, he⟩, _⟩ := st; wpAny_pyIter_enum he h
def iEnum0 (K : PySem.W.Frag) (ta : TA) : TI := fun σ H R => ta σ H fun vs H1 => ∃ a, vs = [.ref a] ∧ SqT K H1 a [] ∧ R (Ite0 K a) H1
theorem pi_enum0 {X : Cx} {e : Expr} {ta : TA} {p pos tpos : Pos} {elts : List Expr} {kk : Nat} (hg : Gl X "enumerate") (hm : X.mg "enumerate" = none) (ha : PA X [e] ta) (hs : starEach [e] X.env = [(false, eval e X.env)] := by rfl) :
    PI X (.Tuple elts kk tpos) (.Call (.Name "enumerate" p) [e] [] pos) (iEnum0 X.K ta) := by
  refine ⟨fun pins s σ H R I h => ?_⟩
  refine Call_ (ld_blt I hg hm boot_enumerate (PyProof.Rows.callWith_type1 (thn (ha.run pos pins s σ H _ I h) fun us s1 ⟨vs, H1, I1, r1, q1⟩ => ?_) hs rfl))
  obtain ⟨a, ex, hq, q⟩ := q1
  subst ex
  cases r1 with
  | cons r rr =>
    cases rr
    cases r
    obtain ⟨its, rv, p', hz⟩ := I1.tuple hq
    have hlt : a < s1.heap.objs.size := by obtain ⟨o, ho, _⟩ := p'; exact Heap.lt_size ho
    refine enum_begins1 (begins_tuple a its.toArray) p' fun h' he hit hk => wpAny_pyIter_enum he ?_
    have I2 : Inv X pins σ H1 { s1 with heap := h' } := I1.kept (t' := s1.toks) hk
    refine ⟨s1.heap.objs.size + 1, [s1.heap.objs.size + 1, s1.heap.objs.size], _, _, H1, rfl, I2, turn_enum0 a (s1.heap.objs.size + 1) s1.heap.objs.size, ⟨⟨.none, he⟩, ⟨_, hit, rfl, rfl⟩, Nat.succ_ne_self _, Nat.ne_of_lt hlt⟩, fun b hb => ?_, q⟩
    have e' : b = s1.heap.objs.size + 1 ∨ b = s1.heap.objs.size := by simpa using hb
    have hle : s1.heap.objs.size ≤ b := by
      rcases e' with z | z
      · rw [z]; exact Nat.le_add_right _ _
      · rw [z]; exact Nat.le_refl _
    exact I1.fpOk hle (I1.hok.fresh hle)
theorem for_none {K : PySem.W.Frag} {a : Addr} {g : TG} {tb : L2.TS} {D : Ends} {σ : L2.St} {H : Hp} (ht : SqT K H a []) (hd : D.nx σ H) :
    ∃ W : Nat → Nat → L2.St → Hp → Prop, (∃ m, W 0 m σ H) ∧ ∀ i m σ H, W i m σ H →
      ((Ite0 K a).stop i H ∧ D.nx σ H) ∨ ((Ite0 K a).go i H ∧ ∃ N : L2.St → Hp → Prop, (∀ σ' H', N σ' H' → ∃ m', m' < m ∧ W (i + 1) m' σ' H') ∧ ∀ x H', (Ite0 K a).yld i H x H' → g x σ H' fun σ2 H2 => tb { D with nx := N, ct := N, bk := D.nx } σ2 H2) :=
  ⟨fun _ _ σ' H' => σ' = σ ∧ H' = H, ⟨0, rfl, rfl⟩, fun i m σ' H' ⟨h1, h2⟩ => by subst h1 h2; exact .inl ⟨ht, hd⟩⟩
def tNv : TE := fun _ _ _ => False
theorem pe_nvD {X : Cx} {e : Expr} : PE X e tNv := ⟨fun _ _ _ _ _ _ h => False.elim h⟩
/-- a body that is never come to -/
def sNv : L2.TS := fun _ _ _ => False
theorem pss_nv {X : Cx} {ss : List Stmt} : PSs X ss sNv := ⟨fun _ _ _ _ _ _ h => False.elim h⟩
/-! ### a table -/
def TabA (K : PySem.W.Frag) (H : Hp) (a : Addr) (w h : Int) : Prop := ∃ dx pk, H a = some (.ins (He.ga K "Table") dx [("width", .int w), ("height", .int h), ("pockets", .ref pk)])
theorem TabA.up {K : PySem.W.Frag} {H H' : Hp} {a : Addr} {w h : Int} (e : Ex H H') (t : TabA K H a w h) : TabA K H' a w h := let ⟨dx, pk, q⟩ := t; ⟨dx, pk, e _ _ q⟩
section
variable {P : Program} {w : World} {K : PySem.W.Frag} {mg : Str → Option Value} {base : Heap}
def inT (u v x y : Int) : Bool := decide (0 ≤ x ∧ x ≤ u ∧ 0 ≤ y ∧ y ≤ v)
def spIsPoint (K : PySem.W.Frag) : Sp := fun vs H Q _ => ∃ (a : Addr) (u v x y : Int) (p : V), vs = [.ref a, p] ∧ TabA K H a u v ∧ TupC K H p (x, y) ∧ 0 ≤ x ∧ x ≤ u ∧ 0 ≤ y ∧ y ≤ v ∧ Q (.bl true) H
abbrev NTableIsPoint : List Str := ["self", "point"]
theorem scTableIsPoint : FnScope NTableIsPoint ["self", "point"] (defScope sTableIsPoint) := ⟨rfl, rfl, rfl, by decide +kernel, rfl, by decide +kernel, by decide +kernel⟩
theorem D_TableIsPoint (T : Txt K mg) : Met P w K mg base 1 "Table" "is_point" ["self", "point"] (spIsPoint K) := by
  refine mk_met T.fTableIsPoint scTableIsPoint (fun _ _ _ _ _ _ us hl => match us, hl with | [_, _], _ => rfl) ?_ ?_
  · rintro vs H Q E ⟨a, _, _, _, _, _, rfl, _⟩
    rfl
  · rintro cdv A outer s H vs Q E hr ⟨a, u, v, x, y, p, rfl, ⟨dx, pk, ha⟩, ⟨q, rfl, hq⟩, h1, h2, h3, h4, k⟩
    have nd := scTableIsPoint.nd
    refine ⟨_, (pss_one (ps_ret (pe_and (pe_chain op_le op_le pe_int (pe_ix ix_tup (pv 1) pe_int (fun _ _ => rfl)) (pe_fld (pv 0) rfl)) (pe_one (pe_chain op_le op_le pe_int (pe_ix ix_tup (pv 1) pe_int (fun _ _ => rfl)) (pe_fld (pv 0) rfl)))))), ?_⟩
    refine ⟨_, rfl, q, _, _, _, rfl, rfl, hq, rfl, _, _, rfl, rfl, _, rfl, ?_⟩
    rw [if_pos (decide_eq_true h1)]
    refine ⟨_, rfl, a, _, dx, _, _, rfl, ha, T.cTable, T.nTableWidth, rfl, _, _, rfl, rfl, _, rfl, ?_⟩
    rw [if_pos (decide_eq_true h2)]
    refine ⟨_, rfl, q, _, _, _, rfl, rfl, hq, rfl, _, _, rfl, rfl, _, rfl, ?_⟩
    rw [if_pos (decide_eq_true h3)]
    refine ⟨_, rfl, a, _, dx, _, _, rfl, ha, T.cTable, T.nTableHeight, rfl, _, _, rfl, rfl, ?_⟩
    have e : decide (y ≤ v) = true := decide_eq_true h4
    rw [← e] at k
    exact k
def spCheckPoint (K : PySem.W.Frag) : Sp := fun vs H Q _ => ∃ (a : Addr) (u v x y : Int) (p : V), vs = [.ref a, p] ∧ TabA K H a u v ∧ TupC K H p (x, y) ∧ 0 ≤ x ∧ x ≤ u ∧ 0 ≤ y ∧ y ≤ v ∧ Q .non H
abbrev NTableCheckPoint : List Str := ["self", "point"]
theorem scTableCheckPoint : FnScope NTableCheckPoint ["self", "point"] (defScope sTableCheckPoint) := ⟨rfl, rfl, rfl, by decide +kernel, rfl, by decide +kernel, by decide +kernel⟩
theorem D_TableCheckPoint (T : Txt K mg) : Met P w K mg base 2 "Table" "check_point" ["self", "point"] (spCheckPoint K) := by
  refine mk_met T.fTableCheckPoint scTableCheckPoint (fun _ _ _ _ _ _ us hl => match us, hl with | [_, _], _ => rfl) ?_ ?_
  · rintro vs H Q E ⟨a, _, _, _, _, _, rfl, _⟩
    rfl
  · rintro cdv A outer s H vs Q E hr ⟨a, u, v, x, y, p, rfl, ⟨dx, pk, ha⟩, hp, h1, h2, h3, h4, k⟩
    have nd := scTableCheckPoint.nd
    refine ⟨_, (pss_one (ps_if (pt_not (pt_val (pe_met (D_TableIsPoint T) (pv 0) T.cTable T.mTableIsPoint hr (pa_cons (pv 1) pa_nil)))) (pss_one ps_never) pss_nil)), ?_⟩
    refine ⟨_, rfl, a, dx, _, rfl, ha, rfl, _, rfl, a, u, v, x, y, p, rfl, ⟨dx, pk, ha⟩, hp, h1, h2, h3, h4, true, rfl, ?_⟩
    refine iteF ?_
    exact k
end
end Cu

/-! ## CuTable -/
set_option maxRecDepth 100000
set_option maxHeartbeats 4000000
namespace Cu
open PySem PySem.Spec PyProof.Rows L2 Evl
theorem tf0 {u v : V} : putF ("height" : Str) v [("width", u)] = ([("width", u), ("height", v)] : List (Str × V)) := rfl
theorem tf1 {u v z : V} : putF ("pockets" : Str) z [("width", u), ("height", v)] = ([("width", u), ("height", v), ("pockets", z)] : List (Str × V)) := rfl
section
variable {P : Program} {w : World} {K : PySem.W.Frag} {mg : Str → Option Value} {base : Heap}
def spTableInit (K : PySem.W.Frag) : Sp := fun vs H Q _ => ∃ (x dx pk : Addr) (u v : Int), vs = [.ref x, .int u, .int v, .ref pk] ∧ H x = some (.ins (He.ga K "Table") dx []) ∧ (∀ H', SqT K H' pk []) ∧ 1 ≤ u ∧ u ≤ 10 ^ 30 ∧ 1 ≤ v ∧ v ≤ 10 ^ 30 ∧
  ∀ H', Out x H H' → TabA K H' x u v → Q .non H'
abbrev NTableInit : List Str := ["self", "width", "height", "pockets", "number", "point"]
theorem scTableInit : FnScope NTableInit ["self", "width", "height", "pockets"] (defScope sTableInit) := ⟨rfl, rfl, rfl, by decide +kernel, rfl, by decide +kernel, by decide +kernel⟩
theorem D_TableInit (T : Txt K mg) : ∃ fd, FnOk P w K mg base CX0 2 (He.ma K (He.ga K "Table") "__init__") fd ["self", "width", "height", "pockets"] (spTableInit K) ∧ ∃ ds, Vals [V.ref (pkAt K)] ds ∧ Binds K fd ["self", "width", "height", "pockets"] ds := by
  obtain ⟨fd, F⟩ := T.fTableInit
  refine ⟨fd, F.ok scTableInit ?_ fun cdv A outer s H vs Q E hr h => ?_, F.binds1 3 0 (by simp) rfl fun D kV doc pm an cdv ct us its h1 h2 => ?_⟩
  · rintro vs H Q E ⟨x, dx, pk, u, v, rfl, _⟩
    rfl
  · have hb : ∃ t, PSs (cxOf CX0 P w K mg base NTableInit "Table.__init__" (defScope sTableInit) (He.ma K (He.ga K "Table") "__init__") cdv A outer s H E).nox (defBody sTableInit) t ∧ t { nx := fun _ H' => Q .non H', rt := Q } (start NTableInit vs) H := by
      obtain ⟨x, dx, pk, u, v, rfl, hx, hpk, hu1, hu2, hv1, hv2, k⟩ := h
      have nd := scTableInit.nd
      refine ⟨_, (pss_cons (ps_expr (pe_def (D_Require T) hr (pa_cons (pe_and (pe_chain op_le op_le pe_int (pv 1) (pe_gi T.iMOST)) (pe_one (pe_chain op_le op_le pe_int (pv 2) (pe_gi T.iMOST)))) pa_nil)))
      (pss_cons (ps_fld (pv 0) (pv 1) rfl)
      (pss_cons (ps_fld (pv 0) (pv 2) rfl)
      (pss_cons (ps_expr (pe_def (D_Require T) hr (pa_cons (pe_and (pe_cmpR op_le (pe_callB call_len_seq (by rfl) T.zLen PySem.boot_len (pa_cons (pv 3) pa_nil)) (pe_gi T.iMOSTPOCKETS) (nomark _)) (pe_one (pe_callB (cr_all rfl) (by rfl) T.zAll (by decide +kernel) (pa_cons (pe_lc (own := [("point", 5)]) rfl nd (pi_tup (pv 3)) (blkOk_by (N := NTableInit) (sc := defScope sTableInit) (by decide +kernel)) (fun _ _ _ _ _ => (pg_name (i := 5) nd rfl (Or.inl rfl))) (fun _ _ _ _ _ => pts_nil) (fun _ _ _ _ _ => pe_nvD)) pa_nil)))) pa_nil)))
      (pss_cons (ps_fld (pv 0) (pe_callTy call_tuple_of (by rfl) T.zTuple (by decide +kernel) (pa_cons (pe_lc (own := [("point", 5)]) rfl nd (pi_tup (pv 3)) (blkOk_by (N := NTableInit) (sc := defScope sTableInit) (by decide +kernel)) (fun _ _ _ _ _ => (pg_name (i := 5) nd rfl (Or.inl rfl))) (fun _ _ _ _ _ => pts_nil) (fun _ _ _ _ _ => pe_nvD)) pa_nil)) rfl)
      (pss_one (ps_for PassesOwn.never rfl (pi_enum0 (by rfl) T.zEnumerate (pa_cons (pe_fld (pv 0) rfl) pa_nil)) (pg_tup rfl (pgs_cons (pg_name (i := 4) nd rfl (Or.inl rfl)) (pgs_cons (pg_name (i := 5) nd rfl (Or.inl rfl)) pgs_nil))) pss_nv))))))), ?_⟩
      refine ⟨_, rfl, _, _, rfl, rfl, _, rfl, ?_⟩
      rw [if_pos (decide_eq_true hu1)]
      refine ⟨_, _, rfl, rfl, _, rfl, ?_⟩
      rw [if_pos (decide_eq_true hu2)]
      refine ⟨_, rfl, _, _, rfl, rfl, _, rfl, ?_⟩
      rw [if_pos (decide_eq_true hv1)]
      refine ⟨_, _, rfl, rfl, ?_⟩
      refine ⟨by show [V.bl (decide (v ≤ 10 ^ 30))] = _; rw [decide_eq_true hv2], ?_⟩
      refine ⟨_, rfl, _, rfl, x, _, dx, _, rfl, hx, T.cTable, T.nTableWidth, lt0, ?_⟩
      have hx2 : upd H x (.ins (He.ga K "Table") dx [("width", .int u)]) x = some (.ins (He.ga K "Table") dx [("width", .int u)]) := upd_same
      refine ⟨_, rfl, _, rfl, x, _, dx, _, rfl, hx2, T.cTable, T.nTableHeight, lt1, ?_⟩
      rw [pf0, tf0]
      have hx3 : upd (upd H x (.ins (He.ga K "Table") dx [("width", .int u)])) x (.ins (He.ga K "Table") dx [("width", .int u), ("height", .int v)]) x = some (.ins (He.ga K "Table") dx [("width", .int u), ("height", .int v)]) := upd_same
      have o3 : Out x H (upd (upd H x (.ins (He.ga K "Table") dx [("width", .int u)])) x (.ins (He.ga K "Table") dx [("width", .int u), ("height", .int v)])) := Out.upd.trans Out.upd
      generalize upd (upd H x (.ins (He.ga K "Table") dx [("width", .int u)])) x (.ins (He.ga K "Table") dx [("width", .int u), ("height", .int v)]) = H3 at *
      refine ⟨_, rfl, pk, _, rfl, .inr (hpk _), _, _, rfl, rfl, _, rfl, ?_⟩
      refine iteT ?_
      refine ⟨_, rfl, pk, rfl, ⟨_, hpk _⟩, fun D hD => lc_all (walk_tup (xs := ([] : List V))) (n := 0) (by decide) hD (fun _ y _ => True) (fun H' e => hpk _) (fun _ _ _ _ _ h => h) (fun _ _ _ _ _ _ h => h) ?_ ?_⟩
      · intro i y Ha Hb ac hi
        exact absurd hi (Nat.not_lt_zero _)
      rintro ys H4 e4 hys ly _
      have ye : ys = [] := List.eq_nil_of_length_eq_zero ly
      subst ye
      refine ⟨D, [], rfl, SqL.of hys, ?_⟩
      refine ⟨rfl, ?_⟩
      refine ⟨_, rfl, pk, rfl, ⟨_, hpk _⟩, fun D2 hD2 => lc_all (walk_tup (xs := ([] : List V))) (n := 0) (by decide) hD2 (fun _ y _ => True) (fun H' e => hpk _) (fun _ _ _ _ _ h => h) (fun _ _ _ _ _ _ h => h) ?_ ?_⟩
      · intro i y Ha Hb ac hi
        exact absurd hi (Nat.not_lt_zero _)
      rintro ys H5 e5 hys5 ly5 _
      have ye : ys = [] := List.eq_nil_of_length_eq_zero ly5
      subst ye
      refine ⟨D2, [], rfl, .inl ⟨SqL.of hys5, fun l nl => ?_⟩⟩
      have hl : upd H5 l (.tup []) l = some (.tup []) := upd_same
      have e6 := (e4.trans e5).trans (Ex.new (o := .tup []) nl)
      generalize upd H5 l (.tup []) = H6 at *
      refine ⟨_, rfl, x, _, dx, _, rfl, e6 _ _ hx3, T.cTable, T.nTablePockets, lt2, ?_⟩
      rw [tf1]
      have hx7 : upd H6 x (.ins (He.ga K "Table") dx [("width", .int u), ("height", .int v), ("pockets", .ref l)]) x = _ := upd_same
      have hl7 := upd_ins (o' := .ins (He.ga K "Table") dx [("width", .int u), ("height", .int v), ("pockets", .ref l)]) (e6 _ _ hx3) hl (fun z => by cases z)
      have o7 : Out x H (upd H6 x (.ins (He.ga K "Table") dx [("width", .int u), ("height", .int v), ("pockets", .ref l)])) := (o3.trans (Out.of e6)).trans Out.upd
      generalize upd H6 x (.ins (He.ga K "Table") dx [("width", .int u), ("height", .int v), ("pockets", .ref l)]) = H7 at *
      refine ⟨_, rfl, x, _, dx, _, _, rfl, hx7, T.cTable, T.nTablePockets, rfl, l, rfl, SqT.of hl7, for_none (SqT.of hl7) ?_⟩
      exact k H7 o7 ⟨dx, l, hx7⟩
    obtain ⟨t, h1, h2⟩ := hb
    exact ⟨t, h1.nox, h2⟩
  · match us, h1, its, h2 with
    | [_, _, _], _, [_], _ => exact ⟨_, rfl, rfl⟩
end
end Cu

/-! ## CuBalls -/
set_option maxRecDepth 100000
set_option maxHeartbeats 4000000
namespace Cu
open PySem PySem.Spec PyProof.Rows L2 Evl
theorem pe_mkTable {X : Cx} {n : Nat} {e : Expr} {es : List Expr} {t : TA} {p pos : Pos} (T : Txt X.K X.mg) (hr : Room n X.A) (ha : PA X (e :: es) t) (hk : 3 ≤ n := by decide) (hg : Gl X "Table" := by rfl) (he : starEach (e :: es) X.env = (false, eval e X.env) :: starEach es X.env := by rfl) (hpl : (backTo pos (starEach es X.env)).any (·.1) = false := by rfl) :
    PE X (.Call (.Name "Table" p) (e :: es) [] pos) (tMake (He.ga X.K "Table") (spTableInit X.K) [V.ref (pkAt X.K)] E0 t) := by
  obtain ⟨fd, F, ds, hd, b⟩ := (D_TableInit T : ∃ fd, FnOk X.prog X.w X.K X.mg X.base CX0 2 (He.ma X.K (He.ga X.K "Table") "__init__") fd ["self", "width", "height", "pockets"] (spTableInit X.K) ∧ ∃ ds, Vals [V.ref (pkAt X.K)] ds ∧ Binds X.K fd ["self", "width", "height", "pockets"] ds)
  exact pe_make T.kTable F (hr.mono hk) hg T.gTable b hd pass0 ha (by decide) he hpl
theorem mk_table {K : PySem.W.Frag} {mg : Str → Option Value} (T : Txt K mg) {H : Hp} {u v : Int} {Q : VK} {E : XK} (hu1 : 1 ≤ u) (hu2 : u ≤ 10 ^ 30) (hv1 : 1 ≤ v) (hv2 : v ≤ 10 ^ 30) (k : ∀ x H', Ex H H' → TabA K H' x u v → Q (.ref x) H') :
    ∀ x dx, H x = none → H dx = none → dx ≠ x → spTableInit K (.ref x :: ([.int u, .int v] ++ [.ref (pkAt K)])) (upd (upd H dx (.own x)) x (.ins (He.ga K "Table") dx [])) (fun v H2 => v = .non ∧ Q (.ref x) H2) E := by
  intro x dx nx nd ne
  have n2 : upd H dx (.own x) x = none := (upd_ne ne.symm).trans nx
  have ex : Ex H (upd (upd H dx (.own x)) x (.ins (He.ga K "Table") dx [])) := (Ex.new nd).trans (Ex.new n2)
  exact ⟨x, dx, pkAt K, u, v, rfl, upd_same, T.pkT, hu1, hu2, hv1, hv2, fun H' o t => ⟨rfl, k x H' (o H nx ex) t⟩⟩
def rInC : R2 := fun x y H Q => ∃ (c : Nat) (z : Str), x = .str ⟨#[c]⟩ ∧ y = .str z ∧ Q (.bl (decide (c ∈ z.cps.toList))) H
theorem op_inC {X : Cx} : OpR X (compareOp .In) rInC := op_in_sign
theorem atI0 {α : Type} {xs : List α} {c : α} (h : xs[0]? = some c) : atI xs 0 = some c := by
  cases xs with
  | nil => cases h
  | cons x xs =>
    unfold atI ixN
    rw [if_pos (by decide), if_pos (by rw [List.length_cons]; omega)]
    exact h
theorem step_in {u : Int} (h : Step u) : inV (.int u) [.int (-1), .int 0, .int 1] = true := by
  rcases h with h | h | h <;> subst h <;> decide +kernel
/-! ### a ball -/
structure Bl where
  z : Str
  x : Int
  y : Int
  u : Int
  v : Int
  m : Int
abbrev Bl.vs (b : Bl) : List V := [.str b.z, .int b.x, .int b.y, .int b.u, .int b.v, .int b.m]
def BallA (K : PySem.W.Frag) (H : Hp) (x : V) (b : Bl) : Prop := ∃ a, x = .ref a ∧ SqT K H a b.vs
theorem BallA.up {K : PySem.W.Frag} {H H' : Hp} {x : V} {b : Bl} (e : Ex H H') (h : BallA K H x b) : BallA K H' x b := let ⟨a, q, t⟩ := h; ⟨a, q, ex_t e t⟩
def NameOk (z : Str) : Prop := 1 ≤ z.length ∧ z.length ≤ 12 ∧ (∃ c, z.cps.toList[0]? = some c ∧ ¬ c ∈ ("0123456789" : Str).cps.toList) ∧ ∀ c ∈ z.cps.toList, c ∈ ("abcdefghijklmnopqrstuvwxyz0123456789" : Str).cps.toList
theorem name_red : NameOk "red" := ⟨by decide +kernel, by decide +kernel, ⟨114, by decide +kernel, by decide +kernel⟩, by decide +kernel⟩
theorem name_blue : NameOk "blue" := ⟨by decide +kernel, by decide +kernel, ⟨98, by decide +kernel, by decide +kernel⟩, by decide +kernel⟩
theorem name_white : NameOk "white" := ⟨by decide +kernel, by decide +kernel, ⟨119, by decide +kernel, by decide +kernel⟩, by decide +kernel⟩
structure BOk (w h : Int) (b : Bl) : Prop where
  z : NameOk b.z
  x0 : 0 ≤ b.x
  x1 : b.x ≤ w
  y0 : 0 ≤ b.y
  y1 : b.y ≤ h
  u : Step b.u
  v : Step b.v
  uv : ¬ (b.u = 0 ∧ b.v = 0)
  m0 : 0 ≤ b.m
  m1 : b.m ≤ 10 ^ 30
section
variable {P : Program} {w : World} {K : PySem.W.Frag} {mg : Str → Option Value} {base : Heap}
def spIsName : Sp := fun vs H Q _ => ∃ z : Str, vs = [.str z] ∧ NameOk z ∧ ∀ H', Ex H H' → Q (.bl true) H'
abbrev NIsName : List Str := ["text", "char"]
theorem scIsName : FnScope NIsName ["text"] (defScope sIsName) := ⟨rfl, rfl, rfl, by decide +kernel, rfl, by decide +kernel, by decide +kernel⟩
theorem D_IsName (T : Txt K mg) : Def P w K mg base 1 "is_name" ["text"] spIsName := by
  refine mk_def T.fIsName T.gIsName scIsName (fun _ _ _ _ _ _ us hl => match us, hl with | [_], _ => rfl) ?_ ?_
  · rintro vs H Q E ⟨z, rfl, _⟩
    rfl
  · rintro cdv A outer s H vs Q E hr ⟨z, rfl, ⟨h1, h2, ⟨c, hc, hd⟩, ha⟩, k⟩
    have nd := scIsName.nd
    refine ⟨_, (pss_cons (ps_if (PW.pt (pw_or (pt_not (pt_chain op_le op_le pe_int (pe_callB call_len_str (by rfl) T.zLen PySem.boot_len (pa_cons (pv 0) pa_nil)) (pe_gi T.iMOSTNAMECHARS))) (pw_or1 (pt_cmpR op_in_sign (pe_ix ix_str (pv 0) pe_int (fun _ _ => rfl)) pe_str (by rfl))))) (pss_one (ps_ret pe_bl)) pss_nil)
      (pss_one (ps_ret (pe_callB (cr_all rfl) (by rfl) T.zAll (by decide +kernel) (pa_cons (pe_lc (own := [("char", 1)]) rfl nd (pi_str (pv 0)) (blkOk_by (N := NIsName) (sc := defScope sIsName) (by decide +kernel)) (fun _ _ _ _ _ => (pg_name (i := 1) nd rfl (Or.inl rfl))) (fun _ _ _ _ _ => pts_nil) (fun _ _ _ _ _ => (pe_cmpR op_inC (pv 1) (pe_gs T.sCHARS) (by rfl)))) pa_nil))))), ?_⟩
    have hz : z.length ≤ sizeLine := Nat.le_trans h2 (by decide)
    refine ⟨_, rfl, z, rfl, hz, _, _, rfl, rfl, _, rfl, ?_⟩
    rw [if_pos (decide_eq_true (by omega))]
    refine ⟨_, _, rfl, rfl, _, rfl, ?_⟩
    have e2 : decide ((z.length : Int) ≤ 12) = true := decide_eq_true (by omega)
    rw [e2]
    refine iteF ?_
    refine ⟨_, rfl, z, 0, c, rfl, rfl, hz, atI0 hc, c, _, rfl, rfl, _, rfl, ?_⟩
    rw [decide_eq_false hd]
    refine iteF ?_
    refine ⟨_, rfl, z, rfl, fun D hD => lc_all (walk_str (z := z)) (Nat.le_trans h2 (by decide)) hD (fun _ y _ => y = .bl true) (fun H' e => True.intro) (fun _ _ _ _ _ h => h) (fun _ _ _ _ _ _ h => h) ?_ ?_⟩
    · rintro i y H2 _ ac hi e hD2 ⟨rfl, d, hd, rfl⟩ R k2
      refine ⟨rfl, _, rfl, d, _, rfl, rfl, k2 _ _ (Ex.refl _) ?_⟩
      have hm : d ∈ z.cps.toList := by
        have := Array.mem_of_getElem? hd
        exact Array.mem_def.mp this
      rw [decide_eq_true (ha d hm)]
    · rintro ys H2 e hy hl gb
      have e8 := bl_of_get (h := fun _ => true) hl gb
      rw [e8] at hy
      have eall : ((List.range z.cps.size).map fun _ => true).all id = true := by
        rw [List.all_eq_true]
        intro u hu
        obtain ⟨_, _, rfl⟩ := List.mem_map.mp hu
        rfl
      refine ⟨D, _, rfl, SqL.of hy, ?_⟩
      rw [eall]
      exact k _ e
def spIsBall (K : PySem.W.Frag) : Sp := fun vs H Q _ => ∃ (t : Addr) (x : V) (u v : Int) (b : Bl), vs = [.ref t, x] ∧ TabA K H t u v ∧ BallA K H x b ∧ BOk u v b ∧ ∀ H', Ex H H' → Q (.bl true) H'
abbrev NIsBall : List Str := ["table", "ball", "_", "x", "y", "dx", "dy", "minute"]
theorem scIsBall : FnScope NIsBall ["table", "ball"] (defScope sIsBall) := ⟨rfl, rfl, rfl, by decide +kernel, rfl, by decide +kernel, by decide +kernel⟩
theorem D_IsBall (T : Txt K mg) : Def P w K mg base 2 "is_ball" ["table", "ball"] (spIsBall K) := by
  refine mk_def T.fIsBall T.gIsBall scIsBall (fun _ _ _ _ _ _ us hl => match us, hl with | [_, _], _ => rfl) ?_ ?_
  · rintro vs H Q E ⟨t, x, u, v, b, rfl, _⟩
    rfl
  · rintro cdv A outer s H vs Q E hr ⟨t, _, u, v, b, rfl, ht, ⟨a, rfl, hb⟩, o, k⟩
    have nd := scIsBall.nd
    refine ⟨_, (pss_cons (ps_if (PW.pt (pw_or (pt_cmpR op_ne (pe_callB call_len_seq (by rfl) T.zLen PySem.boot_len (pa_cons (pv 1) pa_nil)) pe_int (nomark _)) (pw_or1 (pt_not (pt_val (pe_def (D_IsName T) hr (pa_cons (pe_ix ix_tup (pv 1) pe_int (fun _ _ => rfl)) pa_nil))))))) (pss_one (ps_ret pe_bl)) pss_nil)
      (pss_cons (ps_asg (pv 1) (pg_tup rfl (pgs_cons (pg_name (i := 2) nd rfl (Or.inl rfl)) (pgs_cons (pg_name (i := 3) nd rfl (Or.inl rfl)) (pgs_cons (pg_name (i := 4) nd rfl (Or.inl rfl)) (pgs_cons (pg_name (i := 5) nd rfl (Or.inl rfl)) (pgs_cons (pg_name (i := 6) nd rfl (Or.inl rfl)) (pgs_cons (pg_name (i := 7) nd rfl (Or.inl rfl)) pgs_nil))))))))
      (pss_cons (ps_if (PW.pt (pw_or (pt_not (pt_val (pe_met (D_TableIsPoint T) (pv 0) T.cTable T.mTableIsPoint hr (pa_cons (pe_tup (pa_cons (pv 3) (pa_cons (pv 4) pa_nil))) pa_nil)))) (pw_or1 (pt_not (pt_chain op_le op_le pe_int (pv 7) (pe_gi T.iMOST)))))) (pss_one (ps_ret pe_bl)) pss_nil)
      (pss_one (ps_ret (pe_and (pe_cmpR op_in_seq (pv 5) (pe_tup (pa_cons (pe_un un_neg pe_int) (pa_cons pe_int (pa_cons pe_int pa_nil)))) (by rfl)) (pe_and (pe_cmpR op_in_seq (pv 6) (pe_tup (pa_cons (pe_un un_neg pe_int) (pa_cons pe_int (pa_cons pe_int pa_nil)))) (by rfl)) (pe_one (pe_cmpR (op_neD hr.units) (pe_tup (pa_cons (pv 5) (pa_cons (pv 6) pa_nil))) (pe_tup (pa_cons pe_int (pa_cons pe_int pa_nil))) (nomark _)))))))))), ?_⟩
    refine ⟨_, rfl, a, _, rfl, .inr hb, rfl, _, rfl, ?_⟩
    refine iteF ?_
    refine ⟨_, rfl, a, _, _, _, rfl, rfl, hb, rfl, b.z, rfl, o.z, fun H1 e1 => ⟨true, rfl, ?_⟩⟩
    refine iteF ?_
    refine ⟨_, rfl, a, _, rfl, ex_t e1 hb, rfl, _, _, rfl, _, _, rfl, _, _, rfl, _, _, rfl, _, _, rfl, _, _, rfl, rfl, ?_⟩
    obtain ⟨dt, pk, ht⟩ := ht
    refine ⟨_, rfl, t, dt, _, rfl, e1 _ _ ht, rfl, _, rfl, _, rfl, le2, fun p np => ?_⟩
    have e2 := e1.trans (Ex.new (o := .tup [.int b.x, .int b.y]) np)
    have hp : upd H1 p (.tup [.int b.x, .int b.y]) p = some (.tup [.int b.x, .int b.y]) := upd_same
    generalize upd H1 p (.tup [.int b.x, .int b.y]) = H2 at *
    refine ⟨t, u, v, b.x, b.y, _, rfl, ⟨dt, pk, e2 _ _ ht⟩, ⟨p, rfl, SqT.of hp⟩, o.x0, o.x1, o.y0, o.y1, true, rfl, ?_⟩
    refine iteF ?_
    refine ⟨_, rfl, _, _, rfl, rfl, _, rfl, ?_⟩
    rw [if_pos (decide_eq_true o.m0)]
    refine ⟨_, _, rfl, rfl, _, rfl, ?_⟩
    rw [decide_eq_true o.m1]
    refine iteF ?_
    refine ⟨_, rfl, ?_⟩
    refine ⟨_, rfl, le3, fun p1 n1 => ?_⟩
    have e3 := e2.trans (Ex.new (o := .tup [.int (-1), .int 0, .int 1]) n1)
    have hp1 : upd H2 p1 (.tup [.int (-1), .int 0, .int 1]) p1 = some (.tup [.int (-1), .int 0, .int 1]) := upd_same
    refine ⟨p1, _, rfl, .inr (SqT.of hp1), rfl, rfl, ?_⟩
    generalize upd H2 p1 (.tup [.int (-1), .int 0, .int 1]) = H3 at *
    refine ⟨_, rfl, ?_⟩
    rw [show (if false = true then !inV (.int b.u) [.int (-1), .int 0, .int 1] else inV (.int b.u) [.int (-1), .int 0, .int 1]) = true from step_in o.u]
    refine iteT ?_
    refine ⟨_, rfl, ?_⟩
    refine ⟨_, rfl, le3, fun p2 n2 => ?_⟩
    have e4 := e3.trans (Ex.new (o := .tup [.int (-1), .int 0, .int 1]) n2)
    have hp2 : upd H3 p2 (.tup [.int (-1), .int 0, .int 1]) p2 = some (.tup [.int (-1), .int 0, .int 1]) := upd_same
    refine ⟨p2, _, rfl, .inr (SqT.of hp2), rfl, rfl, ?_⟩
    generalize upd H3 p2 (.tup [.int (-1), .int 0, .int 1]) = H4 at *
    refine ⟨_, rfl, ?_⟩
    rw [show (if false = true then !inV (.int b.v) [.int (-1), .int 0, .int 1] else inV (.int b.v) [.int (-1), .int 0, .int 1]) = true from step_in o.v]
    refine iteT ?_
    refine ⟨_, rfl, _, rfl, le2, fun p3 n3 => ?_⟩
    have e5 := e4.trans (Ex.new (o := .tup [.int b.u, .int b.v]) n3)
    have hp3 : upd H4 p3 (.tup [.int b.u, .int b.v]) p3 = some (.tup [.int b.u, .int b.v]) := upd_same
    generalize upd H4 p3 (.tup [.int b.u, .int b.v]) = H5 at *
    refine ⟨le2, fun p4 n4 => ?_⟩
    have e6 := e5.trans (Ex.new (o := .tup [.int 0, .int 0]) n4)
    have hp4 : upd H5 p4 (.tup [.int 0, .int 0]) p4 = some (.tup [.int 0, .int 0]) := upd_same
    have hp5 := (Ex.new (o := .tup [.int 0, .int 0]) n4) _ _ hp3
    generalize upd H5 p4 (.tup [.int 0, .int 0]) = H6 at *
    refine ⟨pd (b.u, b.v), pd (0, 0), dp_tup ⟨p3, rfl, SqT.of hp5⟩, dp_tup ⟨p4, rfl, SqT.of hp4⟩, pd_shaped _, pd_shaped _, ?_⟩
    have e7 : (!PyData.eqv (pd (b.u, b.v)) (pd (0, 0))) = true := by
      rw [pd_eqv, decide_eq_false (fun z => o.uv ⟨congrArg Prod.fst z, congrArg Prod.snd z⟩)]
      rfl
    rw [e7]
    exact k _ e6
def spCheckBall (K : PySem.W.Frag) : Sp := fun vs H Q _ => ∃ (t : Addr) (x : V) (u v : Int) (b : Bl), vs = [.ref t, x] ∧ TabA K H t u v ∧ BallA K H x b ∧ BOk u v b ∧ ∀ H', Ex H H' → Q .non H'
abbrev NCheckBall : List Str := ["table", "ball"]
theorem scCheckBall : FnScope NCheckBall ["table", "ball"] (defScope sCheckBall) := ⟨rfl, rfl, rfl, by decide +kernel, rfl, by decide +kernel, by decide +kernel⟩
theorem D_CheckBall (T : Txt K mg) : Def P w K mg base 3 "check_ball" ["table", "ball"] (spCheckBall K) := by
  refine mk_def T.fCheckBall T.gCheckBall scCheckBall (fun _ _ _ _ _ _ us hl => match us, hl with | [_, _], _ => rfl) ?_ ?_
  · rintro vs H Q E ⟨t, x, u, v, b, rfl, _⟩
    rfl
  · rintro cdv A outer s H vs Q E hr ⟨t, x, u, v, b, rfl, ht, hb, o, k⟩
    have nd := scCheckBall.nd
    refine ⟨_, (pss_one (ps_if (pt_not (pt_val (pe_def (D_IsBall T) hr (pa_cons (pv 0) (pa_cons (pv 1) pa_nil))))) (pss_one ps_never) pss_nil)), ?_⟩
    refine ⟨_, rfl, _, rfl, t, x, u, v, b, rfl, ht, hb, o, fun H1 e1 => ⟨true, rfl, ?_⟩⟩
    refine iteF ?_
    exact k H1 e1
/-! ### check_balls -/
def spCheckBalls (K : PySem.W.Frag) : Sp := fun vs H Q _ => ∃ (t p : Addr) (u v : Int) (bs : List V) (Bs : List Bl), vs = [.ref t, .ref p] ∧ TabA K H t u v ∧ H p = some (.lst bs) ∧ Paired (BallA K H) bs Bs ∧ (∀ b ∈ Bs, BOk u v b) ∧ (Bs.map Bl.z).Nodup ∧ Bs.length ≤ 12 ∧ ∀ H', Ex H H' → Q .non H'
abbrev NCheckBalls : List Str := ["table", "balls", "number", "ball", "other"]
theorem scCheckBalls : FnScope NCheckBalls ["table", "balls"] (defScope sCheckBalls) := ⟨rfl, rfl, rfl, by decide +kernel, rfl, by decide +kernel, by decide +kernel⟩
theorem D_CheckBalls (T : Txt K mg) : Def P w K mg base 4 "check_balls" ["table", "balls"] (spCheckBalls K) := by
  refine mk_def T.fCheckBalls T.gCheckBalls scCheckBalls (fun _ _ _ _ _ _ us hl => match us, hl with | [_, _], _ => rfl) ?_ ?_
  · rintro vs H Q E ⟨t, x, u, v, bs, Bs, rfl, _⟩
    rfl
  · rintro cdv A outer s H vs Q E hr ⟨t, p, u, v, bs, Bs, rfl, ht, hp, pb, ok, nu, ln, k⟩
    have nd := scCheckBalls.nd
    refine ⟨_, (pss_cons (ps_for PassesOwn.never rfl (pi_enum (by rfl) T.zEnumerate (pa_cons (pv 1) pa_nil)) (pg_tup rfl (pgs_cons (pg_name (i := 2) nd rfl (Or.inl rfl)) (pgs_cons (pg_name (i := 3) nd rfl (Or.inl rfl)) pgs_nil))) (pss_cons (ps_expr (pe_def (D_CheckBall T) hr (pa_cons (pv 0) (pa_cons (pv 3) pa_nil))))
      (pss_one (ps_if (pt_cmpR op_in_seq (pe_ix ix_tup (pv 3) pe_int (fun _ _ => rfl)) (pe_lc (own := [("other", 4)]) rfl nd (pi_list (pe_slice sl_list (pv 1) po_none (po_some (pv 2)))) (blkOk_by (N := NCheckBalls) (sc := defScope sCheckBalls) (by decide +kernel)) (fun _ _ _ _ _ => (pg_name (i := 4) nd rfl (Or.inl rfl))) (fun _ _ _ _ _ => pts_nil) (fun _ _ _ _ _ => (pe_ix (ix_tup : IxR _ (rIxT K)) (pv 4) pe_int (fun _ _ => rfl)))) (by rfl)) (pss_one ps_never) pss_nil))))
      (pss_one (ps_if (pt_cmpR op_gt (pe_callB call_len_seq (by rfl) T.zLen PySem.boot_len (pa_cons (pv 1) pa_nil)) (pe_gi T.iMOSTBALLS) (nomark _)) (pss_one ps_never) pss_nil))), ?_⟩
    have lb := pb.length
    refine ⟨_, rfl, p, bs, rfl, SqL.of hp, for_it (walk_enumI (xs := bs)) (fun i σ' H' => ∃ (v2 v3 : Option V), σ' = [some (.ref t), some (.ref p), v2, v3, none] ∧ Ex H H')
        ⟨_, _, rfl, Ex.refl _⟩ (fun i σ' H' _ ⟨_, _, _, e⟩ => SqL.of (e _ _ hp)) ?_ ?_⟩
    · rintro i y σ' H' H'' hi ⟨v2, v3, rfl, e4⟩ ⟨q, z, rfl, nt, rfl, hz5⟩
      obtain ⟨b, hb, a, rfl, ha⟩ := paired_get pb hz5
      have bm : b ∈ Bs := List.mem_of_getElem? hb
      refine ⟨q, _, rfl, SqT.of upd_same, rfl, _, _, rfl, _, _, rfl, rfl, ?_⟩
      have e5 := e4.trans (Ex.new (o := .tup [.int (i : Nat), .ref a]) nt)
      generalize upd H' q (.tup [.int (i : Nat), .ref a]) = H5 at *
      refine ⟨_, rfl, _, rfl, t, _, u, v, b, rfl, ht.up e5, ⟨a, rfl, ex_t e5 ha⟩, ok b bm, fun H6 e6 => ?_⟩
      have e7 := e5.trans e6
      refine ⟨_, rfl, a, _, _, _, rfl, rfl, ex_t e7 ha, rfl, ?_⟩
      have ec : cutV bs none (some (i : Int)) = bs.take i := cut_to (k := i)
      refine ⟨_, rfl, _, rfl, _, rfl, p, bs, rfl, SqL.of (e7 _ _ hp), fun l nl => ?_⟩
      rw [ec]
      have hl : upd H6 l (.lst (bs.take i)) l = some (.lst (bs.take i)) := upd_same
      have e8 := e7.trans (Ex.new (o := .lst (bs.take i)) nl)
      generalize upd H6 l (.lst (bs.take i)) = H7 at *
      have lt := List.length_take (i := i) (l := bs)
      refine ⟨l, rfl, ⟨_, SqL.of hl⟩, fun D hD => lc_all (walk_list (xs := bs.take i)) (by omega) hD (fun j y _ => ∀ c, (Bs.take i)[j]? = some c → y = .str c.z) (fun H'' e => SqL.of (e _ _ hl)) (fun _ _ _ _ _ h => h) (fun _ _ _ _ _ _ h => h) ?_ ?_⟩
      · rintro j y H8 _ ac hj e9 hD8 ⟨rfl, hy⟩ R k2
        have hy2 := hy
        rw [List.getElem?_take_of_lt (by omega)] at hy
        obtain ⟨c, hc, d, rfl, hd⟩ := paired_get pb hy
        refine ⟨rfl, _, rfl, d, _, _, _, rfl, rfl, ex_t (e8.trans e9) hd, rfl, k2 _ _ (Ex.refl _) fun c' hc' => ?_⟩
        rw [List.getElem?_take_of_lt (by omega), hc] at hc'
        cases hc'
        rfl
      · rintro ys H8 e9 hys ly gy
        have ey : ys = (Bs.take i).map fun c => V.str c.z := map_of_get (by rw [ly, List.length_take, List.length_take, lb]) gy
        rw [ey] at hys
        refine ⟨D, _, rfl, .inl (SqL.of hys), rfl, ?_, ?_⟩
        · rw [List.all_map, List.all_eq_true]
          intro c hc
          rfl
        have hno : inV (.str b.z) ((Bs.take i).map fun c => V.str c.z) = false := by
          rw [← Bool.not_eq_true]
          intro h
          unfold inV at h
          rw [List.any_map, List.any_eq_true] at h
          obtain ⟨c, hc, he⟩ := h
          have e10 : c.z = b.z := eq_of_beq he
          obtain ⟨j, hj⟩ := List.mem_iff_getElem?.mp hc
          have hjl : j < i := by
            obtain ⟨h1, _⟩ := List.getElem?_eq_some_iff.mp hj
            rw [List.length_take] at h1
            omega
          rw [List.getElem?_take_of_lt hjl] at hj
          have g1 : (Bs.map Bl.z)[j]? = some c.z := by rw [List.getElem?_map, hj]; rfl
          have g2 : (Bs.map Bl.z)[i]? = some b.z := by rw [List.getElem?_map, hb]; rfl
          obtain ⟨l1, q1⟩ := List.getElem?_eq_some_iff.mp g1
          obtain ⟨l2, q2⟩ := List.getElem?_eq_some_iff.mp g2
          have := (List.nodup_iff_pairwise_ne.mp nu)
          exact List.pairwise_iff_getElem.mp this j i l1 l2 hjl (by rw [q1, q2, e10])
        refine ⟨false, ?_, ?_⟩
        · show V.bl (inV _ _) = _
          rw [hno]
        refine iteF ?_
        exact ⟨_, _, rfl, e8.trans e9⟩
    · rintro σ' H' ⟨v2, v3, rfl, e4⟩
      refine ⟨_, rfl, p, bs, rfl, .inl (SqL.of (e4 _ _ hp)), _, _, rfl, rfl, _, rfl, iteD (fun c => by omega) (fun c => ?_)⟩
      exact k _ e4
end
end Cu

/-! ## CuPart -/
set_option maxRecDepth 100000
set_option maxHeartbeats 4000000
namespace Cu
open PySem PySem.Spec PyProof.Rows L2 Evl
def LP (K : PySem.W.Frag) (H : Hp) (v : V) (L : List (Int × Int)) : Prop := ∃ p M, v = .ref p ∧ M.Perm L ∧ LstC K H p M
theorem LP.up {K : PySem.W.Frag} {H H' : Hp} {v : V} {L : List (Int × Int)} (e : Ex H H') (h : LP K H v L) : LP K H' v L := let ⟨p, M, q, r, t⟩ := h; ⟨p, M, q, r, t.up e⟩
theorem LstC.upd {K : PySem.W.Frag} {H : Hp} {D p : Addr} {L : List (Int × Int)} {ac : List V} {o : HO} (hD : H D = some (.lst ac)) (ne : p ≠ D) (h : LstC K H p L) : LstC K (L2.upd H D o) p L := let ⟨vs, q, t⟩ := h; ⟨vs, by rw [upd_ne ne]; exact q, Paired.mapP t fun _ _ z => z.upd hD⟩
def mX (w : Int) (a b : Bl) : List (Int × Int) := meetF w (a.x - a.u * a.m) a.u (b.x - b.u * b.m) b.u
def mY (h : Int) (a b : Bl) : List (Int × Int) := meetF h (a.y - a.v * a.m) a.v (b.y - b.v * b.m) b.v
theorem um_ok {u m : Int} (hu : Step u) (h0 : 0 ≤ m) (h1 : m ≤ 10 ^ 30) : CMulW u m := by
  have h2 := hu.le
  have h3 := big_ge
  have h4 : (10 : Int) ^ 30 ≤ 10 ^ 200 := by decide +kernel
  have h5 : (1 : Int) ≤ 10 ^ 30 := by decide +kernel
  exact big_mul (by omega) (by omega) (by omega) (by omega)
theorem upd_ins' {H : Hp} {D a : Addr} {xs : List V} {ac : List V} {o : HO} (hD : H D = some (.lst ac)) (h : H a = some (.tup xs)) : L2.upd H D o a = some (.tup xs) := by
  rw [upd_ne (ne_of h hD (fun z => by cases z))]
  exact h
section
variable {P : Program} {w : World} {K : PySem.W.Frag} {mg : Str → Option Value} {base : Heap}
def spPart (K : PySem.W.Frag) : Sp := fun vs H Q _ => ∃ (t : Addr) (x y : V) (u v : Int) (a b : Bl), vs = [.ref t, x, y] ∧ TabA K H t u v ∧ 1 ≤ u ∧ 1 ≤ v ∧ BallA K H x a ∧ BallA K H y b ∧ BOk u v a ∧ BOk u v b ∧
  ∀ p f g H', Ex H H' → SqT K H' p [f, g] → LP K H' f (mX u a b) → LP K H' g (mY v a b) → Q (.ref p) H'
abbrev NPartClasses : List Str := ["table", "one", "other", "found", "place", "size", "first", "second"]
theorem scPartClasses : FnScope NPartClasses ["table", "one", "other"] (defScope sPartClasses) := ⟨rfl, rfl, rfl, by decide +kernel, rfl, by decide +kernel, by decide +kernel⟩
theorem D_PartClasses (T : Txt K mg) : Def P w K mg base 3 "part_classes" ["table", "one", "other"] (spPart K) := by
  refine mk_def T.fPartClasses T.gPartClasses scPartClasses (fun _ _ _ _ _ _ us hl => match us, hl with | [_, _, _], _ => rfl) ?_ ?_
  · rintro vs H Q E ⟨t, x, y, u, v, a, b, rfl, _⟩
    rfl
  · rintro cdv A outer s0 H vs Q E hr ⟨t, _, _, u, v, a, b, rfl, ⟨dt, pk, ht⟩, hu, hv, ⟨pa, rfl, ha⟩, ⟨pb, rfl, hb⟩, oa, ob, k⟩
    have nd := scPartClasses.nd
    refine ⟨_, (pss_cons (ps_set (i := 3) nd rfl (Or.inl rfl) (pe_lst pa_nil))
      (pss_cons (ps_for PassesOwn.never rfl (pi_tup (pe_tup (pa_cons (pe_tup (pa_cons pe_int (pa_cons (pe_fld (pv 0) rfl) pa_nil))) (pa_cons (pe_tup (pa_cons pe_int (pa_cons (pe_fld (pv 0) rfl) pa_nil))) pa_nil)))) (pg_tup rfl (pgs_cons (pg_name (i := 4) nd rfl (Or.inl rfl)) (pgs_cons (pg_name (i := 5) nd rfl (Or.inl rfl)) pgs_nil))) (pss_cons (ps_set (i := 6) nd rfl (Or.inl rfl) (pe_op op_sub (pe_ix ix_tup (pv 1) (pv 4) (fun _ _ => rfl)) (pe_op op_mulW (pe_ix ix_tup (pv 1) (pe_op op_add (pv 4) pe_int) (fun _ _ => rfl)) (pe_ix ix_tup (pv 1) pe_int (fun _ _ => rfl)))))
      (pss_cons (ps_set (i := 7) nd rfl (Or.inl rfl) (pe_op op_sub (pe_ix ix_tup (pv 2) (pv 4) (fun _ _ => rfl)) (pe_op op_mulW (pe_ix ix_tup (pv 2) (pe_op op_add (pv 4) pe_int) (fun _ _ => rfl)) (pe_ix ix_tup (pv 2) pe_int (fun _ _ => rfl)))))
      (pss_one (ps_expr (pe_bm PySem.F.plainAttrs_list PySem.F.slot_list_append PySem.F.type_list_append mt_append (pv 3) (pa_cons (pe_def (D_MeetingClasses T) hr (pa_cons (pv 5) (pa_cons (pv 6) (pa_cons (pe_ix ix_tup (pv 1) (pe_op op_add (pv 4) pe_int) (fun _ _ => rfl)) (pa_cons (pv 7) (pa_cons (pe_ix ix_tup (pv 2) (pe_op op_add (pv 4) pe_int) (fun _ _ => rfl)) pa_nil)))))) pa_nil)))))))
      (pss_one (ps_ret (pe_tup (pa_cons (pe_ix ix_list (pv 3) pe_int (fun _ _ => rfl)) (pa_cons (pe_ix ix_list (pv 3) pe_int (fun _ _ => rfl)) pa_nil))))))), ?_⟩
    refine ⟨le0, fun f nf => ?_⟩
    have hf : upd H f (.lst []) f = some (.lst []) := upd_same
    have e1 : Ex H (upd H f (.lst [])) := Ex.new nf
    generalize upd H f (.lst []) = H1 at *
    refine ⟨_, rfl, t, _, dt, _, _, rfl, e1 _ _ ht, T.cTable, T.nTableWidth, rfl, le2, fun t1 n1 => ?_⟩
    have h1 : upd H1 t1 (.tup [.int 1, .int u]) t1 = some (.tup [.int 1, .int u]) := upd_same
    have e2 : Ex H1 (upd H1 t1 (.tup [.int 1, .int u])) := Ex.new n1
    generalize upd H1 t1 (.tup [.int 1, .int u]) = H2 at *
    refine ⟨_, rfl, t, _, dt, _, _, rfl, (e1.trans e2) _ _ ht, T.cTable, T.nTableHeight, rfl, le2, fun t2 n2 => ?_⟩
    have h2 : upd H2 t2 (.tup [.int 2, .int v]) t2 = some (.tup [.int 2, .int v]) := upd_same
    have e3 : Ex H2 (upd H2 t2 (.tup [.int 2, .int v])) := Ex.new n2
    generalize upd H2 t2 (.tup [.int 2, .int v]) = H3 at *
    refine ⟨le2, fun l nl => ?_⟩
    have h3 : upd H3 l (.tup [.ref t1, .ref t2]) l = some (.tup [.ref t1, .ref t2]) := upd_same
    have e4 : Ex H3 (upd H3 l (.tup [.ref t1, .ref t2])) := Ex.new nl
    generalize upd H3 l (.tup [.ref t1, .ref t2]) = H4 at *
    have e14 := (e2.trans e3).trans e4
    have h14 := (e3.trans e4) _ _ h1
    have h24 := e4 _ _ h2
    refine ⟨l, rfl, ⟨_, SqT.of h3⟩, for_tup (K := K) (a := l) (xs := [.ref t1, .ref t2]) (fun i σ' H' => ∃ (fs : List V) (v4 v5 v6 v7 : Option V), σ' = [some (.ref t), some (.ref pa), some (.ref pb), some (.ref f), v4, v5, v6, v7] ∧ Ex H H' ∧ H' t1 = some (.tup [.int 1, .int u]) ∧ H' t2 = some (.tup [.int 2, .int v]) ∧ H' l = some (.tup [.ref t1, .ref t2]) ∧ H' f = some (.lst fs) ∧ (∀ q, V.ref q ∈ fs → q ≠ f) ∧ Paired (LP K H') fs ([mX u a b, mY v a b].take i))
      ⟨[], _, _, _, _, rfl, e1.trans e14, h14, h24, h3, e14 _ _ hf, (fun q h => nomatch h), Paired.nil⟩ (fun i σ' H' _ ⟨_, _, _, _, _, _, _, _, _, q, _⟩ => SqT.of q) ?_ ?_⟩
    · rintro i x σ' H' hi ⟨fs, v4, v5, v6, v7, rfl, ex, g1, g2, g3, gf, gn, gp⟩
      have pack : ∃ (tt : Addr) (pl sz c1 d1 c2 d2 : Int) (L : List (Int × Int)), x = .ref tt ∧ H' tt = some (.tup [.int pl, .int sz]) ∧ 1 ≤ sz ∧ atI a.vs pl = some (.int c1) ∧ atI a.vs (pl + 2) = some (.int d1) ∧ atI b.vs pl = some (.int c2) ∧ atI b.vs (pl + 2) = some (.int d2) ∧ Step d1 ∧ Step d2 ∧
          L = meetF sz (c1 - d1 * a.m) d1 (c2 - d2 * b.m) d2 ∧ [mX u a b, mY v a b][i]? = some L ∧ i < 2 := by
        match i, hi with
        | 0, hi =>
          cases hi
          exact ⟨t1, 1, u, a.x, a.u, b.x, b.u, _, rfl, g1, hu, rfl, rfl, rfl, rfl, oa.u, ob.u, rfl, rfl, by decide⟩
        | 1, hi =>
          cases hi
          exact ⟨t2, 2, v, a.y, a.v, b.y, b.v, _, rfl, g2, hv, rfl, rfl, rfl, rfl, oa.v, ob.v, rfl, rfl, by decide⟩
      obtain ⟨tt, pl, sz, c1, d1, c2, d2, L, rfl, gt, hsz, q1, q2, q3, q4, s1, s2, eL, gL, hi2⟩ := pack
      have ha' := ex_t ex ha
      have hb' := ex_t ex hb
      refine ⟨tt, _, rfl, SqT.of gt, rfl, _, _, rfl, _, _, rfl, rfl, ?_⟩
      refine ⟨_, rfl, _, rfl, pa, _, _, _, rfl, rfl, ha', q1, _, rfl, _, rfl, _, _, rfl, rfl, pa, _, _, _, rfl, rfl, ha', q2, _, rfl, pa, _, _, _, rfl, rfl, ha', rfl, d1, a.m, rfl, rfl, um_ok s1 oa.m0 oa.m1, _, _, rfl, rfl, ?_⟩
      refine ⟨_, rfl, _, rfl, pb, _, _, _, rfl, rfl, hb', q3, _, rfl, _, rfl, _, _, rfl, rfl, pb, _, _, _, rfl, rfl, hb', q4, _, rfl, pb, _, _, _, rfl, rfl, hb', rfl, d2, b.m, rfl, rfl, um_ok s2 ob.m0 ob.m1, _, _, rfl, rfl, ?_⟩
      refine ⟨_, rfl, .inl ⟨rfl, _, SqL.of gf⟩, ?_⟩
      refine ⟨_, rfl, _, rfl, _, rfl, _, rfl, _, _, rfl, rfl, pa, _, _, _, rfl, rfl, ha', q2, _, rfl, _, rfl, _, rfl, _, _, rfl, rfl, pb, _, _, _, rfl, rfl, hb', q4, ?_⟩
      refine ⟨sz, c1 - d1 * a.m, d1, c2 - d2 * b.m, d2, rfl, hsz, s1, s2, fun p H5 M n5 e5 pM hM => ?_⟩
      have lp := gp.length
      refine ⟨f, _, _, rfl, rfl, e5 _ _ gf, sz_lt (by rw [List.length_take] at lp; omega), ?_⟩
      have nf5 : p ≠ f := fun z => by rw [z, gf] at n5; cases n5
      have hf5 := e5 _ _ gf
      refine ⟨_, _, _, _, _, rfl, Ex.mut (ex.trans e5) nf, upd_ins' hf5 (e5 _ _ g1), upd_ins' hf5 (e5 _ _ g2), upd_ins' hf5 (e5 _ _ g3), upd_same, fun q hq => ?_, ?_⟩
      · rcases List.mem_append.mp hq with h | h
        · exact gn q h
        · cases List.mem_singleton.mp h
          exact nf5
      rw [List.take_add_one, gL]
      refine paired_app ?_ (.cons ⟨p, M, rfl, by rw [eL] at *; exact pM, hM.upd hf5 nf5⟩ .nil)
      refine paired_of_get gp.length fun i z L' hz hL => ?_
      obtain ⟨L2, hL2, p2, M2, rfl, r1, r2⟩ := paired_get gp hz
      rw [hL] at hL2
      cases hL2
      exact ⟨p2, M2, rfl, r1, (r2.up e5).upd hf5 (gn p2 (List.mem_of_getElem? hz))⟩
    · rintro σ' H' ⟨fs, v4, v5, v6, v7, rfl, ex, g1, g2, g3, gf, gn, gp⟩
      have gp2 : Paired (LP K H') fs [mX u a b, mY v a b] := gp
      obtain ⟨f1, f2, rfl, r1, r2⟩ : ∃ f1 f2, fs = [f1, f2] ∧ LP K H' f1 (mX u a b) ∧ LP K H' f2 (mY v a b) := by
        cases gp2 with
        | cons r1 t1 =>
          cases t1 with
          | cons r2 t2 =>
            cases t2
            exact ⟨_, _, rfl, r1, r2⟩
      refine ⟨_, rfl, f, _, _, _, rfl, rfl, SqL.of gf, rfl, _, rfl, f, _, _, _, rfl, rfl, SqL.of gf, rfl, le2, fun p np => ?_⟩
      have e5 : Ex H' (upd H' p (.tup [f1, f2])) := Ex.new np
      exact k p f1 f2 _ (ex.trans e5) (SqT.of upd_same) (r1.up e5) (r2.up e5)
end
end Cu

/-! ## CuAt -/
set_option maxRecDepth 100000
set_option maxHeartbeats 4000000
namespace Cu
open PySem PySem.Spec PyProof.Rows L2 Evl
structure ClsOk (R : List (Int × Int)) (B : Int) (n : Nat) (S : Int → Prop) : Prop where
  wf : AllWf R
  dj : R.Pairwise Disj
  md : ModLe R B
  ln : R.length ≤ n
  hit : ∀ t, Hit R t ↔ S t
theorem ClsOk.perm {R L : List (Int × Int)} {B : Int} {n : Nat} {S : Int → Prop} (h : ClsOk L B n S) (p : R.Perm L) : ClsOk R B n S :=
  ⟨wf_perm p h.wf, disj_perm p h.dj, mod_perm p h.md, by rw [p.length_eq]; exact h.ln, fun t => (hit_perm p t).trans (h.hit t)⟩
theorem ClsOk.congr {R : List (Int × Int)} {B : Int} {n : Nat} {S S' : Int → Prop} (h : ClsOk R B n S) (e : ∀ t, S t ↔ S' t) : ClsOk R B n S' := ⟨h.wf, h.dj, h.md, h.ln, fun t => (h.hit t).trans (e t)⟩
theorem ClsOk.big {R : List (Int × Int)} {B C : Int} {n m : Nat} {S : Int → Prop} (h : ClsOk R B n S) (hb : B ≤ C) (hn : n ≤ m) : ClsOk R C m S := ⟨h.wf, h.dj, fun c hc => Int.le_trans (h.md c hc) hb, Nat.le_trans h.ln hn, h.hit⟩
theorem ClsOk.cross {L M : List (Int × Int)} {B C : Int} {n m : Nat} {S S' : Int → Prop} (h : ClsOk L B n S) (g : ClsOk M C m S') : ClsOk (crossF L M) (B * C) (n * m) (fun t => S t ∧ S' t) :=
  ⟨cross_wf h.wf g.wf, cross_disj h.wf g.wf h.dj g.dj, cross_mod h.wf g.wf h.md g.md, Nat.le_trans cross_len (Nat.mul_le_mul h.ln g.ln), fun t => (cross_hit h.wf g.wf t).trans (and_congr (h.hit t) (g.hit t))⟩
theorem ClsOk.meet {s a u b v : Int} (hs : 1 ≤ s) (hu : Step u) (hv : Step v) : ClsOk (meetF s a u b v) (2 * s) 2 (fun t => fold s (a + u * t) = fold s (b + v * t)) :=
  ⟨meet_wf hs, meet_disj hs hu hv, meet_mod hs, meet_len, meet_hit hs hu hv⟩
/-- where a ball is at a minute -/
def pos (w h : Int) (b : Bl) (t : Int) : Int × Int := (fold w (b.x + b.u * (t - b.m)), fold h (b.y + b.v * (t - b.m)))
structure Sz (w h : Int) : Prop where
  w0 : 1 ≤ w
  w1 : w ≤ 10 ^ 30
  h0 : 1 ≤ h
  h1 : h ≤ 10 ^ 30
theorem shift {x u m t : Int} : x - u * m + u * t = x + u * (t - m) := by rw [Int.mul_sub]; omega
theorem mX_ok {w h : Int} {a b : Bl} (z : Sz w h) (oa : BOk w h a) (ob : BOk w h b) : ClsOk (mX w a b) (2 * 10 ^ 30) 2 (fun t => (pos w h a t).1 = (pos w h b t).1) :=
  ((ClsOk.meet z.w0 oa.u ob.u).big (by have := z.w1; omega) (Nat.le_refl _)).congr fun t => by rw [shift, shift]; exact Iff.rfl
theorem mY_ok {w h : Int} {a b : Bl} (z : Sz w h) (oa : BOk w h a) (ob : BOk w h b) : ClsOk (mY h a b) (2 * 10 ^ 30) 2 (fun t => (pos w h a t).2 = (pos w h b t).2) :=
  ((ClsOk.meet z.h0 oa.v ob.v).big (by have := z.h1; omega) (Nat.le_refl _)).congr fun t => by rw [shift, shift]; exact Iff.rfl
theorem big4 : (2 * 10 ^ 30 : Int) * (2 * 10 ^ 30) ≤ 4 * 10 ^ 60 := by decide +kernel
theorem big2le : (2 * 10 ^ 30 : Int) ≤ Big := by
  have h1 := big_ge
  have h2 : (2 * 10 ^ 30 : Int) ≤ 10 ^ 200 := by decide +kernel
  exact Int.le_trans h2 h1
theorem big4le : (4 * 10 ^ 60 : Int) ≤ Big := by
  have h1 := big_ge
  have h2 : (4 * 10 ^ 60 : Int) ≤ 10 ^ 200 := by decide +kernel
  exact Int.le_trans h2 h1
theorem big16le : (4 * 10 ^ 60 : Int) * (4 * 10 ^ 60) ≤ Big := by
  have h1 := big_ge
  have h2 : (4 * 10 ^ 60 : Int) * (4 * 10 ^ 60) ≤ 10 ^ 200 := by decide +kernel
  exact Int.le_trans h2 h1
theorem prod_eq {a b : Int × Int} : a = b ↔ a.1 = b.1 ∧ a.2 = b.2 := by
  obtain ⟨x, y⟩ := a
  obtain ⟨z, w⟩ := b
  simp
def pX (w : Int) (b : Bl) (g : Int) : List (Int × Int) := meetF w (b.x - b.u * b.m) b.u g 0
def pY (h : Int) (b : Bl) (g : Int) : List (Int × Int) := meetF h (b.y - b.v * b.m) b.v g 0
theorem step0 : Step 0 := .inr (.inl rfl)
theorem pX_ok {w h g : Int} {b : Bl} (z : Sz w h) (ob : BOk w h b) (g0 : 0 ≤ g) (g1 : g ≤ w) : ClsOk (pX w b g) (2 * 10 ^ 30) 2 (fun t => (pos w h b t).1 = g) :=
  ((ClsOk.meet z.w0 ob.u step0).big (by have := z.w1; omega) (Nat.le_refl _)).congr fun t => by
    rw [shift, Int.zero_mul, Int.add_zero, fold_self g0 g1 z.w0]
    exact Iff.rfl
theorem pY_ok {w h g : Int} {b : Bl} (z : Sz w h) (ob : BOk w h b) (g0 : 0 ≤ g) (g1 : g ≤ h) : ClsOk (pY h b g) (2 * 10 ^ 30) 2 (fun t => (pos w h b t).2 = g) :=
  ((ClsOk.meet z.h0 ob.v step0).big (by have := z.h1; omega) (Nat.le_refl _)).congr fun t => by
    rw [shift, Int.zero_mul, Int.add_zero, fold_self g0 g1 z.h0]
    exact Iff.rfl
section
variable {P : Program} {w : World} {K : PySem.W.Frag} {mg : Str → Option Value} {base : Heap}
def spMeetings (K : PySem.W.Frag) : Sp := fun vs H Q _ => ∃ (t : Addr) (x y : V) (u v : Int) (a b : Bl), vs = [.ref t, x, y] ∧ TabA K H t u v ∧ Sz u v ∧ BallA K H x a ∧ BallA K H y b ∧ BOk u v a ∧ BOk u v b ∧
  ∀ r H' R, Ex H H' → ClsOk R (4 * 10 ^ 60) 4 (fun t => pos u v a t = pos u v b t) → TimesA K H' r (mx a.m b.m) none R → Q (.ref r) H'
abbrev NMeetings : List Str := ["table", "one", "other", "first", "second"]
theorem scMeetings : FnScope NMeetings ["table", "one", "other"] (defScope sMeetings) := ⟨rfl, rfl, rfl, by decide +kernel, rfl, by decide +kernel, by decide +kernel⟩
theorem D_Meetings (T : Txt K mg) : Def P w K mg base 4 "meetings" ["table", "one", "other"] (spMeetings K) := by
  refine mk_def T.fMeetings T.gMeetings scMeetings (fun _ _ _ _ _ _ us hl => match us, hl with | [_, _, _], _ => rfl) ?_ ?_
  · rintro vs H Q E ⟨t, x, y, u, v, a, b, rfl, _⟩
    rfl
  · rintro cdv A outer s0 H vs Q E hr ⟨t, _, _, u, v, a, b, rfl, ht, z, ⟨pa, rfl, ha⟩, ⟨pb, rfl, hb⟩, oa, ob, k⟩
    have nd := scMeetings.nd
    refine ⟨_, (pss_cons (ps_expr (pe_def (D_CheckBall T) hr (pa_cons (pv 0) (pa_cons (pv 1) pa_nil))))
      (pss_cons (ps_expr (pe_def (D_CheckBall T) hr (pa_cons (pv 0) (pa_cons (pv 2) pa_nil))))
      (pss_cons (ps_asg (pe_def (D_PartClasses T) hr (pa_cons (pv 0) (pa_cons (pv 1) (pa_cons (pv 2) pa_nil)))) (pg_tup rfl (pgs_cons (pg_name (i := 3) nd rfl (Or.inl rfl)) (pgs_cons (pg_name (i := 4) nd rfl (Or.inl rfl)) pgs_nil))))
      (pss_one (ps_ret (pe_mkTimes T hr (pa_cons (pe_callB (call_max2 rfl) (by rfl) T.zMax (by decide +kernel) (pa_cons (pe_ix ix_tup (pv 1) pe_int (fun _ _ => rfl)) (pa_cons (pe_ix ix_tup (pv 2) pe_int (fun _ _ => rfl)) pa_nil))) (pa_cons pe_non (pa_cons (pe_def (D_Crossed T) hr (pa_cons (pv 3) (pa_cons (pv 4) pa_nil))) pa_nil))))))))), ?_⟩
    refine ⟨_, rfl, _, rfl, t, _, u, v, a, rfl, ht, ⟨pa, rfl, ha⟩, oa, fun H1 e1 => ?_⟩
    refine ⟨_, rfl, _, rfl, t, _, u, v, b, rfl, ht.up e1, ⟨pb, rfl, ex_t e1 hb⟩, ob, fun H2 e2 => ?_⟩
    have e12 := e1.trans e2
    refine ⟨_, rfl, _, rfl, _, rfl, t, _, _, u, v, a, b, rfl, ht.up e12, z.w0, z.h0, ⟨pa, rfl, ex_t e12 ha⟩, ⟨pb, rfl, ex_t e12 hb⟩, oa, ob, ?_⟩
    rintro p _ _ H3 e3 hp ⟨f, M1, rfl, q1, l1⟩ ⟨g, M2, rfl, q2, l2⟩
    have e13 := e12.trans e3
    have c1 := (mX_ok z oa ob).perm q1
    have c2 := (mY_ok z oa ob).perm q2
    refine ⟨p, _, rfl, hp, rfl, _, _, rfl, _, _, rfl, rfl, ?_⟩
    refine ⟨_, rfl, pa, _, _, _, rfl, rfl, ex_t e13 ha, rfl, _, rfl, pb, _, _, _, rfl, rfl, ex_t e13 hb, rfl, _, _, rfl, _, rfl, _, rfl, ?_⟩
    refine ⟨f, g, M1, M2, rfl, l1, l2, c1.wf, c2.wf, (c1.big big2le (Nat.le_refl _)).md, (c2.big big2le (Nat.le_refl _)).md, Nat.le_trans c1.ln (by decide), Nat.le_trans c2.ln (by decide), fun q H4 R e4 pR hq => ?_⟩
    have c3 := ((c1.cross c2).perm pR).big big4 (Nat.le_refl 4)
    have m1 := oa.m0
    have m2 := ob.m0
    exact mk_times (en := none) hq c3.wf c3.dj (Nat.le_trans c3.ln (by decide)) (by show 0 ≤ mx a.m b.m; unfold mx; split <;> omega) (fun e he => nomatch he) fun x H' R' ex pR' ht => k x H' R' ((e13.trans e4).trans ex) ((c3.perm pR').congr fun t => prod_eq.symm) ht.toA
def spAtPoint (K : PySem.W.Frag) : Sp := fun vs H Q _ => ∃ (t : Addr) (x p : V) (u v g h : Int) (b : Bl), vs = [.ref t, x, p] ∧ TabA K H t u v ∧ Sz u v ∧ BallA K H x b ∧ BOk u v b ∧ TupC K H p (g, h) ∧ 0 ≤ g ∧ g ≤ u ∧ 0 ≤ h ∧ h ≤ v ∧
  ∀ r H' R, Ex H H' → ClsOk R (4 * 10 ^ 60) 4 (fun t => pos u v b t = (g, h)) → TimesF K H H' r b.m none R → Q (.ref r) H'
abbrev NAtPoint : List Str := ["table", "ball", "point", "rows", "place", "size", "first"]
theorem scAtPoint : FnScope NAtPoint ["table", "ball", "point"] (defScope sAtPoint) := ⟨rfl, rfl, rfl, by decide +kernel, rfl, by decide +kernel, by decide +kernel⟩
theorem D_AtPoint (T : Txt K mg) : Def P w K mg base 4 "at_point" ["table", "ball", "point"] (spAtPoint K) := by
  refine mk_def T.fAtPoint T.gAtPoint scAtPoint (fun _ _ _ _ _ _ us hl => match us, hl with | [_, _, _], _ => rfl) ?_ ?_
  · rintro vs H Q E ⟨t, x, p, u, v, g, h, b, rfl, _⟩
    rfl
  · rintro cdv A outer s0 H0 vs Q E hr ⟨t, _, _, u, v, g, h, b, rfl, ⟨dt, pk, ht0⟩, z, ⟨pb, rfl, hb0⟩, ob, ⟨pp, rfl, hp0⟩, hg0, hg1, hh0, hh1, k⟩
    have nd := scAtPoint.nd
    refine ⟨_, (pss_cons (ps_expr (pe_def (D_CheckBall T) hr (pa_cons (pv 0) (pa_cons (pv 1) pa_nil))))
      (pss_cons (ps_expr (pe_met (D_TableCheckPoint T) (pv 0) T.cTable T.mTableCheckPoint hr (pa_cons (pv 2) pa_nil)))
      (pss_cons (ps_set (i := 3) nd rfl (Or.inl rfl) (pe_lst pa_nil))
      (pss_cons (ps_for PassesOwn.never rfl (pi_tup (pe_tup (pa_cons (pe_tup (pa_cons pe_int (pa_cons (pe_fld (pv 0) rfl) pa_nil))) (pa_cons (pe_tup (pa_cons pe_int (pa_cons (pe_fld (pv 0) rfl) pa_nil))) pa_nil)))) (pg_tup rfl (pgs_cons (pg_name (i := 4) nd rfl (Or.inl rfl)) (pgs_cons (pg_name (i := 5) nd rfl (Or.inl rfl)) pgs_nil))) (pss_cons (ps_set (i := 6) nd rfl (Or.inl rfl) (pe_op op_sub (pe_ix ix_tup (pv 1) (pv 4) (fun _ _ => rfl)) (pe_op op_mulW (pe_ix ix_tup (pv 1) (pe_op op_add (pv 4) pe_int) (fun _ _ => rfl)) (pe_ix ix_tup (pv 1) pe_int (fun _ _ => rfl)))))
      (pss_one (ps_expr (pe_bm PySem.F.plainAttrs_list PySem.F.slot_list_append PySem.F.type_list_append mt_append (pv 3) (pa_cons (pe_def (D_PointClasses T) hr (pa_cons (pv 5) (pa_cons (pv 6) (pa_cons (pe_ix ix_tup (pv 1) (pe_op op_add (pv 4) pe_int) (fun _ _ => rfl)) (pa_cons (pe_ix ix_tup (pv 2) (pe_op op_sub (pv 4) pe_int) (fun _ _ => rfl)) pa_nil))))) pa_nil))))))
      (pss_one (ps_ret (pe_mkTimes T hr (pa_cons (pe_ix ix_tup (pv 1) pe_int (fun _ _ => rfl)) (pa_cons pe_non (pa_cons (pe_def (D_Crossed T) hr (pa_cons (pe_ix ix_list (pv 3) pe_int (fun _ _ => rfl)) (pa_cons (pe_ix ix_list (pv 3) pe_int (fun _ _ => rfl)) pa_nil))) pa_nil)))))))))), ?_⟩
    refine ⟨_, rfl, _, rfl, t, _, u, v, b, rfl, ⟨dt, pk, ht0⟩, ⟨pb, rfl, hb0⟩, ob, fun H e0 => ?_⟩
    have ht := e0 _ _ ht0
    have hb := ex_t e0 hb0
    have hp := ex_t e0 hp0
    refine ⟨_, rfl, t, dt, _, rfl, ht, rfl, _, rfl, t, u, v, g, h, _, rfl, ⟨dt, pk, ht⟩, ⟨pp, rfl, hp⟩, hg0, hg1, hh0, hh1, ?_⟩
    refine ⟨le0, fun f nf => ?_⟩
    have hf : upd H f (.lst []) f = some (.lst []) := upd_same
    have e1 : Ex H (upd H f (.lst [])) := Ex.new nf
    generalize upd H f (.lst []) = H1 at *
    refine ⟨_, rfl, t, _, dt, _, _, rfl, e1 _ _ ht, T.cTable, T.nTableWidth, rfl, le2, fun t1 n1 => ?_⟩
    have h1 : upd H1 t1 (.tup [.int 1, .int u]) t1 = some (.tup [.int 1, .int u]) := upd_same
    have e2 : Ex H1 (upd H1 t1 (.tup [.int 1, .int u])) := Ex.new n1
    generalize upd H1 t1 (.tup [.int 1, .int u]) = H2 at *
    refine ⟨_, rfl, t, _, dt, _, _, rfl, (e1.trans e2) _ _ ht, T.cTable, T.nTableHeight, rfl, le2, fun t2 n2 => ?_⟩
    have h2 : upd H2 t2 (.tup [.int 2, .int v]) t2 = some (.tup [.int 2, .int v]) := upd_same
    have e3 : Ex H2 (upd H2 t2 (.tup [.int 2, .int v])) := Ex.new n2
    generalize upd H2 t2 (.tup [.int 2, .int v]) = H3 at *
    refine ⟨le2, fun l nl => ?_⟩
    have h3 : upd H3 l (.tup [.ref t1, .ref t2]) l = some (.tup [.ref t1, .ref t2]) := upd_same
    have e4 : Ex H3 (upd H3 l (.tup [.ref t1, .ref t2])) := Ex.new nl
    generalize upd H3 l (.tup [.ref t1, .ref t2]) = H4 at *
    have e14 := (e2.trans e3).trans e4
    have h14 := (e3.trans e4) _ _ h1
    have h24 := e4 _ _ h2
    refine ⟨l, rfl, ⟨_, SqT.of h3⟩, for_tup (K := K) (a := l) (xs := [.ref t1, .ref t2]) (fun i σ' H' => ∃ (fs : List V) (v4 v5 v6 : Option V), σ' = [some (.ref t), some (.ref pb), some (.ref pp), some (.ref f), v4, v5, v6] ∧ Ex H H' ∧ H' t1 = some (.tup [.int 1, .int u]) ∧ H' t2 = some (.tup [.int 2, .int v]) ∧ H' l = some (.tup [.ref t1, .ref t2]) ∧ H' f = some (.lst fs) ∧ (∀ q, V.ref q ∈ fs → q ≠ f) ∧ Paired (LP K H') fs ([pX u b g, pY v b h].take i))
      ⟨[], _, _, _, rfl, e1.trans e14, h14, h24, h3, e14 _ _ hf, (fun q h => nomatch h), Paired.nil⟩ (fun i σ' H' _ ⟨_, _, _, _, _, _, _, _, q, _⟩ => SqT.of q) ?_ ?_⟩
    · rintro i x σ' H' hi ⟨fs, v4, v5, v6, rfl, ex, g1, g2, g3, gf, gn, gp⟩
      have pack : ∃ (tt : Addr) (pl sz c2 d2 g' : Int) (L : List (Int × Int)), x = .ref tt ∧ H' tt = some (.tup [.int pl, .int sz]) ∧ 1 ≤ sz ∧ atI b.vs pl = some (.int c2) ∧ atI b.vs (pl + 2) = some (.int d2) ∧ atI [V.int g, V.int h] (pl - 1) = some (.int g') ∧ Step d2 ∧
          L = meetF sz (c2 - d2 * b.m) d2 g' 0 ∧ [pX u b g, pY v b h][i]? = some L ∧ i < 2 := by
        match i, hi with
        | 0, hi =>
          cases hi
          exact ⟨t1, 1, u, b.x, b.u, g, _, rfl, g1, z.w0, rfl, rfl, rfl, ob.u, rfl, rfl, by decide⟩
        | 1, hi =>
          cases hi
          exact ⟨t2, 2, v, b.y, b.v, h, _, rfl, g2, z.h0, rfl, rfl, rfl, ob.v, rfl, rfl, by decide⟩
      obtain ⟨tt, pl, sz, c2, d2, g', L, rfl, gt, hsz, q3, q4, q5, s2, eL, gL, hi2⟩ := pack
      have hb' := ex_t ex hb
      refine ⟨tt, _, rfl, SqT.of gt, rfl, _, _, rfl, _, _, rfl, rfl, ?_⟩
      refine ⟨_, rfl, _, rfl, pb, _, _, _, rfl, rfl, hb', q3, _, rfl, _, rfl, _, _, rfl, rfl, pb, _, _, _, rfl, rfl, hb', q4, _, rfl, pb, _, _, _, rfl, rfl, hb', rfl, d2, b.m, rfl, rfl, um_ok s2 ob.m0 ob.m1, _, _, rfl, rfl, ?_⟩
      refine ⟨_, rfl, .inl ⟨rfl, _, SqL.of gf⟩, ?_⟩
      refine ⟨_, rfl, _, rfl, _, rfl, _, rfl, _, _, rfl, rfl, pb, _, _, _, rfl, rfl, hb', q4, _, rfl, _, rfl, _, _, rfl, rfl, pp, _, _, _, rfl, rfl, ex_t ex hp, q5, ?_⟩
      refine ⟨sz, c2 - d2 * b.m, d2, g', rfl, hsz, s2, fun p H5 M n5 e5 pM hM => ?_⟩
      have lp := gp.length
      refine ⟨f, _, _, rfl, rfl, e5 _ _ gf, sz_lt (by rw [List.length_take] at lp; omega), ?_⟩
      have nf5 : p ≠ f := fun z => by rw [z, gf] at n5; cases n5
      have hf5 := e5 _ _ gf
      refine ⟨_, _, _, _, rfl, Ex.mut (ex.trans e5) nf, upd_ins' hf5 (e5 _ _ g1), upd_ins' hf5 (e5 _ _ g2), upd_ins' hf5 (e5 _ _ g3), upd_same, fun q hq => ?_, ?_⟩
      · rcases List.mem_append.mp hq with h | h
        · exact gn q h
        · cases List.mem_singleton.mp h
          exact nf5
      rw [List.take_add_one, gL]
      refine paired_app ?_ (.cons ⟨p, M, rfl, by rw [eL] at *; exact pM, hM.upd hf5 nf5⟩ .nil)
      refine paired_of_get gp.length fun i z L' hz hL => ?_
      obtain ⟨L2, hL2, p2, M2, rfl, r1, r2⟩ := paired_get gp hz
      rw [hL] at hL2
      cases hL2
      exact ⟨p2, M2, rfl, r1, (r2.up e5).upd hf5 (gn p2 (List.mem_of_getElem? hz))⟩
    · rintro σ' H' ⟨fs, v4, v5, v6, rfl, ex, g1, g2, g3, gf, gn, gp⟩
      have gp2 : Paired (LP K H') fs [pX u b g, pY v b h] := gp
      obtain ⟨f1, f2, M1, M2, rfl, q1, l1, q2, l2⟩ : ∃ f1 f2 M1 M2, fs = [.ref f1, .ref f2] ∧ M1.Perm (pX u b g) ∧ LstC K H' f1 M1 ∧ M2.Perm (pY v b h) ∧ LstC K H' f2 M2 := by
        cases gp2 with
        | cons r1 t1 =>
          cases t1 with
          | cons r2 t2 =>
            cases t2
            obtain ⟨a1, a2, rfl, a3, a4⟩ := r1
            obtain ⟨b1, b2, rfl, b3, b4⟩ := r2
            exact ⟨_, _, _, _, rfl, a3, a4, b3, b4⟩
      have c1 := (pX_ok z ob hg0 hg1).perm q1
      have c2 := (pY_ok z ob hh0 hh1).perm q2
      refine ⟨_, rfl, pb, _, _, _, rfl, rfl, ex_t ex hb, rfl, ?_⟩
      refine ⟨_, rfl, f, _, _, _, rfl, rfl, SqL.of gf, rfl, _, rfl, f, _, _, _, rfl, rfl, SqL.of gf, rfl, ?_⟩
      refine ⟨f1, f2, M1, M2, rfl, l1, l2, c1.wf, c2.wf, (c1.big big2le (Nat.le_refl _)).md, (c2.big big2le (Nat.le_refl _)).md, Nat.le_trans c1.ln (by decide), Nat.le_trans c2.ln (by decide), fun q H4 R e4 pR hq => ?_⟩
      have c3 := ((c1.cross c2).perm pR).big big4 (Nat.le_refl 4)
      exact mk_times (en := none) hq c3.wf c3.dj (Nat.le_trans c3.ln (by decide)) ob.m0 (fun e he => nomatch he) fun x H' R' ex' pR' ht => k x H' R' (((e0.trans ex).trans e4).trans ex') ((c3.perm pR').congr fun t => (prod_eq (b := (g, h))).symm) (ht.back ((e0.trans ex).trans e4))
end
end Cu

/-! ## CuAll -/
set_option maxRecDepth 100000
set_option maxHeartbeats 4000000
namespace Cu
open PySem PySem.Spec PyProof.Rows L2 Evl
theorem mx_pos {a b : Int} (ha : 0 ≤ a) (hb : 0 ≤ b) : 0 ≤ mx a b := by
  unfold mx
  split <;> omega
section
variable {P : Program} {w : World} {K : PySem.W.Frag} {mg : Str → Option Value} {base : Heap}
def spAllMeet (K : PySem.W.Frag) : Sp := fun vs H Q _ => ∃ (t p : Addr) (x y z : V) (u v : Int) (a b c : Bl), vs = [.ref t, .ref p] ∧ TabA K H t u v ∧ Sz u v ∧ H p = some (.lst [x, y, z]) ∧ BallA K H x a ∧ BallA K H y b ∧ BallA K H z c ∧ BOk u v a ∧ BOk u v b ∧ BOk u v c ∧
  ∀ r H' R, Ex H H' → ClsOk R Big 16 (fun t => pos u v a t = pos u v b t ∧ pos u v a t = pos u v c t) → TimesA K H' r (mx (mx a.m b.m) (mx a.m c.m)) none R → Q (.ref r) H'
abbrev NAllMeet : List Str := ["table", "balls", "ball", "found"]
theorem scAllMeet : FnScope NAllMeet ["table", "balls"] (defScope sAllMeet) := ⟨rfl, rfl, rfl, by decide +kernel, rfl, by decide +kernel, by decide +kernel⟩
theorem D_AllMeet (T : Txt K mg) : Def P w K mg base 5 "all_meet" ["table", "balls"] (spAllMeet K) := by
  refine mk_def T.fAllMeet T.gAllMeet scAllMeet (fun _ _ _ _ _ _ us hl => match us, hl with | [_, _], _ => rfl) ?_ ?_
  · rintro vs H Q E ⟨t, p, x, y, z, u, v, a, b, c, rfl, _⟩
    rfl
  · rintro cdv A outer s0 H vs Q E hr ⟨t, p, x, y, z, u, v, a, b, c, rfl, ht, sz, hp, ha, hb, hc, oa, ob, oc, k⟩
    have nd := scAllMeet.nd
    refine ⟨_, (pss_cons (ps_for PassesOwn.never rfl (pi_list (pv 1)) (pg_name (i := 2) nd rfl (Or.inl rfl)) (pss_one (ps_expr (pe_def (D_CheckBall T) hr (pa_cons (pv 0) (pa_cons (pv 2) pa_nil))))))
      (pss_cons (ps_if (pt_not (pt_chain op_le op_le pe_int (pe_callB call_len_seq (by rfl) T.zLen PySem.boot_len (pa_cons (pv 1) pa_nil)) pe_int)) (pss_one ps_never) pss_nil)
      (pss_cons (ps_set (i := 3) nd rfl (Or.inl rfl) (pe_def (D_Meetings T) hr (pa_cons (pv 0) (pa_cons (pe_ix ix_list (pv 1) pe_int (fun _ _ => rfl)) (pa_cons (pe_ix ix_list (pv 1) pe_int (fun _ _ => rfl)) pa_nil)))))
      (pss_cons (ps_for PassesOwn.never rfl (pi_list (pe_slice sl_list (pv 1) (po_some pe_int) po_none)) (pg_name (i := 2) nd rfl (Or.inl rfl)) (pss_one (ps_set (i := 3) nd rfl (Or.inl rfl) (pe_def (D_Both T) hr (pa_cons (pv 3) (pa_cons (pe_def (D_Meetings T) hr (pa_cons (pv 0) (pa_cons (pe_ix ix_list (pv 1) pe_int (fun _ _ => rfl)) (pa_cons (pv 2) pa_nil)))) pa_nil))))))
      (pss_one (ps_ret (pv 3))))))), ?_⟩
    have m1 := oa.m0
    have m2 := ob.m0
    have m3 := oc.m0
    refine ⟨_, rfl, p, rfl, ⟨_, SqL.of hp⟩, for_list (K := K) (a := p) (xs := [x, y, z]) (fun i σ' H' => ∃ (v2 : Option V), σ' = [some (.ref t), some (.ref p), v2, none] ∧ Ex H H')
      ⟨_, rfl, Ex.refl _⟩ (fun i σ' H' _ ⟨_, _, e⟩ => SqL.of (e _ _ hp)) ?_ ?_⟩
    · rintro i q σ' H' hi ⟨v2, rfl, ex⟩
      have pack : ∃ d : Bl, BallA K H q d ∧ BOk u v d := by
        match i, hi with
        | 0, hi =>
          cases hi
          exact ⟨a, ha, oa⟩
        | 1, hi =>
          cases hi
          exact ⟨b, hb, ob⟩
        | 2, hi =>
          cases hi
          exact ⟨c, hc, oc⟩
      obtain ⟨d, hd, od⟩ := pack
      refine ⟨_, rfl, _, rfl, t, q, u, v, d, rfl, ht.up ex, hd.up ex, od, fun H2 e2 => ?_⟩
      exact ⟨_, rfl, ex.trans e2⟩
    · rintro σ' H1 ⟨v2, rfl, e1⟩
      refine ⟨_, rfl, p, _, rfl, .inl (SqL.of (e1 _ _ hp)), _, _, rfl, rfl, _, rfl, ?_⟩
      refine iteT ?_
      refine ⟨_, _, rfl, rfl, _, rfl, ?_⟩
      refine iteF ?_
      refine ⟨_, rfl, _, rfl, p, _, _, _, rfl, rfl, SqL.of (e1 _ _ hp), rfl, _, rfl, p, _, _, _, rfl, rfl, SqL.of (e1 _ _ hp), rfl, ?_⟩
      refine ⟨t, x, y, u, v, a, b, rfl, ht.up e1, sz, ha.up e1, hb.up e1, oa, ob, fun r1 H2 R1 e2 c1 h1 => ?_⟩
      have e12 := e1.trans e2
      refine ⟨_, rfl, _, rfl, p, _, rfl, SqL.of (e12 _ _ hp), fun l nl => ?_⟩
      have hl : upd H2 l (.lst (cutV [x, y, z] (some 2) none)) l = some (.lst (cutV [x, y, z] (some 2) none)) := upd_same
      have ec : cutV [x, y, z] (some 2) none = [z] := cut_from (k := 2)
      rw [ec] at hl ⊢
      have e3 : Ex H2 (upd H2 l (.lst [z])) := Ex.new nl
      generalize upd H2 l (.lst [z]) = H3 at *
      have e13 := e12.trans e3
      refine ⟨l, rfl, ⟨_, SqL.of hl⟩, for_list (K := K) (a := l) (xs := [z]) (fun i σ' H' => ∃ (v2 : Option V) (r : Addr), σ' = [some (.ref t), some (.ref p), v2, some (.ref r)] ∧ Ex H3 H' ∧ (i = 0 → r = r1) ∧ (i = 1 → ∃ R, ClsOk R Big 16 (fun t => pos u v a t = pos u v b t ∧ pos u v a t = pos u v c t) ∧ TimesA K H' r (mx (mx a.m b.m) (mx a.m c.m)) none R))
        ⟨_, _, rfl, Ex.refl _, fun _ => rfl, fun h => nomatch h⟩ (fun i σ' H' _ ⟨_, _, _, e, _⟩ => SqL.of (e _ _ hl)) ?_ ?_⟩
      · rintro i q σ' H' hi ⟨v2, r, rfl, ex, h0, _⟩
        have i0 : i = 0 ∧ q = z := by
          match i, hi with
          | 0, hi =>
            cases hi
            exact ⟨rfl, rfl⟩
        obtain ⟨rfl, rfl⟩ := i0
        rw [h0 rfl] at *
        have e4 := e13.trans ex
        refine ⟨_, rfl, _, rfl, _, rfl, p, _, _, _, rfl, rfl, SqL.of (e4 _ _ hp), rfl, _, rfl, ?_⟩
        refine ⟨t, x, q, u, v, a, c, rfl, ht.up e4, sz, ha.up e4, hc.up e4, oa, oc, fun r2 H5 R2 e5 c2 h2 => ?_⟩
        refine ⟨r1, r2, _, _, none, none, R1, R2, rfl, (h1.up (e3.trans ex)).up e5, h2, c1.wf, c2.wf, (c1.big big4le (Nat.le_refl _)).md, (c2.big big4le (Nat.le_refl _)).md, Nat.le_trans c1.ln (by decide), Nat.le_trans c2.ln (by decide), Nat.le_trans (Nat.mul_le_mul c1.ln c2.ln) (by decide), c1.dj, c2.dj,
          mx_pos m1 m2, mx_pos m1 m3, (fun e he => nomatch he), fun r3 H6 R3 e6 pR h3 => ?_⟩
        exact ⟨_, _, rfl, (ex.trans e5).trans e6, (fun h => nomatch h), fun _ => ⟨R3, ((c1.cross c2).perm pR).big big16le (Nat.le_refl 16), h3⟩⟩
      · rintro σ' H' ⟨v2, r, rfl, ex, _, h1⟩
        obtain ⟨R, cR, hR⟩ := h1 rfl
        exact ⟨_, rfl, k r H' R (e13.trans ex) cR hR⟩
def spFirst (K : PySem.W.Frag) : Sp := fun vs H Q _ => ∃ (t : Addr) (x y : V) (u v m : Int) (a b : Bl), vs = [.ref t, x, y, .int m] ∧ TabA K H t u v ∧ Sz u v ∧ BallA K H x a ∧ BallA K H y b ∧ BOk u v a ∧ BOk u v b ∧
  ∀ o H', Ex H H' → IsNext (fun t => mx a.m b.m ≤ t ∧ pos u v a t = pos u v b t) m o → Q (enV o) H'
abbrev NFirstMeeting : List Str := ["table", "one", "other", "minute"]
theorem scFirstMeeting : FnScope NFirstMeeting ["table", "one", "other", "minute"] (defScope sFirstMeeting) := ⟨rfl, rfl, rfl, by decide +kernel, rfl, by decide +kernel, by decide +kernel⟩
theorem D_FirstMeeting (T : Txt K mg) : ∃ fd, FnOk P w K mg base CX0 5 (He.ga K "first_meeting") fd ["table", "one", "other", "minute"] (spFirst K) ∧ ∃ mv : List Value, KBn K fd ["table", "one", "other", "minute"] 3 ["minute"] (fun us ws => us ++ ws) (fun vs zs => vs ++ zs) := by
  obtain ⟨fd, F⟩ := T.fFirstMeeting
  refine ⟨fd, F.ok scFirstMeeting ?_ fun cdv A outer s H vs Q E hr h => ?_, F.kbinds0 3 ["minute"] [] (fun vs mz zs => vs ++ zs) (by simp) (by simp) (fun h1 _ h3 => h1.append h3) ?_⟩
  · rintro vs H Q E ⟨t, x, y, u, v, m, a, b, rfl, _⟩
    rfl
  · have hb : ∃ t, PSs (cxOf CX0 P w K mg base NFirstMeeting "first_meeting" (defScope sFirstMeeting) (He.ga K "first_meeting") cdv A outer s H E).nox (defBody sFirstMeeting) t ∧ t { nx := fun _ H' => Q .non H', rt := Q } (start NFirstMeeting vs) H := by
      obtain ⟨t, x, y, u, v, m, a, b, rfl, ht, sz, ha, hb, oa, ob, k⟩ := h
      have nd := scFirstMeeting.nd
      refine ⟨_, (pss_one (ps_ret (pe_met (D_TimesNextFrom T) (pe_def (D_Meetings T) hr (pa_cons (pv 0) (pa_cons (pv 1) (pa_cons (pv 2) pa_nil)))) T.cTimes T.mTimesNextFrom hr (pa_cons (pv 3) pa_nil)))), ?_⟩
      refine ⟨_, rfl, _, rfl, _, rfl, t, x, y, u, v, a, b, rfl, ht, sz, ha, hb, oa, ob, fun r1 H2 R1 e2 c1 h1 => ?_⟩
      obtain ⟨dx, cp, h2, h3⟩ := h1
      refine ⟨r1, dx, _, rfl, h2, rfl, _, rfl, r1, m, _, none, R1, rfl, ⟨dx, cp, h2, h3⟩, c1.wf, Nat.le_trans c1.ln (by decide), fun o H' e io => k o H' (e2.trans e) (io.congr fun t _ => ?_)⟩
      constructor
      · rintro ⟨q1, _, q2⟩
        exact ⟨q1, (c1.hit t).mp q2⟩
      · rintro ⟨q1, q2⟩
        exact ⟨q1, (fun e he => nomatch he), (c1.hit t).mpr q2⟩
    obtain ⟨t, h1, h2⟩ := hb
    exact ⟨t, h1.nox, h2⟩
  · intro D doc pm an cdv ct us mv ws h1 h2 h3
    match us, h1, mv, h2, ws, h3 with
    | [_, _, _], _, [], _, [_], _ => exact (rfl : _ = _)
end
end Cu

/-! ## CuNever -/
set_option maxRecDepth 100000
set_option maxHeartbeats 4000000
namespace Cu
open PySem PySem.Spec PyProof.Rows L2 Evl
theorem iteF' {c : Bool} {A B : Prop} (e : c = false) (h : B) : if c = true then A else B := by
  rw [e]
  exact iteF h
abbrev Pr := (Int × Int) × (Int × Int)
abbrev rowV (c : Pr) : List V := [.str "pair", .int c.1.1, .int c.1.2, .int c.2.1, .int c.2.2, .int (ig c.1.2 c.2.2)]
def RowA (K : PySem.W.Frag) (H : Hp) (v : V) (c : Pr) : Prop := ∃ a, v = .ref a ∧ SqT K H a (rowV c)
theorem RowA.up {K : PySem.W.Frag} {H H' : Hp} {v : V} {c : Pr} (e : Ex H H') (h : RowA K H v c) : RowA K H' v c := let ⟨a, q, t⟩ := h; ⟨a, q, ex_t e t⟩
theorem RowA.upd {K : PySem.W.Frag} {H : Hp} {D : Addr} {v : V} {c : Pr} {ac : List V} {o : HO} (hD : H D = some (.lst ac)) (h : RowA K H v c) : RowA K (L2.upd H D o) v c := let ⟨a, q, t⟩ := h; ⟨a, q, sqt_upd hD t⟩
def pairsF (L R : List (Int × Int)) : List Pr := L.flatMap fun l => R.map fun r => (l, r)
theorem mem_pairs {L R : List (Int × Int)} {c : Pr} : c ∈ pairsF L R ↔ c.1 ∈ L ∧ c.2 ∈ R := by
  obtain ⟨l, r⟩ := c
  unfold pairsF
  rw [List.mem_flatMap]
  constructor
  · rintro ⟨x, hx, h⟩
    obtain ⟨y, hy, e⟩ := List.mem_map.mp h
    cases e
    exact ⟨hx, hy⟩
  · rintro ⟨h1, h2⟩
    exact ⟨l, h1, List.mem_map.mpr ⟨r, h2, rfl⟩⟩
theorem pairs_step {l r : List (Int × Int)} {i : Nat} {a : Int × Int} (h : l[i]? = some a) : pairsF (l.take (i + 1)) r = pairsF (l.take i) r ++ r.map fun b => (a, b) := by
  unfold pairsF
  rw [List.take_add_one, h, List.flatMap_append]
  congr 1
  show List.flatMap _ [a] = _
  rw [List.flatMap_cons, List.flatMap_nil, List.append_nil]
theorem pairs_len {L R : List (Int × Int)} : (pairsF L R).length = L.length * R.length := by
  induction L with
  | nil => simp [pairsF]
  | cons x L ih =>
    have e : pairsF (x :: L) R = (R.map fun r => (x, r)) ++ pairsF L R := rfl
    rw [e, List.length_append, ih, List.length_map, List.length_cons, Nat.succ_mul]
    omega
def NevA (K : PySem.W.Frag) (H : Hp) (p : Addr) (X Y : List (Int × Int)) : Prop :=
  (X = [] ∧ ∃ q, H p = some (.lst [.ref q]) ∧ SqT K H q [.str "x"]) ∨ (X ≠ [] ∧ Y = [] ∧ ∃ q, H p = some (.lst [.ref q]) ∧ SqT K H q [.str "y"]) ∨
  (X ≠ [] ∧ Y ≠ [] ∧ ∃ qs rs, H p = some (.lst qs) ∧ Paired (RowA K H) qs rs ∧ rs.length ≤ 4 ∧ ∀ c, c ∈ rs ↔ c.1 ∈ X ∧ c.2 ∈ Y)
theorem NevA.up {K : PySem.W.Frag} {H H' : Hp} {p : Addr} {X Y : List (Int × Int)} (e : Ex H H') (h : NevA K H p X Y) : NevA K H' p X Y := by
  rcases h with ⟨h1, q, h2, h3⟩ | ⟨h0, h1, q, h2, h3⟩ | ⟨h0, h1, qs, rs, h2, h3, h4, h5⟩
  · exact .inl ⟨h1, q, e _ _ h2, ex_t e h3⟩
  · exact .inr (.inl ⟨h0, h1, q, e _ _ h2, ex_t e h3⟩)
  · exact .inr (.inr ⟨h0, h1, qs, rs, e _ _ h2, Paired.mapP h3 fun _ _ z => z.up e, h4, h5⟩)
section
variable {P : Program} {w : World} {K : PySem.W.Frag} {mg : Str → Option Value} {base : Heap}
def spNever (K : PySem.W.Frag) : Sp := fun vs H Q _ => ∃ (t : Addr) (x y : V) (u v : Int) (a b : Bl), vs = [.ref t, x, y] ∧ TabA K H t u v ∧ Sz u v ∧ BallA K H x a ∧ BallA K H y b ∧ BOk u v a ∧ BOk u v b ∧
  (crossF (mX u a b) (mY v a b) ≠ [] → ∀ H', Ex H H' → Q .non H') ∧ (crossF (mX u a b) (mY v a b) = [] → ∀ p H', Ex H H' → NevA K H' p (mX u a b) (mY v a b) → Q (.ref p) H')
abbrev NNever : List Str := ["table", "one", "other", "first", "second", "rows", "left", "right"]
theorem scNever : FnScope NNever ["table", "one", "other"] (defScope sNever) := ⟨rfl, rfl, rfl, by decide +kernel, rfl, by decide +kernel, by decide +kernel⟩
theorem D_Never (T : Txt K mg) : Def P w K mg base 4 "never" ["table", "one", "other"] (spNever K) := by
  refine mk_def T.fNever T.gNever scNever (fun _ _ _ _ _ _ us hl => match us, hl with | [_, _, _], _ => rfl) ?_ ?_
  · rintro vs H Q E ⟨t, x, y, u, v, a, b, rfl, _⟩
    rfl
  · rintro cdv A outer s0 H vs Q E hr ⟨t, _, _, u, v, a, b, rfl, ht, z, ⟨pa, rfl, ha⟩, ⟨pb, rfl, hb⟩, oa, ob, kN, kS⟩
    have nd := scNever.nd
    refine ⟨_, (pss_cons (ps_expr (pe_def (D_CheckBall T) hr (pa_cons (pv 0) (pa_cons (pv 1) pa_nil))))
      (pss_cons (ps_expr (pe_def (D_CheckBall T) hr (pa_cons (pv 0) (pa_cons (pv 2) pa_nil))))
      (pss_cons (ps_asg (pe_def (D_PartClasses T) hr (pa_cons (pv 0) (pa_cons (pv 1) (pa_cons (pv 2) pa_nil)))) (pg_tup rfl (pgs_cons (pg_name (i := 3) nd rfl (Or.inl rfl)) (pgs_cons (pg_name (i := 4) nd rfl (Or.inl rfl)) pgs_nil))))
      (pss_cons (ps_if (pt_not (pt_truth (pv 3) (by intro _; rfl))) (pss_one (ps_ret (pe_lst (pa_cons (pe_tup (pa_cons pe_str pa_nil)) pa_nil)))) pss_nil)
      (pss_cons (ps_if (pt_not (pt_truth (pv 4) (by intro _; rfl))) (pss_one (ps_ret (pe_lst (pa_cons (pe_tup (pa_cons pe_str pa_nil)) pa_nil)))) pss_nil)
      (pss_cons (ps_set (i := 5) nd rfl (Or.inl rfl) (pe_lst pa_nil))
      (pss_cons (ps_for PassesOwn.never rfl (pi_list (pv 3)) (pg_name (i := 6) nd rfl (Or.inl rfl)) (pss_one (ps_for PassesOwn.never rfl (pi_list (pv 4)) (pg_name (i := 7) nd rfl (Or.inl rfl)) (pss_cons (ps_if (pt_cmpR op_notN (pe_def (D_Chinese T) hr (pa_cons (pv 6) (pa_cons (pv 7) pa_nil))) pe_non (nomark _)) (pss_one (ps_ret pe_non)) pss_nil)
      (pss_one (ps_expr (pe_bm PySem.F.plainAttrs_list PySem.F.slot_list_append PySem.F.type_list_append mt_append (pv 5) (pa_cons (pe_tup (pa_cons pe_str (pa_cons (pe_ix ix_tup (pv 6) pe_int (fun _ _ => rfl)) (pa_cons (pe_ix ix_tup (pv 6) pe_int (fun _ _ => rfl)) (pa_cons (pe_ix ix_tup (pv 7) pe_int (fun _ _ => rfl)) (pa_cons (pe_ix ix_tup (pv 7) pe_int (fun _ _ => rfl)) (pa_cons (pe_callBfun cr_gcd (by rfl) T.gcd (pa_cons (pe_ix ix_tup (pv 6) pe_int (fun _ _ => rfl)) (pa_cons (pe_ix ix_tup (pv 7) pe_int (fun _ _ => rfl)) pa_nil))) pa_nil))))))) pa_nil))))))))
      (pss_one (ps_ret (pv 5)))))))))), ?_⟩
    refine ⟨_, rfl, _, rfl, t, _, u, v, a, rfl, ht, ⟨pa, rfl, ha⟩, oa, fun H1 e1 => ?_⟩
    refine ⟨_, rfl, _, rfl, t, _, u, v, b, rfl, ht.up e1, ⟨pb, rfl, ex_t e1 hb⟩, ob, fun H2 e2 => ?_⟩
    have e12 := e1.trans e2
    refine ⟨_, rfl, _, rfl, _, rfl, t, _, _, u, v, a, b, rfl, ht.up e12, z.w0, z.h0, ⟨pa, rfl, ex_t e12 ha⟩, ⟨pb, rfl, ex_t e12 hb⟩, oa, ob, ?_⟩
    rintro p _ _ H3 e3 hp ⟨f, L1, rfl, q1, ⟨vs1, h1, p1⟩⟩ ⟨g, L2, rfl, q2, ⟨vs2, h2, p2⟩⟩
    have e13 := e12.trans e3
    have c1 := (mX_ok z oa ob).perm q1
    have c2 := (mY_ok z oa ob).perm q2
    have l1 := p1.length
    have l2 := p2.length
    have k1 := c1.ln
    have k2 := c2.ln
    refine ⟨p, _, rfl, hp, rfl, _, _, rfl, _, _, rfl, rfl, ?_⟩
    refine ⟨_, rfl, _, .inl ⟨_, SqL.of h1, rfl⟩, ?_⟩
    have nX : vs1 = [] ↔ mX u a b = [] := by
      rw [← List.length_eq_zero_iff, l1, List.length_eq_zero_iff]
      exact ⟨fun h => by rw [h] at q1; exact q1.symm.eq_nil, fun h => by rw [h] at q1; exact q1.eq_nil⟩
    have nY : vs2 = [] ↔ mY v a b = [] := by
      rw [← List.length_eq_zero_iff, l2, List.length_eq_zero_iff]
      exact ⟨fun h => by rw [h] at q2; exact q2.symm.eq_nil, fun h => by rw [h] at q2; exact q2.eq_nil⟩
    cases hv1 : vs1 with
    | nil =>
      refine iteT ?_
      refine ⟨le1, fun n nn => ?_⟩
      have hn : upd H3 n (.tup [.str "x"]) n = some (.tup [.str "x"]) := upd_same
      have e4 : Ex H3 (upd H3 n (.tup [.str "x"])) := Ex.new nn
      generalize upd H3 n (.tup [.str "x"]) = H4 at *
      refine ⟨le1, fun m nm => ?_⟩
      have e5 : Ex H4 (upd H4 m (.lst [.ref n])) := Ex.new nm
      have x0 := nX.mp hv1
      exact kS (by rw [x0]; rfl) m _ ((e13.trans e4).trans e5) (.inl ⟨x0, n, upd_same, SqT.of (e5 _ _ hn)⟩)
    | cons w1 ws1 =>
      rw [← hv1]
      refine iteF' (by rw [hv1]; rfl) ?_
      refine ⟨_, rfl, _, .inl ⟨_, SqL.of h2, rfl⟩, ?_⟩
      have x1 : mX u a b ≠ [] := fun h => by rw [nX.mpr h] at hv1; cases hv1
      cases hv2 : vs2 with
      | nil =>
        refine iteT ?_
        refine ⟨le1, fun n nn => ?_⟩
        have hn : upd H3 n (.tup [.str "y"]) n = some (.tup [.str "y"]) := upd_same
        have e4 : Ex H3 (upd H3 n (.tup [.str "y"])) := Ex.new nn
        generalize upd H3 n (.tup [.str "y"]) = H4 at *
        refine ⟨le1, fun m nm => ?_⟩
        have e5 : Ex H4 (upd H4 m (.lst [.ref n])) := Ex.new nm
        have y0 := nY.mp hv2
        exact kS (by rw [y0]; exact cross_nil.mpr fun _ _ _ h => nomatch h) m _ ((e13.trans e4).trans e5) (.inr (.inl ⟨x1, y0, n, upd_same, SqT.of (e5 _ _ hn)⟩))
      | cons w2 ws2 =>
        rw [← hv2]
        refine iteF' (by rw [hv2]; rfl) ?_
        have y1 : mY v a b ≠ [] := fun h => by rw [nY.mpr h] at hv2; cases hv2
        refine ⟨le0, fun r nr => ?_⟩
        have hr1 : upd H3 r (.lst []) r = some (.lst []) := upd_same
        have e4 : Ex H3 (upd H3 r (.lst [])) := Ex.new nr
        have nr0 := fresh_back e13 nr
        generalize upd H3 r (.lst []) = H4 at *
        have e14 := e13.trans e4
        have h1' := e4 _ _ h1
        have h2' := e4 _ _ h2
        refine ⟨_, rfl, f, rfl, ⟨_, SqL.of h1'⟩, for_list (K := K) (a := f) (xs := vs1) (fun i σ' H' => ∃ (fs : List V) (v6 v7 : Option V), σ' = [some (.ref t), some (.ref pa), some (.ref pb), some (.ref f), some (.ref g), some (.ref r), v6, v7] ∧ Ex H3 H' ∧ H' r = some (.lst fs) ∧ Paired (RowA K H') fs (pairsF (L1.take i) L2) ∧ ∀ c ∈ pairsF (L1.take i) L2, chi c.1 c.2 = none)
          ⟨[], none, none, rfl, e4, hr1, .nil, fun c h => nomatch h⟩ (fun i σ' H' _ ⟨_, _, _, _, e, _⟩ => SqL.of (e _ _ h1)) ?_ ?_⟩
        · rintro i x σ' H' hi ⟨fs, v6, v7, rfl, ex, hf, pf, cf⟩
          obtain ⟨l, hl, tl⟩ := paired_get p1 hi
          have lm : l ∈ L1 := List.mem_of_getElem? hl
          refine ⟨_, rfl, g, rfl, ⟨_, SqL.of (ex _ _ h2)⟩, for_list (K := K) (a := g) (xs := vs2) (fun j σ' H' => ∃ (fs : List V) (v7 : Option V), σ' = [some (.ref t), some (.ref pa), some (.ref pb), some (.ref f), some (.ref g), some (.ref r), some x, v7] ∧ Ex H3 H' ∧ H' r = some (.lst fs) ∧ Paired (RowA K H') fs (pairsF (L1.take i) L2 ++ (L2.take j).map fun b => (l, b)) ∧ ∀ c ∈ pairsF (L1.take i) L2 ++ (L2.take j).map (fun b => (l, b)), chi c.1 c.2 = none)
            ⟨fs, v7, rfl, ex, hf, by simpa using pf, by simpa using cf⟩ (fun i σ' H' _ ⟨_, _, _, e, _⟩ => SqL.of (e _ _ h2)) ?_ ?_⟩
          · rintro j y σ' H' hj ⟨fs, v7, rfl, ex, hf, pf, cf⟩
            obtain ⟨d, hd, td⟩ := paired_get p2 hj
            have dm : d ∈ L2 := List.mem_of_getElem? hd
            refine ⟨_, rfl, _, rfl, x, y, l, d, rfl, tl.up ex, td.up ex, c1.wf l lm, c2.wf d dm, (c1.big big2le (Nat.le_refl _)).md l lm, (c2.big big2le (Nat.le_refl _)).md d dm, fun hn H5 e5 => ?_, fun c hc v5 H5 e5 tv => ?_⟩
            · refine ⟨rfl, _, rfl, ?_⟩
              refine iteF ?_
              obtain ⟨x', rfl, tl'⟩ := tl
              obtain ⟨y', rfl, td'⟩ := td
              have e35 := ex.trans e5
              have hx := ex_t e35 tl'
              have hy := ex_t e35 td'
              refine ⟨_, rfl, .inl ⟨rfl, _, SqL.of (e5 _ _ hf)⟩, ?_⟩
              refine ⟨_, rfl, x', _, _, _, rfl, rfl, hx, rfl, _, rfl, x', _, _, _, rfl, rfl, hx, rfl, _, rfl, y', _, _, _, rfl, rfl, hy, rfl, _, rfl, y', _, _, _, rfl, rfl, hy, rfl, ?_⟩
              refine ⟨_, rfl, x', _, _, _, rfl, rfl, hx, rfl, _, rfl, y', _, _, _, rfl, rfl, hy, rfl, _, _, rfl, ?_⟩
              refine ⟨le6, fun n nn => ?_⟩
              have e6 : Ex H5 (upd H5 n (.tup (rowV (l, d)))) := Ex.new nn
              have hn6 : upd H5 n (.tup (rowV (l, d))) n = some (.tup (rowV (l, d))) := upd_same
              have hf6 := e6 _ _ (e5 _ _ hf)
              have lf := pf.length
              have lp := pairs_len (L := L1.take i) (R := L2)
              have lq : (L1.take i).length * L2.length ≤ 2 * 2 := Nat.mul_le_mul (by rw [List.length_take]; omega) k2
              refine ⟨r, _, _, rfl, rfl, hf6, sz_lt (by rw [List.length_append, List.length_map, List.length_take] at lf; omega), ?_⟩
              refine ⟨_, _, rfl, Ex.mut ((ex.trans e5).trans e6) nr, upd_same, ?_, ?_⟩
              · rw [List.take_add_one, hd]
                show Paired _ _ (pairsF (L1.take i) L2 ++ List.map (fun b => (l, b)) (L2.take j ++ [d]))
                rw [List.map_append, ← List.append_assoc]
                exact paired_app (Paired.mapP pf fun _ _ z => (z.up (e5.trans e6)).upd hf6) (.cons ⟨n, rfl, sqt_upd hf6 (SqT.of hn6)⟩ .nil)
              · rw [List.take_add_one, hd]
                show ∀ c ∈ pairsF (L1.take i) L2 ++ List.map (fun b => (l, b)) (L2.take j ++ [d]), chi c.1 c.2 = none
                rw [List.map_append, ← List.append_assoc]
                intro c hc
                rcases List.mem_append.mp hc with h | h
                · exact cf c h
                · cases List.mem_singleton.mp h
                  exact hn
            · obtain ⟨t1, rfl, _⟩ := tv
              refine ⟨rfl, _, rfl, ?_⟩
              refine iteT ?_
              have hne : crossF (mX u a b) (mY v a b) ≠ [] := fun h => by
                have := cross_nil.mp h l (q1.mem_iff.mp lm) d (q2.mem_iff.mp dm)
                rw [this] at hc
                cases hc
              exact kN hne _ ((e13.trans ex).trans e5)
          · rintro σ' H' ⟨fs, v7, rfl, ex, hf, pf, cf⟩
            have e : L2.take vs2.length = L2 := List.take_of_length_le (by omega)
            rw [e] at pf cf
            exact ⟨fs, _, _, rfl, ex, hf, by rw [pairs_step hl]; exact pf, by rw [pairs_step hl]; exact cf⟩
        · rintro σ' H' ⟨fs, v6, v7, rfl, ex, hf, pf, cf⟩
          have e : L1.take vs1.length = L1 := List.take_of_length_le (by omega)
          rw [e] at pf cf
          have hce : crossF (mX u a b) (mY v a b) = [] := cross_nil.mpr fun l hl d hd => cf (l, d) (mem_pairs.mpr ⟨q1.mem_iff.mpr hl, q2.mem_iff.mpr hd⟩)
          refine ⟨_, rfl, kS hce r H' (e13.trans ex) (.inr (.inr ⟨x1, y1, fs, _, hf, pf, ?_, fun c => ?_⟩))⟩
          · rw [pairs_len]
            exact Nat.le_trans (Nat.mul_le_mul k1 k2) (by decide)
          · rw [mem_pairs, q1.mem_iff, q2.mem_iff]
end
end Cu

/-! ## CuShows -/
set_option maxRecDepth 100000
set_option maxHeartbeats 4000000
namespace Cu
open PySem PySem.Spec PyProof.Rows L2 Evl
def headD (c : Pr) : PyData := .tuple [.str "pair", .int c.1.1, .int c.1.2, .int c.2.1, .int c.2.2]
theorem headD_shaped (c : Pr) : SeqAt.shaped (headD c) = true := by
  have h : PyData.depth (headD c) ≤ 64 := by simp [headD, PyData.depth, PyData.depthAll]
  show (PyData.canLay0 (headD c) && decide ((headD c).depth ≤ 64)) = true
  rw [Bool.and_eq_true]
  exact ⟨by simp [headD, PyData.canLay0, PyData.canLayAll0]; decide +kernel, decide_eq_true h⟩
theorem headD_eqv (c d : Pr) : PyData.eqv (headD c) (headD d) = decide (c = d) := by
  obtain ⟨⟨a, b⟩, x, y⟩ := c
  obtain ⟨⟨a', b'⟩, x', y'⟩ := d
  have e : PyData.eqv (headD ((a, b), x, y)) (headD ((a', b'), x', y')) = ((("pair" : Str) == "pair") && ((a == a') && ((b == b') && ((x == x') && ((y == y') && true))))) := by simp only [headD, PyData.eqv, PyData.eqvAll]
  rw [e, Bool.and_true, Bool.eq_iff_iff]
  simp [and_assoc]
theorem chi_disj {a b : Int × Int} (h : chi a b = none) : Disj a b := chi_none h
section
variable {P : Program} {w : World} {K : PySem.W.Frag} {mg : Str → Option Value} {base : Heap}
def spShows (K : PySem.W.Frag) : Sp := fun vs H Q _ => ∃ (q x y : V) (c d : Pr), vs = [q, x, y] ∧ RowA K H q c ∧ TupC K H x d.1 ∧ TupC K H y d.2 ∧ Wf d.1 ∧ Wf d.2 ∧ Disj d.1 d.2 ∧ ∀ H', Ex H H' → Q (.bl (decide (c = d))) H'
abbrev NShows : List Str := ["row", "left", "right", "divisor"]
theorem scShows : FnScope NShows ["row", "left", "right"] (defScope sShows) := ⟨rfl, rfl, rfl, by decide +kernel, rfl, by decide +kernel, by decide +kernel⟩
theorem D_Shows (T : Txt K mg) : Def P w K mg base 1 "shows" ["row", "left", "right"] (spShows K) := by
  refine mk_def T.fShows T.gShows scShows (fun _ _ _ _ _ _ us hl => match us, hl with | [_, _, _], _ => rfl) ?_ ?_
  · rintro vs H Q E ⟨q, x, y, c, d, rfl, _⟩
    rfl
  · rintro cdv A outer s0 H vs Q E hr ⟨_, _, _, c, d, rfl, ⟨q, rfl, hq⟩, ⟨x, rfl, hx⟩, ⟨y, rfl, hy⟩, wl, wr, dj, k⟩
    have nd := scShows.nd
    refine ⟨_, (pss_cons (ps_if (PW.pt (pw_or (pt_cmpR (op_neD hr.units) (pe_callTy call_tuple_of (by rfl) T.zTuple (by decide +kernel) (pa_cons (pe_slice sl_tup (pv 0) po_none (po_some pe_int)) pa_nil)) (pe_tup (pa_cons pe_str (pa_cons (pe_ix ix_tup (pv 1) pe_int (fun _ _ => rfl)) (pa_cons (pe_ix ix_tup (pv 1) pe_int (fun _ _ => rfl)) (pa_cons (pe_ix ix_tup (pv 2) pe_int (fun _ _ => rfl)) (pa_cons (pe_ix ix_tup (pv 2) pe_int (fun _ _ => rfl)) pa_nil)))))) (nomark _)) (pw_or1 (pt_cmpR op_ne (pe_callB call_len_seq (by rfl) T.zLen PySem.boot_len (pa_cons (pv 0) pa_nil)) pe_int (nomark _))))) (pss_one (ps_ret pe_bl)) pss_nil)
      (pss_cons (ps_set (i := 3) nd rfl (Or.inl rfl) (pe_ix ix_tup (pv 0) pe_int (fun _ _ => rfl)))
      (pss_cons (ps_if (pt_not (pt_val (pe_callB call_isi (by rfl) T.zIsinstance (by decide +kernel) (pa_cons (pv 3) (pa_cons (pe_bltn (v := .ty "int") (by rfl) T.zInt (by decide +kernel) rfl) pa_nil))))) (pss_one (ps_ret pe_bl)) pss_nil)
      (pss_cons (ps_if (PW.pt (pw_or (pt_cmpR op_lt (pv 3) pe_int (nomark _)) (pw_or (pt_cmpR op_ne (pe_op op_mod (pe_ix ix_tup (pv 1) pe_int (fun _ _ => rfl)) (pv 3)) pe_int (nomark _)) (pw_or1 (pt_cmpR op_ne (pe_op op_mod (pe_ix ix_tup (pv 2) pe_int (fun _ _ => rfl)) (pv 3)) pe_int (nomark _)))))) (pss_one (ps_ret pe_bl)) pss_nil)
      (pss_one (ps_ret (pe_cmpR op_ne (pe_op op_mod (pe_ix ix_tup (pv 1) pe_int (fun _ _ => rfl)) (pv 3)) (pe_op op_mod (pe_ix ix_tup (pv 2) pe_int (fun _ _ => rfl)) (pv 3)) (nomark _)))))))), ?_⟩
    refine ⟨_, rfl, _, rfl, q, _, rfl, hq, (fun z => absurd z.2 (show ¬ HT.sIx 6 6 (some 5) = 6 by decide)), fun p np => ?_⟩
    have ec : cutV (rowV c) none (some 5) = (rowV c).take 5 := cut_to (k := 5)
    rw [ec]
    have hp : upd H p (.tup ((rowV c).take 5)) p = some (.tup ((rowV c).take 5)) := upd_same
    have e1 : Ex H (upd H p (.tup ((rowV c).take 5))) := Ex.new np
    generalize upd H p (.tup ((rowV c).take 5)) = H1 at *
    have hx1 := ex_t e1 hx
    have hy1 := ex_t e1 hy
    refine ⟨p, _, rfl, .inr ⟨SqT.of hp, ?_⟩⟩
    refine ⟨_, rfl, x, _, _, _, rfl, rfl, hx1, rfl, _, rfl, x, _, _, _, rfl, rfl, hx1, rfl, _, rfl, y, _, _, _, rfl, rfl, hy1, rfl, _, rfl, y, _, _, _, rfl, rfl, hy1, rfl, le5, fun n nn => ?_⟩
    have hn : upd H1 n (.tup ((rowV d).take 5)) n = some (.tup ((rowV d).take 5)) := upd_same
    have e2 : Ex H1 (upd H1 n (.tup ((rowV d).take 5))) := Ex.new nn
    have hp2 := e2 _ _ hp
    refine ⟨headD c, headD d, .tup (SqT.of hp2) (.cons (.str _) (.cons (.int _) (.cons (.int _) (.cons (.int _) (.cons (.int _) .nil))))), .tup (SqT.of hn) (.cons (.str _) (.cons (.int _) (.cons (.int _) (.cons (.int _) (.cons (.int _) .nil))))), headD_shaped _, headD_shaped _, ?_⟩
    have e12 := e1.trans e2
    have k2 := k _ e12
    have hq2 := ex_t e12 hq
    have hx2 := ex_t e12 hx
    have hy2 := ex_t e12 hy
    rw [headD_eqv]
    by_cases hcd : c = d
    · subst hcd
      rw [decide_eq_true rfl] at *
      refine ⟨false, rfl, ?_⟩
      refine iteF ?_
      refine ⟨_, rfl, q, _, rfl, .inr hq2, rfl, _, rfl, ?_⟩
      refine iteF ?_
      refine ⟨_, rfl, q, _, _, _, rfl, rfl, hq2, rfl, ?_⟩
      refine ⟨_, rfl, _, _, _, .type "int", true, rfl, .ty _, .base (.int _), ?_, true, rfl, ?_⟩
      · first | rfl | decide +kernel | exact kit_ty (by decide +kernel)
      refine iteF ?_
      have g0 : 0 < ig c.1.2 c.2.2 := ig_pos (by have := wl.1; have := wl.2; omega)
      refine ⟨_, rfl, _, _, rfl, rfl, _, rfl, iteD (fun h => by omega) (fun _ => ?_)⟩
      refine ⟨_, rfl, x, _, _, _, rfl, rfl, hx2, rfl, _, rfl, _, _, rfl, rfl, g0, rfl, _, rfl, ?_⟩
      have z1 : c.1.2 % ig c.1.2 c.2.2 = 0 := Int.emod_eq_zero_of_dvd (ig_dvd_left _ _)
      have z2 : c.2.2 % ig c.1.2 c.2.2 = 0 := Int.emod_eq_zero_of_dvd (ig_dvd_right _ _)
      refine iteF' (by show (!decide (V.int (c.1.2 % ig c.1.2 c.2.2) = V.int 0)) = false; rw [z1]; rfl) ?_
      refine ⟨_, rfl, y, _, _, _, rfl, rfl, hy2, rfl, _, rfl, _, _, rfl, rfl, g0, rfl, _, rfl, ?_⟩
      refine iteF' (by show (!decide (V.int (c.2.2 % ig c.1.2 c.2.2) = V.int 0)) = false; rw [z2]; rfl) ?_
      refine ⟨_, rfl, x, _, _, _, rfl, rfl, hx2, rfl, _, rfl, _, _, rfl, rfl, g0, _, rfl, y, _, _, _, rfl, rfl, hy2, rfl, _, rfl, _, _, rfl, rfl, g0, rfl, ?_⟩
      have e := neI.mpr ((apart_iff wl wr).mp dj)
      rw [← e] at k2
      exact k2
    · rw [decide_eq_false hcd] at *
      refine ⟨true, rfl, ?_⟩
      refine iteT ?_
      refine iteT ?_
      exact k2
end
end Cu

/-! ## CuCheck -/
set_option maxRecDepth 100000
set_option maxHeartbeats 4000000
namespace Cu
open PySem PySem.Spec PyProof.Rows L2 Evl
def rTupK (K : PySem.W.Frag) : List V → Hp → VK → Prop := fun xs H Q => ∃ p ys, xs = [.ref p] ∧ ((SqL K H p ys ∧ ∀ l, H l = none → Q (.ref l) (upd H l (.tup ys))) ∨ (SqT K H p ys ∧ Q (.ref p) H))
theorem call_tupK {X : Cx} : CallR X (.type "tuple") (rTupK X.K) := call_tuple_of
theorem map_snoc {α β : Type} {f : α → β} {l : List α} {a : α} : (l ++ [a]).map f = l.map f ++ [f a] := by
  rw [List.map_append]
  rfl
theorem yesI {σ : L2.St} {H : Hp} {A B : Hp → Prop} (h : A H) : tYes σ H fun b H3 => if b = true then A H3 else B H3 := by
  show if true = true then A H else B H
  exact iteT h
/-- a walk whose body is told as a whole -/
theorem it_gen {J : It} {n : Nat} {G : Hp → Prop} {Y : Nat → Hp → V → Hp → Prop} (w : Walk J n G Y) {body : V → Hp → (Hp → Prop) → Prop} {H0 : Hp} {Qd : Hp → Prop} (Pv : Nat → Hp → Prop) (h0 : Pv 0 H0) (hG : ∀ i H, i ≤ n → Pv i H → G H)
    (hs : ∀ i x H H', i < n → Pv i H → Y i H x H' → body x H' (Pv (i + 1))) (hd : ∀ H, Pv n H → Qd H) :
    ∃ W : Nat → Nat → Hp → Prop, (∃ m, W 0 m H0) ∧ ∀ i m H, W i m H → (J.stop i H ∧ Qd H) ∨ (J.go i H ∧ ∃ Nx : Hp → Prop, (∀ H', Nx H' → ∃ m', m' < m ∧ W (i + 1) m' H') ∧ ∀ x H', J.yld i H x H' → body x H' Nx) := by
  refine ⟨fun i m H => m = n - i ∧ i ≤ n ∧ Pv i H, ⟨n, by simp, Nat.zero_le _, h0⟩, ?_⟩
  rintro i m H ⟨rfl, hi, p⟩
  have q := hG i H hi p
  by_cases hlt : i < n
  · refine .inr ⟨w.goes i H hlt q, Pv (i + 1), fun H' p' => ⟨n - (i + 1), by omega, rfl, hlt, p'⟩, fun x H' y => hs i x H H' hlt p (w.yields i H x H' hlt q y)⟩
  · have e : i = n := by omega
    subst e
    exact .inl ⟨w.stops H q, hd H p⟩
def dXs (z : Str) : PyData := .list [.tuple [.str z]]
def rowD (c : Pr) : PyData := .tuple [.str "pair", .int c.1.1, .int c.1.2, .int c.2.1, .int c.2.2, .int (ig c.1.2 c.2.2)]
theorem ne_xy : (("y" : Str) == "x") = false := by decide +kernel
theorem ne_px : (("pair" : Str) == "x") = false := by decide +kernel
theorem ne_py : (("pair" : Str) == "y") = false := by decide +kernel
theorem ok_str (z : Str) (h : PyData.strOk z = true) : SeqAt.shaped (dXs z) = true := by
  have h2 : PyData.depth (dXs z) ≤ 64 := by simp [dXs, PyData.depth, PyData.depthAll]
  show (PyData.canLay0 (dXs z) && decide ((dXs z).depth ≤ 64)) = true
  rw [Bool.and_eq_true]
  exact ⟨by simp [dXs, PyData.canLay0, PyData.canLayAll0, h], decide_eq_true h2⟩
theorem ok_x : SeqAt.shaped (dXs "x") = true := ok_str _ (by decide +kernel)
theorem ok_y : SeqAt.shaped (dXs "y") = true := ok_str _ (by decide +kernel)
theorem ok_nil : SeqAt.shaped (.list []) = true := by decide +kernel
theorem ok_pair : PyData.strOk "pair" = true := by decide +kernel
theorem rowD_lay (c : Pr) : (rowD c).canLay0 = true := by simp [rowD, PyData.canLay0, PyData.canLayAll0, ok_pair]
theorem rowD_depth (c : Pr) : (rowD c).depth = 1 := by simp [rowD, PyData.depth, PyData.depthAll]
theorem rows_lay : ∀ L : List Pr, PyData.canLayAll0 (L.map rowD) = true
  | [] => by simp [PyData.canLayAll0]
  | z :: zs => by simp [PyData.canLayAll0, rowD_lay z, rows_lay zs]
theorem rows_depth : ∀ L : List Pr, PyData.depthAll (L.map rowD) ≤ 1
  | [] => by simp [PyData.depthAll]
  | z :: zs => by
    have h1 := rows_depth zs
    have h2 := rowD_depth z
    simp only [List.map_cons, PyData.depthAll]
    omega
theorem rows_shaped (L : List Pr) : SeqAt.shaped (.list (L.map rowD)) = true := by
  have h1 := rows_depth L
  have h2 : PyData.depth (.list (L.map rowD)) ≤ 64 := by
    simp only [PyData.depth]
    omega
  show (PyData.canLay0 (.list (L.map rowD)) && decide (PyData.depth (.list (L.map rowD)) ≤ 64)) = true
  rw [Bool.and_eq_true]
  exact ⟨by simp only [PyData.canLay0]; exact rows_lay L, decide_eq_true h2⟩
theorem eqv_nil (z : Str) : PyData.eqv (.list []) (dXs z) = false := by simp [dXs, PyData.eqv, PyData.eqvAll]
theorem eqv_s (y z : Str) : PyData.eqv (dXs y) (dXs z) = (y == z) := by simp [dXs, PyData.eqv, PyData.eqvAll]
theorem eqv_rows (L : List Pr) (z : Str) (h : (("pair" : Str) == z) = false) : PyData.eqv (.list (L.map rowD)) (dXs z) = false := by
  cases L with
  | nil => exact eqv_nil z
  | cons c L => simp [dXs, rowD, PyData.eqv, PyData.eqvAll, h]
/-- what check_never is asked about -/
structure Ask (K : PySem.W.Frag) (H : Hp) (p : Addr) (X Y : List (Int × Int)) (kT kF : Prop) (qs : List V) (ds : List PyData) : Prop where
  at_ : H p = some (.lst qs)
  ln : qs.length ≤ 4
  tp : ∀ (i : Nat) (z : V), qs[i]? = some z → ∃ a xs, z = .ref a ∧ SqT K H a xs
  dt : ∀ H', Ex H H' → DpAll K H' qs ds
  sh : SeqAt.shaped (.list ds) = true
  fx : PyData.eqv (.list ds) (dXs "x") = true → X = [] ∧ kT
  fy : PyData.eqv (.list ds) (dXs "x") = false → PyData.eqv (.list ds) (dXs "y") = true → Y = [] ∧ kT
  rest : PyData.eqv (.list ds) (dXs "x") = false → PyData.eqv (.list ds) (dXs "y") = false → (qs = [] ∧ kF) ∨ (qs ≠ [] ∧ X ≠ [] ∧ Y ≠ [] ∧ kT ∧ (∀ l ∈ X, ∀ r ∈ Y, chi l r = none) ∧ ∃ rs, Paired (RowA K H) qs rs ∧ ∀ c, c ∈ rs ↔ c.1 ∈ X ∧ c.2 ∈ Y)
theorem ask_nil {K : PySem.W.Frag} {H : Hp} {p : Addr} {X Y : List (Int × Int)} {kT kF : Prop} (h : H p = some (.lst [])) (k : kF) : Ask K H p X Y kT kF [] [] :=
  ⟨h, by decide, fun i z e => by simp at e, fun H' _ => .nil, ok_nil, (fun e => by rw [eqv_nil] at e; exact absurd e Bool.false_ne_true), (fun _ e => by rw [eqv_nil] at e; exact absurd e Bool.false_ne_true), fun _ _ => .inl ⟨rfl, k⟩⟩
theorem ask_one {K : PySem.W.Frag} {H : Hp} {q : Addr} {z : Str} (h : SqT K H q [.str z]) : (∀ (i : Nat) (y : V), [V.ref q][i]? = some y → ∃ a xs, y = .ref a ∧ SqT K H a xs) ∧ ∀ H', Ex H H' → DpAll K H' [.ref q] [.tuple [.str z]] :=
  ⟨fun i y e => by
    match i, e with
    | 0, e =>
      cases e
      exact ⟨q, _, rfl, h⟩, fun H' e => .cons (.tup (ex_t e h) (.cons (.str _) .nil)) .nil⟩
theorem dp_rows {K : PySem.W.Frag} {H : Hp} : ∀ {qs : List V} {rs : List Pr}, Paired (RowA K H) qs rs → DpAll K H qs (rs.map rowD)
  | _, _, .nil => .nil
  | _, _, .cons f t => by
    obtain ⟨a, rfl, h⟩ := f
    exact .cons (.tup h (.cons (.str _) (.cons (.int _) (.cons (.int _) (.cons (.int _) (.cons (.int _) (.cons (.int _) .nil))))))) (dp_rows t)
theorem ask_nev {K : PySem.W.Frag} {H : Hp} {p : Addr} {X Y : List (Int × Int)} {kT kF : Prop} (h : NevA K H p X Y) (hno : ∀ l ∈ X, ∀ r ∈ Y, chi l r = none) (k : kT) : ∃ qs ds, Ask K H p X Y kT kF qs ds := by
  rcases h with ⟨h1, q, h2, h3⟩ | ⟨h0, h1, q, h2, h3⟩ | ⟨h0, h1, qs, rs, h2, h3, h4, h5⟩
  · obtain ⟨a1, a2⟩ := ask_one h3
    exact ⟨_, [.tuple [.str "x"]], h2, show 1 ≤ 4 by decide, a1, a2, ok_x, fun _ => ⟨h1, k⟩, fun e => by rw [show PyData.list [.tuple [.str "x"]] = dXs "x" from rfl, eqv_s] at e; exact absurd e (by decide +kernel), fun e => by rw [show PyData.list [.tuple [.str "x"]] = dXs "x" from rfl, eqv_s] at e; exact absurd e (by decide +kernel)⟩
  · obtain ⟨a1, a2⟩ := ask_one h3
    exact ⟨_, [.tuple [.str "y"]], h2, show 1 ≤ 4 by decide, a1, a2, ok_y, fun e => by rw [show PyData.list [.tuple [.str "y"]] = dXs "y" from rfl, eqv_s] at e; exact absurd e (by decide +kernel), fun _ _ => ⟨h1, k⟩, fun _ e => by rw [show PyData.list [.tuple [.str "y"]] = dXs "y" from rfl, eqv_s] at e; exact absurd e (by decide +kernel)⟩
  · refine ⟨qs, rs.map rowD, h2, by rw [h3.length]; exact h4, fun i z e => ?_, fun H' e => dp_rows (Paired.mapP h3 fun _ _ z => z.up e), rows_shaped _, (fun e => by rw [eqv_rows _ _ ne_px] at e; exact absurd e Bool.false_ne_true), (fun _ e => by rw [eqv_rows _ _ ne_py] at e; exact absurd e Bool.false_ne_true), fun _ _ => .inr ⟨fun e => ?_, h0, h1, k, hno, rs, h3, h5⟩⟩
    · obtain ⟨c, _, a, rfl, h⟩ := paired_get h3 e
      exact ⟨a, _, rfl, h⟩
    · rw [e] at h3
      cases h3
      cases X with
      | nil => exact h0 rfl
      | cons x X =>
        cases Y with
        | nil => exact h1 rfl
        | cons y Y =>
          have := (h5 (x, y)).mpr ⟨List.mem_cons_self, List.mem_cons_self⟩
          cases this
section
variable {P : Program} {w : World} {K : PySem.W.Frag} {mg : Str → Option Value} {base : Heap}
def spCheckNever (K : PySem.W.Frag) : Sp := fun vs H Q _ => ∃ (t p : Addr) (x y : V) (u v : Int) (a b : Bl), vs = [.ref t, x, y, .ref p] ∧ TabA K H t u v ∧ Sz u v ∧ BallA K H x a ∧ BallA K H y b ∧ BOk u v a ∧ BOk u v b ∧
  ∃ qs ds, Ask K H p (mX u a b) (mY v a b) (∀ H', Ex H H' → Q (.bl true) H') (∀ H', Ex H H' → Q (.bl false) H') qs ds
abbrev NCheckNever : List Str := ["table", "one", "other", "rows", "first", "second", "words", "left", "right", "row"]
theorem scCheckNever : FnScope NCheckNever ["table", "one", "other", "rows"] (defScope sCheckNever) := ⟨rfl, rfl, rfl, by decide +kernel, rfl, by decide +kernel, by decide +kernel⟩
theorem D_CheckNever (T : Txt K mg) : Def P w K mg base 4 "check_never" ["table", "one", "other", "rows"] (spCheckNever K) := by
  refine mk_def T.fCheckNever T.gCheckNever scCheckNever (fun _ _ _ _ _ _ us hl => match us, hl with | [_, _, _, _], _ => rfl) ?_ ?_
  · rintro vs H Q E ⟨t, p, x, y, u, v, a, b, rfl, _⟩
    rfl
  · rintro cdv A outer s0 H vs Q E hr ⟨t, p, _, _, u, v, a, b, rfl, ht, z, ⟨pa, rfl, ha⟩, ⟨pb, rfl, hb⟩, oa, ob, qs, ds, k⟩
    have nd := scCheckNever.nd
    refine ⟨_, (pss_cons (ps_expr (pe_def (D_CheckBall T) hr (pa_cons (pv 0) (pa_cons (pv 1) pa_nil))))
      (pss_cons (ps_expr (pe_def (D_CheckBall T) hr (pa_cons (pv 0) (pa_cons (pv 2) pa_nil))))
      (pss_cons (ps_asg (pe_def (D_PartClasses T) hr (pa_cons (pv 0) (pa_cons (pv 1) (pa_cons (pv 2) pa_nil)))) (pg_tup rfl (pgs_cons (pg_name (i := 4) nd rfl (Or.inr rfl)) (pgs_cons (pg_name (i := 5) nd rfl (Or.inr rfl)) pgs_nil))))
      (pss_cons (ps_setLc (i := 6) (own := [("row", 9)]) rfl nd rfl rfl (sw_true rfl rfl rfl (by decide +kernel)) (pi_list (pv 3)) (blkOk_by (N := NCheckNever) (sc := defScope sCheckNever) (by decide +kernel)) (fun _ _ _ _ _ => (pg_name (i := 9) nd rfl (Or.inl rfl))) (fun _ _ _ _ _ => pts_nil) (fun _ _ _ _ _ => (pe_callTy (call_tupK : CallR _ _ (rTupK K)) (by rfl) T.zTuple (by decide +kernel) (pa_cons (pv 9) pa_nil))))
      (pss_cons (ps_if (pt_cmpR (op_eqD hr.units) (pv 6) (pe_lst (pa_cons (pe_tup (pa_cons pe_str pa_nil)) pa_nil)) (nomark _)) (pss_one (ps_ret (pe_notT (pv 4)))) pss_nil)
      (pss_cons (ps_if (pt_cmpR (op_eqD hr.units) (pv 6) (pe_lst (pa_cons (pe_tup (pa_cons pe_str pa_nil)) pa_nil)) (nomark _)) (pss_one (ps_ret (pe_notT (pv 5)))) pss_nil)
      (pss_cons (ps_if (PW.pt (pw_or (pt_not (pt_truth (pv 4) (by intro _; rfl))) (pw_or1 (pt_not (pt_truth (pv 5) (by intro _; rfl)))))) (pss_one (ps_ret pe_bl)) pss_nil)
      (pss_cons (ps_for PassesOwn.never rfl (pi_list (pv 4)) (pg_name (i := 7) nd rfl (Or.inr rfl)) (pss_one (ps_for PassesOwn.never rfl (pi_list (pv 5)) (pg_name (i := 8) nd rfl (Or.inr rfl)) (pss_one (ps_if (pt_not (pt_val (pe_callB (cr_any rfl) (by rfl) T.zAny (by decide +kernel) (pa_cons (pe_lc (own := [("row", 9)]) rfl nd (pi_list (pv 6)) (blkOk_by (N := NCheckNever) (sc := defScope sCheckNever) (by decide +kernel)) (fun _ _ _ _ _ => (pg_name (i := 9) nd rfl (Or.inl rfl))) (fun _ _ _ _ _ => pts_nil) (fun _ _ _ _ _ => (pe_def (D_Shows T) hr (pa_cons (pv 9) (pa_cons (pv 7) (pa_cons (pv 8) pa_nil)))))) pa_nil)))) (pss_one (ps_ret pe_bl)) pss_nil)))))
      (pss_one (ps_ret (pe_callB (cr_all rfl) (by rfl) T.zAll (by decide +kernel) (pa_cons (pe_lc (own := [("row", 9)]) rfl nd (pi_list (pv 6)) (blkOk_by (N := NCheckNever) (sc := defScope sCheckNever) (by decide +kernel)) (fun _ _ _ _ _ => (pg_name (i := 9) nd rfl (Or.inr rfl))) (fun _ _ _ _ _ => pts_nil) (fun _ _ _ _ _ => (pe_callB (cr_any rfl : CallR _ _ (rAny K)) (by rfl) T.zAny (by decide +kernel) (pa_cons (pe_lc2 (own := [("left", 7), ("right", 8)]) (vs1 := [8]) rfl nd (pi_list (pv 4) : PI _ _ _ (iList K _)) (blkOk_by (by kernel_rfl)) (by decide) (fun _ _ _ _ _ => (pg_name (i := 7) nd rfl (Or.inl rfl))) (fun _ _ _ _ _ => pts_nil) (fun _ _ _ _ _ => (pi_list (pv 5) : PI _ _ _ (iList K _))) (fun _ _ _ _ _ => (pg_name (i := 8) nd rfl (Or.inl rfl))) (fun _ _ _ _ _ => pts_nil) (fun _ _ _ _ _ => (pe_def (D_Shows T) hr (pa_cons (pv 9) (pa_cons (pv 7) (pa_cons (pv 8) pa_nil)))))) pa_nil)))) pa_nil)))))))))))), ?_⟩
    refine ⟨_, rfl, _, rfl, t, _, u, v, a, rfl, ht, ⟨pa, rfl, ha⟩, oa, fun H1 e1 => ?_⟩
    refine ⟨_, rfl, _, rfl, t, _, u, v, b, rfl, ht.up e1, ⟨pb, rfl, ex_t e1 hb⟩, ob, fun H2 e2 => ?_⟩
    have e12 := e1.trans e2
    refine ⟨_, rfl, _, rfl, _, rfl, t, _, _, u, v, a, b, rfl, ht.up e12, z.w0, z.h0, ⟨pa, rfl, ex_t e12 ha⟩, ⟨pb, rfl, ex_t e12 hb⟩, oa, ob, ?_⟩
    rintro pp _ _ H3 e3 hp ⟨f, L1, rfl, q1, ⟨vs1, h1, p1⟩⟩ ⟨g, L2, rfl, q2, ⟨vs2, h2, p2⟩⟩
    have e13 := e12.trans e3
    have c1 := (mX_ok z oa ob).perm q1
    have c2 := (mY_ok z oa ob).perm q2
    have l1 := p1.length
    have l2 := p2.length
    have k1 := c1.ln
    have k2 := c2.ln
    refine ⟨pp, _, rfl, hp, rfl, _, _, rfl, _, _, rfl, rfl, ?_⟩
    have nX : vs1 = [] ↔ mX u a b = [] := by
      rw [← List.length_eq_zero_iff, l1, List.length_eq_zero_iff]
      exact ⟨fun h => by rw [h] at q1; exact q1.symm.eq_nil, fun h => by rw [h] at q1; exact q1.eq_nil⟩
    have nY : vs2 = [] ↔ mY v a b = [] := by
      rw [← List.length_eq_zero_iff, l2, List.length_eq_zero_iff]
      exact ⟨fun h => by rw [h] at q2; exact q2.symm.eq_nil, fun h => by rw [h] at q2; exact q2.eq_nil⟩
    have hq := e13 _ _ k.at_
    have kl := k.ln
    refine ⟨_, rfl, p, rfl, ⟨_, SqL.of hq⟩, fun D hD => lc_all (walk_list (xs := qs)) (by omega) hD (fun i y _ => ∀ z, qs[i]? = some z → y = id z) (fun H' e => SqL.of (e _ _ hq)) (fun _ _ _ _ _ h => h) (fun _ _ _ _ _ _ h => h) ?_ ?_⟩
    · rintro i y H4 _ ac hi e4 hD4 ⟨rfl, hy⟩ R k2
      obtain ⟨a', xs, rfl, hs⟩ := k.tp i y hy
      refine ⟨rfl, _, rfl, a', xs, rfl, .inr ⟨ex_t (e13.trans e4) hs, k2 _ _ (Ex.refl _) fun z hz => ?_⟩⟩
      rw [hy] at hz
      cases hz
      rfl
    rintro ys H4 e4 hW lys gys
    have ey : ys = qs := (map_of_get lys gys).trans (List.map_id qs)
    subst ey
    have e14 := e13.trans e4
    have h14 := e4 _ _ h1
    have h24 := e4 _ _ h2
    refine ⟨_, rfl, le1, fun n nn => ?_⟩
    have hn : upd H4 n (.tup [.str "x"]) n = some (.tup [.str "x"]) := upd_same
    have e5 : Ex H4 (upd H4 n (.tup [.str "x"])) := Ex.new nn
    generalize upd H4 n (.tup [.str "x"]) = H5 at *
    refine ⟨le1, fun m nm => ?_⟩
    have hm : upd H5 m (.lst [.ref n]) m = some (.lst [.ref n]) := upd_same
    have e6 : Ex H5 (upd H5 m (.lst [.ref n])) := Ex.new nm
    have e46 := e5.trans e6
    have e16 := e14.trans e46
    refine ⟨.list ds, dXs "x", .lst (SqL.of (e46 _ _ hW)) (k.dt _ e16), .lst (SqL.of hm) (.cons (.tup (SqT.of (e6 _ _ hn)) (.cons (.str _) .nil)) .nil), k.sh, ok_x, ?_⟩
    generalize upd H5 m (.lst [.ref n]) = H6 at *
    have fx := k.fx
    have fy := k.fy
    have rest := k.rest
    cases hex : PyData.eqv (.list ds) (dXs "x") with
    | true =>
      obtain ⟨x0, kT⟩ := fx hex
      refine ⟨true, rfl, iteT ?_⟩
      refine ⟨_, rfl, _, .inl ⟨_, SqL.of (e46 _ _ h14), rfl⟩, ?_⟩
      rw [nX.mpr x0]
      exact kT _ e16
    | false =>
    refine ⟨false, rfl, iteF ?_⟩
    refine ⟨_, rfl, le1, fun n' nn' => ?_⟩
    have hn' : upd H6 n' (.tup [.str "y"]) n' = some (.tup [.str "y"]) := upd_same
    have e7 : Ex H6 (upd H6 n' (.tup [.str "y"])) := Ex.new nn'
    generalize upd H6 n' (.tup [.str "y"]) = H7 at *
    refine ⟨le1, fun m' nm' => ?_⟩
    have hm' : upd H7 m' (.lst [.ref n']) m' = some (.lst [.ref n']) := upd_same
    have e8 : Ex H7 (upd H7 m' (.lst [.ref n'])) := Ex.new nm'
    have e48 := (e46.trans e7).trans e8
    have e18 := e14.trans e48
    refine ⟨.list ds, dXs "y", .lst (SqL.of (e48 _ _ hW)) (k.dt _ e18), .lst (SqL.of hm') (.cons (.tup (SqT.of (e8 _ _ hn')) (.cons (.str _) .nil)) .nil), k.sh, ok_y, ?_⟩
    generalize upd H7 m' (.lst [.ref n']) = H8 at *
    cases hey : PyData.eqv (.list ds) (dXs "y") with
    | true =>
      obtain ⟨y0, kT⟩ := fy hex hey
      refine ⟨true, rfl, iteT ?_⟩
      refine ⟨_, rfl, _, .inl ⟨_, SqL.of (e48 _ _ h24), rfl⟩, ?_⟩
      rw [nY.mpr y0]
      exact kT _ e18
    | false =>
    refine ⟨false, rfl, iteF ?_⟩
    have rest := rest hex hey
    have h18 := e48 _ _ h14
    have h28 := e48 _ _ h24
    have hW8 := e48 _ _ hW
    refine ⟨_, rfl, _, .inl ⟨_, SqL.of h18, rfl⟩, ?_⟩
    cases hv1 : vs1 with
    | nil =>
      refine iteT ?_
      refine iteT ?_
      rcases rest with ⟨_, kF⟩ | ⟨_, x1, _⟩
      · exact kF _ e18
      · exact absurd (nX.mp hv1) x1
    | cons w1 ws1 =>
    rw [← hv1]
    refine iteF' (by rw [hv1]; rfl) ?_
    refine ⟨_, rfl, _, .inl ⟨_, SqL.of h28, rfl⟩, ?_⟩
    cases hv2 : vs2 with
    | nil =>
      refine iteT ?_
      rcases rest with ⟨_, kF⟩ | ⟨_, _, y1, _⟩
      · exact kF _ e18
      · exact absurd (nY.mp hv2) y1
    | cons w2 ws2 =>
    rw [← hv2]
    refine iteF' (by rw [hv2]; rfl) ?_
    refine ⟨_, rfl, f, rfl, ⟨_, SqL.of h18⟩, for_list (K := K) (a := f) (xs := vs1) (fun i σ' H' => ∃ (v7 v8 : Option V), σ' = [some (.ref t), some (.ref pa), some (.ref pb), some (.ref p), some (.ref f), some (.ref g), some (.ref D), v7, v8, none] ∧ Ex H8 H' ∧ (ys = [] → i = 0))
      ⟨_, _, rfl, Ex.refl _, fun _ => rfl⟩ (fun i σ' H' _ ⟨_, _, _, e, _⟩ => SqL.of (e _ _ h18)) ?_ ?_⟩
    · rintro i x σ' H' hi ⟨v7, v8, rfl, ex, _⟩
      obtain ⟨l, hl, tl⟩ := paired_get p1 hi
      have lm : l ∈ L1 := List.mem_of_getElem? hl
      refine ⟨_, rfl, g, rfl, ⟨_, SqL.of (ex _ _ h28)⟩, for_list (K := K) (a := g) (xs := vs2) (fun j σ' H' => ∃ (v8 : Option V), σ' = [some (.ref t), some (.ref pa), some (.ref pb), some (.ref p), some (.ref f), some (.ref g), some (.ref D), some x, v8, none] ∧ Ex H8 H' ∧ (ys = [] → j = 0))
        ⟨_, rfl, ex, fun _ => rfl⟩ (fun i σ' H' _ ⟨_, _, e, _⟩ => SqL.of (e _ _ h28)) ?_ ?_⟩
      · rintro j y σ' H' hj ⟨v8, rfl, ex, _⟩
        obtain ⟨d, hd, td⟩ := paired_get p2 hj
        have dm : d ∈ L2 := List.mem_of_getElem? hd
        rcases rest with ⟨he, kF⟩ | ⟨_, x1, y1, kT, hno, rs, prs, hrs⟩
        · subst he
          refine ⟨_, rfl, D, rfl, ⟨_, SqL.of (ex _ _ hW8)⟩, fun D2 hD2 => lc_all (walk_list (xs := ([] : List V))) (by decide) hD2 (fun i y _ => True) (fun H' e => SqL.of (e _ _ (ex _ _ hW8))) (fun _ _ _ _ _ h => h) (fun _ _ _ _ _ _ h => h) ?_ ?_⟩
          · intro i y Ha Hb ac hi
            exact absurd hi (Nat.not_lt_zero _)
          rintro bs H9 e9 hbs lbs _
          have be : bs = [] := List.eq_nil_of_length_eq_zero lbs
          subst be
          refine ⟨D2, [], rfl, SqL.of hbs, false, rfl, ?_⟩
          refine iteT ?_
          exact kF _ ((e18.trans ex).trans e9)
        · have e38 := e4.trans e48
          have lrs := prs.length
          refine ⟨_, rfl, D, rfl, ⟨_, SqL.of (ex _ _ hW8)⟩, fun D2 hD2 => lc_all (walk_list (xs := ys)) (by omega) hD2 (fun i y _ => ∀ c, rs[i]? = some c → y = .bl (decide (c = (l, d)))) (fun H' e => SqL.of (e _ _ (ex _ _ hW8))) (fun _ _ _ _ _ h => h) (fun _ _ _ _ _ _ h => h) ?_ ?_⟩
          · rintro i' y' H9 _ ac hi' e9 hD9 ⟨rfl, hy'⟩ R kR
            obtain ⟨c, hc, rc⟩ := paired_get prs hy'
            have e39 := (e38.trans ex).trans e9
            refine ⟨rfl, _, rfl, _, rfl, _, rfl, y', x, y, c, (l, d), rfl, rc.up (e13.trans e39), tl.up e39, td.up e39, c1.wf l lm, c2.wf d dm, chi_none (hno l (q1.mem_iff.mp lm) d (q2.mem_iff.mp dm)), fun H10 e10 => kR _ _ e10 fun c' hc' => ?_⟩
            rw [hc] at hc'
            cases hc'
            rfl
          rintro bs H9 e9 hbs lbs gbs
          have eb : bs = (rs.map fun c => decide (c = (l, d))).map V.bl := by
            rw [List.map_map]
            exact map_of_get (by omega) gbs
          rw [eb] at hbs
          have ea : (rs.map fun c => decide (c = (l, d))).any id = true := by
            rw [List.any_map, List.any_eq_true]
            exact ⟨(l, d), (hrs (l, d)).mpr ⟨q1.mem_iff.mp lm, q2.mem_iff.mp dm⟩, decide_eq_true rfl⟩
          refine ⟨D2, _, rfl, SqL.of hbs, ?_⟩
          rw [ea]
          refine ⟨true, rfl, iteF ?_⟩
          refine ⟨_, rfl, ex.trans e9, fun h => ?_⟩
          rw [h] at prs
          cases prs
          have := (hrs (l, d)).mpr ⟨q1.mem_iff.mp lm, q2.mem_iff.mp dm⟩
          cases this
      · rintro σ' H' ⟨v8, rfl, ex, h0⟩
        refine ⟨_, _, rfl, ex, fun h => ?_⟩
        have := h0 h
        rw [hv2] at this
        cases this
    · rintro σ' H' ⟨v7, v8, rfl, ex, h0⟩
      rcases rest with ⟨he, kF⟩ | ⟨_, x1, y1, kT, hno, rs, prs, hrs⟩
      · have := h0 he
        rw [hv1] at this
        cases this
      have e38 := e4.trans e48
      have lrs := prs.length
      have hWx := ex _ _ hW8
      have h1x := ex _ _ h18
      have h2x := ex _ _ h28
      refine ⟨_, rfl, D, rfl, ⟨_, SqL.of hWx⟩, fun D2 hD2 => lc_all (walk_list (xs := ys)) (by omega) hD2 (fun i y _ => y = .bl true) (fun H' e => SqL.of (e _ _ hWx)) (fun _ _ _ _ _ h => h) (fun _ _ _ _ _ _ h => h) ?_ ?_⟩
      · rintro i' y' _ H9 ac hi' e9 hD9 ⟨rfl, hy'⟩ R kR
        obtain ⟨c, hc, rc⟩ := paired_get prs hy'
        have cm := (hrs c).mp (List.mem_of_getElem? hc)
        refine ⟨rfl, _, rfl, f, rfl, ⟨_, SqL.of (e9 _ _ h1x)⟩, fun D3 hD3 => it_gen (walk_list (xs := vs1)) (fun i H' => Ex H9 H' ∧ H' D3 = some (.lst (((pairsF (L1.take i) L2).map fun q => decide (c = q)).map V.bl))) ⟨Ex.new hD3, upd_same⟩ (fun i H' _ h => SqL.of (h.1 _ _ (e9 _ _ h1x))) ?_ ?_⟩
        · rintro i x _ H10 hi ⟨e10, hD10⟩ ⟨rfl, hx⟩
          obtain ⟨l, hl, tl⟩ := paired_get p1 hx
          have lm : l ∈ L1 := List.mem_of_getElem? hl
          refine ⟨rfl, ?_⟩
          refine yesI ?_
          refine ⟨_, rfl, g, rfl, ⟨_, SqL.of (e10 _ _ (e9 _ _ h2x))⟩, it_gen (walk_list (xs := vs2)) (fun j H' => Ex H9 H' ∧ H' D3 = some (.lst ((((pairsF (L1.take i) L2) ++ (L2.take j).map fun b => (l, b)).map fun q => decide (c = q)).map V.bl))) ⟨e10, by simpa using hD10⟩ (fun j H' _ h => SqL.of (h.1 _ _ (e9 _ _ h2x))) ?_ ?_⟩
          · rintro j y _ H11 hj ⟨e11, hD11⟩ ⟨rfl, hy⟩
            obtain ⟨d, hd, td⟩ := paired_get p2 hy
            have dm : d ∈ L2 := List.mem_of_getElem? hd
            have e3x := ((e38.trans ex).trans e9).trans e11
            refine ⟨rfl, ?_⟩
            refine yesI ?_
            refine ⟨_, rfl, _, rfl, _, rfl, y', x, y, c, (l, d), rfl, rc.up (e13.trans e3x), tl.up e3x, td.up e3x, c1.wf l lm, c2.wf d dm, chi_none (hno l (q1.mem_iff.mp lm) d (q2.mem_iff.mp dm)), fun H12 e12 => ?_⟩
            have lp := pairs_len (L := L1.take i) (R := L2)
            have lq : (L1.take i).length * L2.length ≤ 2 * 2 := Nat.mul_le_mul (by rw [List.length_take]; omega) k2
            refine ⟨_, e12 _ _ hD11, sz_lt (by rw [List.length_map, List.length_map, List.length_append, List.length_map, List.length_take]; omega), Ex.mut (e11.trans e12) hD3, ?_⟩
            rw [List.take_add_one, hd]
            have eA : pairsF (L1.take i) L2 ++ List.map (fun b => (l, b)) (L2.take j ++ [d]) = (pairsF (L1.take i) L2 ++ List.map (fun b => (l, b)) (L2.take j)) ++ [(l, d)] := by
              rw [List.map_append, ← List.append_assoc]
              rfl
            show upd H12 D3 _ D3 = some (.lst (List.map V.bl (List.map (fun q => decide (c = q)) (pairsF (L1.take i) L2 ++ List.map (fun b => (l, b)) (L2.take j ++ [d])))))
            rw [eA, map_snoc, map_snoc]
            exact upd_same
          · rintro H11 ⟨e11, hD11⟩
            have e : L2.take vs2.length = L2 := List.take_of_length_le (by omega)
            rw [e] at hD11
            exact ⟨e11, by rw [pairs_step hl]; exact hD11⟩
        · rintro H10 ⟨e10, hD10⟩
          have e : L1.take vs1.length = L1 := List.take_of_length_le (by omega)
          rw [e] at hD10
          have ea : ((pairsF L1 L2).map fun q => decide (c = q)).any id = true := by
            rw [List.any_map, List.any_eq_true]
            exact ⟨c, mem_pairs.mpr ⟨q1.mem_iff.mpr cm.1, q2.mem_iff.mpr cm.2⟩, decide_eq_true rfl⟩
          refine ⟨D3, _, rfl, SqL.of hD10, ?_⟩
          rw [ea]
          exact kR _ _ e10 rfl
      · rintro bs H9 e9 hbs lbs gbs
        have eb := bl_of_get (h := fun _ => true) lbs gbs
        rw [eb] at hbs
        have eall : ((List.range ys.length).map fun _ => true).all id = true := by
          rw [List.all_eq_true]
          intro u hu
          obtain ⟨_, _, rfl⟩ := List.mem_map.mp hu
          rfl
        refine ⟨D2, _, rfl, SqL.of hbs, ?_⟩
        rw [eall]
        exact kT _ ((e18.trans ex).trans e9)
end
end Cu

/-! ## CuMin -/
set_option maxRecDepth 100000
set_option maxHeartbeats 4000000
namespace Cu
open PySem PySem.Spec PyProof.Rows L2 Evl
def rMinD (K : PySem.W.Frag) : List V → List V → Hp → VK → Prop := fun vs zs H Q => ∃ (a : Addr) (ns : List Int), vs = [.ref a] ∧ zs = [.non] ∧ SqL K H a (ns.map V.int) ∧ (ns = [] → Q .non H) ∧ ∀ m, m ∈ ns → (∀ y, y ∈ ns → m ≤ y) → Q (.int m) H
theorem fold_min : ∀ (ys : List Int) (x : Int), let m := ys.foldl (fun a y => if PySem.W.DatumOrd.lt y a = true then y else a) x; m ∈ x :: ys ∧ ∀ y ∈ x :: ys, m ≤ y
  | [], x => ⟨List.mem_cons_self, fun y h => by cases List.mem_singleton.mp h; exact Int.le_refl _⟩
  | z :: ys, x => by
    have lt_def : PySem.W.DatumOrd.lt z x = decide (z < x) := rfl
    show (List.foldl _ (if PySem.W.DatumOrd.lt z x = true then z else x) ys) ∈ _ ∧ _
    by_cases h : z < x
    · rw [if_pos (by rw [lt_def]; exact decide_eq_true h)]
      obtain ⟨h1, h2⟩ := fold_min ys z
      refine ⟨?_, fun y hy => ?_⟩
      · exact List.mem_cons_of_mem _ h1
      · show List.foldl (fun a y => if PySem.W.DatumOrd.lt y a = true then y else a) (if PySem.W.DatumOrd.lt z x = true then z else x) ys ≤ y
        rw [if_pos (by rw [lt_def]; exact decide_eq_true h)]
        rcases List.mem_cons.mp hy with e | e
        · have := h2 z List.mem_cons_self
          omega
        · exact h2 y e
    · have hf : ¬ PySem.W.DatumOrd.lt z x = true := by rw [lt_def]; simp [h]
      rw [if_neg hf]
      obtain ⟨h1, h2⟩ := fold_min ys x
      refine ⟨?_, fun y hy => ?_⟩
      · rcases List.mem_cons.mp h1 with e | e
        · exact List.mem_cons.mpr (.inl e)
        · exact List.mem_cons_of_mem _ (List.mem_cons_of_mem _ e)
      · show List.foldl (fun a y => if PySem.W.DatumOrd.lt y a = true then y else a) (if PySem.W.DatumOrd.lt z x = true then z else x) ys ≤ y
        rw [if_neg hf]
        rcases List.mem_cons.mp hy with e | e
        · exact h2 y (List.mem_cons.mpr (.inl e))
        · rcases List.mem_cons.mp e with e | e
          · have := h2 x List.mem_cons_self
            omega
          · exact h2 y (List.mem_cons_of_mem _ e)
theorem dp_ints {K : PySem.W.Frag} {H : Hp} : ∀ ns : List Int, DpAll K H (ns.map V.int) (ns.map PyData.int)
  | [] => .nil
  | n :: ns => .cons (.int n) (dp_ints ns)
theorem cr_minD {X : Cx} (hc : X.calm = true) (hu : X.A.units + 65 < cLine) : CallRK X (.builtin "min") [("default" : Str)] (rMinD X.K) := by
  intro pins s σ H xs zs us ws Q I r1 r2 h
  obtain ⟨a, ns, rfl, rfl, hs, qN, qS⟩ := h
  obtain ⟨its, rv, hl, _⟩ := I.list hs
  rw [Vals.ref1 r1]
  obtain ⟨w, rfl, rw0⟩ := vals1 r2
  cases rw0
  have hh : PySem.W.HoldAll s.heap its.toArray.toList ns := Dp.readsAll I _ _ _ (dp_ints ns) rv
  refine PySem.W.min_list_datum_default (α := Int) (I.ok.hd hc) hl.isList hh (by show X.A.units + 1 + 0 < cLine; omega) (fun e h' tk hk => ⟨.non, H, I.kept hk, rfl, qN e⟩) fun y ys i v h' tk e hi hv hk => ?_
  obtain ⟨as, hr⟩ := hv
  obtain ⟨m1, m2⟩ := fold_min ys y
  rw [← e] at m1 m2
  have hr2 : Reads h' v (.int (PySem.W.minOf y ys)) as := hr
  cases hr2
  exact ⟨.int (PySem.W.minOf y ys), H, I.kept hk, ⟨_, rfl⟩, qS _ m1 m2⟩
theorem pe_minD {X : Cx} {p pos : Pos} {e : Expr} {es : List Expr} {kws : List Keyword} {t tk : TA} (hc : X.calm = true) (hu : X.A.units + 65 < cLine) (hg : Gl X "min") (hm : X.mg "min" = none) (ha : PA X (e :: es) t) (hk : PK X kws tk)
    (he : backTo pos (starEach (e :: es) X.env) = (false, eval e X.env) :: backTo pos (starEach es X.env) := by rfl) (hpl : (backTo pos (starEach (e :: es) X.env)).any (·.1) = false := by rfl)
    (hall : (backToKw pos (keywordEach kws X.env)).all (·.1.isSome) = true := by rfl) (hnone : (backToKw pos (keywordEach kws X.env)).any (·.1.isNone) = false := by rfl) (hks : (backToKw pos (keywordEach kws X.env)).filterMap (·.1) = [("default" : Str)] := by rfl) :
    PE X (.Call (.Name "min" p) (e :: es) kws pos) (tCKw (rMinD X.K) t tk) :=
  pe_callBK (cr_minD hc hu) hg hm (by decide +kernel) ha hk (by decide) (by decide) he hpl hall hnone hks
end Cu

/-! ## CuSlot -/
set_option maxRecDepth 100000
set_option maxHeartbeats 4000000
namespace Cu
open PySem PySem.Spec PyProof.Rows L2 Evl
theorem pe_first {X : Cx} {n : Nat} {e : Expr} {es : List Expr} {kws : List Keyword} {t tk : TA} {p pos : Pos} (T : Txt X.K X.mg) (hr : Room n X.A) (ha : PA X (e :: es) t) (hkw : PK X kws tk) (hk : 5 ≤ n := by decide) (hg : Gl X "first_meeting" := by rfl)
    (hall : (backToKw pos (keywordEach kws X.env)).all (·.1.isSome) = true := by rfl) (hks : (backToKw pos (keywordEach kws X.env)).filterMap (·.1) = [("minute" : Str)] := by rfl) (he : starEach (e :: es) X.env = (false, eval e X.env) :: starEach es X.env := by rfl)
    (hpl : ((backTo pos (starEach (e :: es) X.env)).any (·.1) || (backToKw pos (keywordEach kws X.env)).any (·.1.isNone)) = false := by rfl) :
    PE X (.Call (.Name "first_meeting" p) (e :: es) kws pos) (tCallN 3 1 (spFirst X.K) (fun vs zs => vs ++ zs) E0 t tk) := by
  obtain ⟨fd0, F0⟩ := T.fFirstMeeting
  obtain ⟨fd, F, mv, b⟩ := (D_FirstMeeting T : ∃ fd, FnOk X.prog X.w X.K X.mg X.base CX0 5 (He.ga X.K "first_meeting") fd ["table", "one", "other", "minute"] (spFirst X.K) ∧ ∃ mv : List Value, KBn X.K fd ["table", "one", "other", "minute"] 3 ["minute"] (fun us ws => us ++ ws) (fun vs zs => vs ++ zs))
  exact pe_callN F (hr.mono hk) hg T.gFirstMeeting F0.kp b pass0 ha hkw hall hks (by decide) he hpl
/-- the Times of one ball at a point -/
def AtA (K : PySem.W.Frag) (H : Hp) (w h : Int) (q : Int × Int) (x : V) (b : Bl) : Prop := ∃ r R, x = .ref r ∧ ClsOk R (4 * 10 ^ 60) 4 (fun t => pos w h b t = q) ∧ TimesA K H r b.m none R
theorem AtA.up {K : PySem.W.Frag} {H H' : Hp} {w h : Int} {q : Int × Int} {x : V} {b : Bl} (e : Ex H H') (a : AtA K H w h q x b) : AtA K H' w h q x b := let ⟨r, R, z, c, t⟩ := a; ⟨r, R, z, c, t.up e⟩
def AtN (K : PySem.W.Frag) (H : Hp) (D : Addr) (w h : Int) (q : Int × Int) (x : V) (b : Bl) : Prop := ∃ r R dx cp, x = .ref r ∧ cp ≠ D ∧ ClsOk R (4 * 10 ^ 60) 4 (fun t => pos w h b t = q) ∧
  H r = some (.ins (He.ga K "Times") dx [("start", .int b.m), ("end", enV none), ("classes", .ref cp)]) ∧ LstC K H cp R
theorem AtN.up {K : PySem.W.Frag} {H H' : Hp} {D : Addr} {w h : Int} {q : Int × Int} {x : V} {b : Bl} (e : Ex H H') (a : AtN K H D w h q x b) : AtN K H' D w h q x b := let ⟨r, R, dx, cp, z, ne, c, t, l⟩ := a; ⟨r, R, dx, cp, z, ne, c, e _ _ t, l.up e⟩
theorem AtN.upd {K : PySem.W.Frag} {H : Hp} {D : Addr} {w h : Int} {q : Int × Int} {x : V} {b : Bl} {ac ac' : List V} (hD : H D = some (.lst ac)) (a : AtN K H D w h q x b) : AtN K (L2.upd H D (.lst ac')) D w h q x b := by
  obtain ⟨r, R, dx, cp, z, ne, c, t, l⟩ := a
  refine ⟨r, R, dx, cp, z, ne, c, ?_, l.upd hD ne⟩
  rw [upd_ne (ne_of t hD (fun z => by cases z))]
  exact t
theorem AtN.toA {K : PySem.W.Frag} {H : Hp} {D : Addr} {w h : Int} {q : Int × Int} {x : V} {b : Bl} (a : AtN K H D w h q x b) : AtA K H w h q x b := let ⟨r, R, dx, cp, z, ne, c, t, l⟩ := a; ⟨r, R, z, c, dx, cp, t, l⟩
section
variable {P : Program} {w : World} {K : PySem.W.Frag} {mg : Str → Option Value} {base : Heap}
def spWatched (K : PySem.W.Frag) : Sp := fun vs H Q _ => ∃ (t p ml : Addr) (pt : V) (u v g h : Int) (bs : List V) (Bs : List Bl) (ms : List Int), vs = [.ref t, .ref p, pt, .ref ml] ∧ TabA K H t u v ∧ Sz u v ∧ H p = some (.lst bs) ∧ Paired (BallA K H) bs Bs ∧ (∀ b ∈ Bs, BOk u v b) ∧ (Bs.map Bl.z).Nodup ∧ Bs.length ≤ 12 ∧
  TupC K H pt (g, h) ∧ 0 ≤ g ∧ g ≤ u ∧ 0 ≤ h ∧ h ≤ v ∧ H ml = some (.lst (ms.map V.int)) ∧ ms.length ≤ 100 ∧ (∀ m ∈ ms, 0 ≤ m) ∧ ∀ D H' ts, Ex H H' → H' D = some (.lst ts) → Paired (AtA K H' u v (g, h)) ts Bs → Q (.ref D) H'
abbrev NWatched : List Str := ["table", "balls", "point", "minutes", "minute", "ball"]
theorem scWatched : FnScope NWatched ["table", "balls", "point", "minutes"] (defScope sWatched) := ⟨rfl, rfl, rfl, by decide +kernel, rfl, by decide +kernel, by decide +kernel⟩
theorem D_Watched (T : Txt K mg) : Def P w K mg base 5 "watched" ["table", "balls", "point", "minutes"] (spWatched K) := by
  refine mk_def T.fWatched T.gWatched scWatched (fun _ _ _ _ _ _ us hl => match us, hl with | [_, _, _, _], _ => rfl) ?_ ?_
  · rintro vs H Q E ⟨t, p, ml, pt, u, v, g, h, bs, Bs, ms, rfl, _⟩
    rfl
  · rintro cdv A outer s0 H vs Q E hr ⟨t, p, ml, pt, u, v, g, h, bs, Bs, ms, rfl, ht, sz, hp, pb, ok, nu, ln, hpt, g0, g1, h0, h1, hml, lm, pm, k⟩
    have nd := scWatched.nd
    refine ⟨_, (pss_cons (ps_expr (pe_def (D_CheckBalls T) hr (pa_cons (pv 0) (pa_cons (pv 1) pa_nil))))
      (pss_cons (ps_expr (pe_met (D_TableCheckPoint T) (pv 0) T.cTable T.mTableCheckPoint hr (pa_cons (pv 2) pa_nil)))
      (pss_cons (ps_if (pt_val (pe_callB (cr_any rfl) (by rfl) T.zAny (by decide +kernel) (pa_cons (pe_lc (own := [("minute", 4)]) rfl nd (pi_list (pv 3)) (blkOk_by (N := NWatched) (sc := defScope sWatched) (by decide +kernel)) (fun _ _ _ _ _ => (pg_name (i := 4) nd rfl (Or.inl rfl))) (fun _ _ _ _ _ => pts_nil) (fun _ _ _ _ _ => (pe_cmpR op_lt (pv 4) pe_int (nomark _)))) pa_nil))) (pss_one ps_never) pss_nil)
      (pss_one (ps_ret (pe_lc (own := [("ball", 5)]) rfl nd (pi_list (pv 1)) (blkOk_by (N := NWatched) (sc := defScope sWatched) (by decide +kernel)) (fun _ _ _ _ _ => (pg_name (i := 5) nd rfl (Or.inl rfl))) (fun _ _ _ _ _ => pts_nil) (fun _ _ _ _ _ => (pe_def (D_AtPoint T) hr (pa_cons (pv 0) (pa_cons (pv 5) (pa_cons (pv 2) pa_nil))))))))))), ?_⟩
    have lb := pb.length
    refine ⟨_, rfl, _, rfl, t, p, u, v, bs, Bs, rfl, ht, hp, pb, ok, nu, ln, fun H1 e1 => ?_⟩
    obtain ⟨dt, pk, ht1⟩ := ht.up e1
    refine ⟨_, rfl, t, dt, _, rfl, ht1, rfl, _, rfl, t, u, v, g, h, _, rfl, ⟨dt, pk, ht1⟩, hpt.up e1, g0, g1, h0, h1, ?_⟩
    have hml1 := e1 _ _ hml
    refine ⟨_, rfl, ml, rfl, ⟨_, SqL.of hml1⟩, fun D hD => lc_all (walk_list (xs := ms.map V.int)) (by rw [List.length_map]; omega) hD (fun i y _ => y = .bl false) (fun H' e => SqL.of (e _ _ hml1)) (fun _ _ _ _ _ h => h) (fun _ _ _ _ _ _ h => h) ?_ ?_⟩
    · rintro i y _ H3 ac hi e3 hD3 ⟨rfl, hy⟩ R k2
      rw [List.getElem?_map] at hy
      obtain ⟨m, hm, rfl⟩ := Option.map_eq_some_iff.mp hy
      refine ⟨rfl, _, rfl, _, _, rfl, rfl, k2 _ _ (Ex.refl _) ?_⟩
      have m0 := pm m (List.mem_of_getElem? hm)
      show V.bl (decide (m < 0)) = _
      rw [decide_eq_false (by omega)]
    rintro ys H3 e3 hys ly gy
    have ey := bl_of_get (h := fun _ => false) ly gy
    rw [ey] at hys
    have ea : ((List.range (ms.map V.int).length).map fun _ => false).any id = false := by
      rw [← Bool.not_eq_true, List.any_eq_true]
      rintro ⟨b, hb, hb2⟩
      obtain ⟨_, _, rfl⟩ := List.mem_map.mp hb
      cases hb2
    refine ⟨D, _, rfl, SqL.of hys, ?_⟩
    rw [ea]
    refine ⟨false, rfl, iteF ?_⟩
    have e13 := e1.trans e3
    have hp3 := e13 _ _ hp
    refine ⟨_, rfl, p, rfl, ⟨_, SqL.of hp3⟩, fun D hD => lc_all (walk_list (xs := bs)) (by omega) hD (fun i y H' => ∀ b, Bs[i]? = some b → AtN K H' D u v (g, h) y b) (fun H' e => SqL.of (e _ _ hp3)) (fun i y Ha Hb e h c hc => (h c hc).up e) (fun i y Ha ac ac' hDa h c hc => (h c hc).upd hDa) ?_ ?_⟩
    · rintro i y _ H4 ac hi e4 hD4 ⟨rfl, hy⟩ R k2
      obtain ⟨b, hb, hbb⟩ := paired_get pb hy
      have e14 := e13.trans e4
      refine ⟨rfl, _, rfl, _, rfl, _, rfl, t, y, _, u, v, g, h, b, rfl, ht.up e14, sz, hbb.up e14, ok b (List.mem_of_getElem? hb), hpt.up e14, g0, g1, h0, h1, ?_⟩
      rintro r H5 R5 e5 c5 ⟨dx, cp, nc, q1, q2⟩
      refine k2 _ _ e5 fun b' hb' => ?_
      rw [hb] at hb'
      cases hb'
      exact ⟨r, R5, dx, cp, rfl, fun z => by rw [z, hD4] at nc; (cases nc), c5, q1, q2⟩
    · rintro ts H4 e4 hts lt gt
      exact k D H4 ts (e13.trans e4) hts (paired_of_get (by omega) fun i x b hx hb => (gt i x hx b hb).toA)
/-! ### meets_while -/
def spMeetsWhile (K : PySem.W.Frag) : Sp := fun vs H Q _ => ∃ (t r : Addr) (x y : V) (u v st : Int) (en : Option Int) (L : List (Int × Int)) (a b : Bl), vs = [.ref t, x, y, .ref r] ∧ TabA K H t u v ∧ Sz u v ∧ BallA K H x a ∧ BallA K H y b ∧ BOk u v a ∧ BOk u v b ∧
  TimesA K H r st en L ∧ AllWf L ∧ ModLe L Big ∧ L.length ≤ 1 ∧ 0 ≤ st ∧ (∀ e, en = some e → 0 ≤ e) ∧
  ∀ x H' R, Ex H H' → AllWf R → R.length ≤ 4 → (∀ t, Hit R t ↔ pos u v a t = pos u v b t ∧ Hit L t) → TimesA K H' x (mx (mx a.m b.m) st) en R → Q (.ref x) H'
abbrev NMeetsWhile : List Str := ["table", "one", "other", "times"]
theorem scMeetsWhile : FnScope NMeetsWhile ["table", "one", "other", "times"] (defScope sMeetsWhile) := ⟨rfl, rfl, rfl, by decide +kernel, rfl, by decide +kernel, by decide +kernel⟩
theorem D_MeetsWhile (T : Txt K mg) : Def P w K mg base 5 "meets_while" ["table", "one", "other", "times"] (spMeetsWhile K) := by
  refine mk_def T.fMeetsWhile T.gMeetsWhile scMeetsWhile (fun _ _ _ _ _ _ us hl => match us, hl with | [_, _, _, _], _ => rfl) ?_ ?_
  · rintro vs H Q E ⟨t, r, x, y, u, v, st, en, L, a, b, rfl, _⟩
    rfl
  · rintro cdv A outer s0 H vs Q E hr ⟨t, r, x, y, u, v, st, en, L, a, b, rfl, ht, sz, ha, hb, oa, ob, hr2, wl, ml, ll, h0, he, k⟩
    have nd := scMeetsWhile.nd
    refine ⟨_, (pss_one (ps_ret (pe_def (D_Both T) hr (pa_cons (pe_def (D_Meetings T) hr (pa_cons (pv 0) (pa_cons (pv 1) (pa_cons (pv 2) pa_nil)))) (pa_cons (pv 3) pa_nil))))), ?_⟩
    refine ⟨_, rfl, _, rfl, _, rfl, t, x, y, u, v, a, b, rfl, ht, sz, ha, hb, oa, ob, fun r1 H2 R1 e2 c1 h1 => ?_⟩
    have lp : R1.length * L.length ≤ 4 * 1 := Nat.mul_le_mul c1.ln ll
    refine ⟨_, rfl, r1, r, _, st, none, en, R1, L, rfl, h1, hr2.up e2, c1.wf, wl, (c1.big big4le (Nat.le_refl _)).md, ml, Nat.le_trans c1.ln (by decide), Nat.le_trans ll (by decide), Nat.le_trans lp (by decide), c1.dj, pw_short ll, mx_pos oa.m0 ob.m0, h0, (fun e h => he e h), fun x' H' R e pR hR => ?_⟩
    refine k x' H' R (e2.trans e) (wf_perm pR (cross_wf c1.wf wl)) ?_ (fun t => ?_) hR
    · have := pR.length_eq
      have := cross_len (l := R1) (r := L)
      omega
    · rw [hit_perm pR, cross_hit c1.wf wl, c1.hit]
end
end Cu

/-! ## CuSlot2 -/
set_option maxRecDepth 100000
set_option maxHeartbeats 4000000
namespace Cu
open PySem PySem.Spec PyProof.Rows L2 Evl
/-- no ball stands at the point in these minutes -/
def Free (w h : Int) (q : Int × Int) (Bs : List Bl) (len m : Int) : Prop := ∀ t, m ≤ t → t < m + len → ∀ b ∈ Bs, ¬ (b.m ≤ t ∧ pos w h b t = q)
theorem choose_list {α β : Type} : ∀ {fs : List β} {F : Nat → β → α → Prop}, (∀ (i : Nat) (y : β), fs[i]? = some y → ∃ o, F i y o) → ∃ os : List α, os.length = fs.length ∧ ∀ (i : Nat) (y : β) (o : α), fs[i]? = some y → os[i]? = some o → F i y o
  | [], F, _ => ⟨[], rfl, fun i y o h => by simp at h⟩
  | x :: fs, F, h => by
    obtain ⟨o, ho⟩ := h 0 x rfl
    obtain ⟨os, l1, l2⟩ := choose_list (fs := fs) (F := fun i => F (i + 1)) fun i y hy => h (i + 1) y hy
    refine ⟨o :: os, by simp [l1], fun i y o' h1 h2 => ?_⟩
    match i, h1, h2 with
    | 0, h1, h2 =>
      cases h1
      cases h2
      exact ho
    | i + 1, h1, h2 => exact l2 i y o' h1 h2
section
variable {P : Program} {w : World} {K : PySem.W.Frag} {mg : Str → Option Value} {base : Heap}
def spFirstSlot (K : PySem.W.Frag) : Sp := fun vs H Q _ => ∃ (t p : Addr) (pt : V) (u v g h s0 e0 ln : Int) (bs : List V) (Bs : List Bl), vs = [.ref t, .ref p, pt, .int s0, .int e0, .int ln] ∧ TabA K H t u v ∧ Sz u v ∧ H p = some (.lst bs) ∧ Paired (BallA K H) bs Bs ∧ (∀ b ∈ Bs, BOk u v b) ∧ (Bs.map Bl.z).Nodup ∧ Bs.length ≤ 12 ∧
  TupC K H pt (g, h) ∧ 0 ≤ g ∧ g ≤ u ∧ 0 ≤ h ∧ h ≤ v ∧ 0 ≤ s0 ∧ 0 ≤ e0 ∧ 1 ≤ ln ∧ e0 - s0 ≤ 10000 ∧ ∀ o H', Ex H H' → IsNext (fun m => m + ln - 1 ≤ e0 ∧ Free u v (g, h) Bs ln m) s0 o → Q (enV o) H'
abbrev NFirstSlot : List Str := ["table", "balls", "point", "start", "end", "length", "sets", "minute", "firsts", "blocked", "times", "first"]
theorem scFirstSlot : FnScope NFirstSlot ["table", "balls", "point", "start", "end", "length"] (defScope sFirstSlot) := ⟨rfl, rfl, rfl, by decide +kernel, rfl, by decide +kernel, by decide +kernel⟩
theorem D_FirstSlot (T : Txt K mg) : Def P w K mg base 6 "first_slot" ["table", "balls", "point", "start", "end", "length"] (spFirstSlot K) := by
  refine mk_def T.fFirstSlot T.gFirstSlot scFirstSlot (fun _ _ _ _ _ _ us hl => match us, hl with | [_, _, _, _, _, _], _ => rfl) ?_ ?_
  · rintro vs H Q E ⟨t, p, pt, u, v, g, h, s0, e0, ln, bs, Bs, rfl, _⟩
    rfl
  · rintro cdv A outer s H vs Q E hr ⟨t, p, pt, u, v, g, h, s0, e0, ln, bs, Bs, rfl, ht, sz, hp, pb, ok, nu, lb, hpt, g0, g1, h0, h1, hs0, he0, hln, hd, k⟩
    have nd := scFirstSlot.nd
    refine ⟨_, (pss_cons (ps_set (i := 6) nd rfl (Or.inl rfl) (pe_def (D_Watched T) hr (pa_cons (pv 0) (pa_cons (pv 1) (pa_cons (pv 2) (pa_cons (pe_lst (pa_cons (pv 3) (pa_cons (pv 4) pa_nil))) pa_nil))))))
      (pss_cons (ps_if (PW.pt (pw_or (pt_cmpR op_lt (pv 5) pe_int (nomark _)) (pw_or1 (pt_cmpR op_gt (pe_op op_sub (pv 4) (pv 3)) (pe_gi T.iMOSTMINUTES) (nomark _))))) (pss_one ps_never) pss_nil)
      (pss_cons (ps_set (i := 7) nd rfl (Or.inr rfl) (pv 3))
      (pss_cons (ps_while PassesOwn.never (pt_cmpR op_le (pe_op op_sub (pe_op op_add (pv 7) (pv 5)) pe_int) (pv 4) (nomark _)) (pss_cons (ps_setLc (i := 8) (own := [("times", 10)]) rfl nd rfl rfl (sw_true rfl rfl rfl (by decide +kernel)) (pi_list (pv 6)) (blkOk_by (N := NFirstSlot) (sc := defScope sFirstSlot) (by decide +kernel)) (fun _ _ _ _ _ => (pg_name (i := 10) nd rfl (Or.inl rfl))) (fun _ _ _ _ _ => pts_nil) (fun _ _ _ _ _ => (pe_met (D_TimesNextFrom T) (pv 10) T.cTimes T.mTimesNextFrom hr (pa_cons (pv 7) pa_nil))))
      (pss_cons (ps_set (i := 9) nd rfl (Or.inl rfl) (pe_minD rfl hr.units65 (by rfl) T.zMin (pa_cons (pe_lc (own := [("first", 11)]) rfl nd (pi_list (pv 8)) (blkOk_by (N := NFirstSlot) (sc := defScope sFirstSlot) (by decide +kernel)) (fun _ _ _ _ _ => (pg_name (i := 11) nd rfl (Or.inl rfl))) (fun _ _ _ _ _ => (pts_one (pt_cmpR op_notN (pv 11) pe_non (nomark _)))) (fun _ _ _ _ _ => (pv 11))) pa_nil) (pk_cons pe_non pk_nil)))
      (pss_cons (ps_if (PW.pt (pw_or (pt_cmpR op_isN (pv 9) pe_non (nomark _)) (pw_or1 (pt_cmpR op_gt (pv 9) (pe_op op_sub (pe_op op_add (pv 7) (pv 5)) pe_int) (nomark _))))) (pss_one (ps_ret (pv 7))) pss_nil)
      (pss_one (ps_set (i := 7) nd rfl (Or.inr rfl) (pe_op op_add (pv 9) pe_int)))))))
      (pss_one (ps_ret pe_non)))))), ?_⟩
    refine ⟨_, rfl, _, rfl, _, rfl, _, rfl, _, rfl, le2, fun ml nl => ?_⟩
    have hml : upd H ml (.lst [.int s0, .int e0]) ml = some (.lst [.int s0, .int e0]) := upd_same
    have e1 : Ex H (upd H ml (.lst [.int s0, .int e0])) := Ex.new nl
    generalize upd H ml (.lst [.int s0, .int e0]) = H1 at *
    refine ⟨t, p, ml, pt, u, v, g, h, bs, Bs, [s0, e0], rfl, ht.up e1, sz, e1 _ _ hp, Paired.mapP pb fun _ _ z => z.up e1, ok, nu, lb, hpt.up e1, g0, g1, h0, h1, hml, show 2 ≤ 100 by decide, ?_, fun D H2 ts e2 hts pts => ?_⟩
    · intro m hm
      rcases List.mem_cons.mp hm with e | e
      · omega
      · cases List.mem_singleton.mp e
        exact he0
    have e12 := e1.trans e2
    have lt := pts.length
    refine ⟨_, rfl, _, _, rfl, rfl, _, rfl, iteD (fun c => by omega) (fun _ => ?_)⟩
    refine ⟨_, rfl, _, rfl, _, _, rfl, rfl, _, _, rfl, rfl, _, rfl, iteD (fun c => by omega) (fun _ => ?_)⟩
    refine ⟨_, rfl, ?_⟩
    refine ⟨fun n σ' H' => ∃ (cur : Int) (v8 v9 : Option V), σ' = [some (.ref t), some (.ref p), some pt, some (.int s0), some (.int e0), some (.int ln), some (.ref D), some (.int cur), v8, v9, none, none] ∧ Ex H2 H' ∧ s0 ≤ cur ∧ (∀ m, s0 ≤ m → m < cur → ¬ Free u v (g, h) Bs ln m) ∧ n = (e0 + 1 - cur).toNat,
      ⟨_, s0, _, _, rfl, Ex.refl _, Int.le_refl _, fun m h1 h2 => by omega, rfl⟩, ?_⟩
    rintro n σ' H3 ⟨cur, v8, v9, rfl, e3, hc0, hcf, rfl⟩
    refine ⟨_, rfl, _, rfl, _, _, rfl, rfl, _, _, rfl, rfl, _, rfl, _, _, rfl, rfl, _, rfl, ?_⟩
    refine iteD (fun c => ?_) (fun c => ?_)
    · refine ⟨fun σ' H' => ∃ (cur' : Int) (v8 v9 : Option V), σ' = [some (.ref t), some (.ref p), some pt, some (.int s0), some (.int e0), some (.int ln), some (.ref D), some (.int cur'), v8, v9, none, none] ∧ Ex H2 H' ∧ cur < cur' ∧ (∀ m, s0 ≤ m → m < cur' → ¬ Free u v (g, h) Bs ln m), ?_, ?_⟩
      · rintro σ' H' ⟨cur', v8, v9, rfl, e4, hc1, hcf'⟩
        exact ⟨(e0 + 1 - cur').toNat, by omega, cur', v8, v9, rfl, e4, by omega, hcf', rfl⟩
      have hD3 := e3 _ _ hts
      refine ⟨_, rfl, D, rfl, ⟨_, SqL.of hD3⟩, fun D1 hD1 => lc_all (walk_list (xs := ts)) (by omega) hD1 (fun i y _ => ∃ o, y = enV o ∧ ∀ b, Bs[i]? = some b → IsNext (fun t => b.m ≤ t ∧ pos u v b t = (g, h)) cur o) (fun H' e => SqL.of (e _ _ hD3)) (fun _ _ _ _ _ h => h) (fun _ _ _ _ _ _ h => h) ?_ ?_⟩
      · rintro i y _ H4 ac hi e4 hD4 ⟨rfl, hy⟩ R k2
        obtain ⟨b, hb, r, R1, rfl, c1, dx, cp, q1, q2⟩ := paired_get pts hy
        have e34 := e3.trans e4
        refine ⟨rfl, _, rfl, r, dx, _, rfl, e34 _ _ q1, rfl, _, rfl, r, cur, b.m, none, R1, rfl, ⟨dx, cp, e34 _ _ q1, q2.up e34⟩, c1.wf, Nat.le_trans c1.ln (by decide), fun o H5 e5 io => ?_⟩
        refine k2 _ _ e5 ⟨o, rfl, fun b' hb' => ?_⟩
        rw [hb] at hb'
        cases hb'
        refine io.congr fun t _ => ?_
        constructor
        · rintro ⟨z1, _, z2⟩
          exact ⟨z1, (c1.hit t).mp z2⟩
        · rintro ⟨z1, z2⟩
          exact ⟨z1, (fun e he => nomatch he), (c1.hit t).mpr z2⟩
      rintro fs H4 e4 hfs lf gf
      obtain ⟨os, los, gos⟩ := choose_list gf
      have efs : fs = os.map enV := map_of_get los.symm fun i y hy o ho => (gos i y o hy ho).1
      refine ⟨_, rfl, D1, rfl, ⟨_, SqL.of hfs⟩, fun D2 hD2 => it_gen (walk_list (xs := fs)) (fun i H' => Ex H4 H' ∧ H' D2 = some (.lst (((os.take i).filterMap id).map V.int))) ⟨Ex.new hD2, upd_same⟩ (fun i H' _ h => SqL.of (h.1 _ _ hfs)) ?_ ?_⟩
      · rintro i y _ H5 hi ⟨e5, hD5⟩ ⟨rfl, hy⟩
        rw [efs, List.getElem?_map] at hy
        obtain ⟨o, ho, rfl⟩ := Option.map_eq_some_iff.mp hy
        refine ⟨rfl, ?_⟩
        refine ⟨_, rfl, rfl, _, rfl, ?_⟩
        have hsz : (((os.take i).filterMap id).map V.int).length < sizeLine := by
          have l1 := List.length_filterMap_le id (os.take i)
          have l2 := List.length_take (i := i) (l := os)
          exact sz_lt (by rw [List.length_map]; omega)
        cases o with
        | none =>
          refine iteF ?_
          refine ⟨e5, ?_⟩
          rw [List.take_add_one, ho, List.filterMap_append]
          show H5 D2 = some (.lst (List.map V.int (List.filterMap id (os.take i) ++ [])))
          rw [List.append_nil]
          exact hD5
        | some z =>
          refine iteT ?_
          refine ⟨_, rfl, _, hD5, hsz, Ex.mut e5 hD2, ?_⟩
          rw [List.take_add_one, ho, List.filterMap_append]
          show upd H5 D2 _ D2 = some (.lst (List.map V.int (List.filterMap id (os.take i) ++ [z])))
          rw [map_snoc]
          exact upd_same
      · rintro H5 ⟨e5, hD5⟩
        have e : os.take fs.length = os := List.take_of_length_le (by omega)
        rw [e] at hD5
        have e15 := ((e12.trans e3).trans e4).trans e5
        have none_free : ∀ m, s0 ≤ m → (∀ o ∈ os, ∀ x, o = some x → cur + ln - 1 < x) → Free u v (g, h) Bs ln cur := by
          rintro _ _ hall t' ht1 ht2 b hb ⟨z1, z2⟩
          obtain ⟨i, hi⟩ := List.mem_iff_getElem?.mp hb
          obtain ⟨hil, _⟩ := List.getElem?_eq_some_iff.mp hi
          have hio : os[i]? = some os[i] := List.getElem?_eq_getElem (by omega)
          have hif : fs[i]? = some fs[i] := List.getElem?_eq_getElem (by omega)
          have nxt := (gos i _ _ hif hio).2 b hi
          cases hoi : os[i] with
          | none =>
            rw [hoi] at nxt
            exact nxt t' ht1 ⟨z1, z2⟩
          | some x =>
            rw [hoi] at nxt
            have h3 := nxt.2.2 t' ht1 ⟨z1, z2⟩
            have h4 := hall _ (List.mem_of_getElem? hio) x hoi
            omega
        have c : cur + ln - 1 ≤ e0 := c
        refine ⟨D2, os.filterMap id, rfl, rfl, SqL.of hD5, fun hN => ?_, fun m hm hle => ?_⟩
        · refine ⟨_, rfl, rfl, _, rfl, ?_⟩
          refine iteT ?_
          refine iteT ?_
          refine ⟨_, rfl, k (some cur) _ (e15.trans (Ex.refl _)) ⟨hc0, ⟨c, none_free cur hc0 fun o ho x hx => ?_⟩, fun m' hm' ⟨z1, z2⟩ => ?_⟩⟩
          · have : x ∈ os.filterMap id := List.mem_filterMap.mpr ⟨o, ho, hx⟩
            rw [hN] at this
            cases this
          · rcases Int.lt_or_le m' cur with q | q
            · exact absurd z2 (hcf m' hm' q)
            · exact q
        · obtain ⟨o, ho, hom⟩ := List.mem_filterMap.mp hm
          have hom : o = some m := hom
          subst hom
          obtain ⟨i, hi⟩ := List.mem_iff_getElem?.mp ho
          obtain ⟨hil, _⟩ := List.getElem?_eq_some_iff.mp hi
          have hif : fs[i]? = some fs[i] := List.getElem?_eq_getElem (by omega)
          have hib : Bs[i]? = some Bs[i] := List.getElem?_eq_getElem (by omega)
          have nxt := (gos i _ _ hif hi).2 _ hib
          have bm : Bs[i] ∈ Bs := List.mem_of_getElem? hib
          refine ⟨_, rfl, rfl, _, rfl, ?_⟩
          refine iteF ?_
          refine ⟨_, rfl, _, rfl, _, rfl, _, _, rfl, rfl, _, _, rfl, rfl, _, _, rfl, rfl, _, rfl, ?_⟩
          refine iteD (fun c2 => ?_) (fun c2 => ?_)
          · have c2 : m > cur + ln - 1 := c2
            refine ⟨_, rfl, k (some cur) _ (e15.trans (Ex.refl _)) ⟨hc0, ⟨c, none_free cur hc0 fun o ho x hx => ?_⟩, fun m' hm' ⟨z1, z2⟩ => ?_⟩⟩
            · have := hle x (List.mem_filterMap.mpr ⟨o, ho, hx⟩)
              omega
            · rcases Int.lt_or_le m' cur with q | q
              · exact absurd z2 (hcf m' hm' q)
              · exact q
          · have c2 : ¬ m > cur + ln - 1 := c2
            have nm := nxt.1
            refine ⟨_, rfl, _, _, rfl, rfl, ?_⟩
            refine ⟨m + 1, _, _, rfl, (e3.trans e4).trans e5, by omega, fun m' h1 h2 hf => ?_⟩
            rcases Int.lt_or_le m' cur with q | q
            · exact hcf m' h1 q hf
            · exact hf m (by omega) (by omega) _ bm nxt.2.1
    · have c : ¬ cur + ln - 1 ≤ e0 := c
      refine k none _ (e12.trans e3) ?_
      rintro m hm ⟨z1, z2⟩
      exact hcf m hm (by omega) z2
end
end Cu

/-! ## CuLaw1 -/
set_option maxRecDepth 100000
set_option maxHeartbeats 4000000
namespace Cu
open PySem PySem.Spec PyProof.Rows L2 Evl
def InR (ns : List Int) : Prop := ∀ n ∈ ns, 0 ≤ n ∧ n < 1009
theorem InR.snoc {ns : List Int} {n : Int} (h : InR ns) (h0 : 0 ≤ n) (h1 : n < 1009) : InR (ns ++ [n]) := fun m hm => by
  rcases List.mem_append.mp hm with e | e
  · exact h m e
  · cases List.mem_singleton.mp e
    exact ⟨h0, h1⟩
theorem mod_r (i : Int) : 0 ≤ i % 1009 ∧ i % 1009 < 1009 := by omega
def Nums (H : Hp) (p : Addr) (ns : List Int) : Prop := H p = some (.lst (ns.map V.int)) ∧ ns.length = 60 ∧ InR ns
theorem at_num {ns : List Int} (hl : ns.length = 60) (hr : InR ns) {i : Int} (h0 : 0 ≤ i) (h1 : i < 60) : ∃ n, atI (ns.map V.int) i = some (.int n) ∧ 0 ≤ n ∧ n < 1009 := by
  have hi : i.toNat < ns.length := by omega
  have e : ns[i.toNat]? = some ns[i.toNat] := List.getElem?_eq_getElem hi
  refine ⟨ns[i.toNat], ?_, hr _ (List.mem_of_getElem? e)⟩
  unfold atI ixN
  rw [if_pos h0, if_pos (by rw [List.length_map]; omega)]
  show (ns.map V.int)[i.toNat]? = _
  rw [List.getElem?_map, e]
  rfl
section
variable {P : Program} {w : World} {K : PySem.W.Frag} {mg : Str → Option Value} {base : Heap}
def spLawRow : Sp := fun vs H Q _ => ∃ (c : Int) (m : Nat), vs = [.int c, .int (m : Int)] ∧ m ≤ 100 ∧ ∀ p H' ns, H p = none → Ex H H' → H' p = some (.lst (ns.map V.int)) → ns.length = m → InR ns → Q (.ref p) H'
abbrev NLawRow : List Str := ["_law_cell", "_law_many", "_law_row_here", "_law_rest", "_law_mixed", "_law_k"]
theorem scLawRow : FnScope NLawRow ["_law_cell", "_law_many"] (defScope sLawRow) := ⟨rfl, rfl, rfl, by decide +kernel, rfl, by decide +kernel, by decide +kernel⟩
theorem D_LawRow (T : Txt K mg) : Def P w K mg base 1 "_law_row" ["_law_cell", "_law_many"] spLawRow := by
  refine mk_def T.fLawRow T.gLawRow scLawRow (fun _ _ _ _ _ _ us hl => match us, hl with | [_, _], _ => rfl) ?_ ?_
  · rintro vs H Q E ⟨c, m, rfl, _⟩
    rfl
  · rintro cdv A outer s H vs Q E hr ⟨c, m, rfl, hm, k⟩
    have nd := scLawRow.nd
    refine ⟨_, (pss_cons (ps_set (i := 2) nd rfl (Or.inl rfl) (pe_lst pa_nil))
      (pss_cons (ps_set (i := 3) nd rfl (Or.inl rfl) (pe_callB call_abs (by rfl) T.zAbs (by decide +kernel) (pa_cons (pv 0) pa_nil)))
      (pss_cons (ps_set (i := 4) nd rfl (Or.inl rfl) (pe_op op_mod (pe_callTy call_int1 (by rfl) T.zInt (by decide +kernel) (pa_cons (pe_op op_add (pe_op op_mul (pv 3) pe_int) pe_int) pa_nil)) pe_int))
      (pss_cons (ps_for PassesOwn.never rfl (pi_range1 (by rfl) T.zRange (pa_cons (pv 1) pa_nil)) (pg_name (i := 5) nd rfl (Or.inl rfl)) (pss_cons (ps_set (i := 4) nd rfl (Or.inl rfl) (pe_op op_mod (pe_callTy call_int1 (by rfl) T.zInt (by decide +kernel) (pa_cons (pe_op op_add (pe_op op_mul (pv 4) pe_int) (pe_op op_mul pe_int (pe_op op_add (pv 5) pe_int))) pa_nil)) pe_int))
      (pss_one (ps_if (pt_cmpR op_ge (pe_callB call_abs (by rfl) T.zAbs (by decide +kernel) (pa_cons (pv 0) pa_nil)) (pe_op op_pow pe_int pe_int) (nomark _)) (pss_cons (ps_expr (pe_bm PySem.F.plainAttrs_list PySem.F.slot_list_append PySem.F.type_list_append mt_append (pv 2) (pa_cons (pe_op op_mod (pe_callTy call_int1 (by rfl) T.zInt (by decide +kernel) (pa_cons (pv 3) pa_nil)) pe_int) pa_nil)))
      (pss_one (ps_set (i := 3) nd rfl (Or.inl rfl) (pe_op op_fdiv (pv 3) pe_int)))) (pss_one (ps_expr (pe_bm PySem.F.plainAttrs_list PySem.F.slot_list_append PySem.F.type_list_append mt_append (pv 2) (pa_cons (pe_op op_mod (pe_callTy call_int1 (by rfl) T.zInt (by decide +kernel) (pa_cons (pe_op op_fdiv (pv 4) pe_int) pa_nil)) pe_int) pa_nil))))))))
      (pss_one (ps_ret (pv 2))))))), ?_⟩
    refine ⟨le0, fun r nr => ?_⟩
    have hr0 : upd H r (.lst []) r = some (.lst []) := upd_same
    have e1 : Ex H (upd H r (.lst [])) := Ex.new nr
    generalize upd H r (.lst []) = H1 at *
    refine ⟨_, rfl, _, rfl, ?_⟩
    refine ⟨_, rfl, _, _, rfl, rfl, .inr ⟨by decide, by decide⟩, _, _, rfl, rfl, .inl ⟨_, rfl, _, _, rfl, rfl, (by decide : (0 : Int) < 2147483647), ?_⟩⟩
    refine ⟨_, rfl, (m : Int), rfl, by omega, by omega, ?_⟩
    rw [show ((m : Int)).toNat = m by omega]
    refine for_range (fun i σ' H' => ∃ (ns : List Int) (x3 x4 : Int) (v5 : Option V), σ' = [some (.int c), some (.int m), some (.ref r), some (.int x3), some (.int x4), v5] ∧ Ex H H' ∧ H' r = some (.lst (ns.map V.int)) ∧ ns.length = i ∧ InR ns)
      ⟨[], _, _, _, rfl, e1, hr0, rfl, fun n h => nomatch h⟩ ?_ ?_
    · rintro i σ' H' hi ⟨ns, x3, x4, v5, rfl, ex, hrr, ln, inr⟩
      have hsz : (ns.map V.int).length < sizeLine := sz_lt (by rw [List.length_map]; omega)
      refine ⟨_, rfl, _, _, rfl, rfl, .inr ⟨by decide, by decide⟩, ?_⟩
      refine ⟨_, rfl, _, _, rfl, rfl, _, _, rfl, rfl, .inl ⟨by decide, by decide⟩, _, _, rfl, rfl, .inl ⟨_, rfl, _, _, rfl, rfl, (by decide : (0 : Int) < 2147483629), ?_⟩⟩
      refine ⟨_, rfl, _, rfl, _, _, rfl, rfl, ⟨by decide, by decide, by decide⟩, _, _, rfl, rfl, _, rfl, ?_⟩
      refine ite2 (fun _ => ?_) (fun _ => ?_)
      · refine ⟨_, rfl, .inl ⟨rfl, _, SqL.of hrr⟩, ?_⟩
        refine ⟨_, rfl, .inl ⟨_, rfl, _, _, rfl, rfl, (by decide : (0 : Int) < 1009), r, _, _, rfl, rfl, hrr, hsz, ?_⟩⟩
        refine ⟨_, rfl, _, _, rfl, rfl, ⟨by decide, by decide⟩, ?_⟩
        have hm2 := mod_r x3
        refine ⟨ns ++ [x3 % 1009], _, _, _, rfl, Ex.mut ex nr, ?_, by rw [List.length_append, ln]; rfl, inr.snoc hm2.1 hm2.2⟩
        rw [map_snoc]
        exact upd_same
      · refine ⟨_, rfl, .inl ⟨rfl, _, SqL.of hrr⟩, ?_⟩
        refine ⟨_, rfl, _, _, rfl, rfl, ⟨by decide, by decide⟩, .inl ⟨_, rfl, _, _, rfl, rfl, (by decide : (0 : Int) < 1009), r, _, _, rfl, rfl, hrr, hsz, ?_⟩⟩
        have hm2 := mod_r ((x4 * 16807 + 271 * ((0 : Int) + (i : Nat) + 3)) % 2147483629 / 7)
        refine ⟨ns ++ [((x4 * 16807 + 271 * ((0 : Int) + (i : Nat) + 3)) % 2147483629 / 7) % 1009], _, _, _, rfl, Ex.mut ex nr, ?_, by rw [List.length_append, ln]; rfl, inr.snoc hm2.1 hm2.2⟩
        rw [map_snoc]
        exact upd_same
    · rintro σ' H' ⟨ns, x3, x4, v5, rfl, ex, hrr, ln, inr⟩
      exact ⟨_, rfl, k r H' ns nr ex hrr ln inr⟩
def spLawNumbers (K : PySem.W.Frag) : Sp := fun vs H Q _ => ∃ (p : Addr) (xs : List Int), vs = [.ref p, .int 60] ∧ SqL K H p (xs.map V.int) ∧ ∀ D H' ns, Ex H H' → Nums H' D ns → Q (.ref D) H'
abbrev NLawNumbers : List Str := ["_law_script", "_law_many", "_law_cells", "_law_each", "_law_numbers_here", "_law_cell", "_law_number"]
theorem scLawNumbers : FnScope NLawNumbers ["_law_script", "_law_many"] (defScope sLawNumbers) := ⟨rfl, rfl, rfl, by decide +kernel, rfl, by decide +kernel, by decide +kernel⟩
theorem D_LawNumbers (T : Txt K mg) : Def P w K mg base 2 "_law_numbers" ["_law_script", "_law_many"] (spLawNumbers K) := by
  refine mk_def T.fLawNumbers T.gLawNumbers scLawNumbers (fun _ _ _ _ _ _ us hl => match us, hl with | [_, _], _ => rfl) ?_ ?_
  · rintro vs H Q E ⟨p, xs, rfl, _⟩
    rfl
  · rintro cdv A outer s H vs Q E hr ⟨p, xs, rfl, hp, k⟩
    have nd := scLawNumbers.nd
    refine ⟨_, (pss_cons (ps_set (i := 2) nd rfl (Or.inl rfl) (pe_slice sl_list (pv 0) po_none (po_some pe_int)))
      (pss_cons (ps_set (i := 3) nd rfl (Or.inl rfl) (pe_op op_add pe_int (pe_op op_fdiv (pv 1) (pe_callB (call_max2 rfl) (by rfl) T.zMax (by decide +kernel) (pa_cons pe_int (pa_cons (pe_callB call_len_seq (by rfl) T.zLen PySem.boot_len (pa_cons (pv 2) pa_nil)) pa_nil))))))
      (pss_cons (ps_set (i := 4) nd rfl (Or.inl rfl) (pe_lst pa_nil))
      (pss_cons (ps_for PassesOwn.never rfl (pi_list (pv 2)) (pg_name (i := 5) nd rfl (Or.inl rfl)) (pss_one (ps_for PassesOwn.never rfl (pi_list (pe_def (D_LawRow T) hr (pa_cons (pv 5) (pa_cons (pv 3) pa_nil)))) (pg_name (i := 6) nd rfl (Or.inl rfl)) (pss_one (ps_expr (pe_bm PySem.F.plainAttrs_list PySem.F.slot_list_append PySem.F.type_list_append mt_append (pv 4) (pa_cons (pv 6) pa_nil)))))))
      (pss_cons (ps_while PassesOwn.never (pt_cmpR op_lt (pe_callB call_len_seq (by rfl) T.zLen PySem.boot_len (pa_cons (pv 4) pa_nil)) (pv 1) (nomark _)) (pss_one (ps_expr (pe_bm PySem.F.plainAttrs_list PySem.F.slot_list_append PySem.F.type_list_append mt_append (pv 4) (pa_cons pe_int pa_nil)))))
      (pss_one (ps_ret (pe_slice sl_list (pv 4) po_none (po_some (pv 1)))))))))), ?_⟩
    refine ⟨_, rfl, _, rfl, p, _, rfl, hp, fun l nl => ?_⟩
    have ec : cutV (xs.map V.int) none (some 63) = (xs.take 63).map V.int := by
      have h : cutV (xs.map V.int) none (some 63) = (xs.map V.int).take 63 := cut_to (k := 63)
      rw [h, List.map_take]
    rw [ec]
    have hl : upd H l (.lst ((xs.take 63).map V.int)) l = some (.lst ((xs.take 63).map V.int)) := upd_same
    have e1 : Ex H (upd H l (.lst ((xs.take 63).map V.int))) := Ex.new nl
    have lc : (xs.take 63).length ≤ 63 := by rw [List.length_take]; omega
    generalize upd H l (.lst ((xs.take 63).map V.int)) = H1 at *
    generalize xs.take 63 = cs at *
    have lm : ((cs.map V.int).length : Int) = (cs.length : Int) := by rw [List.length_map]
    refine ⟨_, rfl, _, rfl, l, _, rfl, .inl (SqL.of hl), _, _, rfl, ?_⟩
    rw [lm]
    have hmx : 1 ≤ (if (cs.length : Int) > 1 then (cs.length : Int) else 1) ∧ (if (cs.length : Int) > 1 then (cs.length : Int) else 1) ≤ 63 := by split <;> omega
    generalize (if (cs.length : Int) > 1 then (cs.length : Int) else 1) = mm at *
    refine ⟨_, _, rfl, rfl, ⟨by omega, by omega⟩, _, _, rfl, rfl, ?_⟩
    obtain ⟨each, he, he2⟩ : ∃ n : Nat, (1 : Int) + 60 / mm = (n : Int) ∧ n ≤ 61 := by
      have h1 : 0 ≤ 60 / mm := Int.ediv_nonneg (by decide) (by omega)
      have h2 : 60 / mm ≤ 60 := Int.ediv_le_self _ (by decide)
      exact ⟨(1 + 60 / mm).toNat, by omega, by omega⟩
    show gName 3 (V.int (1 + 60 / mm)) _ _ _
    rw [he]
    refine ⟨le0, fun r nr => ?_⟩
    have hr0 : upd H1 r (.lst []) r = some (.lst []) := upd_same
    have e2 : Ex H1 (upd H1 r (.lst [])) := Ex.new nr
    have nr0 := fresh_back e1 nr
    generalize upd H1 r (.lst []) = H2 at *
    have hl2 := e2 _ _ hl
    refine ⟨_, rfl, l, rfl, ⟨_, SqL.of hl2⟩, for_list (K := K) (a := l) (xs := cs.map V.int) (fun i σ' H' => ∃ (ns : List Int) (v5 v6 : Option V), σ' = [some (.ref p), some (.int 60), some (.ref l), some (.int each), some (.ref r), v5, v6] ∧ Ex H1 H' ∧ H' l = some (.lst (cs.map V.int)) ∧ H' r = some (.lst (ns.map V.int)) ∧ ns.length = i * each ∧ InR ns)
      ⟨[], _, _, rfl, e2, hl2, hr0, by simp, fun n h => nomatch h⟩ (fun i σ' H' _ ⟨_, _, _, _, _, e, _⟩ => SqL.of e) ?_ ?_⟩
    · rintro i x σ' H' hi ⟨ns, v5, v6, rfl, ex, hl3, hr3, ln, inr⟩
      obtain ⟨hil, _⟩ := List.getElem?_eq_some_iff.mp hi
      rw [List.length_map] at hil
      rw [List.getElem?_map] at hi
      obtain ⟨c, hc, rfl⟩ := Option.map_eq_some_iff.mp hi
      refine ⟨_, rfl, _, rfl, c, each, rfl, by omega, fun q H3 ms nq e3 hq lq iq => ?_⟩
      have nqr : q ≠ r := fun z => by rw [z, hr3] at nq; cases nq
      have lie : i * each ≤ 62 * 61 := Nat.mul_le_mul (by omega) he2
      refine ⟨q, rfl, ⟨_, SqL.of hq⟩, for_list (K := K) (a := q) (xs := ms.map V.int) (fun j σ' H' => ∃ (v6 : Option V), σ' = [some (.ref p), some (.int 60), some (.ref l), some (.int each), some (.ref r), some (.int c), v6] ∧ Ex H1 H' ∧ H' l = some (.lst (cs.map V.int)) ∧ H' q = some (.lst (ms.map V.int)) ∧ H' r = some (.lst ((ns ++ ms.take j).map V.int)) ∧ InR (ns ++ ms.take j))
        ⟨_, rfl, ex.trans e3, e3 _ _ hl3, hq, by simpa using e3 _ _ hr3, by simpa using inr⟩ (fun i σ' H' _ ⟨_, _, _, _, e, _⟩ => SqL.of e) ?_ ?_⟩
      · rintro j y σ' H' hj ⟨v6, rfl, ex, hl4, hq4, hr4, inr4⟩
        rw [List.getElem?_map] at hj
        obtain ⟨d, hd, rfl⟩ := Option.map_eq_some_iff.mp hj
        have hsz : ((ns ++ ms.take j).map V.int).length < sizeLine := by
          have := List.length_take (i := j) (l := ms)
          exact sz_lt (by rw [List.length_map, List.length_append]; omega)
        refine ⟨_, rfl, .inl ⟨rfl, _, SqL.of hr4⟩, ?_⟩
        refine ⟨_, rfl, r, _, _, rfl, rfl, hr4, hsz, ?_⟩
        have nlr : l ≠ r := fun z => by rw [z] at hl; rw [hl] at nr; cases nr
        have et : ms.take (j + 1) = ms.take j ++ [d] := by
          rw [List.take_add_one, hd]
          rfl
        have idd := iq d (List.mem_of_getElem? hd)
        refine ⟨_, rfl, Ex.mut ex nr, (upd_ne nlr).trans hl4, (upd_ne nqr).trans hq4, ?_, ?_⟩
        · rw [et, ← List.append_assoc, map_snoc]
          exact upd_same
        · rw [et, ← List.append_assoc]
          exact inr4.snoc idd.1 idd.2
      · rintro σ' H' ⟨v6, rfl, ex, hl4, hq4, hr4, inr4⟩
        have e : ms.take (ms.map V.int).length = ms := List.take_of_length_le (by rw [List.length_map]; omega)
        rw [e] at hr4 inr4
        exact ⟨_, _, _, rfl, ex, hl4, hr4, by rw [List.length_append, ln, lq, Nat.succ_mul], inr4⟩
    · rintro σ' H' ⟨ns, v5, v6, rfl, ex, hl3, hr3, ln, inr⟩
      have lie : ns.length ≤ 63 * 61 := by
        rw [ln, List.length_map]
        exact Nat.mul_le_mul lc he2
      refine ⟨fun n σ' H' => ∃ (ns : List Int), σ' = [some (.ref p), some (.int 60), some (.ref l), some (.int each), some (.ref r), v5, v6] ∧ Ex H1 H' ∧ H' r = some (.lst (ns.map V.int)) ∧ ns.length ≤ 63 * 61 ∧ InR ns ∧ n = 60 - ns.length,
        ⟨_, ns, rfl, ex, hr3, lie, inr, rfl⟩, ?_⟩
      rintro n σ' H3 ⟨ns, rfl, ex3, hr4, ln4, inr4, rfl⟩
      refine ⟨_, rfl, r, _, rfl, .inl (SqL.of hr4), _, rfl, _, _, rfl, rfl, _, rfl, iteD (fun c => ?_) (fun c => ?_)⟩
      · have c : ((ns.map V.int).length : Int) < 60 := c
        rw [List.length_map] at c
        refine ⟨fun σ' H' => ∃ (ms : List Int), σ' = [some (.ref p), some (.int 60), some (.ref l), some (.int each), some (.ref r), v5, v6] ∧ Ex H1 H' ∧ H' r = some (.lst (ms.map V.int)) ∧ ms.length ≤ 63 * 61 ∧ InR ms ∧ ms.length = ns.length + 1, ?_, ?_⟩
        · rintro σ' H' ⟨ms, rfl, ex5, hr5, ln5, inr5, lm5⟩
          exact ⟨60 - ms.length, by omega, ms, rfl, ex5, hr5, ln5, inr5, rfl⟩
        · refine ⟨_, rfl, .inl ⟨rfl, _, SqL.of hr4⟩, ?_⟩
          refine ⟨r, _, _, rfl, rfl, hr4, sz_lt (by rw [List.length_map]; omega), ?_⟩
          refine ⟨ns ++ [0], rfl, Ex.mut ex3 nr, ?_, by rw [List.length_append]; show ns.length + 1 ≤ 63 * 61; omega, inr4.snoc (by decide) (by decide), by rw [List.length_append]; rfl⟩
          rw [map_snoc]
          exact upd_same
      · have c : ¬ ((ns.map V.int).length : Int) < 60 := c
        rw [List.length_map] at c
        refine ⟨_, rfl, _, rfl, _, rfl, r, _, rfl, SqL.of hr4, fun z nz => ?_⟩
        have ec : cutV (ns.map V.int) none (some 60) = (ns.take 60).map V.int := by
          have h : cutV (ns.map V.int) none (some 60) = (ns.map V.int).take 60 := cut_to (k := 60)
          rw [h, List.map_take]
        rw [ec]
        exact k z _ (ns.take 60) ((e1.trans ex3).trans (Ex.new nz)) ⟨upd_same, by rw [List.length_take]; omega, fun n hn => inr4 n (List.mem_of_mem_take hn)⟩
end
end Cu

/-! ## CuLaw2 -/
set_option maxRecDepth 100000
set_option maxHeartbeats 4000000
namespace Cu
open PySem PySem.Spec PyProof.Rows L2 Evl
section
variable {P : Program} {w : World} {K : PySem.W.Frag} {mg : Str → Option Value} {base : Heap}
def spLawPick : Sp := fun vs H Q _ => ∃ (p : Addr) (ns : List Int) (i m : Int), vs = [.ref p, .int i, .int m] ∧ Nums H p ns ∧ 0 ≤ i ∧ i < 60 ∧ 0 < m ∧ ∀ n, 0 ≤ n → n < m → Q (.int n) H
abbrev NLawPick : List Str := ["_law_numbers_here", "_law_at_here", "_law_most"]
theorem scLawPick : FnScope NLawPick ["_law_numbers_here", "_law_at_here", "_law_most"] (defScope sLawPick) := ⟨rfl, rfl, rfl, by decide +kernel, rfl, by decide +kernel, by decide +kernel⟩
theorem D_LawPick (T : Txt K mg) : Def P w K mg base 1 "_law_pick" ["_law_numbers_here", "_law_at_here", "_law_most"] spLawPick := by
  refine mk_def T.fLawPick T.gLawPick scLawPick (fun _ _ _ _ _ _ us hl => match us, hl with | [_, _, _], _ => rfl) ?_ ?_
  · rintro vs H Q E ⟨p, ns, i, m, rfl, _⟩
    rfl
  · rintro cdv A outer s H vs Q E hr ⟨p, ns, i, m, rfl, ⟨hp, hl, hi⟩, i0, i1, m0, k⟩
    have nd := scLawPick.nd
    refine ⟨_, (pss_one (ps_ret (pe_op op_mod (pe_callTy call_int1 (by rfl) T.zInt (by decide +kernel) (pa_cons (pe_ix ix_list (pv 0) (pv 1) (fun _ _ => rfl)) pa_nil)) (pv 2)))), ?_⟩
    obtain ⟨n, hn, _, _⟩ := at_num hl hi i0 i1
    refine ⟨_, rfl, _, rfl, p, _, _, _, rfl, rfl, SqL.of hp, hn, .inl ⟨_, rfl, _, rfl, _, _, rfl, rfl, m0, ?_⟩⟩
    exact k _ (Int.emod_nonneg _ (by omega)) (Int.emod_lt_of_pos _ m0)
def spLawBig : Sp := fun vs H Q _ => ∃ (p : Addr) (ns : List Int) (i : Int), vs = [.ref p, .int i] ∧ Nums H p ns ∧ 0 ≤ i ∧ i ≤ 56 ∧ ∀ n, 0 ≤ n → Q (.int n) H
abbrev NLawBig : List Str := ["_law_numbers_here", "_law_at_here"]
theorem scLawBig : FnScope NLawBig ["_law_numbers_here", "_law_at_here"] (defScope sLawBig) := ⟨rfl, rfl, rfl, by decide +kernel, rfl, by decide +kernel, by decide +kernel⟩
theorem D_LawBig (T : Txt K mg) : Def P w K mg base 1 "_law_big" ["_law_numbers_here", "_law_at_here"] spLawBig := by
  refine mk_def T.fLawBig T.gLawBig scLawBig (fun _ _ _ _ _ _ us hl => match us, hl with | [_, _], _ => rfl) ?_ ?_
  · rintro vs H Q E ⟨p, ns, i, rfl, _⟩
    rfl
  · rintro cdv A outer s H vs Q E hr ⟨p, ns, i, rfl, ⟨hp, hl, hi⟩, i0, i1, k⟩
    have nd := scLawBig.nd
    refine ⟨_, (pss_one (ps_ret (pe_op op_add (pe_op op_add (pe_op op_add (pe_op op_mul (pe_ix ix_list (pv 0) (pv 1) (fun _ _ => rfl)) (pe_op op_pow pe_int pe_int)) (pe_op op_mul (pe_ix ix_list (pv 0) (pe_op op_add (pv 1) pe_int) (fun _ _ => rfl)) (pe_op op_pow pe_int pe_int))) (pe_op op_mul (pe_ix ix_list (pv 0) (pe_op op_add (pv 1) pe_int) (fun _ _ => rfl)) (pe_op op_pow pe_int pe_int))) (pe_ix ix_list (pv 0) (pe_op op_add (pv 1) pe_int) (fun _ _ => rfl))))), ?_⟩
    obtain ⟨a, ha, a0, a1⟩ := at_num hl hi (i := i) (by omega) (by omega)
    obtain ⟨b, hb, b0, b1⟩ := at_num hl hi (i := i + 1) (by omega) (by omega)
    obtain ⟨c, hc, c0, c1⟩ := at_num hl hi (i := i + 2) (by omega) (by omega)
    obtain ⟨d, hd, d0, d1⟩ := at_num hl hi (i := i + 3) (by omega) (by omega)
    have hq : SqL K H p (ns.map V.int) := SqL.of hp
    refine ⟨_, rfl, _, rfl, p, _, _, _, rfl, rfl, hq, ha, _, _, rfl, rfl, ⟨by decide, by decide, by decide⟩, _, _, rfl, rfl, .inl ⟨by omega, by omega⟩, ?_⟩
    refine ⟨_, rfl, _, rfl, _, _, rfl, rfl, p, _, _, _, rfl, rfl, hq, hb, _, _, rfl, rfl, ⟨by decide, by decide, by decide⟩, _, _, rfl, rfl, .inl ⟨by omega, by omega⟩, _, _, rfl, rfl, ?_⟩
    refine ⟨_, rfl, _, rfl, _, _, rfl, rfl, p, _, _, _, rfl, rfl, hq, hc, _, _, rfl, rfl, ⟨by decide, by decide, by decide⟩, _, _, rfl, rfl, .inl ⟨by omega, by omega⟩, _, _, rfl, rfl, ?_⟩
    refine ⟨_, rfl, _, rfl, _, _, rfl, rfl, p, _, _, _, rfl, rfl, hq, hd, _, _, rfl, rfl, ?_⟩
    refine k _ ?_
    have p1 : (0 : Int) ≤ 10 ^ (27 : Int).toNat := by decide
    have p2 : (0 : Int) ≤ 10 ^ (18 : Int).toNat := by decide
    have p3 : (0 : Int) ≤ 10 ^ (9 : Int).toNat := by decide
    have q1 := Int.mul_nonneg a0 p1
    have q2 := Int.mul_nonneg b0 p2
    have q3 := Int.mul_nonneg c0 p3
    omega
def spLawFold : Sp := fun vs H Q _ => ∃ s p : Int, vs = [.int s, .int p] ∧ 1 ≤ s ∧ Q (.int (fold s p)) H
abbrev NLawFold : List Str := ["_law_size", "_law_place_here", "_law_rest"]
theorem scLawFold : FnScope NLawFold ["_law_size", "_law_place_here"] (defScope sLawFold) := ⟨rfl, rfl, rfl, by decide +kernel, rfl, by decide +kernel, by decide +kernel⟩
theorem D_LawFold (T : Txt K mg) : Def P w K mg base 1 "_law_fold" ["_law_size", "_law_place_here"] spLawFold := by
  refine mk_def T.fLawFold T.gLawFold scLawFold (fun _ _ _ _ _ _ us hl => match us, hl with | [_, _], _ => rfl) ?_ ?_
  · rintro vs H Q E ⟨s, p, rfl, _⟩
    rfl
  · rintro cdv A outer s0 H vs Q E hr ⟨s, p, rfl, hs, k⟩
    have nd := scLawFold.nd
    refine ⟨_, (pss_cons (ps_set (i := 2) nd rfl (Or.inl rfl) (pe_op op_mod (pe_callTy call_int1 (by rfl) T.zInt (by decide +kernel) (pa_cons (pv 1) pa_nil)) (pe_op op_mul pe_int (pv 0))))
      (pss_one (ps_ret (pe_callB (call_min2 rfl) (by rfl) T.zMin (by decide +kernel) (pa_cons (pv 2) (pa_cons (pe_op op_sub (pe_op op_mul pe_int (pv 0)) (pv 2)) pa_nil)))))), ?_⟩
    refine ⟨_, rfl, .inl ⟨_, rfl, _, rfl, _, _, rfl, rfl, .inl ⟨by decide, by decide⟩, _, _, rfl, rfl, by omega, ?_⟩⟩
    refine ⟨_, rfl, _, rfl, _, _, rfl, rfl, .inl ⟨by decide, by decide⟩, _, rfl, _, _, rfl, rfl, _, _, rfl, ?_⟩
    exact k
def spLawPlace (K : PySem.W.Frag) : Sp := fun vs H Q _ => ∃ (u v t : Int) (x : V) (b : Bl), vs = [.int u, .int v, x, .int t] ∧ 1 ≤ u ∧ 1 ≤ v ∧ BallA K H x b ∧ Step b.u ∧ Step b.v ∧ ∀ q H', Ex H H' → TupC K H' q (pos u v b t) → Q q H'
abbrev NLawPlace : List Str := ["_law_width", "_law_height", "_law_ball", "_law_minute", "_law_gone"]
theorem scLawPlace : FnScope NLawPlace ["_law_width", "_law_height", "_law_ball", "_law_minute"] (defScope sLawPlace) := ⟨rfl, rfl, rfl, by decide +kernel, rfl, by decide +kernel, by decide +kernel⟩
theorem D_LawPlace (T : Txt K mg) : Def P w K mg base 2 "_law_place" ["_law_width", "_law_height", "_law_ball", "_law_minute"] (spLawPlace K) := by
  refine mk_def T.fLawPlace T.gLawPlace scLawPlace (fun _ _ _ _ _ _ us hl => match us, hl with | [_, _, _, _], _ => rfl) ?_ ?_
  · rintro vs H Q E ⟨u, v, t, x, b, rfl, _⟩
    rfl
  · rintro cdv A outer s0 H vs Q E hr ⟨u, v, t, _, b, rfl, hu, hv, ⟨p, rfl, hb⟩, su, sv, k⟩
    have nd := scLawPlace.nd
    refine ⟨_, (pss_cons (ps_set (i := 4) nd rfl (Or.inl rfl) (pe_op op_sub (pv 3) (pe_ix ix_tup (pv 2) pe_int (fun _ _ => rfl))))
      (pss_one (ps_ret (pe_tup (pa_cons (pe_def (D_LawFold T) hr (pa_cons (pv 0) (pa_cons (pe_op op_add (pe_ix ix_tup (pv 2) pe_int (fun _ _ => rfl)) (pe_op op_mul (pe_ix ix_tup (pv 2) pe_int (fun _ _ => rfl)) (pv 4))) pa_nil))) (pa_cons (pe_def (D_LawFold T) hr (pa_cons (pv 1) (pa_cons (pe_op op_add (pe_ix ix_tup (pv 2) pe_int (fun _ _ => rfl)) (pe_op op_mul (pe_ix ix_tup (pv 2) pe_int (fun _ _ => rfl)) (pv 4))) pa_nil))) pa_nil)))))), ?_⟩
    have u1 := su.le
    have v1 := sv.le
    refine ⟨_, rfl, _, rfl, p, _, _, _, rfl, rfl, hb, rfl, _, _, rfl, rfl, ?_⟩
    refine ⟨_, rfl, _, rfl, p, _, _, _, rfl, rfl, hb, rfl, _, rfl, p, _, _, _, rfl, rfl, hb, rfl, _, rfl, b.u, t - b.m, rfl, rfl, .inl ⟨by omega, by omega⟩, _, _, rfl, rfl, u, _, rfl, hu, ?_⟩
    refine ⟨_, rfl, _, rfl, p, _, _, _, rfl, rfl, hb, rfl, _, rfl, p, _, _, _, rfl, rfl, hb, rfl, _, rfl, b.v, t - b.m, rfl, rfl, .inl ⟨by omega, by omega⟩, _, _, rfl, rfl, v, _, rfl, hv, le2, fun n nn => ?_⟩
    exact k _ _ (Ex.new nn) ⟨n, rfl, SqT.of upd_same⟩
def spLawBigBall (K : PySem.W.Frag) : Sp := fun vs H Q _ => ∃ (p : Addr) (ns : List Int) (i w h : Int) (z : Str), vs = [.ref p, .int i, .str z, .int w, .int h] ∧ Nums H p ns ∧ 0 ≤ i ∧ i ≤ 47 ∧ NameOk z ∧ 1 ≤ w ∧ 1 ≤ h ∧ ∀ x b H', Ex H H' → BallA K H' x b → BOk w h b → b.z = z → b.m < 10 ^ 12 → Q x H'
abbrev NLawBigBall : List Str := ["_law_numbers_here", "_law_at_here", "_law_name", "_law_width", "_law_height", "_law_way", "_law_x", "_law_y"]
theorem scLawBigBall : FnScope NLawBigBall ["_law_numbers_here", "_law_at_here", "_law_name", "_law_width", "_law_height"] (defScope sLawBigBall) := ⟨rfl, rfl, rfl, by decide +kernel, rfl, by decide +kernel, by decide +kernel⟩
theorem D_LawBigBall (T : Txt K mg) : Def P w K mg base 2 "_law_big_ball" ["_law_numbers_here", "_law_at_here", "_law_name", "_law_width", "_law_height"] (spLawBigBall K) := by
  refine mk_def T.fLawBigBall T.gLawBigBall scLawBigBall (fun _ _ _ _ _ _ us hl => match us, hl with | [_, _, _, _, _], _ => rfl) ?_ ?_
  · rintro vs H Q E ⟨p, ns, i, w, h, z, rfl, _⟩
    rfl
  · rintro cdv A outer s0 H vs Q E hr ⟨p, ns, i, w, h, z, rfl, hn, i0, i1, hz, hw, hh, k⟩
    have nd := scLawBigBall.nd
    refine ⟨_, (pss_cons (ps_set (i := 5) nd rfl (Or.inl rfl) (pe_ix ix_list (pe_lst (pa_cons (pe_tup (pa_cons pe_int (pa_cons pe_int pa_nil))) (pa_cons (pe_tup (pa_cons pe_int (pa_cons (pe_un un_neg pe_int) pa_nil))) (pa_cons (pe_tup (pa_cons (pe_un un_neg pe_int) (pa_cons pe_int pa_nil))) (pa_cons (pe_tup (pa_cons (pe_un un_neg pe_int) (pa_cons (pe_un un_neg pe_int) pa_nil))) (pa_cons (pe_tup (pa_cons pe_int (pa_cons pe_int pa_nil))) (pa_cons (pe_tup (pa_cons pe_int (pa_cons (pe_un un_neg pe_int) pa_nil))) pa_nil))))))) (pe_def (D_LawPick T) hr (pa_cons (pv 0) (pa_cons (pv 1) (pa_cons pe_int pa_nil)))) (fun _ _ => rfl)))
      (pss_cons (ps_set (i := 6) nd rfl (Or.inl rfl) (pe_op op_mod (pe_callTy call_int1 (by rfl) T.zInt (by decide +kernel) (pa_cons (pe_def (D_LawBig T) hr (pa_cons (pv 0) (pa_cons (pe_op op_add (pv 1) pe_int) pa_nil))) pa_nil)) (pe_op op_add (pv 3) pe_int)))
      (pss_cons (ps_set (i := 7) nd rfl (Or.inl rfl) (pe_op op_mod (pe_callTy call_int1 (by rfl) T.zInt (by decide +kernel) (pa_cons (pe_def (D_LawBig T) hr (pa_cons (pv 0) (pa_cons (pe_op op_add (pv 1) pe_int) pa_nil))) pa_nil)) (pe_op op_add (pv 4) pe_int)))
      (pss_one (ps_ret (pe_tup (pa_cons (pv 2) (pa_cons (pv 6) (pa_cons (pv 7) (pa_cons (pe_ix ix_tup (pv 5) pe_int (fun _ _ => rfl)) (pa_cons (pe_ix ix_tup (pv 5) pe_int (fun _ _ => rfl)) (pa_cons (pe_op op_mod (pe_callTy call_int1 (by rfl) T.zInt (by decide +kernel) (pa_cons (pe_def (D_LawBig T) hr (pa_cons (pv 0) (pa_cons (pe_op op_add (pv 1) pe_int) pa_nil))) pa_nil)) (pe_op op_pow pe_int pe_int)) pa_nil)))))))))))), ?_⟩
    refine ⟨le2, fun t1 n1 => ?_⟩
    have g1 : upd H t1 (.tup [.int 1, .int 1]) t1 = some (.tup [.int 1, .int 1]) := upd_same
    have e1 : Ex H (upd H t1 (.tup [.int 1, .int 1])) := Ex.new n1
    generalize upd H t1 (.tup [.int 1, .int 1]) = H1 at *
    refine ⟨_, rfl, le2, fun t2 n2 => ?_⟩
    have g2 : upd H1 t2 (.tup [.int (1), .int (-1)]) t2 = some (.tup [.int (1), .int (-1)]) := upd_same
    have e2 : Ex H1 (upd H1 t2 (.tup [.int (1), .int (-1)])) := Ex.new n2
    obtain ⟨H2, hH2⟩ : ∃ H', upd H1 t2 (.tup [.int (1), .int (-1)]) = H' := ⟨_, rfl⟩
    rw [hH2] at g2 e2
    have hH2' := hH2
    dsimp only at hH2' ⊢
    rw [hH2'] 
    refine ⟨_, rfl, le2, fun t3 n3 => ?_⟩
    have g3 : upd H2 t3 (.tup [.int (-1), .int (1)]) t3 = some (.tup [.int (-1), .int (1)]) := upd_same
    have e3 : Ex H2 (upd H2 t3 (.tup [.int (-1), .int (1)])) := Ex.new n3
    obtain ⟨H3, hH3⟩ : ∃ H', upd H2 t3 (.tup [.int (-1), .int (1)]) = H' := ⟨_, rfl⟩
    rw [hH3] at g3 e3
    have hH3' := hH3
    dsimp only at hH3' ⊢
    rw [hH3'] 
    refine ⟨_, rfl, _, rfl, le2, fun t4 n4 => ?_⟩
    have g4 : upd H3 t4 (.tup [.int (-1), .int (-1)]) t4 = some (.tup [.int (-1), .int (-1)]) := upd_same
    have e4 : Ex H3 (upd H3 t4 (.tup [.int (-1), .int (-1)])) := Ex.new n4
    obtain ⟨H4, hH4⟩ : ∃ H', upd H3 t4 (.tup [.int (-1), .int (-1)]) = H' := ⟨_, rfl⟩
    rw [hH4] at g4 e4
    have hH4' := hH4
    dsimp only at hH4' ⊢
    rw [hH4'] 
    refine ⟨le2, fun t5 n5 => ?_⟩
    have g5 : upd H4 t5 (.tup [.int (1), .int (0)]) t5 = some (.tup [.int (1), .int (0)]) := upd_same
    have e5 : Ex H4 (upd H4 t5 (.tup [.int (1), .int (0)])) := Ex.new n5
    obtain ⟨H5, hH5⟩ : ∃ H', upd H4 t5 (.tup [.int (1), .int (0)]) = H' := ⟨_, rfl⟩
    rw [hH5] at g5 e5
    have hH5' := hH5
    dsimp only at hH5' ⊢
    rw [hH5'] 
    refine ⟨_, rfl, le2, fun t6 n6 => ?_⟩
    have g6 : upd H5 t6 (.tup [.int (0), .int (-1)]) t6 = some (.tup [.int (0), .int (-1)]) := upd_same
    have e6 : Ex H5 (upd H5 t6 (.tup [.int (0), .int (-1)])) := Ex.new n6
    obtain ⟨H6, hH6⟩ : ∃ H', upd H5 t6 (.tup [.int (0), .int (-1)]) = H' := ⟨_, rfl⟩
    rw [hH6] at g6 e6
    have hH6' := hH6
    dsimp only at hH6' ⊢
    rw [hH6'] 
    refine ⟨le6, fun l nl => ?_⟩
    have hl : upd H6 l (.lst [.ref t1, .ref t2, .ref t3, .ref t4, .ref t5, .ref t6]) l = some (.lst [.ref t1, .ref t2, .ref t3, .ref t4, .ref t5, .ref t6]) := upd_same
    have e7 : Ex H6 (upd H6 l (.lst [.ref t1, .ref t2, .ref t3, .ref t4, .ref t5, .ref t6])) := Ex.new nl
    generalize upd H6 l (.lst [.ref t1, .ref t2, .ref t3, .ref t4, .ref t5, .ref t6]) = H7 at *
    have e17 := e1.trans (e2.trans (e3.trans (e4.trans (e5.trans (e6.trans e7)))))
    obtain ⟨hn1, hn2, hn3⟩ := hn
    refine ⟨_, rfl, _, rfl, p, ns, i, 6, rfl, ⟨e17 _ _ hn1, hn2, hn3⟩, i0, by omega, by decide, fun n n0 n6 => ?_⟩
    obtain ⟨tw, a, b, q1, q2, sa, sb, nab⟩ : ∃ (tw : Addr) (a b : Int), atI [V.ref t1, .ref t2, .ref t3, .ref t4, .ref t5, .ref t6] n = some (.ref tw) ∧ H7 tw = some (.tup [.int a, .int b]) ∧ Step a ∧ Step b ∧ ¬ (a = 0 ∧ b = 0) := by
      have hc : n = 0 ∨ n = 1 ∨ n = 2 ∨ n = 3 ∨ n = 4 ∨ n = 5 := by omega
      rcases hc with rfl | rfl | rfl | rfl | rfl | rfl
      · exact ⟨t1, _, _, rfl, (e2.trans (e3.trans (e4.trans (e5.trans (e6.trans e7))))) _ _ g1, .inr (.inr rfl), .inr (.inr rfl), by decide⟩
      · exact ⟨t2, _, _, rfl, (e3.trans (e4.trans (e5.trans (e6.trans e7)))) _ _ g2, .inr (.inr rfl), .inl rfl, by decide⟩
      · exact ⟨t3, _, _, rfl, (e4.trans (e5.trans (e6.trans e7))) _ _ g3, .inl rfl, .inr (.inr rfl), by decide⟩
      · exact ⟨t4, _, _, rfl, (e5.trans (e6.trans e7)) _ _ g4, .inl rfl, .inl rfl, by decide⟩
      · exact ⟨t5, _, _, rfl, (e6.trans e7) _ _ g5, .inr (.inr rfl), .inr (.inl rfl), by decide⟩
      · exact ⟨t6, _, _, rfl, e7 _ _ g6, .inr (.inl rfl), .inl rfl, by decide⟩
    refine ⟨l, _, _, _, rfl, rfl, SqL.of hl, q1, ?_⟩
    have hn7 : Nums H7 p ns := ⟨e17 _ _ hn1, hn2, hn3⟩
    refine ⟨_, rfl, _, rfl, _, _, rfl, rfl, p, ns, i + 1, rfl, hn7, by omega, by omega, fun bx bx0 => .inl ⟨_, rfl, _, rfl, _, _, rfl, rfl, _, _, rfl, rfl, by omega, ?_⟩⟩
    refine ⟨_, rfl, _, rfl, _, _, rfl, rfl, p, ns, i + 5, rfl, hn7, by omega, by omega, fun by' by0 => .inl ⟨_, rfl, _, rfl, _, _, rfl, rfl, _, _, rfl, rfl, by omega, ?_⟩⟩
    refine ⟨_, rfl, _, rfl, _, rfl, _, rfl, tw, _, _, _, rfl, rfl, SqT.of q2, rfl, _, rfl, tw, _, _, _, rfl, rfl, SqT.of q2, rfl, ?_⟩
    refine ⟨_, rfl, _, rfl, _, _, rfl, rfl, p, ns, i + 9, rfl, hn7, by omega, by omega, fun bm bm0 => .inl ⟨_, rfl, _, _, rfl, rfl, ⟨by decide, by decide, by decide⟩, _, _, rfl, rfl, ?_, ?_⟩⟩
    · show (0 : Int) < 10 ^ 12
      decide
    refine ⟨le6, fun nb nnb => ?_⟩
    have m0 : 0 ≤ bm % 10 ^ 12 := Int.emod_nonneg _ (by decide)
    have m1 : bm % 10 ^ 12 < 10 ^ 12 := Int.emod_lt_of_pos _ (by decide)
    refine k (.ref nb) ⟨z, bx % (w + 1), by' % (h + 1), a, b, bm % 10 ^ 12⟩ _ (e17.trans (Ex.new nnb)) ⟨nb, rfl, SqT.of upd_same⟩ ⟨hz, Int.emod_nonneg _ (by omega), ?_, Int.emod_nonneg _ (by omega), ?_, sa, sb, nab, m0, ?_⟩ rfl m1
    · have := Int.emod_lt_of_pos bx (b := w + 1) (by omega)
      show bx % (w + 1) ≤ w
      omega
    · have := Int.emod_lt_of_pos by' (b := h + 1) (by omega)
      show by' % (h + 1) ≤ h
      omega
    · show bm % 10 ^ 12 ≤ 10 ^ 30
      have : (10 : Int) ^ 12 ≤ 10 ^ 30 := by decide
      omega
end
end Cu

/-! ## CuLaw3 -/
set_option maxRecDepth 100000
set_option maxHeartbeats 4000000
namespace Cu
open PySem PySem.Spec PyProof.Rows L2 Evl
section
variable {P : Program} {w : World} {K : PySem.W.Frag} {mg : Str → Option Value} {base : Heap}
def spLawAt (K : PySem.W.Frag) : Sp := fun vs H Q _ => ∃ (t p : Addr) (u v m : Int) (bs : List V) (Bs : List Bl), vs = [.ref t, .ref p, .int m] ∧ TabA K H t u v ∧ 1 ≤ u ∧ 1 ≤ v ∧ H p = some (.lst bs) ∧ Paired (BallA K H) bs Bs ∧ Bs.length ≤ 12 ∧ (∀ b ∈ Bs, Step b.u ∧ Step b.v) ∧
  ∀ D H', Ex H H' → LstC K H' D (Bs.map fun b => pos u v b m) → Q (.ref D) H'
abbrev NLawAt : List Str := ["_law_table", "_law_balls", "_law_minute", "_law_ball"]
theorem scLawAt : FnScope NLawAt ["_law_table", "_law_balls", "_law_minute"] (defScope sLawAt) := ⟨rfl, rfl, rfl, by decide +kernel, rfl, by decide +kernel, by decide +kernel⟩
theorem D_LawAt (T : Txt K mg) : Def P w K mg base 3 "_law_at" ["_law_table", "_law_balls", "_law_minute"] (spLawAt K) := by
  refine mk_def T.fLawAt T.gLawAt scLawAt (fun _ _ _ _ _ _ us hl => match us, hl with | [_, _, _], _ => rfl) ?_ ?_
  · rintro vs H Q E ⟨t, p, u, v, m, bs, Bs, rfl, _⟩
    rfl
  · rintro cdv A outer s0 H vs Q E hr ⟨t, p, u, v, m, bs, Bs, rfl, ⟨dt, pk, ht⟩, hu, hv, hp, pb, lb, st, k⟩
    have nd := scLawAt.nd
    refine ⟨_, (pss_one (ps_ret (pe_lc (own := [("_law_ball", 3)]) rfl nd (pi_list (pv 1)) (blkOk_by (N := NLawAt) (sc := defScope sLawAt) (by decide +kernel)) (fun _ _ _ _ _ => (pg_name (i := 3) nd rfl (Or.inl rfl))) (fun _ _ _ _ _ => pts_nil) (fun _ _ _ _ _ => (pe_def (D_LawPlace T) hr (pa_cons (pe_fld (pv 0) rfl : PE _ _ (tFld K _ _)) (pa_cons (pe_fld (pv 0) rfl : PE _ _ (tFld K _ _)) (pa_cons (pv 3) (pa_cons (pv 2) pa_nil))))))))), ?_⟩
    have lbs := pb.length
    refine ⟨_, rfl, p, rfl, ⟨_, SqL.of hp⟩, fun D hD => lc_all (walk_list (xs := bs)) (by omega) hD (fun i y H' => ∀ c, (Bs.map fun b => pos u v b m)[i]? = some c → TupC K H' y c) (fun H' e => SqL.of (e _ _ hp)) (fun i y Ha Hb e h c hc => (h c hc).up e) (fun i y Ha ac ac' hDa h c hc => (h c hc).upd hDa) ?_ ?_⟩
    · rintro i y _ H4 ac hi e4 hD4 ⟨rfl, hy⟩ R k2
      obtain ⟨b, hb, hbb⟩ := paired_get pb hy
      have sb := st b (List.mem_of_getElem? hb)
      refine ⟨rfl, _, rfl, t, _, dt, _, _, rfl, e4 _ _ ht, T.cTable, T.nTableWidth, rfl, _, rfl, t, _, dt, _, _, rfl, e4 _ _ ht, T.cTable, T.nTableHeight, rfl, _, rfl, _, rfl, u, v, m, y, b, rfl, hu, hv, hbb.up e4, sb.1, sb.2, fun q H' e hq => ?_⟩
      refine k2 _ _ e fun c hc => ?_
      rw [List.getElem?_map, hb] at hc
      cases hc
      exact hq
    · rintro zs H3 e3 hz lz gz
      exact k D H3 e3 ⟨zs, hz, paired_of_get (by rw [lz, List.length_map, lbs]) fun i x y hx hy => gz i x hx y hy⟩
theorem and_if {c d : Bool} {A : Prop} {F : V → Hp → Prop} {H : Hp} (hA : F (.bl d) H → A) (h : ∀ b, (b = true ↔ c = true ∧ d = true) → F (.bl b) H) : if c = true then A else F (.bl false) H := by
  cases c with
  | false => exact iteF (h false (by simp))
  | true => exact iteT (hA (h d (by simp)))
theorem mx_le {a b m : Int} (h1 : a ≤ m) (h2 : b ≤ m) : mx a b ≤ m := by
  unfold mx
  split <;> omega
theorem lst3 {K : PySem.W.Frag} {H : Hp} {D : Addr} {a b c : Int × Int} (h : LstC K H D [a, b, c]) : ∃ z1 z2 z3, H D = some (.lst [z1, z2, z3]) ∧ TupC K H z1 a ∧ TupC K H z2 b ∧ TupC K H z3 c := by
  obtain ⟨zs, hz, p⟩ := h
  cases p with
  | cons r1 t1 =>
    cases t1 with
    | cons r2 t2 =>
      cases t2 with
      | cons r3 t3 =>
        cases t3
        exact ⟨_, _, _, hz, r1, r2, r3⟩
def spLawThree (K : PySem.W.Frag) : Sp := fun vs H Q _ => ∃ (t p : Addr) (x y z : V) (u v m : Int) (a b c : Bl), vs = [.ref t, .ref p, .int m] ∧ TabA K H t u v ∧ Sz u v ∧ H p = some (.lst [x, y, z]) ∧ BallA K H x a ∧ BallA K H y b ∧ BallA K H z c ∧ BOk u v a ∧ BOk u v b ∧ BOk u v c ∧
  a.m ≤ m ∧ b.m ≤ m ∧ c.m ≤ m ∧ ∀ H', Ex H H' → Q (.bl true) H'
abbrev NLawThree : List Str := ["_law_table", "_law_balls", "_law_minute", "_law_times", "_law_places", "_law_meet", "_law_later"]
theorem scLawThree : FnScope NLawThree ["_law_table", "_law_balls", "_law_minute"] (defScope sLawThree) := ⟨rfl, rfl, rfl, by decide +kernel, rfl, by decide +kernel, by decide +kernel⟩
theorem D_LawThree (T : Txt K mg) : Def P w K mg base 6 "_law_three" ["_law_table", "_law_balls", "_law_minute"] (spLawThree K) := by
  refine mk_def T.fLawThree T.gLawThree scLawThree (fun _ _ _ _ _ _ us hl => match us, hl with | [_, _, _], _ => rfl) ?_ ?_
  · rintro vs H Q E ⟨t, p, x, y, z, u, v, m, a, b, c, rfl, _⟩
    rfl
  · rintro cdv A outer s0 H vs Q E hr ⟨t, p, x, y, z, u, v, m, a, b, c, rfl, ht, sz, hp, ha, hb, hc, oa, ob, oc, am, bm', cm, k⟩
    have nd := scLawThree.nd
    refine ⟨_, (pss_cons (ps_set (i := 3) nd rfl (Or.inl rfl) (pe_def (D_AllMeet T) hr (pa_cons (pv 0) (pa_cons (pv 1) pa_nil))))
      (pss_cons (ps_set (i := 4) nd rfl (Or.inl rfl) (pe_def (D_LawAt T) hr (pa_cons (pv 0) (pa_cons (pv 1) (pa_cons (pv 2) pa_nil)))))
      (pss_cons (ps_set (i := 5) nd rfl (Or.inl rfl) (pe_and (pe_cmpR (op_eqD hr.units) (pe_ix ix_list (pv 4) pe_int (fun _ _ => rfl)) (pe_ix ix_list (pv 4) pe_int (fun _ _ => rfl)) (nomark _)) (pe_one (pe_cmpR (op_eqD hr.units) (pe_ix ix_list (pv 4) pe_int (fun _ _ => rfl)) (pe_ix ix_list (pv 4) pe_int (fun _ _ => rfl)) (nomark _)))))
      (pss_cons (ps_if (pt_cmpR op_ne (pe_met (D_TimesHolds T) (pv 3) T.cTimes T.mTimesHolds hr (pa_cons (pv 2) pa_nil)) (pv 5) (nomark _)) (pss_one (ps_ret pe_bl)) pss_nil)
      (pss_cons (ps_set (i := 6) nd rfl (Or.inl rfl) (pe_met (D_TimesNextFrom T) (pv 3) T.cTimes T.mTimesNextFrom hr (pa_cons (pv 2) pa_nil)))
      (pss_cons (ps_if (PW.pt (pw_or (pt_cmpR op_isN (pv 6) pe_non (nomark _)) (pw_or1 (pt_val (pv 5))))) (pss_one (ps_ret (pe_or (pe_not (pv 5)) (pe_one (pe_cmpR op_eq (pv 6) (pv 2) (nomark _)))))) pss_nil)
      (pss_cons (ps_set (i := 4) nd rfl (Or.inl rfl) (pe_def (D_LawAt T) hr (pa_cons (pv 0) (pa_cons (pv 1) (pa_cons (pv 6) pa_nil)))))
      (pss_one (ps_ret (pe_and (pe_cmpR op_ge (pv 6) (pv 2) (nomark _)) (pe_and (pe_cmpR (op_eqD hr.units) (pe_ix ix_list (pv 4) pe_int (fun _ _ => rfl)) (pe_ix ix_list (pv 4) pe_int (fun _ _ => rfl)) (nomark _)) (pe_one (pe_cmpR (op_eqD hr.units) (pe_ix ix_list (pv 4) pe_int (fun _ _ => rfl)) (pe_ix ix_list (pv 4) pe_int (fun _ _ => rfl)) (nomark _)))))))))))))), ?_⟩
    refine ⟨_, rfl, _, rfl, t, p, x, y, z, u, v, a, b, c, rfl, ht, sz, hp, ha, hb, hc, oa, ob, oc, fun r1 H1 R e1 c1 h1 => ?_⟩
    have pb : Paired (BallA K H) [x, y, z] [a, b, c] := .cons ha (.cons hb (.cons hc .nil))
    have st : ∀ d ∈ [a, b, c], Step d.u ∧ Step d.v := by
      intro d hd
      simp only [List.mem_cons, List.not_mem_nil, or_false] at hd
      rcases hd with rfl | rfl | rfl
      · exact ⟨oa.u, oa.v⟩
      · exact ⟨ob.u, ob.v⟩
      · exact ⟨oc.u, oc.v⟩
    refine ⟨_, rfl, _, rfl, _, rfl, t, p, u, v, m, _, _, rfl, ht.up e1, sz.w0, sz.h0, e1 _ _ hp, Paired.mapP pb fun _ _ z => z.up e1, show 3 ≤ 12 by decide, st, fun D H2 e2 hD => ?_⟩
    obtain ⟨z1, z2, z3, hz, tz1, tz2, tz3⟩ : ∃ z1 z2 z3, H2 D = some (.lst [z1, z2, z3]) ∧ TupC K H2 z1 (pos u v a m) ∧ TupC K H2 z2 (pos u v b m) ∧ TupC K H2 z3 (pos u v c m) := lst3 hD
    refine ⟨_, rfl, D, _, _, _, rfl, rfl, SqL.of hz, rfl, _, rfl, D, _, _, _, rfl, rfl, SqL.of hz, rfl, _, _, dp_tup tz1, dp_tup tz2, pd_shaped _, pd_shaped _, _, rfl, ?_⟩
    rw [pd_eqv]
    refine and_if (F := fun x H1 => gName 5 x _ H1 _) (d := decide (pos u v a m = pos u v c m)) (fun h => ?_) (fun bm hbm => ?_)
    · refine ⟨_, rfl, D, _, _, _, rfl, rfl, SqL.of hz, rfl, _, rfl, D, _, _, _, rfl, rfl, SqL.of hz, rfl, _, _, dp_tup tz1, dp_tup tz3, pd_shaped _, pd_shaped _, ?_⟩
      rw [pd_eqv]
      exact h
    have hbm : bm = true ↔ pos u v a m = pos u v b m ∧ pos u v a m = pos u v c m := by
      rw [hbm, decide_eq_true_iff, decide_eq_true_iff]
    have stm : mx (mx a.m b.m) (mx a.m c.m) ≤ m := mx_le (mx_le am bm') (mx_le am cm)
    obtain ⟨dx, cp, q1, q2⟩ := h1
    have hTS : ∀ t, m ≤ t → (TS (mx (mx a.m b.m) (mx a.m c.m)) none R t ↔ pos u v a t = pos u v b t ∧ pos u v a t = pos u v c t) := fun t ht => by
      constructor
      · rintro ⟨_, _, h⟩
        exact (c1.hit t).mp h
      · intro h
        exact ⟨by omega, (fun e he => nomatch he), (c1.hit t).mpr h⟩
    refine ⟨_, rfl, r1, dx, _, rfl, e2 _ _ q1, rfl, _, rfl, r1, m, _, none, R, rfl, ⟨dx, cp, e2 _ _ q1, q2.up e2⟩, c1.wf, Nat.le_trans c1.ln (by decide), fun hb H3 e3 hi => ?_⟩
    have hbe : hb = bm := by
      rw [Bool.eq_iff_iff, hi, hTS m (Int.le_refl _), hbm]
    subst hbe
    refine ⟨_, rfl, by cases hb <;> rfl, _, rfl, ?_⟩
    refine iteF' (by rw [decide_eq_true rfl]; rfl) ?_
    have e23 := e2.trans e3
    refine ⟨_, rfl, r1, dx, _, rfl, e23 _ _ q1, rfl, _, rfl, r1, m, _, none, R, rfl, ⟨dx, cp, e23 _ _ q1, q2.up e23⟩, c1.wf, Nat.le_trans c1.ln (by decide), fun o H4 e4 io => ?_⟩
    have io := IsNext.congr hTS io
    have e14 := e1.trans (e23.trans e4)
    cases o with
    | none =>
      have hf : hb = false := by
        cases hb with
        | false => rfl
        | true => exact absurd (hbm.mp rfl) (io m (Int.le_refl _))
      subst hf
      refine ⟨_, rfl, rfl, _, rfl, ?_⟩
      refine iteT ?_
      refine iteT ?_
      refine ⟨_, rfl, _, rfl, _, rfl, ?_⟩
      refine iteT ?_
      exact k H4 e14
    | some x' =>
      obtain ⟨hx1, hx2, hx3⟩ := io
      refine ⟨_, rfl, rfl, _, rfl, ?_⟩
      refine iteF ?_
      cases hb with
      | true =>
        refine ⟨_, rfl, true, rfl, ?_⟩
        refine iteT ?_
        have ex' : x' = m := by
          have := hx3 m (Int.le_refl _) (hbm.mp rfl)
          omega
        subst ex'
        refine ⟨_, rfl, _, rfl, _, rfl, ?_⟩
        refine iteF ?_
        refine ⟨_, rfl, _, rfl, rfl, ?_⟩
        rw [show decide (enV (some x') = V.int x') = true from decide_eq_true rfl]
        exact k H4 e14
      | false =>
        refine ⟨_, rfl, false, rfl, ?_⟩
        refine iteF ?_
        refine ⟨_, rfl, _, rfl, _, rfl, t, p, u, v, x', _, _, rfl, ht.up e14, sz.w0, sz.h0, e14 _ _ hp, Paired.mapP pb fun _ _ z => z.up e14, show 3 ≤ 12 by decide, st, fun D5 H5 e5 hD5 => ?_⟩
        obtain ⟨z1, z2, z3, hz, tz1, tz2, tz3⟩ : ∃ z1 z2 z3, H5 D5 = some (.lst [z1, z2, z3]) ∧ TupC K H5 z1 (pos u v a x') ∧ TupC K H5 z2 (pos u v b x') ∧ TupC K H5 z3 (pos u v c x') := lst3 hD5
        refine ⟨_, rfl, _, rfl, _, _, rfl, rfl, _, rfl, ?_⟩
        rw [if_pos (decide_eq_true hx1)]
        refine ⟨_, rfl, D5, _, _, _, rfl, rfl, SqL.of hz, rfl, _, rfl, D5, _, _, _, rfl, rfl, SqL.of hz, rfl, _, _, dp_tup tz1, dp_tup tz2, pd_shaped _, pd_shaped _, _, rfl, ?_⟩
        rw [pd_eqv, if_pos (decide_eq_true hx2.1)]
        refine ⟨_, rfl, D5, _, _, _, rfl, rfl, SqL.of hz, rfl, _, rfl, D5, _, _, _, rfl, rfl, SqL.of hz, rfl, _, _, dp_tup tz1, dp_tup tz3, pd_shaped _, pd_shaped _, ?_⟩
        rw [pd_eqv, decide_eq_true hx2.2]
        exact k H5 (e14.trans e5)
end
end Cu

/-! ## CuLaw4 -/
set_option maxRecDepth 100000
set_option maxHeartbeats 4000000
namespace Cu
open PySem PySem.Spec PyProof.Rows L2 Evl
section
variable {P : Program} {w : World} {K : PySem.W.Frag} {mg : Str → Option Value} {base : Heap}
def spLawSlot (K : PySem.W.Frag) : Sp := fun vs H Q _ => ∃ (t p : Addr) (x y : V) (u v m ln : Int) (a b : Bl), vs = [.ref t, .ref p, .int m, .int ln] ∧ TabA K H t u v ∧ Sz u v ∧ H p = some (.lst [x, y]) ∧ BallA K H x a ∧ BallA K H y b ∧ BOk u v a ∧ BOk u v b ∧ a.z ≠ b.z ∧
  a.m ≤ m ∧ b.m ≤ m ∧ 0 ≤ m ∧ m ≤ 10 ^ 17 ∧ 1 ≤ ln ∧ ln ≤ 4 ∧ ∀ H', Ex H H' → Q (.bl true) H'
abbrev NLawSlot : List Str := ["_law_table", "_law_balls", "_law_minute", "_law_length", "_law_point", "_law_due", "_law_start", "_law_taken", "_law_later"]
theorem scLawSlot : FnScope NLawSlot ["_law_table", "_law_balls", "_law_minute", "_law_length"] (defScope sLawSlot) := ⟨rfl, rfl, rfl, by decide +kernel, rfl, by decide +kernel, by decide +kernel⟩
theorem D_LawSlot (T : Txt K mg) : Def P w K mg base 7 "_law_slot" ["_law_table", "_law_balls", "_law_minute", "_law_length"] (spLawSlot K) := by
  refine mk_def T.fLawSlot T.gLawSlot scLawSlot (fun _ _ _ _ _ _ us hl => match us, hl with | [_, _, _, _], _ => rfl) ?_ ?_
  · rintro vs H Q E ⟨t, p, x, y, u, v, m, ln, a, b, rfl, _⟩
    rfl
  · rintro cdv A outer s0 H vs Q E hr ⟨t, p, x, y, u, v, m, ln, a, b, rfl, ⟨dt, pk, ht⟩, sz, hp, ha, hb, oa, ob, nz, am, bm, m0, m1, l0, l1, k⟩
    have nd := scLawSlot.nd
    refine ⟨_, (pss_cons (ps_set (i := 4) nd rfl (Or.inr rfl) (pe_def (D_LawPlace T) hr (pa_cons (pe_fld (pv 0) rfl) (pa_cons (pe_fld (pv 0) rfl) (pa_cons (pe_ix ix_list (pv 1) pe_int (fun _ _ => rfl)) (pa_cons (pe_op op_add (pv 2) (pv 3)) pa_nil))))))
      (pss_cons (ps_set (i := 5) nd rfl (Or.inl rfl) pe_non)
      (pss_cons (ps_for PassesOwn.never rfl (pi_range2 (by rfl) T.zRange (pa_cons (pv 2) (pa_cons (pe_op op_sub (pe_op op_add (pv 2) pe_int) (pv 3)) pa_nil))) (pg_name (i := 6) nd rfl (Or.inl rfl)) (pss_cons (ps_setLc (i := 7) (own := [("_law_later", 8)]) rfl nd rfl rfl (sw_true rfl rfl rfl (by decide +kernel)) (pi_range2 (by rfl) T.zRange (pa_cons (pv 6) (pa_cons (pe_op op_add (pv 6) (pv 3)) pa_nil))) (blkOk_by (N := NLawSlot) (sc := defScope sLawSlot) (by decide +kernel)) (fun _ _ _ _ _ => (pg_name (i := 8) nd rfl (Or.inl rfl))) (fun _ _ _ _ _ => (pts_one (pt_cmpR (op_inD hr.units65 : OpR _ _ (rInD K)) (pv 4) (pe_def (D_LawAt T) hr (pa_cons (pv 0) (pa_cons (pv 1) (pa_cons (pv 8) pa_nil)))) (by rfl)))) (fun _ _ _ _ _ => (pv 8)))
      (pss_one (ps_if (PW.pt (pw_and (pt_cmpR op_isN (pv 5) pe_non (nomark _)) (pw_and1 (pt_cmpR op_eq (pe_callB call_len_seq (by rfl) T.zLen PySem.boot_len (pa_cons (pv 7) pa_nil)) pe_int (nomark _))))) (pss_one (ps_set (i := 5) nd rfl (Or.inl rfl) (pv 6))) pss_nil))))
      (pss_one (ps_ret (pe_cmpR op_eq (pe_def (D_FirstSlot T) hr (pa_cons (pv 0) (pa_cons (pv 1) (pa_cons (pv 4) (pa_cons (pv 2) (pa_cons (pe_op op_add (pv 2) pe_int) (pa_cons (pv 3) pa_nil))))))) (pv 5) (nomark _))))))), ?_⟩
    have pb : Paired (BallA K H) [x, y] [a, b] := .cons ha (.cons hb .nil)
    have ok : ∀ d ∈ [a, b], BOk u v d := by
      intro d hd
      simp only [List.mem_cons, List.not_mem_nil, or_false] at hd
      rcases hd with rfl | rfl
      · exact oa
      · exact ob
    have le : ∀ d ∈ [a, b], d.m ≤ m := by
      intro d hd
      simp only [List.mem_cons, List.not_mem_nil, or_false] at hd
      rcases hd with rfl | rfl
      · exact am
      · exact bm
    refine ⟨_, rfl, t, _, dt, _, _, rfl, ht, T.cTable, T.nTableWidth, rfl, _, rfl, t, _, dt, _, _, rfl, ht, T.cTable, T.nTableHeight, rfl, _, rfl, p, _, _, _, rfl, rfl, SqL.of hp, rfl, _, rfl, _, rfl, _, _, rfl, rfl, ?_⟩
    refine ⟨u, v, m + ln, x, a, rfl, sz.w0, sz.h0, ha, oa.u, oa.v, fun q H1 e1 hq => ?_⟩
    obtain ⟨g, h, hgh, g0, g1, h0, h1⟩ : ∃ g h, pos u v a (m + ln) = (g, h) ∧ 0 ≤ g ∧ g ≤ u ∧ 0 ≤ h ∧ h ≤ v := by
      have r1 := fold_range (p := a.x + a.u * (m + ln - a.m)) sz.w0
      have r2 := fold_range (p := a.y + a.v * (m + ln - a.m)) sz.h0
      exact ⟨_, _, rfl, r1.1, r1.2, r2.1, r2.2⟩
    rw [hgh] at hq
    refine ⟨_, rfl, _, rfl, _, _, rfl, rfl, _, rfl, _, _, rfl, rfl, _, _, rfl, ⟨by omega, by omega, by omega, by omega⟩, ?_⟩
    obtain ⟨n, hn⟩ : ∃ n : Nat, (31 : Int) - ln = (n : Int) := ⟨(31 - ln).toNat, by omega⟩
    rw [show (m + 31 - ln - m).toNat = n by omega]
    refine for_range (fun i σ' H' => ∃ (d : Option Int) (v6 v7 : Option V), σ' = [some (.ref t), some (.ref p), some (.int m), some (.int ln), some q, some (enV d), v6, v7, none] ∧ Ex H1 H' ∧
        (d = none → ∀ m', m ≤ m' → m' < m + i → ¬ Free u v (g, h) [a, b] ln m') ∧ (∀ z, d = some z → m ≤ z ∧ z < m + i ∧ Free u v (g, h) [a, b] ln z ∧ ∀ m', m ≤ m' → m' < z → ¬ Free u v (g, h) [a, b] ln m'))
      ⟨none, none, none, rfl, Ex.refl _, fun _ m' h1 h2 => by omega, fun z h => nomatch h⟩ ?_ ?_
    · rintro i σ' H' hi ⟨d, v6, v7, rfl, ex, hd1, hd2⟩
      obtain ⟨lnN, hlnN⟩ : ∃ n : Nat, ln = (n : Int) := ⟨ln.toNat, by omega⟩
      refine ⟨_, rfl, _, rfl, _, rfl, _, _, rfl, rfl, _, _, rfl, ⟨by omega, by omega, by omega, by omega⟩, ?_⟩
      rw [show (m + (i : Nat) + ln - (m + (i : Nat))).toNat = lnN by omega]
      intro D hD
      refine it_gen (walk_range (lo := m + (i : Nat)) (n := lnN)) (fun j H2 => Ex H' H2 ∧ ∃ ns : List Int, H2 D = some (.lst (ns.map V.int)) ∧ ns.length ≤ j ∧ (ns = [] ↔ ∀ t', m + (i : Nat) ≤ t' → t' < m + (i : Nat) + (j : Nat) → ∀ b' ∈ [a, b], pos u v b' t' ≠ (g, h)))
        ⟨Ex.new hD, [], upd_same, by simp, ⟨fun _ t' h1 h2 => by omega, fun _ => rfl⟩⟩ (fun _ _ _ _ => True.intro) ?_ ?_
      · rintro j x' _ H2 hj ⟨e2, ns, hns, lns, hns2⟩ ⟨rfl, rfl⟩
        have e12 := ex.trans e2
        have e02 := e1.trans e12
        refine ⟨rfl, ?_⟩
        refine ⟨_, rfl, _, rfl, _, rfl, _, rfl, t, p, u, v, m + (i : Nat) + (j : Nat), _, _, rfl, ⟨dt, pk, e02 _ _ ht⟩, sz.w0, sz.h0, e02 _ _ hp, Paired.mapP pb fun _ _ z => z.up e02, show 2 ≤ 12 by decide, fun d' hd' => ⟨(ok d' hd').u, (ok d' hd').v⟩, fun D2 H3 e3 hD2 => ?_⟩
        refine ⟨pd (g, h), _, dp_tup ((hq.up e12).up e3), dp_lst hD2, pd_shaped _, pds_shaped _, ?_⟩
        rw [pds_any]
        have step : ∀ P : Prop, (∀ t', m + (i : Nat) ≤ t' → t' < m + (i : Nat) + ((j + 1 : Nat)) → ∀ b' ∈ [a, b], pos u v b' t' ≠ (g, h)) ↔ (∀ t', m + (i : Nat) ≤ t' → t' < m + (i : Nat) + (j : Nat) → ∀ b' ∈ [a, b], pos u v b' t' ≠ (g, h)) ∧ ∀ b' ∈ [a, b], pos u v b' (m + (i : Nat) + (j : Nat)) ≠ (g, h) := fun _ => by
          constructor
          · intro h
            exact ⟨fun t' h1 h2 => h t' h1 (by omega), h _ (by omega) (by omega)⟩
          · rintro ⟨h1, h2⟩ t' h3 h4
            rcases Int.lt_or_le t' (m + (i : Nat) + (j : Nat)) with q | q
            · exact h1 t' h3 q
            · have e : t' = m + (i : Nat) + (j : Nat) := by omega
              rw [e]
              exact h2
        refine ⟨_, rfl, ?_⟩
        refine iteD (fun c => ?_) (fun c => ?_)
        · have hsz : (ns.map V.int).length < sizeLine := sz_lt (by rw [List.length_map]; omega)
          refine ⟨_, rfl, _, e3 _ _ hns, hsz, Ex.mut (e2.trans e3) hD, ns ++ [m + (i : Nat) + (j : Nat)], by rw [map_snoc]; exact upd_same, by rw [List.length_append]; show ns.length + 1 ≤ j + 1; omega, ?_⟩
          constructor
          · intro h
            exact absurd h (by simp)
          · intro hh
            obtain ⟨_, h2⟩ := (step True).mp hh
            obtain ⟨b', hb', e'⟩ := List.mem_map.mp c
            exact absurd e' (h2 b' hb')
        · refine ⟨e2.trans e3, ns, e3 _ _ hns, by omega, ?_⟩
          rw [step True, ← hns2]
          exact ⟨fun h => ⟨h, fun b' hb' e' => c (List.mem_map.mpr ⟨b', hb', e'⟩)⟩, fun h => h.1⟩
      · rintro H2 ⟨e2, ns, hns, lns, hns2⟩
        have free_iff : ns = [] ↔ Free u v (g, h) [a, b] ln (m + (i : Nat)) := by
          rw [hns2]
          constructor
          · rintro h1 t' h2 h3 b' hb' ⟨_, h4⟩
            exact h1 t' h2 (by omega) b' hb' h4
          · intro h1 t' h2 h3 b' hb' h4
            exact h1 t' h2 (by omega) b' hb' ⟨by have := le b' hb'; omega, h4⟩
        have hlen : ((ns.map V.int).length : Int) = (ns.length : Int) := by rw [List.length_map]
        refine ⟨_, rfl, rfl, _, rfl, ?_⟩
        cases d with
        | none =>
          have hd1 := hd1 rfl
          refine iteT ?_
          refine ⟨_, rfl, D, _, rfl, .inl (SqL.of hns), rfl, _, rfl, ?_⟩
          rw [hlen]
          refine iteEq (fun c => ?_) (fun c => ?_)
          · have hnn : ns = [] := List.eq_nil_of_length_eq_zero (by omega)
            have hf := free_iff.mp hnn
            refine ⟨_, rfl, ?_⟩
            refine ⟨some (m + (i : Nat)), _, _, rfl, ex.trans e2, (fun h => nomatch h), fun z hz => ?_⟩
            cases hz
            exact ⟨by omega, by omega, hf, hd1⟩
          · have hf : ¬ Free u v (g, h) [a, b] ln (m + (i : Nat)) := fun h => c (by rw [free_iff.mpr h]; rfl)
            refine ⟨none, _, _, rfl, ex.trans e2, (fun _ m' h1 h2 => ?_), fun z hz => nomatch hz⟩
            rcases Int.lt_or_le m' (m + (i : Nat)) with q | q
            · exact hd1 m' h1 q
            · have e : m' = m + (i : Nat) := by omega
              rw [e]
              exact hf
        | some z =>
          refine iteF ?_
          refine iteF ?_
          obtain ⟨h1, h2, h3, h4⟩ := hd2 z rfl
          refine ⟨some z, _, _, rfl, ex.trans e2, (fun h => nomatch h), fun z' hz => ?_⟩
          cases hz
          exact ⟨h1, by omega, h3, h4⟩
    · rintro σ' H' ⟨d, v6, v7, rfl, ex, hd1, hd2⟩
      have e2 := e1.trans ex
      have nx : IsNext (fun m' => m' + ln - 1 ≤ m + 29 ∧ Free u v (g, h) [a, b] ln m') m d := by
        cases d with
        | none =>
          rintro t' h1 ⟨h2, h3⟩
          exact hd1 rfl t' h1 (by omega) h3
        | some z =>
          obtain ⟨h1, h2, h3, h4⟩ := hd2 z rfl
          refine ⟨h1, ⟨by omega, h3⟩, ?_⟩
          rintro t' h5 ⟨_, h6⟩
          rcases Int.lt_or_le t' z with q | q
          · exact absurd h6 (h4 t' h5 q)
          · exact q
      refine ⟨_, rfl, _, rfl, _, rfl, _, rfl, _, rfl, _, _, rfl, rfl, _, rfl, ?_⟩
      refine ⟨t, p, q, u, v, g, h, m, m + 29, ln, [x, y], [a, b], rfl, ⟨dt, pk, e2 _ _ ht⟩, sz, e2 _ _ hp, Paired.mapP pb fun _ _ z => z.up e2, ok, by simpa using nz, show 2 ≤ 12 by decide, hq.up ex, g0, g1, h0, h1, m0, by omega, l0, by omega, fun o H3 e3 io => ?_⟩
      have eo := io.uniq nx
      subst eo
      refine ⟨_, rfl, by cases o <;> rfl, ?_⟩
      rw [decide_eq_true rfl]
      exact k H3 (e2.trans e3)
end
end Cu

/-! ## CuPer -/
set_option maxRecDepth 100000
set_option maxHeartbeats 4000000
namespace Cu
open PySem PySem.Spec PyProof.Rows L2 Evl
theorem per_arith (x p q t m u v : Int) : x + p * (t + 4 * u * v - m) = x + p * (t - m) + 2 * u * (2 * v * p) := by
  have e1 : t + 4 * u * v - m = (t - m) + 4 * u * v := by omega
  have e2 : p * (4 * u * v) = 2 * u * (2 * v * p) := by
    have h1 : 4 * u * v = 2 * u * (2 * v) := by
      rw [Int.mul_assoc 2 u, Int.mul_left_comm u 2 v, ← Int.mul_assoc 2 2, Int.mul_assoc 4 u v]
      rfl
    rw [h1, Int.mul_comm p, Int.mul_assoc (2 * u) (2 * v) p]
  rw [e1, Int.mul_add, e2]
  omega
theorem pos_period {u v : Int} {b : Bl} {t : Int} (hu : 1 ≤ u) (hv : 1 ≤ v) : pos u v b (t + 4 * u * v) = pos u v b t := by
  unfold pos
  have e1 := per_arith b.x b.u 0 t b.m u v
  have e2 := per_arith b.y b.v 0 t b.m v u
  have e3 : 4 * v * u = 4 * u * v := by rw [Int.mul_assoc, Int.mul_comm v u, ← Int.mul_assoc]
  rw [e3] at e2
  rw [e1, e2, fold_period hu, fold_period hv]
theorem cross_meet {u v : Int} {a b : Bl} (z : Sz u v) (oa : BOk u v a) (ob : BOk u v b) (t : Int) : Hit (crossF (mX u a b) (mY v a b)) t ↔ pos u v a t = pos u v b t :=
  (((mX_ok z oa ob).cross (mY_ok z oa ob)).hit t).trans prod_eq.symm
theorem cross_ne {u v : Int} {a b : Bl} (z : Sz u v) (oa : BOk u v a) (ob : BOk u v b) {t : Int} (h : pos u v a t = pos u v b t) : crossF (mX u a b) (mY v a b) ≠ [] := fun e => by
  obtain ⟨c, hc, _⟩ := (cross_meet z oa ob t).mpr h
  rw [e] at hc
  cases hc
theorem cross_next {u v : Int} {a b : Bl} (z : Sz u v) (oa : BOk u v a) (ob : BOk u v b) (m : Int) (h : ∀ t, m ≤ t → ¬ pos u v a t = pos u v b t) : crossF (mX u a b) (mY v a b) = [] := by
  cases e : crossF (mX u a b) (mY v a b) with
  | nil => rfl
  | cons c l =>
    have wf := ((mX_ok z oa ob).cross (mY_ok z oa ob)).wf
    have hc : c ∈ crossF (mX u a b) (mY v a b) := by rw [e]; exact List.mem_cons_self
    obtain ⟨h1, h2, _⟩ := nx_spec (wf c hc) m
    exact absurd ((cross_meet z oa ob _).mp ⟨c, hc, h2⟩) (h _ h1)
/-- the end of the law's Times -/
theorem soon_next {S : Int → Prop} {m : Int} {o o' : Option Int} (m0 : 0 ≤ m) (h : IsNext S m o) (h' : IsNext (fun t => m ≤ t ∧ t ≤ m + 40 ∧ S t) 0 o') : o' = match o with | none => none | some x => if x ≤ m + 40 then some x else none := by
  cases o with
  | none =>
    refine h'.uniq ?_
    rintro t _ ⟨h1, _, h3⟩
    exact h t h1 h3
  | some x =>
    obtain ⟨h1, h2, h3⟩ := h
    refine h'.uniq ?_
    by_cases c : x ≤ m + 40
    · show IsNext _ 0 (if x ≤ m + 40 then some x else none)
      rw [if_pos c]
      exact ⟨by omega, ⟨h1, c, h2⟩, fun t _ ⟨h4, _, h5⟩ => h3 t h4 h5⟩
    · show IsNext _ 0 (if x ≤ m + 40 then some x else none)
      rw [if_neg c]
      rintro t _ ⟨h4, h5, h6⟩
      have := h3 t h4 h6
      omega
end Cu

/-! ## CuLaw5 -/
set_option maxRecDepth 100000
set_option maxHeartbeats 4000000
namespace Cu
open PySem PySem.Spec PyProof.Rows L2 Evl
abbrev NLaw : List Str := ["_law_script", "_law_numbers_here", "_law_sizes", "_law_width", "_law_height", "_law_table", "_law_one", "_law_other", "_law_minute", "_law_x", "_law_y", "_law_times", "_law_here", "_law_found", "_law_third", "_law_soon", "_law_rows", "_law_later", "_law_place_here"]
theorem scLaw : FnScope NLaw ["_law_script"] (defScope sLaw) := ⟨rfl, rfl, rfl, by decide +kernel, rfl, by decide +kernel, by decide +kernel⟩
section
variable {P : Program} {w : World} {K : PySem.W.Frag} {mg : Str → Option Value} {base : Heap}
structure Sc (K : PySem.W.Frag) (H : Hp) (tb : Addr) (one other : V) (u v m : Int) (a b : Bl) : Prop where
  tab : TabA K H tb u v
  sz : Sz u v
  one : BallA K H one a
  other : BallA K H other b
  oa : BOk u v a
  ob : BOk u v b
  am : a.m ≤ m
  bm : b.m ≤ m
  m0 : 0 ≤ m
  m1 : m ≤ 10 ^ 17
  az : a.z = "red"
  bz : b.z = "blue"
theorem Sc.up {K : PySem.W.Frag} {H H' : Hp} {tb : Addr} {one other : V} {u v m : Int} {a b : Bl} (e : Ex H H') (s : Sc K H tb one other u v m a b) : Sc K H' tb one other u v m a b :=
  ⟨s.tab.up e, s.sz, s.one.up e, s.other.up e, s.oa, s.ob, s.am, s.bm, s.m0, s.m1, s.az, s.bz⟩
theorem law_s5 (T : Txt K mg) {cdv : Value} {A : Around} {outer : List Env} {s : Shared} {H0 : Hp} {Q : VK} {E : XK} (hr : Room 7 (A.deeper (envOfC "law" (defScope sLaw) s.heap.objs.size (He.ga K "law") cdv))) (hQ : ∀ H', Q (.bl true) H') :
    ∃ t, PSs (cxOf CX0 P w K mg base NLaw "law" (defScope sLaw) (He.ga K "law") cdv A outer s H0 E).nox ((defBody sLaw).drop 22) t ∧
      ∀ (H : Hp) (tb r : Addr) (one other : V) (u v m : Int) (a b : Bl) (hb : Bool) (o : Option Int) (R : List (Int × Int)) (v0 v1 v2 v3 v4 v9 v10 v14 v15 v16 v17 v18 : Option V),
        Sc K H tb one other u v m a b → ClsOk R (4 * 10 ^ 60) 4 (fun t => pos u v a t = pos u v b t) → TimesA K H r (mx a.m b.m) none R → (hb = true ↔ pos u v a m = pos u v b m) → IsNext (fun t => pos u v a t = pos u v b t) m o →
        t { nx := fun _ H' => Q .non H', rt := Q } [v0, v1, v2, v3, v4, some (.ref tb), some one, some other, some (.int m), v9, v10, some (.ref r), some (.bl hb), some (enV o), v14, v15, v16, v17, v18] H := by
  have nd := scLaw.nd
  refine ⟨_, (pss_cons (ps_if (pt_cmpR op_notBl (pe_def (D_CheckNever T) hr (pa_cons (pv 5) (pa_cons (pv 6) (pa_cons (pv 7) (pa_cons (pe_lst pa_nil) pa_nil))))) pe_bl (nomark _)) (pss_one (ps_ret pe_bl)) pss_nil)
      (pss_cons (ps_set (i := 16) nd rfl (Or.inl rfl) (pe_def (D_Never T) hr (pa_cons (pv 5) (pa_cons (pv 6) (pa_cons (pv 7) pa_nil)))))
      (pss_cons (ps_if (pt_cmpR op_isN (pv 13) pe_non (nomark _)) (pss_one (ps_ret (pe_and (pe_cmpR op_notN (pv 16) pe_non (nomark _)) (pe_and (pe_not (pv 12)) (pe_one (pe_cmpR op_isBl (pe_def (D_CheckNever T) hr (pa_cons (pv 5) (pa_cons (pv 6) (pa_cons (pv 7) (pa_cons (pv 16) pa_nil))))) pe_bl (nomark _))))))) pss_nil)
      (pss_cons (ps_if (PW.pt (pw_or (pt_cmpR op_notN (pv 16) pe_non (nomark _)) (pw_or1 (pt_cmpR op_lt (pv 13) (pv 8) (nomark _))))) (pss_one (ps_ret pe_bl)) pss_nil)
      (pss_cons (ps_for PassesOwn.never rfl (pi_list (pe_lst (pa_cons (pv 13) (pa_cons (pe_op op_add (pv 13) (pe_op op_mulW (pe_op op_mul pe_int (pe_fld (pv 5) rfl)) (pe_fld (pv 5) rfl))) pa_nil)))) (pg_name (i := 17) nd rfl (Or.inl rfl)) (pss_cons (ps_set (i := 18) nd rfl (Or.inl rfl) (pe_def (D_LawPlace T) hr (pa_cons (pe_fld (pv 5) rfl) (pa_cons (pe_fld (pv 5) rfl) (pa_cons (pv 6) (pa_cons (pv 17) pa_nil))))))
      (pss_cons (ps_if (PW.pt (pw_or (pt_cmpR (op_neD hr.units) (pe_def (D_LawPlace T) hr (pa_cons (pe_fld (pv 5) rfl) (pa_cons (pe_fld (pv 5) rfl) (pa_cons (pv 7) (pa_cons (pv 17) pa_nil))))) (pv 18) (nomark _)) (pw_or1 (pt_not (pt_val (pe_met (D_TimesHolds T) (pv 11) T.cTimes T.mTimesHolds hr (pa_cons (pv 17) pa_nil))))))) (pss_one (ps_ret pe_bl)) pss_nil)
      (pss_one (ps_if (PW.pt (pw_or (pt_not (pt_val (pe_met (D_TimesHolds T) (pe_def (D_AtPoint T) hr (pa_cons (pv 5) (pa_cons (pv 6) (pa_cons (pv 18) pa_nil)))) T.cTimes T.mTimesHolds hr (pa_cons (pv 17) pa_nil)))) (pw_or1 (pt_not (pt_val (pe_met (D_TimesHolds T) (pe_def (D_AtPoint T) hr (pa_cons (pv 5) (pa_cons (pv 7) (pa_cons (pv 18) pa_nil)))) T.cTimes T.mTimesHolds hr (pa_cons (pv 17) pa_nil))))))) (pss_one (ps_ret pe_bl)) pss_nil)))))
      (pss_one (ps_ret pe_bl))))))), ?_⟩
  intro H tb r one other u v m a b hb o R v0 v1 v2 v3 v4 v9 v10 v14 v15 v16 v17 v18 S c1 hR hhb io
  have sz := S.sz
  have oa := S.oa
  have ob := S.ob
  refine ⟨_, rfl, _, rfl, _, rfl, le0, fun l nl => ?_⟩
  have e1 : Ex H (upd H l (.lst [])) := Ex.new nl
  have S1 := S.up e1
  refine ⟨tb, l, one, other, u, v, a, b, rfl, S1.tab, sz, S1.one, S1.other, oa, ob, [], [], ask_nil upd_same (fun H2 e2 => ?_)⟩
  have e12 := e1.trans e2
  refine ⟨_, _, rfl, rfl, _, rfl, ?_⟩
  refine iteF ?_
  have S2 := S.up e12
  have hfacts : ∀ t, m ≤ t → pos u v a t = pos u v b t → TS (mx a.m b.m) none R t := fun t h1 h2 =>
    ⟨Int.le_trans (mx_le S.am S.bm) h1, (fun e he => nomatch he), (c1.hit t).mpr h2⟩
  refine ⟨_, rfl, _, rfl, _, rfl, tb, one, other, u, v, a, b, rfl, S2.tab, sz, S2.one, S2.other, oa, ob, fun hne H3 e3 => ?_, fun he p H3 e3 hN => ?_⟩
  · cases o with
    | none => exact absurd (cross_next sz oa ob m io) hne
    | some x =>
      obtain ⟨x1, x2, x3⟩ := io
      refine ⟨_, rfl, rfl, _, rfl, ?_⟩
      refine iteF ?_
      refine ⟨_, rfl, rfl, _, rfl, ?_⟩
      refine iteF ?_
      refine ⟨_, rfl, _, rfl, _, _, rfl, rfl, _, rfl, ?_⟩
      refine iteD (fun c => by omega) (fun _ => ?_)
      have e13 := e12.trans e3
      obtain ⟨dt, pk, ht⟩ := S.tab
      have b1 := sz.w0
      have b2 := sz.w1
      have b3 := sz.h0
      have b4 := sz.h1
      have bg := big_ge
      have bp : (4 : Int) * 10 ^ 30 ≤ 10 ^ 200 := by decide +kernel
      have cm : CMulW (4 * u) v := big_mul (by omega) (by omega) (by omega) (by omega)
      refine ⟨_, rfl, _, rfl, _, rfl, tb, _, dt, _, _, rfl, e13 _ _ ht, T.cTable, T.nTableWidth, rfl, _, _, rfl, rfl, .inl ⟨by decide, by decide⟩, _, rfl, tb, _, dt, _, _, rfl, e13 _ _ ht, T.cTable, T.nTableHeight, rfl, _, _, rfl, rfl, cm, _, _, rfl, rfl, le2, fun l4 n4 => ?_⟩
      have hl4 : upd H3 l4 (.lst [.int x, .int (x + 4 * u * v)]) l4 = some (.lst [.int x, .int (x + 4 * u * v)]) := upd_same
      have e4 := e13.trans (Ex.new (o := .lst [.int x, .int (x + 4 * u * v)]) n4)
      refine ⟨l4, rfl, ⟨_, SqL.of hl4⟩, for_list (K := K) (a := l4) (xs := [.int x, .int (x + 4 * u * v)]) (fun i σ' H' => ∃ (w17 w18 : Option V), σ' = [v0, v1, v2, v3, v4, some (.ref tb), some one, some other, some (.int m), v9, v10, some (.ref r), some (.bl hb), some (enV (some x)), v14, v15, some .non, w17, w18] ∧ Ex H H' ∧ H' l4 = some (.lst [.int x, .int (x + 4 * u * v)]))
        ⟨_, _, rfl, e4, hl4⟩ (fun i σ' H' _ ⟨_, _, _, _, q⟩ => SqL.of q) ?_ ?_⟩
      · rintro i q σ' H5 hi ⟨w17, w18, rfl, e5, hl5⟩
        obtain ⟨l, rfl, hxl, hpl⟩ : ∃ l, q = V.int l ∧ m ≤ l ∧ pos u v a l = pos u v b l := by
          have huv : 0 ≤ 4 * u * v := Int.mul_nonneg (by omega) (by omega)
          match i, hi with
          | 0, hi =>
            cases hi
            exact ⟨x, rfl, x1, x2⟩
          | 1, hi =>
            cases hi
            exact ⟨_, rfl, by omega, by rw [pos_period b1 b3, pos_period b1 b3]; exact x2⟩
        have S5 := S.up e5
        have ht5 := e5 _ _ ht
        refine ⟨_, rfl, tb, _, dt, _, _, rfl, ht5, T.cTable, T.nTableWidth, rfl, _, rfl, tb, _, dt, _, _, rfl, ht5, T.cTable, T.nTableHeight, rfl, _, rfl, _, rfl, u, v, l, one, a, rfl, b1, b3, S5.one, oa.u, oa.v, fun q6 H6 e6 hq6 => ?_⟩
        have S6 := S5.up e6
        have ht6 := e6 _ _ ht5
        refine ⟨_, rfl, tb, _, dt, _, _, rfl, ht6, T.cTable, T.nTableWidth, rfl, _, rfl, tb, _, dt, _, _, rfl, ht6, T.cTable, T.nTableHeight, rfl, _, rfl, _, rfl, u, v, l, other, b, rfl, b1, b3, S6.other, ob.u, ob.v, fun q7 H7 e7 hq7 => ?_⟩
        refine ⟨_, rfl, _, _, dp_tup hq7, dp_tup (hq6.up e7), pd_shaped _, pd_shaped _, _, rfl, ?_⟩
        refine iteF' (by rw [pd_eqv, decide_eq_true hpl.symm]; rfl) ?_
        have e57 := e6.trans e7
        have S7 := S5.up e57
        obtain ⟨dx, cp, q1, q2⟩ := hR
        have e07 := e5.trans e57
        refine ⟨_, rfl, r, dx, _, rfl, e07 _ _ q1, rfl, _, rfl, r, l, _, none, R, rfl, ⟨dx, cp, e07 _ _ q1, q2.up e07⟩, c1.wf, Nat.le_trans c1.ln (by decide), fun h8 H8 e8 hi8 => ?_⟩
        have t8 : h8 = true := hi8.mpr (hfacts l hxl hpl)
        subst t8
        refine ⟨true, rfl, ?_⟩
        refine iteF ?_
        have S8 := S7.up e8
        have r1 := fold_range (p := a.x + a.u * (l - a.m)) b1
        have r2 := fold_range (p := a.y + a.v * (l - a.m)) b3
        have am := S.am
        have bm := S.bm
        have hq8 := (hq6.up e7).up e8
        refine ⟨_, rfl, _, rfl, _, rfl, tb, one, q6, u, v, (pos u v a l).1, (pos u v a l).2, a, rfl, S8.tab, sz, S8.one, oa, hq8, r1.1, r1.2, r2.1, r2.2, fun r9 H9 R9 e9 c9 t9 => ?_⟩
        obtain ⟨dx9, cp9, _, q91, q92⟩ := t9
        refine ⟨r9, dx9, _, rfl, q91, rfl, _, rfl, r9, l, _, none, R9, rfl, ⟨dx9, cp9, q91, q92⟩, c9.wf, Nat.le_trans c9.ln (by decide), fun h10 H10 e10 hi10 => ?_⟩
        have t10 : h10 = true := hi10.mpr ⟨by omega, (fun e he => nomatch he), (c9.hit l).mpr rfl⟩
        subst t10
        refine ⟨true, rfl, ?_⟩
        refine iteF ?_
        have S10 := (S8.up e9).up e10
        refine ⟨_, rfl, _, rfl, _, rfl, tb, other, q6, u, v, (pos u v a l).1, (pos u v a l).2, b, rfl, S10.tab, sz, S10.other, ob, (hq8.up e9).up e10, r1.1, r1.2, r2.1, r2.2, fun r11 H11 R11 e11 c11 t11 => ?_⟩
        obtain ⟨dx11, cp11, _, q111, q112⟩ := t11
        refine ⟨r11, dx11, _, rfl, q111, rfl, _, rfl, r11, l, _, none, R11, rfl, ⟨dx11, cp11, q111, q112⟩, c11.wf, Nat.le_trans c11.ln (by decide), fun h12 H12 e12' hi12 => ?_⟩
        have t12 : h12 = true := hi12.mpr ⟨by omega, (fun e he => nomatch he), (c11.hit l).mpr hpl.symm⟩
        subst t12
        refine ⟨true, rfl, ?_⟩
        refine iteF ?_
        have ee := ((((e8.trans e9).trans e10).trans e11).trans e12')
        exact ⟨_, _, rfl, e07.trans ee, ee _ _ (e57 _ _ hl5)⟩
      · rintro σ' H5 ⟨w17, w18, rfl, e5, hl5⟩
        exact hQ H5
  · cases o with
    | some x => exact absurd he (cross_ne sz oa ob io.2.1)
    | none =>
      refine ⟨_, rfl, rfl, _, rfl, ?_⟩
      refine iteT ?_
      refine ⟨_, rfl, rfl, _, rfl, ?_⟩
      refine iteT ?_
      have hf : hb = false := by
        cases hb with
        | false => rfl
        | true => exact absurd (hhb.mp rfl) (io m (Int.le_refl _))
      subst hf
      refine ⟨_, rfl, false, rfl, true, rfl, ?_⟩
      refine iteT ?_
      have hno := cross_nil.mp he
      have S3 := S2.up e3
      refine ⟨_, rfl, _, rfl, _, rfl, _, rfl, tb, p, one, other, u, v, a, b, rfl, S3.tab, sz, S3.one, S3.other, oa, ob, ?_⟩
      exact ask_nev hN hno (fun H' _ => ⟨true, true, rfl, rfl, hQ H'⟩)
end
end Cu

/-! ## CuLaw6 -/
set_option maxRecDepth 100000
set_option maxHeartbeats 4000000
namespace Cu
open PySem PySem.Spec PyProof.Rows L2 Evl
theorem Nums.up {H H' : Hp} {p : Addr} {ns : List Int} (e : Ex H H') (h : Nums H p ns) : Nums H' p ns := ⟨e _ _ h.1, h.2⟩
theorem red_blue : ("red" : Str) ≠ "blue" := by decide +kernel
section
variable {P : Program} {w : World} {K : PySem.W.Frag} {mg : Str → Option Value} {base : Heap}
theorem law_s4 (T : Txt K mg) {cdv : Value} {A : Around} {outer : List Env} {s : Shared} {H0 : Hp} {Q : VK} {E : XK} (hr : Room 7 (A.deeper (envOfC "law" (defScope sLaw) s.heap.objs.size (He.ga K "law") cdv))) (hQ : ∀ H', Q (.bl true) H') :
    ∃ t, PSs (cxOf CX0 P w K mg base NLaw "law" (defScope sLaw) (He.ga K "law") cdv A outer s H0 E).nox ((defBody sLaw).drop 18) t ∧
      ∀ (H : Hp) (tb r nb : Addr) (ns : List Int) (one other third : V) (u v m : Int) (a b c : Bl) (hb : Bool) (o : Option Int) (R : List (Int × Int)) (v0 v2 v3 v4 v9 v10 v15 v16 v17 v18 : Option V),
        Sc K H tb one other u v m a b → Nums H nb ns → BallA K H third c → BOk u v c → c.m ≤ m → ClsOk R (4 * 10 ^ 60) 4 (fun t => pos u v a t = pos u v b t) → TimesA K H r (mx a.m b.m) none R → (hb = true ↔ pos u v a m = pos u v b m) → IsNext (fun t => pos u v a t = pos u v b t) m o →
        t { nx := fun _ H' => Q .non H', rt := Q } [v0, some (.ref nb), v2, v3, v4, some (.ref tb), some one, some other, some (.int m), v9, v10, some (.ref r), some (.bl hb), some (enV o), some third, v15, v16, v17, v18] H := by
  have nd := scLaw.nd
  obtain ⟨t5, p5, k5⟩ := law_s5 (P := P) (w := w) (base := base) T (cdv := cdv) (A := A) (outer := outer) (s := s) (H0 := H0) (E := E) hr hQ
  refine ⟨_, (pss_cons (ps_if (pt_not (pt_val (pe_def (D_LawThree T) hr (pa_cons (pv 5) (pa_cons (pe_lst (pa_cons (pv 6) (pa_cons (pv 7) (pa_cons (pv 14) pa_nil)))) (pa_cons (pv 8) pa_nil)))))) (pss_one (ps_ret pe_bl)) pss_nil)
      (pss_cons (ps_if (pt_not (pt_val (pe_def (D_LawSlot T) hr (pa_cons (pv 5) (pa_cons (pe_lst (pa_cons (pv 6) (pa_cons (pv 7) pa_nil))) (pa_cons (pv 8) (pa_cons (pe_op op_add pe_int (pe_def (D_LawPick T) hr (pa_cons (pv 1) (pa_cons pe_int (pa_cons pe_int pa_nil))))) pa_nil))))))) (pss_one (ps_ret pe_bl)) pss_nil)
      (pss_cons (ps_set (i := 15) nd rfl (Or.inl rfl) (pe_met (D_TimesNextFrom T) (pe_def (D_MeetsWhile T) hr (pa_cons (pv 5) (pa_cons (pv 6) (pa_cons (pv 7) (pa_cons (pe_mkTimes T hr (pa_cons (pv 8) (pa_cons (pe_op op_add (pv 8) pe_int) (pa_cons (pe_lst (pa_cons (pe_tup (pa_cons pe_int (pa_cons pe_int pa_nil))) pa_nil)) pa_nil)))) pa_nil))))) T.cTimes T.mTimesNextFrom hr (pa_cons pe_int pa_nil)))
      (pss_cons (ps_if (pt_cmpR op_ne (pv 15) (pe_ix ix_list (pe_lst (pa_cons pe_non (pa_cons (pv 13) pa_nil))) (pe_callTy call_int1 (by rfl) T.zInt (by decide +kernel) (pa_cons (pe_and (pe_cmpR op_notN (pv 13) pe_non (nomark _)) (pe_one (pe_cmpR op_le (pv 13) (pe_op op_add (pv 8) pe_int) (nomark _)))) pa_nil)) (fun _ _ => rfl)) (nomark _)) (pss_one (ps_ret pe_bl)) pss_nil)
      p5)))), ?_⟩
  intro H tb r nb ns one other third u v m a b c hb o R v0 v2 v3 v4 v9 v10 v15 v16 v17 v18 S hn hc oc cm c1 hR hhb io
  have sz := S.sz
  have oa := S.oa
  have ob := S.ob
  refine ⟨_, rfl, _, rfl, _, rfl, _, rfl, le3, fun l nl => ?_⟩
  have hl : upd H l (.lst [one, other, third]) l = some (.lst [one, other, third]) := upd_same
  have e1 : Ex H (upd H l (.lst [one, other, third])) := Ex.new nl
  generalize upd H l (.lst [one, other, third]) = H1 at *
  have S1 := S.up e1
  refine ⟨_, rfl, tb, l, one, other, third, u, v, m, a, b, c, rfl, S1.tab, sz, hl, S1.one, S1.other, hc.up e1, oa, ob, oc, S.am, S.bm, cm, fun H2 e2 => ⟨true, rfl, ?_⟩⟩
  refine iteF ?_
  have S2 := S1.up e2
  have e12 := e1.trans e2
  refine ⟨_, rfl, _, rfl, _, rfl, le2, fun l3 nl3 => ?_⟩
  have hl3 : upd H2 l3 (.lst [one, other]) l3 = some (.lst [one, other]) := upd_same
  have e3 : Ex H2 (upd H2 l3 (.lst [one, other])) := Ex.new nl3
  generalize upd H2 l3 (.lst [one, other]) = H3 at *
  have S3 := S2.up e3
  have e13 := e12.trans e3
  refine ⟨_, rfl, _, rfl, nb, ns, 57, 4, rfl, hn.up e13, by decide, by decide, by decide, fun n n0 n4 => ?_⟩
  refine ⟨_, _, rfl, rfl, tb, l3, one, other, u, v, m, 1 + n, a, b, rfl, S3.tab, sz, hl3, S3.one, S3.other, oa, ob, by rw [S.az, S.bz]; exact red_blue, S.am, S.bm, S.m0, S.m1, by omega, by omega, fun H4 e4 => ⟨true, rfl, ?_⟩⟩
  refine iteF ?_
  have S4 := S3.up e4
  have e14 := e13.trans e4
  refine ⟨_, rfl, _, rfl, _, rfl, _, rfl, _, rfl, _, _, rfl, rfl, le2, fun n5 nn5 => ⟨le1, fun l5 nl5 => ?_⟩⟩
  obtain ⟨hL5, e5⟩ := lst_one (K := K) nn5 nl5
  have m0 := S.m0
  intro x6 dx6 nx6 nd6 ne6
  have n2 := (upd_ne (o := .own x6) ne6.symm).trans nx6
  have ex6 := (Ex.new (o := .own x6) nd6).trans (Ex.new (o := .ins (He.ga K "Times") dx6 []) n2)
  refine ⟨x6, dx6, l5, m, some (m + 40), [(0, 1)], rfl, upd_same, hL5.up ex6, (fun c hc => by cases List.mem_singleton.mp hc; exact ⟨by decide, by decide⟩), List.pairwise_singleton _ _, show 1 ≤ 64 by decide, m0, (fun e he => by cases he; omega), fun H6 L6 o6 pL6 hF6 => ⟨rfl, ?_⟩⟩
  have e6 := o6 _ nx6 ex6
  have e46 := e5.trans e6
  have S6 := S4.up e46
  have eL : L6 = [(0, 1)] := pL6.eq_singleton
  subst eL
  refine ⟨tb, x6, one, other, u, v, m, some (m + 40), [(0, 1)], a, b, rfl, S6.tab, sz, S6.one, S6.other, oa, ob, hF6.toA, (fun c hc => by cases List.mem_singleton.mp hc; exact ⟨by decide, by decide⟩), (fun c hc => by cases List.mem_singleton.mp hc; exact Int.le_trans (by decide : (1 : Int) ≤ 2 * 10 ^ 30) big2le), show 1 ≤ 1 by decide, m0, (fun e he => by cases he; omega), fun x7 H7 R7 e7 wf7 ln7 hit7 hT7 => ?_⟩
  obtain ⟨dx7, cp7, q1, q2⟩ := hT7
  refine ⟨x7, dx7, _, rfl, q1, rfl, x7, 0, _, some (m + 40), R7, rfl, ⟨dx7, cp7, q1, q2⟩, wf7, Nat.le_trans ln7 (by decide), fun o8 H8 e8 io8 => ?_⟩
  have e48 := (e46.trans e7).trans e8
  have e18 := e14.trans e48
  have mxe : mx (mx a.m b.m) m = m := by
    have := mx_le S.am S.bm
    unfold mx at this ⊢
    split <;> omega
  have io9 : IsNext (fun t => m ≤ t ∧ t ≤ m + 40 ∧ pos u v a t = pos u v b t) 0 o8 := io8.congr fun t _ => by
    rw [mxe]
    constructor
    · rintro ⟨h1, h2, h3⟩
      exact ⟨h1, h2 _ rfl, ((hit7 t).mp h3).1⟩
    · rintro ⟨h1, h2, h3⟩
      exact ⟨h1, (fun e he => by cases he; exact h2), (hit7 t).mpr ⟨h3, hit_all⟩⟩
  have eo := soon_next m0 io io9
  have S8 := (S6.up e7).up e8
  obtain ⟨dx, cp, qr, ql⟩ := hR
  refine ⟨_, rfl, _, rfl, le2, fun l9 nl9 => ?_⟩
  have hl9 : upd H8 l9 (.lst [.non, enV o]) l9 = some (.lst [.non, enV o]) := upd_same
  have e9 : Ex H8 (upd H8 l9 (.lst [.non, enV o])) := Ex.new nl9
  have e19 := e18.trans e9
  have S9 := S8.up e9
  have fin := k5 _ tb r one other u v m a b hb o R v0 (some (.ref nb)) v2 v3 v4 v9 v10 (some third) (some (enV o8)) v16 v17 v18 S9 c1 ⟨dx, cp, e19 _ _ qr, ql.up e19⟩ hhb io
  cases o with
  | none =>
    refine ⟨_, rfl, rfl, _, rfl, ?_⟩
    refine iteF ?_
    refine .inr ⟨false, rfl, ?_⟩
    refine ⟨l9, _, 0, .non, rfl, rfl, SqL.of hl9, rfl, ?_⟩
    subst eo
    refine ⟨rfl, _, rfl, ?_⟩
    refine iteF ?_
    exact fin
  | some x =>
    refine ⟨_, rfl, rfl, _, rfl, ?_⟩
    refine iteT ?_
    refine ⟨_, rfl, _, rfl, _, _, rfl, rfl, _, _, rfl, rfl, .inr ⟨_, rfl, ?_⟩⟩
    have eo : o8 = if x ≤ m + 40 then some x else none := eo
    by_cases hx : x ≤ m + 40
    · rw [if_pos hx] at eo
      subst eo
      refine ⟨l9, _, 1, .int x, rfl, by rw [decide_eq_true hx]; rfl, SqL.of hl9, rfl, ?_⟩
      refine ⟨rfl, _, rfl, ?_⟩
      refine iteF' (by show (!decide (V.int x = V.int x)) = false; rw [decide_eq_true rfl]; rfl) ?_
      exact fin
    · rw [if_neg hx] at eo
      subst eo
      refine ⟨l9, _, 0, .non, rfl, by rw [decide_eq_false hx]; rfl, SqL.of hl9, rfl, ?_⟩
      refine ⟨rfl, _, rfl, ?_⟩
      refine iteF ?_
      exact fin
end
end Cu

/-! ## CuLaw7 -/
set_option maxRecDepth 100000
set_option maxHeartbeats 4000000
namespace Cu
open PySem PySem.Spec PyProof.Rows L2 Evl
theorem iteB {c : Bool} {A B : Prop} (hT : c = true → B → A) (r : B) : if c = true then A else B := by
  cases c with
  | false => exact iteF r
  | true => exact iteT (hT rfl r)
section
variable {P : Program} {w : World} {K : PySem.W.Frag} {mg : Str → Option Value} {base : Heap}
theorem law_s3 (T : Txt K mg) {cdv : Value} {A : Around} {outer : List Env} {s : Shared} {H0 : Hp} {Q : VK} {E : XK} (hr : Room 7 (A.deeper (envOfC "law" (defScope sLaw) s.heap.objs.size (He.ga K "law") cdv))) (hQ : ∀ H', Q (.bl true) H') :
    ∃ t, PSs (cxOf CX0 P w K mg base NLaw "law" (defScope sLaw) (He.ga K "law") cdv A outer s H0 E).nox ((defBody sLaw).drop 10) t ∧
      ∀ (H : Hp) (tb nb : Addr) (ns : List Int) (one other : V) (u v m : Int) (a b : Bl) (v0 v2 v3 v4 v9 v10 v11 v12 v13 v14 v15 v16 v17 v18 : Option V),
        Sc K H tb one other u v m a b → Nums H nb ns →
        t { nx := fun _ H' => Q .non H', rt := Q } [v0, some (.ref nb), v2, v3, v4, some (.ref tb), some one, some other, some (.int m), v9, v10, v11, v12, v13, v14, v15, v16, v17, v18] H := by
  have nd := scLaw.nd
  obtain ⟨t4, p4, k4⟩ := law_s4 (P := P) (w := w) (base := base) T (cdv := cdv) (A := A) (outer := outer) (s := s) (H0 := H0) (E := E) hr hQ
  refine ⟨_, (pss_cons (ps_set (i := 11) nd rfl (Or.inl rfl) (pe_def (D_Meetings T) hr (pa_cons (pv 5) (pa_cons (pv 6) (pa_cons (pv 7) pa_nil)))))
      (pss_cons (ps_set (i := 12) nd rfl (Or.inl rfl) (pe_cmpR (op_eqD hr.units) (pe_def (D_LawPlace T) hr (pa_cons (pe_fld (pv 5) rfl) (pa_cons (pe_fld (pv 5) rfl) (pa_cons (pv 6) (pa_cons (pv 8) pa_nil))))) (pe_def (D_LawPlace T) hr (pa_cons (pe_fld (pv 5) rfl) (pa_cons (pe_fld (pv 5) rfl) (pa_cons (pv 7) (pa_cons (pv 8) pa_nil))))) (nomark _)))
      (pss_cons (ps_if (pt_cmpR op_ne (pe_met (D_TimesHolds T) (pv 11) T.cTimes T.mTimesHolds hr (pa_cons (pv 8) pa_nil)) (pv 12) (nomark _)) (pss_one (ps_ret pe_bl)) pss_nil)
      (pss_cons (ps_set (i := 13) nd rfl (Or.inl rfl) (pe_met (D_TimesNextFrom T) (pv 11) T.cTimes T.mTimesNextFrom hr (pa_cons (pv 8) pa_nil)))
      (pss_cons (ps_if (PW.pt (pw_or (pt_cmpR op_ne (pe_first T hr (pa_cons (pv 5) (pa_cons (pv 6) (pa_cons (pv 7) pa_nil))) (pk_cons (pv 8) pk_nil)) (pv 13) (nomark _)) (pw_or1 (PW.pt (pw_and (pt_val (pv 12)) (pw_and1 (pt_cmpR op_ne (pv 13) (pv 8) (nomark _)))))))) (pss_one (ps_ret pe_bl)) pss_nil)
      (pss_cons (ps_set (i := 14) nd rfl (Or.inl rfl) (pe_def (D_LawBigBall T) hr (pa_cons (pv 1) (pa_cons pe_int (pa_cons pe_str (pa_cons (pe_fld (pv 5) rfl) (pa_cons (pe_fld (pv 5) rfl) pa_nil)))))))
      (pss_cons (ps_set (i := 14) nd rfl (Or.inl rfl) (pe_op op_catT (pe_slice sl_tup (pv 14) po_none (po_some pe_int)) (pe_tup (pa_cons (pe_op op_mod (pe_callTy call_int1 (by rfl) T.zInt (by decide +kernel) (pa_cons (pe_ix ix_tup (pv 14) pe_int (fun _ _ => rfl)) pa_nil)) (pe_op op_add (pv 8) pe_int)) pa_nil))))
      (pss_cons (ps_if (pt_cmpR op_eq (pe_def (D_LawPick T) hr (pa_cons (pv 1) (pa_cons pe_int (pa_cons pe_int pa_nil)))) pe_int (nomark _)) (pss_cons (ps_asg (pe_def (D_LawPlace T) hr (pa_cons (pe_fld (pv 5) rfl) (pa_cons (pe_fld (pv 5) rfl) (pa_cons (pv 6) (pa_cons (pv 8) pa_nil))))) (pg_tup rfl (pgs_cons (pg_name (i := 9) nd rfl (Or.inl rfl)) (pgs_cons (pg_name (i := 10) nd rfl (Or.inl rfl)) pgs_nil))))
      (pss_one (ps_set (i := 14) nd rfl (Or.inl rfl) (pe_tup (pa_cons pe_str (pa_cons (pv 9) (pa_cons (pv 10) (pa_cons (pe_ix ix_tup (pv 14) pe_int (fun _ _ => rfl)) (pa_cons (pe_ix ix_tup (pv 14) pe_int (fun _ _ => rfl)) (pa_cons (pv 8) pa_nil)))))))))) pss_nil)
      p4)))))))), ?_⟩
  intro H tb nb ns one other u v m a b v0 v2 v3 v4 v9 v10 v11 v12 v13 v14 v15 v16 v17 v18 S hn
  have sz := S.sz
  have oa := S.oa
  have ob := S.ob
  have m0 := S.m0
  obtain ⟨dt, pk, ht⟩ := S.tab
  refine ⟨_, rfl, _, rfl, _, rfl, tb, one, other, u, v, a, b, rfl, S.tab, sz, S.one, S.other, oa, ob, fun r H1 R e1 c1 hR => ?_⟩
  have S1 := S.up e1
  refine ⟨_, rfl, tb, _, dt, _, _, rfl, e1 _ _ ht, T.cTable, T.nTableWidth, rfl, _, rfl, tb, _, dt, _, _, rfl, e1 _ _ ht, T.cTable, T.nTableHeight, rfl, _, rfl, _, rfl, u, v, m, one, a, rfl, sz.w0, sz.h0, S1.one, oa.u, oa.v, fun q2 H2 e2 hq2 => ?_⟩
  have e12 := e1.trans e2
  have S2 := S1.up e2
  refine ⟨_, rfl, tb, _, dt, _, _, rfl, e12 _ _ ht, T.cTable, T.nTableWidth, rfl, _, rfl, tb, _, dt, _, _, rfl, e12 _ _ ht, T.cTable, T.nTableHeight, rfl, _, rfl, _, rfl, u, v, m, other, b, rfl, sz.w0, sz.h0, S2.other, ob.u, ob.v, fun q3 H3 e3 hq3 => ?_⟩
  refine ⟨_, _, dp_tup (hq2.up e3), dp_tup hq3, pd_shaped _, pd_shaped _, ?_⟩
  rw [pd_eqv]
  obtain ⟨hb, ehb⟩ : ∃ hb : Bool, decide (pos u v a m = pos u v b m) = hb := ⟨_, rfl⟩
  have hhb : hb = true ↔ pos u v a m = pos u v b m := by rw [← ehb, decide_eq_true_iff]
  rw [ehb]
  have e13 := e12.trans e3
  have S3 := S2.up e3
  obtain ⟨dx, cp, qr, ql⟩ := hR
  have e03 := e2.trans e3
  have hTS : ∀ t, m ≤ t → (TS (mx a.m b.m) none R t ↔ pos u v a t = pos u v b t) := fun t ht => by
    constructor
    · rintro ⟨_, _, h⟩
      exact (c1.hit t).mp h
    · intro h
      exact ⟨Int.le_trans (mx_le S.am S.bm) ht, (fun e he => nomatch he), (c1.hit t).mpr h⟩
  refine ⟨_, rfl, r, dx, _, rfl, e03 _ _ qr, rfl, _, rfl, r, m, _, none, R, rfl, ⟨dx, cp, e03 _ _ qr, ql.up e03⟩, c1.wf, Nat.le_trans c1.ln (by decide), fun hb4 H4 e4 hi => ?_⟩
  have hbe : hb4 = hb := by
    rw [Bool.eq_iff_iff, hi, hTS m (Int.le_refl _), hhb]
  subst hbe
  refine ⟨_, rfl, by cases hb4 <;> rfl, _, rfl, ?_⟩
  refine iteF' (by rw [decide_eq_true rfl]; rfl) ?_
  have e04 := e03.trans e4
  refine ⟨_, rfl, r, dx, _, rfl, e04 _ _ qr, rfl, _, rfl, r, m, _, none, R, rfl, ⟨dx, cp, e04 _ _ qr, ql.up e04⟩, c1.wf, Nat.le_trans c1.ln (by decide), fun o H5 e5 io => ?_⟩
  have io := IsNext.congr hTS io
  have S5 := (S3.up e4).up e5
  have e05 := e04.trans e5
  refine ⟨_, rfl, _, rfl, _, rfl, _, rfl, rfl, rfl, tb, one, other, u, v, m, a, b, rfl, S5.tab, sz, S5.one, S5.other, oa, ob, fun o6 H6 e6 io6 => ?_⟩
  have eo : o6 = o := io6.uniq (io.congr fun t ht => ⟨fun h => ⟨Int.le_trans (mx_le S.am S.bm) ht, h⟩, fun h => h.2⟩)
  subst eo
  refine ⟨_, rfl, by cases o6 <;> rfl, _, rfl, ?_⟩
  refine iteF' (by rw [decide_eq_true rfl]; rfl) ?_
  have S6 := S5.up e6
  have e06 := e05.trans e6
  have e16 := e1.trans e06
  refine ⟨_, rfl, hb4, rfl, ?_⟩
  refine iteB (fun hc rest => ?_) ?_
  · have om : o6 = some m := by
      cases o6 with
      | none => exact absurd (hhb.mp hc) (io m (Int.le_refl _))
      | some x =>
        have h1 := io.1
        have h2 := io.2.2 m (Int.le_refl _) (hhb.mp hc)
        rw [show x = m by omega]
    refine ⟨_, rfl, _, rfl, by rw [om]; rfl, _, rfl, ?_⟩
    have hd : (!decide (enV o6 = V.int m)) = false := by
      rw [om]
      show (!decide (V.int m = V.int m)) = false
      rw [decide_eq_true rfl]
      rfl
    rw [hd]
    exact rest
  refine iteF ?_
  have htx := e16 _ _ ht
  have hn6 := hn.up e16
  refine ⟨_, rfl, _, rfl, tb, _, dt, _, _, rfl, htx, T.cTable, T.nTableWidth, rfl, _, rfl, tb, _, dt, _, _, rfl, htx, T.cTable, T.nTableHeight, rfl, nb, ns, 43, u, v, "white", rfl, hn6, by decide, by decide, name_white, sz.w0, sz.h0, ?_⟩
  rintro _ c H7 e7 ⟨p0, rfl, hp0⟩ oc cz cm
  refine ⟨_, rfl, _, rfl, p0, _, rfl, hp0, (fun z => absurd z.2 (show ¬ HT.sIx 6 6 (some 5) = 6 by decide)), fun p2 n2 => ?_⟩
  have ec : cutV c.vs none (some 5) = c.vs.take 5 := cut_to (k := 5)
  rw [ec]
  have hp2 : upd H7 p2 (.tup (c.vs.take 5)) p2 = some (.tup (c.vs.take 5)) := upd_same
  have e8 : Ex H7 (upd H7 p2 (.tup (c.vs.take 5))) := Ex.new n2
  generalize upd H7 p2 (.tup (c.vs.take 5)) = H8 at *
  refine ⟨_, rfl, p0, _, _, _, rfl, rfl, ex_t e8 hp0, rfl, .inl ⟨_, rfl, _, rfl, _, _, rfl, rfl, _, _, rfl, rfl, by omega, le1, fun p3 n3 => ?_⟩⟩
  have hp3 : upd H8 p3 (.tup [.int (c.m % (m + 1))]) p3 = some (.tup [.int (c.m % (m + 1))]) := upd_same
  have e9 : Ex H8 (upd H8 p3 (.tup [.int (c.m % (m + 1))])) := Ex.new n3
  refine ⟨p2, p3, _, _, rfl, rfl, SqT.of (e9 _ _ hp2), SqT.of hp3, (fun h => nomatch h), (show 6 ≤ sizeLine by decide), (fun h => nomatch h), fun _ p4 n4 => ?_⟩
  have e10 := e9.trans (Ex.new (o := .tup (c.vs.take 5 ++ [.int (c.m % (m + 1))])) n4)
  have hp4 : upd (upd H8 p3 (.tup [.int (c.m % (m + 1))])) p4 (.tup (c.vs.take 5 ++ [.int (c.m % (m + 1))])) p4 = some (.tup (c.vs.take 5 ++ [.int (c.m % (m + 1))])) := upd_same
  have e710 := e8.trans e10
  obtain ⟨HX, hHX⟩ : ∃ HX, upd (upd H8 p3 (.tup [.int (c.m % (m + 1))])) p4 (.tup (c.vs.take 5 ++ [.int (c.m % (m + 1))])) = HX := ⟨_, rfl⟩
  dsimp only at hHX hp4 e710 ⊢
  rw [hHX] at hp4 e710 ⊢
  have e6X := e7.trans e710
  have e0X := e06.trans e6X
  have e1X := e16.trans e6X
  have SX := S6.up e6X
  have b3 : BallA K HX (.ref p4) ⟨c.z, c.x, c.y, c.u, c.v, c.m % (m + 1)⟩ := ⟨p4, rfl, SqT.of hp4⟩
  have mm0 : 0 ≤ c.m % (m + 1) := Int.emod_nonneg _ (by omega)
  have mm1 : c.m % (m + 1) < m + 1 := Int.emod_lt_of_pos _ (by omega)
  have m1 := S.m1
  have p1730 : (10 : Int) ^ 17 ≤ 10 ^ 30 := by decide
  have hnX := hn6.up e6X
  refine ⟨_, rfl, nb, ns, 56, 2, rfl, hnX, by decide, by decide, by decide, fun n n0 n2 => ⟨rfl, _, rfl, iteEq (fun _ => ?_) (fun _ => ?_)⟩⟩
  · have htX := e6X _ _ htx
    refine ⟨_, rfl, tb, _, dt, _, _, rfl, htX, T.cTable, T.nTableWidth, rfl, _, rfl, tb, _, dt, _, _, rfl, htX, T.cTable, T.nTableHeight, rfl, _, rfl, _, rfl, u, v, m, one, a, rfl, sz.w0, sz.h0, SX.one, oa.u, oa.v, ?_⟩
    rintro _ HY eY ⟨q, rfl, hq⟩
    refine ⟨q, _, rfl, hq, rfl, _, _, rfl, _, _, rfl, rfl, ?_⟩
    obtain ⟨_, e3, b3⟩ := b3
    cases e3
    have b3Y := ex_t eY b3
    refine ⟨_, rfl, _, rfl, _, rfl, p4, _, _, _, rfl, rfl, b3Y, rfl, _, rfl, p4, _, _, _, rfl, rfl, b3Y, rfl, _, rfl, le6, fun pz nz => ?_⟩
    have eZ : Ex HY (upd HY pz (.tup [.str "white", .int (pos u v a m).1, .int (pos u v a m).2, .int c.u, .int c.v, .int m])) := Ex.new nz
    have eXZ := eY.trans eZ
    have r1 := fold_range (p := a.x + a.u * (m - a.m)) sz.w0
    have r2 := fold_range (p := a.y + a.v * (m - a.m)) sz.h0
    exact k4 _ tb r nb ns one other (.ref pz) u v m a b ⟨"white", (pos u v a m).1, (pos u v a m).2, c.u, c.v, m⟩ hb4 o6 R v0 v2 v3 v4 _ _ v15 v16 v17 v18 (SX.up eXZ) (hnX.up eXZ) ⟨pz, rfl, SqT.of upd_same⟩
      ⟨name_white, r1.1, r1.2, r2.1, r2.2, oc.u, oc.v, oc.uv, m0, by show m ≤ 10 ^ 30; omega⟩ (Int.le_refl _) c1 ⟨dx, cp, (e0X.trans eXZ) _ _ qr, ql.up (e0X.trans eXZ)⟩ hhb io
  · exact k4 _ tb r nb ns one other (.ref p4) u v m a b ⟨c.z, c.x, c.y, c.u, c.v, c.m % (m + 1)⟩ hb4 o6 R v0 v2 v3 v4 _ _ v15 v16 v17 v18 SX hnX b3
      ⟨oc.z, oc.x0, oc.x1, oc.y0, oc.y1, oc.u, oc.v, oc.uv, mm0, by show c.m % (m + 1) ≤ 10 ^ 30; omega⟩ (by show c.m % (m + 1) ≤ m; omega) c1 ⟨dx, cp, e0X _ _ qr, ql.up e0X⟩ hhb io
end
end Cu

/-! ## CuLaw8 -/
set_option maxRecDepth 100000
set_option maxHeartbeats 4000000
namespace Cu
open PySem PySem.Spec PyProof.Rows L2 Evl
section
variable {P : Program} {w : World} {K : PySem.W.Frag} {mg : Str → Option Value} {base : Heap}
theorem law_s2 (T : Txt K mg) {cdv : Value} {A : Around} {outer : List Env} {s : Shared} {H0 : Hp} {Q : VK} {E : XK} (hr : Room 7 (A.deeper (envOfC "law" (defScope sLaw) s.heap.objs.size (He.ga K "law") cdv))) (hQ : ∀ H', Q (.bl true) H') :
    ∃ t, PSs (cxOf CX0 P w K mg base NLaw "law" (defScope sLaw) (He.ga K "law") cdv A outer s H0 E).nox ((defBody sLaw).drop 5) t ∧
      ∀ (H : Hp) (nb : Addr) (ns : List Int) (wd hg : Int) (v0 v2 v5 v6 v7 v8 v9 v10 v11 v12 v13 v14 v15 v16 v17 v18 : Option V), 1 ≤ wd → 1 ≤ hg → Nums H nb ns →
        t { nx := fun _ H' => Q .non H', rt := Q } [v0, some (.ref nb), v2, some (.int wd), some (.int hg), v5, v6, v7, v8, v9, v10, v11, v12, v13, v14, v15, v16, v17, v18] H := by
  have nd := scLaw.nd
  obtain ⟨t3, p3, k3⟩ := law_s3 (P := P) (w := w) (base := base) T (cdv := cdv) (A := A) (outer := outer) (s := s) (H0 := H0) (E := E) hr hQ
  refine ⟨_, (pss_cons (ps_set (i := 5) nd rfl (Or.inl rfl) (pe_mkTable T hr (pa_cons (pe_callB (call_min2 rfl) (by rfl) T.zMin (by decide +kernel) (pa_cons (pv 3) (pa_cons (pe_op op_pow pe_int pe_int) pa_nil))) (pa_cons (pe_callB (call_min2 rfl) (by rfl) T.zMin (by decide +kernel) (pa_cons (pv 4) (pa_cons (pe_op op_pow pe_int pe_int) pa_nil))) pa_nil))))
      (pss_cons (ps_set (i := 6) nd rfl (Or.inl rfl) (pe_def (D_LawBigBall T) hr (pa_cons (pv 1) (pa_cons pe_int (pa_cons pe_str (pa_cons (pe_fld (pv 5) rfl) (pa_cons (pe_fld (pv 5) rfl) pa_nil)))))))
      (pss_cons (ps_set (i := 7) nd rfl (Or.inl rfl) (pe_def (D_LawBigBall T) hr (pa_cons (pv 1) (pa_cons pe_int (pa_cons pe_str (pa_cons (pe_fld (pv 5) rfl) (pa_cons (pe_fld (pv 5) rfl) pa_nil)))))))
      (pss_cons (ps_set (i := 8) nd rfl (Or.inl rfl) (pe_op op_add (pe_op op_add (pe_ix ix_tup (pv 6) pe_int (fun _ _ => rfl)) (pe_op op_mul (pe_ix ix_list (pv 1) pe_int (fun _ _ => rfl)) (pe_op op_pow pe_int pe_int))) (pe_ix ix_tup (pv 7) pe_int (fun _ _ => rfl))))
      (pss_cons (ps_if (pt_cmpR op_eq (pe_def (D_LawPick T) hr (pa_cons (pv 1) (pa_cons pe_int (pa_cons pe_int pa_nil)))) pe_int (nomark _)) (pss_cons (ps_asg (pe_def (D_LawPlace T) hr (pa_cons (pe_fld (pv 5) rfl) (pa_cons (pe_fld (pv 5) rfl) (pa_cons (pv 6) (pa_cons (pv 8) pa_nil))))) (pg_tup rfl (pgs_cons (pg_name (i := 9) nd rfl (Or.inl rfl)) (pgs_cons (pg_name (i := 10) nd rfl (Or.inl rfl)) pgs_nil))))
      (pss_one (ps_set (i := 7) nd rfl (Or.inl rfl) (pe_tup (pa_cons pe_str (pa_cons (pv 9) (pa_cons (pv 10) (pa_cons (pe_ix ix_tup (pv 7) pe_int (fun _ _ => rfl)) (pa_cons (pe_ix ix_tup (pv 7) pe_int (fun _ _ => rfl)) (pa_cons (pv 8) pa_nil)))))))))) pss_nil)
      p3))))), ?_⟩
  intro H nb ns wd hg v0 v2 v5 v6 v7 v8 v9 v10 v11 v12 v13 v14 v15 v16 v17 v18 hwd hhg hn
  refine ⟨_, rfl, _, _, rfl, rfl, ⟨by decide, by decide, by decide⟩, _, _, rfl, ?_⟩
  refine ⟨_, rfl, _, _, rfl, rfl, ⟨by decide, by decide, by decide⟩, _, _, rfl, ?_⟩
  intro x5 dx5 nx5 nd5 ne5
  have n2 := (upd_ne (o := .own x5) ne5.symm).trans nx5
  have ex5 := (Ex.new (o := .own x5) nd5).trans (Ex.new (o := .ins (He.ga K "Table") dx5 []) n2)
  have eW : (if (10 : Int) ^ (30 : Int).toNat < wd then (10 : Int) ^ (30 : Int).toNat else wd) = (if (10 : Int) ^ 30 < wd then (10 : Int) ^ 30 else wd) := rfl
  obtain ⟨u, hu, hu1, hu2⟩ : ∃ u, (if (10 : Int) ^ (30 : Int).toNat < wd then (10 : Int) ^ (30 : Int).toNat else wd) = u ∧ 1 ≤ u ∧ u ≤ 10 ^ 30 := ⟨_, rfl, by rw [eW]; split <;> omega, by rw [eW]; split <;> omega⟩
  have eV : (if (10 : Int) ^ (30 : Int).toNat < hg then (10 : Int) ^ (30 : Int).toNat else hg) = (if (10 : Int) ^ 30 < hg then (10 : Int) ^ 30 else hg) := rfl
  obtain ⟨v, hv, hv1, hv2⟩ : ∃ v, (if (10 : Int) ^ (30 : Int).toNat < hg then (10 : Int) ^ (30 : Int).toNat else hg) = v ∧ 1 ≤ v ∧ v ≤ 10 ^ 30 := ⟨_, rfl, by rw [eV]; split <;> omega, by rw [eV]; split <;> omega⟩
  refine ⟨x5, dx5, pkAt K, u, v, by rw [← hu, ← hv]; rfl, upd_same, T.pkT, hu1, hu2, hv1, hv2, fun H1 o1 ht1 => ⟨rfl, ?_⟩⟩
  have e1 := o1 _ nx5 ex5
  have sz : Sz u v := ⟨hu1, hu2, hv1, hv2⟩
  obtain ⟨dt, pk, ht⟩ := ht1
  have hn1 := hn.up e1
  refine ⟨_, rfl, _, rfl, x5, _, dt, _, _, rfl, ht, T.cTable, T.nTableWidth, rfl, _, rfl, x5, _, dt, _, _, rfl, ht, T.cTable, T.nTableHeight, rfl, nb, ns, 10, u, v, "red", rfl, hn1, by decide, by decide, name_red, hu1, hv1, ?_⟩
  rintro _ a H2 e2 ⟨p1, rfl, hp1⟩ oa az am
  have ht2 := e2 _ _ ht
  have hn2 := hn1.up e2
  refine ⟨_, rfl, _, rfl, x5, _, dt, _, _, rfl, ht2, T.cTable, T.nTableWidth, rfl, _, rfl, x5, _, dt, _, _, rfl, ht2, T.cTable, T.nTableHeight, rfl, nb, ns, 24, u, v, "blue", rfl, hn2, by decide, by decide, name_blue, hu1, hv1, ?_⟩
  rintro _ b H3 e3 ⟨p2, rfl, hp2⟩ ob bz bm
  have hp13 := ex_t e3 hp1
  have hn3 := hn2.up e3
  have ht3 := e3 _ _ ht2
  obtain ⟨n4, a4, n40, n41⟩ := at_num hn3.2.1 hn3.2.2 (i := 40) (by decide) (by decide)
  refine ⟨_, rfl, p1, _, _, _, rfl, rfl, hp13, rfl, _, rfl, nb, _, _, _, rfl, rfl, SqL.of hn3.1, a4, _, _, rfl, rfl, ⟨by decide, by decide, by decide⟩, _, _, rfl, rfl, .inl ⟨by omega, by omega⟩, _, _, rfl, rfl, _, rfl, p2, _, _, _, rfl, rfl, hp2, rfl, _, _, rfl, rfl, ?_⟩
  have a0 := oa.m0
  have b0 := ob.m0
  have eM : a.m + n4 * 10 ^ (13 : Int).toNat + b.m = a.m + n4 * 10000000000000 + b.m := rfl
  obtain ⟨m, hm, m0, m1, m2, m3⟩ : ∃ m, a.m + n4 * 10 ^ (13 : Int).toNat + b.m = m ∧ 0 ≤ m ∧ m ≤ 10 ^ 17 ∧ a.m ≤ m ∧ b.m ≤ m := ⟨_, rfl, by rw [eM]; omega, by rw [eM]; omega, by rw [eM]; omega, by rw [eM]; omega⟩
  dsimp only
  rw [hm]
  have e13 := (e1.trans e2).trans e3
  have p1730 : (10 : Int) ^ 17 ≤ 10 ^ 30 := by decide
  refine ⟨_, rfl, nb, ns, 41, 2, rfl, hn3, by decide, by decide, by decide, fun n n0 n2 => ⟨rfl, _, rfl, iteEq (fun _ => ?_) (fun _ => ?_)⟩⟩
  · refine ⟨_, rfl, x5, _, dt, _, _, rfl, ht3, T.cTable, T.nTableWidth, rfl, _, rfl, x5, _, dt, _, _, rfl, ht3, T.cTable, T.nTableHeight, rfl, _, rfl, _, rfl, u, v, m, .ref p1, a, rfl, hu1, hv1, ⟨p1, rfl, hp13⟩, oa.u, oa.v, ?_⟩
    rintro _ H4 e4 ⟨q, rfl, hq⟩
    refine ⟨q, _, rfl, hq, rfl, _, _, rfl, _, _, rfl, rfl, ?_⟩
    have hp24 := ex_t e4 hp2
    refine ⟨_, rfl, _, rfl, _, rfl, p2, _, _, _, rfl, rfl, hp24, rfl, _, rfl, p2, _, _, _, rfl, rfl, hp24, rfl, _, rfl, le6, fun pz nz => ?_⟩
    have eZ : Ex H4 (upd H4 pz (.tup [.str "blue", .int (pos u v a m).1, .int (pos u v a m).2, .int b.u, .int b.v, .int m])) := Ex.new nz
    have e3Z := e4.trans eZ
    have r1 := fold_range (p := a.x + a.u * (m - a.m)) hu1
    have r2 := fold_range (p := a.y + a.v * (m - a.m)) hv1
    exact k3 _ x5 nb ns (.ref p1) (.ref pz) u v m a ⟨"blue", (pos u v a m).1, (pos u v a m).2, b.u, b.v, m⟩ v0 v2 _ _ _ _ v11 v12 v13 v14 v15 v16 v17 v18
      ⟨⟨dt, pk, e3Z _ _ ht3⟩, sz, ⟨p1, rfl, ex_t e3Z hp13⟩, ⟨pz, rfl, SqT.of upd_same⟩, oa, ⟨name_blue, r1.1, r1.2, r2.1, r2.2, ob.u, ob.v, ob.uv, m0, by show m ≤ 10 ^ 30; omega⟩, m2, Int.le_refl _, m0, m1, az, rfl⟩ (hn3.up e3Z)
  · exact k3 _ x5 nb ns (.ref p1) (.ref p2) u v m a b v0 v2 _ _ _ _ v11 v12 v13 v14 v15 v16 v17 v18
      ⟨⟨dt, pk, ht3⟩, sz, ⟨p1, rfl, hp13⟩, ⟨p2, rfl, hp2⟩, oa, ob, m2, m3, m0, m1, az, bz⟩ hn3
theorem at_size {n : Int} (h0 : 0 ≤ n) (h4 : n < 4) : ∃ s : Int, atI [V.int (10 ^ (30 : Int).toNat), .int (10 ^ (13 : Int).toNat), .int (10 ^ (6 : Int).toNat), .int 9] n = some (.int s) ∧ 1 ≤ s := by
  have hc : n = 0 ∨ n = 1 ∨ n = 2 ∨ n = 3 := by omega
  rcases hc with rfl | rfl | rfl | rfl
  · exact ⟨_, rfl, by decide⟩
  · exact ⟨_, rfl, by decide⟩
  · exact ⟨_, rfl, by decide⟩
  · exact ⟨_, rfl, by decide⟩
def spLaw (K : PySem.W.Frag) : Sp := fun vs H Q _ => ∃ (p : Addr) (xs : List Int), vs = [.ref p] ∧ SqL K H p (xs.map V.int) ∧ ∀ H', Q (.bl true) H'
theorem law_ok (T : Txt K mg) {fd : FuncData} (F : FunD K "law" "law" (defArgs sLaw) (defBody sLaw) (defScope sLaw) [] [] (He.ga K "law") fd) : FnOk P w K mg base CX0 8 (He.ga K "law") fd ["_law_script"] (spLaw K) := by
  refine F.ok scLaw ?_ fun cdv A outer s H vs Q E hr h => ?_
  · rintro vs H Q E ⟨p, xs, rfl, _⟩
    rfl
  · have hb : ∃ t, PSs (cxOf CX0 P w K mg base NLaw "law" (defScope sLaw) (He.ga K "law") cdv A outer s H E).nox (defBody sLaw) t ∧ t { nx := fun _ H' => Q .non H', rt := Q } (start NLaw vs) H := ?_
    · obtain ⟨t, h1, h2⟩ := hb
      exact ⟨t, h1.nox, h2⟩
    obtain ⟨p, xs, rfl, hp, hQ⟩ := h
    have nd := scLaw.nd
    obtain ⟨t2, p2, k2⟩ := law_s2 (P := P) (w := w) (base := base) T (cdv := cdv) (A := A) (outer := outer) (s := s) (H0 := H) (E := E) hr hQ
    refine ⟨_, (pss_cons (ps_set (i := 1) nd rfl (Or.inl rfl) (pe_def (D_LawNumbers T) hr (pa_cons (pv 0) (pa_cons pe_int pa_nil))))
      (pss_cons (ps_set (i := 2) nd rfl (Or.inl rfl) (pe_lst (pa_cons (pe_op op_pow pe_int pe_int) (pa_cons (pe_op op_pow pe_int pe_int) (pa_cons (pe_op op_pow pe_int pe_int) (pa_cons pe_int pa_nil))))))
      (pss_cons (ps_set (i := 3) nd rfl (Or.inl rfl) (pe_op op_add pe_int (pe_op op_mod (pe_callTy call_int1 (by rfl) T.zInt (by decide +kernel) (pa_cons (pe_def (D_LawBig T) hr (pa_cons (pv 1) (pa_cons pe_int pa_nil))) pa_nil)) (pe_ix ix_list (pv 2) (pe_def (D_LawPick T) hr (pa_cons (pv 1) (pa_cons pe_int (pa_cons pe_int pa_nil)))) (fun _ _ => rfl)))))
      (pss_cons (ps_set (i := 4) nd rfl (Or.inl rfl) (pe_op op_add pe_int (pe_op op_mod (pe_callTy call_int1 (by rfl) T.zInt (by decide +kernel) (pa_cons (pe_def (D_LawBig T) hr (pa_cons (pv 1) (pa_cons pe_int pa_nil))) pa_nil)) (pe_ix ix_list (pv 2) (pe_def (D_LawPick T) hr (pa_cons (pv 1) (pa_cons pe_int (pa_cons pe_int pa_nil)))) (fun _ _ => rfl)))))
      (pss_cons (ps_if (pt_cmpR op_eq (pe_def (D_LawPick T) hr (pa_cons (pv 1) (pa_cons pe_int (pa_cons pe_int pa_nil)))) pe_int (nomark _)) (pss_one (ps_set (i := 4) nd rfl (Or.inl rfl) (pe_ix ix_list (pe_lst (pa_cons (pv 3) (pa_cons (pe_op op_add (pe_op op_mul pe_int (pe_op op_fdiv (pv 3) pe_int)) pe_int) (pa_cons (pe_callB (call_max2 rfl) (by rfl) T.zMax (by decide +kernel) (pa_cons pe_int (pa_cons (pe_op op_fdiv (pv 3) pe_int) pa_nil))) pa_nil)))) (pe_def (D_LawPick T) hr (pa_cons (pv 1) (pa_cons pe_int (pa_cons pe_int pa_nil)))) (fun _ _ => rfl)))) pss_nil)
      p2))))), ?_⟩
    refine ⟨_, rfl, p, xs, rfl, hp, fun nb H1 ns e1 hn => ?_⟩
    refine ⟨_, _, rfl, rfl, ⟨by decide, by decide, by decide⟩, _, _, rfl, rfl, ⟨by decide, by decide, by decide⟩, _, _, rfl, rfl, ⟨by decide, by decide, by decide⟩, le4, fun l nl => ?_⟩
    have hl : upd H1 l (.lst [V.int (10 ^ (30 : Int).toNat), .int (10 ^ (13 : Int).toNat), .int (10 ^ (6 : Int).toNat), .int 9]) l = some (.lst [V.int (10 ^ (30 : Int).toNat), .int (10 ^ (13 : Int).toNat), .int (10 ^ (6 : Int).toNat), .int 9]) := upd_same
    have e2 : Ex H1 (upd H1 l (.lst [V.int (10 ^ (30 : Int).toNat), .int (10 ^ (13 : Int).toNat), .int (10 ^ (6 : Int).toNat), .int 9])) := Ex.new nl
    have hn2 := hn.up e2
    refine ⟨_, rfl, nb, ns, 0, rfl, hn2, by decide, by decide, fun g1 g10 => .inl ⟨_, rfl, _, rfl, _, rfl, nb, ns, 58, 4, rfl, hn2, by decide, by decide, by decide, fun n n0 n4 => ?_⟩⟩
    obtain ⟨s1, a1, b1⟩ := at_size n0 n4
    refine ⟨l, _, _, _, rfl, rfl, SqL.of hl, a1, _, _, rfl, rfl, by omega, _, _, rfl, rfl, ?_⟩
    have w0 := Int.emod_nonneg g1 (show s1 ≠ 0 by omega)
    refine ⟨_, rfl, nb, ns, 4, rfl, hn2, by decide, by decide, fun g2 g20 => .inl ⟨_, rfl, _, rfl, _, rfl, nb, ns, 59, 4, rfl, hn2, by decide, by decide, by decide, fun n' n'0 n'4 => ?_⟩⟩
    obtain ⟨s2, a2, b2⟩ := at_size n'0 n'4
    refine ⟨l, _, _, _, rfl, rfl, SqL.of hl, a2, _, _, rfl, rfl, by omega, _, _, rfl, rfl, ?_⟩
    have h0 := Int.emod_nonneg g2 (show s2 ≠ 0 by omega)
    refine ⟨_, rfl, nb, ns, 8, 2, rfl, hn2, by decide, by decide, by decide, fun k k0 k2' => ⟨rfl, _, rfl, iteEq (fun _ => ?_) (fun _ => ?_)⟩⟩
    · refine ⟨_, rfl, _, rfl, _, _, rfl, rfl, ⟨by decide, by decide⟩, _, _, rfl, rfl, .inl ⟨by decide, by decide⟩, _, _, rfl, rfl, _, rfl, _, _, rfl, rfl, ⟨by decide, by decide⟩, _, _, rfl, le3, fun l3 nl3 => ?_⟩
      have q2 : 0 ≤ (1 + g1 % s1) / 2 := Int.ediv_nonneg (by omega) (by decide)
      obtain ⟨mx3, hmx, hmx1⟩ : ∃ z : Int, (if (1 + g1 % s1) / 3 > 1 then (1 + g1 % s1) / 3 else 1) = z ∧ 1 ≤ z := ⟨_, rfl, by split <;> omega⟩
      have e3 := e2.trans (Ex.new (o := .lst [.int (1 + g1 % s1), .int (2 * ((1 + g1 % s1) / 2) + 2), .int (if (1 + g1 % s1) / 3 > 1 then (1 + g1 % s1) / 3 else 1)]) nl3)
      have hn3 := hn.up e3
      refine ⟨_, rfl, nb, ns, 9, 3, rfl, hn3, by decide, by decide, by decide, fun j j0 j3 => ?_⟩
      obtain ⟨hh, hat, hh1⟩ : ∃ hh : Int, atI [V.int (1 + g1 % s1), .int (2 * ((1 + g1 % s1) / 2) + 2), .int (if (1 + g1 % s1) / 3 > 1 then (1 + g1 % s1) / 3 else 1)] j = some (.int hh) ∧ 1 ≤ hh := by
        have hc : j = 0 ∨ j = 1 ∨ j = 2 := by omega
        rcases hc with rfl | rfl | rfl
        · exact ⟨_, rfl, by omega⟩
        · exact ⟨_, rfl, by omega⟩
        · exact ⟨_, rfl, by rw [hmx]; exact hmx1⟩
      refine ⟨l3, _, _, _, rfl, rfl, SqL.of upd_same, hat, ?_⟩
      exact k2 _ nb ns (1 + g1 % s1) hh _ _ _ _ _ _ _ _ _ _ _ _ _ _ _ _ (by omega) hh1 hn3
    · exact k2 _ nb ns (1 + g1 % s1) (1 + g2 % s2) _ _ _ _ _ _ _ _ _ _ _ _ _ _ _ _ (by omega) (by omega) hn2
end
end Cu

/-! ## CuFin -/
set_option maxRecDepth 100000
set_option maxHeartbeats 4000000
namespace Cu
open PySem PySem.Spec PyProof.Rows L2 Evl
theorem fin {P : Program} {w : World} {mg : Str → Option Value} {fa : Addr} {h : Heap} {K : PySem.W.Frag} (KX : K.In h) (G : h.Ns mainGlobals mg) (c : SaysC K) (hmg : mg "law" = some (.ref fa)) :
    ∃ (K : PySem.W.Frag) (fd : FuncData) (sp : Sp), K.In h ∧ (∀ (s : Shared) (u : Value), BindsTo s fd ⟨[u], []⟩ [("_law_script", u)]) ∧
      (∀ (H : Hp) (a : Addr) (ns : List Int), ns.length ≤ 63 → Only H → SqL K H a (ns.map V.int) → sp [.ref a] H (fun v _ => v = .bl true) fun _ _ _ => False) ∧
      ∀ base : Heap, K.In base → base.Ns mainGlobals mg → FnOk P w K mg base CX0 8 fa fd ["_law_script"] sp := by
  have T := txt_of KX G c
  obtain ⟨fd, F⟩ := T.fLaw
  have efa : fa = He.ga K "law" := by
    have e2 := T.gLaw
    rw [hmg] at e2
    injection e2 with e3
    injection e3
  subst efa
  refine ⟨K, fd, spLaw K, KX, fun s u => ?_, fun H a ns _ _ hs => ⟨a, ns, rfl, hs, fun _ => rfl⟩, fun base _ _ => law_ok T F⟩
  exact F.bindsA (ps := ["_law_script"]) (fun _ _ _ _ _ _ us hl => match us, hl with | [_], _ => rfl) s [u] rfl
end Cu

/-! ## CuEnd1 -/
set_option maxRecDepth 100000
set_option maxHeartbeats 0
open PySem PySem.W PySem.Calls PyProof.Rows
theorem PySem.Challenge.cw_cushioned_k29_whole_great_tables_holds : PySem.Challenge.rw_cushioned_k29_whole_great_tables.Holds := by
  w_on; o_law
  refine HandSHeadRun.head_imp (r := OpenLaw.row PySem.Challenge.rw_cushioned_k29_whole_great_tables) (q := view (OpenLaw.row PySem.Challenge.rw_cushioned_k29_whole_great_tables).prog [0, 62]) (H := Cu.hk) (ob := Cu.ob) (M := 6000) (loose := Cu.names) (d := HandSHeadRun.topDef (OpenLaw.row PySem.Challenge.rw_cushioned_k29_whole_great_tables).prog 62) (kwd := []) Cu.ob_eq
    Cu.run (by kernel_rfl) (by kernel_rfl) (by kernel_rfl) (by rfl) (by first | assumption | decide +kernel) (by decide +kernel) ⟨rfl, rfl, rfl, rfl, rfl, by decide +kernel⟩ ?hw ?hc
  case hw => w_witness2
  case hc =>
    refine L2.walk_ofE (l := PySem.Challenge.rw_cushioned_k29_whole_great_tables) (n := 63) (k := 8) (x := "_law_script") (CX := L2.CX0) rfl (by decide) (by kernel_rfl) ⟨rfl, by decide, by decide⟩ ?F (fun _ _ _ _ z => z)
    intro w mg fa h Y G hmg0
    obtain ⟨K, KX, c⟩ := Y
    have hmg : mg ("law" : PySem.Str) = some (.ref fa) := by
      have e : (HandSHeadRun.topDef (OpenLaw.row PySem.Challenge.rw_cushioned_k29_whole_great_tables).prog 62).name = ("law" : PySem.Str) := by kernel_rfl
      rw [← e]
      exact hmg0
    exact Cu.fin KX G c hmg

