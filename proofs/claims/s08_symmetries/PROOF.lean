import PyProof.Rows.All
import Wide.All
import OpenK.AllK
import Wide.FinOn
import Open.SpecLaws
import KE.OsGo
import HandS.ForSpec
import HandS.TryMany
import HandS.Comp
import HandS.Evl
import HandS.WideBits
import HandS.Wide
import HandS.Dict
import PySem.Challenge.RW_formkinds_s08_symmetries
set_option Elab.async false
set_option linter.all false
set_option maxRecDepth 100000
set_option maxHeartbeats 2000000
/-! Plain numbers: whole roots, squares, common divisors. -/
namespace Fk
open Fc

theorem sq_mono {a b : Nat} (h : a ≤ b) : a * a ≤ b * b := Nat.mul_le_mul h h
theorem lt_of_sq {a b : Nat} (h : a * a < b * b) : a < b := by
  by_cases c : a < b
  · exact c
  · exact absurd (sq_mono (Nat.le_of_not_lt c)) (Nat.not_le_of_lt h)

/-- r is the whole root of n -/
def IsRoot (n r : Nat) : Prop := r * r ≤ n ∧ n < (r + 1) * (r + 1)
theorem IsRoot.uniq {n r s : Nat} (a : IsRoot n r) (b : IsRoot n s) : r = s := by
  have h1 : r < s + 1 := lt_of_sq (Nat.lt_of_le_of_lt a.1 b.2)
  have h2 : s < r + 1 := lt_of_sq (Nat.lt_of_le_of_lt b.1 a.2)
  omega

def bitStep (n : Nat) (r i : Nat) : Nat := let s := r + 2 ^ (39 - i)
  if s * s ≤ n then s else r
theorem rootOf_eq (n : Nat) : rootOf n = (List.range 40).foldl (bitStep n) 0 := rfl
set_option exponentiation.threshold 300
set_option maxRecDepth 20000
theorem bits_inv (n : Nat) (hn : n < 2 ^ 80) : ∀ k, k ≤ 40 → ((List.range k).foldl (bitStep n) 0) * ((List.range k).foldl (bitStep n) 0) ≤ n ∧ n < ((List.range k).foldl (bitStep n) 0 + 2 ^ (40 - k)) * ((List.range k).foldl (bitStep n) 0 + 2 ^ (40 - k))
  | 0, _ => by
    rw [List.range_zero, List.foldl_nil, Nat.zero_add, Nat.sub_zero, ← Nat.pow_add]
    exact ⟨Nat.zero_le _, hn⟩
  | k + 1, hk => by
    have ih := bits_inv n hn k (by omega)
    rw [List.range_succ, List.foldl_append]
    show (bitStep n ((List.range k).foldl (bitStep n) 0) k) * (bitStep n ((List.range k).foldl (bitStep n) 0) k) ≤ n ∧ n < (bitStep n ((List.range k).foldl (bitStep n) 0) k + 2 ^ (40 - (k + 1))) * (bitStep n ((List.range k).foldl (bitStep n) 0) k + 2 ^ (40 - (k + 1)))
    generalize (List.range k).foldl (bitStep n) 0 = r at ih
    have e1 : 39 - k = 40 - (k + 1) := by omega
    have e2 : 2 ^ (40 - k) = 2 ^ (40 - (k + 1)) + 2 ^ (40 - (k + 1)) := by
      rw [show 40 - k = (40 - (k + 1)) + 1 by omega, Nat.pow_succ]
      omega
    rw [e2] at ih
    generalize hw : 2 ^ (40 - (k + 1)) = w at ih
    unfold bitStep
    rw [e1, hw]
    dsimp only
    by_cases c : (r + w) * (r + w) ≤ n
    · rw [if_pos c]
      refine ⟨c, ?_⟩
      have := ih.2
      rw [← Nat.add_assoc] at this
      exact this
    · rw [if_neg c]
      exact ⟨ih.1, by omega⟩
theorem rootOf_root {n : Nat} (hn : n < 2 ^ 80) : IsRoot n (rootOf n) := by
  have h := bits_inv n hn 40 (Nat.le_refl _)
  rw [← rootOf_eq] at h
  exact h
theorem rootOf_is {n r : Nat} (hn : n < 2 ^ 80) (h : IsRoot n r) : rootOf n = r := (rootOf_root hn).uniq h
theorem rootOf_sq {n : Nat} (hn : n * n < 2 ^ 80) : rootOf (n * n) = n := rootOf_is hn ⟨Nat.le_refl _, by
  have : (n + 1) * (n + 1) = n * n + 2 * n + 1 := by grind
  omega⟩

/-! ### Newton's root -/
/-- the program's root: of what is below 2 the number itself -/
def rootI (n : Int) : Int := if n < 2 then n else (rootOf n.toNat : Int)
theorem rootI_nn {n : Int} (h0 : 0 ≤ n) : rootI n = (rootOf n.toNat : Int) := by
  unfold rootI
  split
  · rename_i h
    have : n = 0 ∨ n = 1 := by omega
    rcases this with rfl | rfl
    · show (0 : Int) = ((rootOf (0 * 0) : Nat) : Int)
      rw [rootOf_sq (by decide)]
      rfl
    · show (1 : Int) = ((rootOf (1 * 1) : Nat) : Int)
      rw [rootOf_sq (by decide)]
      rfl
  · rfl
theorem newton_ge {s h n : Nat} (hh : 0 < h) (hs : s * s ≤ n) : s ≤ (h + n / h) / 2 := by
  have h1 : n / h * h + n % h = n := Nat.div_add_mod' n h
  have h2 : n % h < h := Nat.mod_lt _ hh
  generalize hq : n / h = q at h1
  by_cases c : s ≤ (h + q) / 2
  · exact c
  · exfalso
    have c1 : h + q < 2 * s := by omega
    -- n < (q+1) h ; 4 (q+1) h ≤ (q+1+h)^2
    have a1 : n < (q + 1) * h := by
      have : (q + 1) * h = q * h + h := by grind
      omega
    have c2 : q + 1 + h ≤ 2 * s := by omega
    have a2 : (q + 1 + h) * (q + 1 + h) ≤ (2 * s) * (2 * s) := sq_mono c2
    have a3 : 4 * ((q + 1) * h) ≤ (q + 1 + h) * (q + 1 + h) := by
      rcases Nat.le_total (q + 1) h with l | l
      · obtain ⟨t, rfl⟩ := Nat.exists_eq_add_of_le l
        have : (q + 1 + (q + 1 + t)) * (q + 1 + (q + 1 + t)) = 4 * ((q + 1) * (q + 1 + t)) + t * t := by grind
        omega
      · obtain ⟨t, ht⟩ := Nat.exists_eq_add_of_le l
        rw [ht]
        have : (h + t + h) * (h + t + h) = 4 * ((h + t) * h) + t * t := by grind
        omega
    have a4 : (2 * s) * (2 * s) = 4 * (s * s) := by grind
    omega
/-- the loop stops where the next number is not below: that is the root -/
theorem newton_end {s h n : Nat} (hh : 0 < h) (hsh : s ≤ h) (hr : IsRoot n s) (he : ¬ (h + n / h) / 2 < h) : h = s := by
  have h1 : h ≤ n / h := by omega
  have h2 : h * h ≤ n := by
    have := (Nat.le_div_iff_mul_le hh).mp h1
    exact this
  have h3 : h < s + 1 := lt_of_sq (Nat.lt_of_le_of_lt h2 hr.2)
  omega
theorem newton_start {n k : Nat} (h : n < 2 ^ (2 * k)) {s : Nat} (hr : IsRoot n s) : s ≤ 2 ^ k := by
  have : s < 2 ^ k := by
    refine lt_of_sq ?_
    rw [← Nat.pow_add, ← Nat.two_mul]
    exact Nat.lt_of_le_of_lt hr.1 h
  omega

/-! ### squares -/
theorem isSquare_iff {d : Int} (hd : d < 2 ^ 80) : isSquare d = true ↔ ∃ r : Int, r * r = d := by
  unfold isSquare
  rw [Bool.and_eq_true, decide_eq_true_iff, beq_iff_eq]
  constructor
  · rintro ⟨h0, h⟩
    refine ⟨(rootOf d.toNat : Int), ?_⟩
    have : ((rootOf d.toNat * rootOf d.toNat : Nat) : Int) = (d.toNat : Int) := by rw [h]
    rw [Int.natCast_mul] at this
    rw [this]
    omega
  · rintro ⟨r, rfl⟩
    have h0 : 0 ≤ r * r := by
      rcases Int.le_total 0 r with h | h
      · exact Int.mul_nonneg h h
      · have := Int.mul_nonneg (Int.neg_nonneg_of_nonpos h) (Int.neg_nonneg_of_nonpos h)
        rwa [Int.neg_mul_neg] at this
    refine ⟨h0, ?_⟩
    have e : (r * r).toNat = r.natAbs * r.natAbs := by
      have := Int.natAbs_mul r r
      omega
    rw [e]
    have : r.natAbs * r.natAbs < 2 ^ 80 := by
      have : (2 : Int) ^ 80 = ((2 ^ 80 : Nat) : Int) := by norm_cast
      omega
    rw [rootOf_sq this]
/-! ### the program's division -/
theorem fdiv_nat (a b : Nat) : (a : Int).fdiv b = ((a / b : Nat) : Int) := by
  rw [Int.fdiv_eq_ediv_of_nonneg _ (Int.natCast_nonneg b), Int.natCast_ediv]
theorem fmod_nat (a b : Nat) : (a : Int).fmod b = ((a % b : Nat) : Int) := by
  rw [Int.fmod_eq_emod_of_nonneg _ (Int.natCast_nonneg b), Int.natCast_emod]
theorem newton_bits {n : Nat} (_h : 2 ≤ n) : n < 2 ^ (2 * ((n.log2 + 2) / 2)) := by
  refine Nat.lt_of_lt_of_le (Nat.lt_log2_self) ?_
  refine Nat.pow_le_pow_right (by decide) ?_
  omega
theorem log2_lt {n k : Nat} (h : n < 2 ^ k) (h0 : n ≠ 0) : n.log2 < k := (Nat.log2_lt h0).mpr h
end Fk

/-! Forms below 0 of discriminant: the least form by steps down. -/
namespace Fk
open Fc
theorem form_ext {f g : Form} (h1 : f.a = g.a) (h2 : f.b = g.b) (h3 : f.c = g.c) : f = g := by
  cases f
  cases g
  simp at h1 h2 h3
  simp [h1, h2, h3]
theorem change_ext {f g : Change} (h1 : f.p = g.p) (h2 : f.q = g.q) (h3 : f.r = g.r) (h4 : f.s = g.s) : f = g := by
  cases f
  cases g
  simp at h1 h2 h3 h4
  simp [h1, h2, h3, h4]
theorem alike_iff {f g : Form} : alike f g = true ↔ f = g := by
  unfold alike
  rw [Bool.and_eq_true, Bool.and_eq_true, beq_iff_eq, beq_iff_eq, beq_iff_eq]
  constructor
  · rintro ⟨h1, h2, h3⟩
    exact form_ext h1 h2 h3
  · rintro rfl
    exact ⟨rfl, rfl, rfl⟩
theorem alike_eq (f g : Form) : alike f g = decide (f.a = g.a ∧ f.b = g.b ∧ f.c = g.c) := by
  rw [Bool.eq_iff_iff, alike_iff, decide_eq_true_iff]
  constructor
  · rintro rfl
    exact ⟨rfl, rfl, rfl⟩
  · rintro ⟨h1, h2, h3⟩
    exact form_ext h1 h2 h3

/-! ### changes -/
theorem changed_then (f : Form) (t u : Change) : changed f (t.then_ u) = changed (changed f t) u := by
  apply form_ext <;> simp only [changed, Change.then_, value] <;> grind
def IsCh (t : Change) : Prop := t.p * t.s - t.q * t.r = 1
theorem isChange_iff {t : Change} : isChange t = true ↔ IsCh t := by
  unfold isChange IsCh
  rw [beq_iff_eq]
theorem IsCh.then {t u : Change} (h : IsCh t) (k : IsCh u) : IsCh (t.then_ u) := by
  unfold IsCh at *
  simp only [Change.then_]
  have : (t.p * t.s - t.q * t.r) * (u.p * u.s - u.q * u.r) = 1 := by rw [h, k]; rfl
  grind
theorem IsCh.back {t : Change} (h : IsCh t) : IsCh t.back := by
  unfold IsCh at *
  simp only [Change.back]
  grind
theorem disc_changed {f : Form} {t : Change} (h : IsCh t) : disc (changed f t) = disc f := by
  unfold IsCh at h
  simp only [changed, value, disc]
  have : (t.p * t.s - t.q * t.r) * (t.p * t.s - t.q * t.r) = 1 := by rw [h]; rfl
  grind
theorem changed_same (f : Form) : changed f same = f := by
  apply form_ext <;> simp only [changed, same, value] <;> grind
theorem then_same (t : Change) : t.then_ same = t := by
  apply change_ext <;> simp only [Change.then_, same] <;> grind
theorem same_then (t : Change) : Change.then_ same t = t := by
  apply change_ext <;> simp only [Change.then_, same] <;> grind
theorem changed_back {f : Form} {t : Change} (h : IsCh t) : changed (changed f t) t.back = f := by
  rw [← changed_then]
  have e : t.then_ t.back = same := by
    unfold IsCh at h
    apply change_ext <;> simp only [Change.then_, Change.back, same] <;> grind
  rw [e, changed_same]
theorem isCh_same : IsCh same := rfl
theorem isCh_swap : IsCh swap := rfl
theorem isCh_shift (k : Int) : IsCh ⟨1, k, 0, 1⟩ := by
  unfold IsCh
  simp
/-- x goes over into x + k y -/
theorem changed_shift (f : Form) (k : Int) : changed f ⟨1, k, 0, 1⟩ = ⟨f.a, f.b + 2 * f.a * k, f.a * k * k + f.b * k + f.c⟩ := by
  apply form_ext <;> simp only [changed, value] <;> grind
theorem changed_swap (f : Form) : changed f swap = ⟨f.c, -f.b, f.a⟩ := by
  apply form_ext <;> simp only [changed, value, swap] <;> grind

/-! ### one step -/
def Lev (f : Form) : Prop := -f.a < f.b ∧ f.b ≤ f.a
theorem level_lev {f : Form} (h : 0 < f.a) : Lev (changed f (level f)) := by
  unfold level
  rw [changed_shift]
  unfold Lev
  dsimp only
  have h1 := Int.emod_add_mul_ediv (f.a - f.b) (2 * f.a)
  have h2 := Int.emod_nonneg (f.a - f.b) (show 2 * f.a ≠ 0 by omega)
  have h3 := Int.emod_lt_of_pos (f.a - f.b) (show 0 < 2 * f.a by omega)
  generalize hq : 2 * f.a * ((f.a - f.b) / (2 * f.a)) = q at *
  omega
theorem level_id {f : Form} (h : Lev f) : level f = same := by
  obtain ⟨h1, h2⟩ := h
  unfold level same
  have : (f.a - f.b) / (2 * f.a) = 0 := Int.ediv_eq_zero_of_lt (by omega) (by omega)
  rw [this]
/-- the program's test -/
theorem lev_iff {f : Form} : (f.b > f.a ∨ f.b ≤ 0 - f.a) ↔ ¬ Lev f := by
  unfold Lev
  omega
theorem downFrom_level {f : Form} {t : Change} {n : Nat} (h : 0 < f.a) : downFrom (n + 1) (changed f (level f)) (t.then_ (level f)) = downFrom (n + 1) f t := by
  conv => lhs; unfold downFrom
  conv => rhs; unfold downFrom
  rw [level_id (level_lev h)]
  dsimp only
  rw [changed_same, then_same]
theorem downFrom_swap {f : Form} {t : Change} {n : Nat} (h : Lev f) (hs : f.c < f.a ∨ (f.c = f.a ∧ f.b < 0)) : downFrom (n + 1) f t = downFrom n (changed f swap) (t.then_ swap) := by
  conv => lhs; unfold downFrom
  rw [level_id h]
  dsimp only
  rw [changed_same, then_same]
  exact if_pos hs
theorem downFrom_end {f : Form} {t : Change} {n : Nat} (h : Lev f) (hs : ¬ (f.c < f.a ∨ (f.c = f.a ∧ f.b < 0))) : downFrom (n + 1) f t = (f, t) := by
  conv => lhs; unfold downFrom
  rw [level_id h]
  dsimp only
  rw [changed_same, then_same]
  exact if_neg hs

/-! ### reduced forms -/
def Red (f : Form) : Prop := Lev f ∧ f.a ≤ f.c ∧ (f.a = f.c → 0 ≤ f.b)
theorem red_iff {f : Form} (h : Lev f) : ¬ (f.c < f.a ∨ (f.c = f.a ∧ f.b < 0)) ↔ Red f := by
  unfold Red
  constructor
  · intro k
    exact ⟨h, by omega, by omega⟩
  · rintro ⟨_, k1, k2⟩
    omega
theorem c_pos {f : Form} (hd : disc f < 0) (ha : 0 < f.a) : 0 < f.c := by
  unfold disc at hd
  have h0 : 0 ≤ f.b * f.b := by
    rcases Int.le_total 0 f.b with h | h
    · exact Int.mul_nonneg h h
    · have := Int.mul_nonneg (Int.neg_nonneg_of_nonpos h) (Int.neg_nonneg_of_nonpos h)
      rwa [Int.neg_mul_neg] at this
  have h1 : 0 < 4 * f.a * f.c := by omega
  have h2 : 0 < 4 * f.a := by omega
  by_cases h3 : 0 < f.c
  · exact h3
  · exfalso
    have := Int.mul_nonneg (Int.le_of_lt h2) (show 0 ≤ -f.c by omega)
    rw [Int.mul_neg] at this
    omega
/-- what a run down leads to -/
theorem down_run : ∀ (n : Nat) (f : Form) (t : Change), disc f < 0 → 0 < f.a → (f.a.toNat + 2 ≤ n ∨ (1 ≤ n ∧ Red f)) →
    Red (downFrom n f t).1 ∧ 0 < (downFrom n f t).1.a ∧ (downFrom n f t).1.a ≤ f.a ∧ ∃ u, IsCh u ∧ (downFrom n f t).2 = t.then_ u ∧ changed f u = (downFrom n f t).1
  | 0, _, _, _, _, h => by omega
  | n + 1, f, t, hd, ha, h => by
    have hl := level_lev ha
    have hu : IsCh (level f) := isCh_shift _
    rw [← downFrom_level ha]
    have ea : (changed f (level f)).a = f.a := by
      unfold level
      rw [changed_shift]
    by_cases hs : (changed f (level f)).c < (changed f (level f)).a ∨ ((changed f (level f)).c = (changed f (level f)).a ∧ (changed f (level f)).b < 0)
    · rw [downFrom_swap hl hs]
      have hn : f.a.toNat + 2 ≤ n + 1 := by
        rcases h with h | ⟨_, h⟩
        · exact h
        · exfalso
          rw [level_id h.1, changed_same] at hs
          exact (red_iff h.1).mpr h hs
      have hd' : disc (changed f (level f)) < 0 := by
        rw [disc_changed hu]
        exact hd
      have hc := c_pos hd' (by rw [ea]; exact ha)
      have hsw := changed_swap (changed f (level f))
      generalize hgf : changed f (level f) = g at *
      have hg : disc (changed g swap) < 0 := by
        rw [disc_changed isCh_swap]
        exact hd'
      have hga : (changed g swap).a = g.c := by rw [hsw]
      obtain ⟨r1, r2, r2', u, r3, r4, r5⟩ := down_run n (changed g swap) ((t.then_ (level f)).then_ swap) hg (by rw [hga]; exact hc) (by
        rw [hga]
        rcases hs with hs | hs
        · left
          omega
        · right
          refine ⟨by omega, ?_⟩
          rw [hsw]
          obtain ⟨l1, l2⟩ := hl
          unfold Red Lev
          dsimp only
          omega)
      refine ⟨r1, r2, by rw [hga] at r2'; omega, (level f).then_ (swap.then_ u), hu.then (isCh_swap.then r3), ?_, ?_⟩
      · rw [r4]
        apply change_ext <;> simp only [Change.then_] <;> grind
      · rw [← r5, changed_then, changed_then, hgf]
    · rw [downFrom_end hl hs]
      exact ⟨(red_iff hl).mp hs, by rw [ea]; exact ha, by rw [ea]; exact Int.le_refl _, level f, hu, rfl, rfl⟩
theorem down_spec {f : Form} (hd : disc f < 0) (ha : 0 < f.a) : Red (down f).1 ∧ 0 < (down f).1.a ∧ (down f).1.a ≤ f.a ∧ IsCh (down f).2 ∧ changed f (down f).2 = (down f).1 := by
  obtain ⟨h1, h2, h3, u, h4, h5, h6⟩ := down_run (f.a.natAbs + 2) f same hd ha (.inl (by omega))
  have e : (down f).2 = u := h5.trans (same_then u)
  exact ⟨h1, h2, h3, e ▸ h4, by rw [e]; exact h6⟩
/-! ### what divides all three -/
def content (f : Form) : Nat := Nat.gcd (Nat.gcd f.a.natAbs f.b.natAbs) f.c.natAbs
theorem content_dvd (f : Form) : (content f : Int) ∣ f.a ∧ (content f : Int) ∣ f.b ∧ (content f : Int) ∣ f.c := by
  unfold content
  have h1 := Nat.gcd_dvd_left (Nat.gcd f.a.natAbs f.b.natAbs) f.c.natAbs
  have h2 := Nat.gcd_dvd_right (Nat.gcd f.a.natAbs f.b.natAbs) f.c.natAbs
  refine ⟨Int.ofNat_dvd_left.mpr (Nat.dvd_trans h1 (Nat.gcd_dvd_left _ _)), Int.ofNat_dvd_left.mpr (Nat.dvd_trans h1 (Nat.gcd_dvd_right _ _)), Int.ofNat_dvd_left.mpr h2⟩
theorem dvd_content {f : Form} {n : Nat} (h1 : (n : Int) ∣ f.a) (h2 : (n : Int) ∣ f.b) (h3 : (n : Int) ∣ f.c) : n ∣ content f :=
  Nat.dvd_gcd (Nat.dvd_gcd (Int.ofNat_dvd_left.mp h1) (Int.ofNat_dvd_left.mp h2)) (Int.ofNat_dvd_left.mp h3)
theorem dvd_changed {f : Form} {n : Int} (t : Change) (h1 : n ∣ f.a) (h2 : n ∣ f.b) (h3 : n ∣ f.c) : n ∣ (changed f t).a ∧ n ∣ (changed f t).b ∧ n ∣ (changed f t).c := by
  obtain ⟨x, hx⟩ := h1
  obtain ⟨y, hy⟩ := h2
  obtain ⟨z, hz⟩ := h3
  refine ⟨⟨value ⟨x, y, z⟩ t.p t.r, ?_⟩, ⟨2 * x * t.p * t.q + y * (t.p * t.s + t.q * t.r) + 2 * z * t.r * t.s, ?_⟩, ⟨value ⟨x, y, z⟩ t.q t.s, ?_⟩⟩ <;> simp only [changed, value, hx, hy, hz] <;> grind
theorem content_dvd_changed (f : Form) (t : Change) : content f ∣ content (changed f t) := by
  obtain ⟨h1, h2, h3⟩ := content_dvd f
  obtain ⟨k1, k2, k3⟩ := dvd_changed t h1 h2 h3
  exact dvd_content k1 k2 k3
theorem content_changed {f : Form} {t : Change} (h : IsCh t) : content (changed f t) = content f := by
  refine Nat.dvd_antisymm ?_ (content_dvd_changed f t)
  have := content_dvd_changed (changed f t) t.back
  rwa [changed_back h] at this
theorem content_negated (f : Form) : content (negated f) = content f := by
  unfold content negated
  simp only [Int.natAbs_neg]
theorem disc_negated (f : Form) : disc (negated f) = disc f := by
  simp only [disc, negated]
  grind
theorem plain_iff {f : Form} : plain f = true ↔ content f = 1 ∧ isSquare (disc f) = false := by
  unfold plain content
  rw [Bool.and_eq_true, beq_iff_eq, Bool.not_eq_true']
theorem isSquare_zero : isSquare 0 = true := (isSquare_iff (by decide)).mpr ⟨0, rfl⟩
theorem disc_ne {f : Form} (h : plain f = true) : disc f ≠ 0 := fun e => by
  have := (plain_iff.mp h).2
  rw [e, isSquare_zero] at this
  cases this
theorem sq_nonneg (x : Int) : 0 ≤ x * x := by
  rcases Int.le_total 0 x with h | h
  · exact Int.mul_nonneg h h
  · have := Int.mul_nonneg (Int.neg_nonneg_of_nonpos h) (Int.neg_nonneg_of_nonpos h)
    rwa [Int.neg_mul_neg] at this
theorem a_ne {f : Form} (h : disc f < 0) : f.a ≠ 0 := fun e => by
  unfold disc at h
  rw [e] at h
  have := sq_nonneg f.b
  simp at h
  omega
end Fk

/-! The changes that leave a least form above as it is. -/
namespace Fk
open Fc
def units : List Change := [⟨-1, -1, 0, -1⟩, ⟨-1, -1, 1, 0⟩, ⟨-1, 0, -1, -1⟩, ⟨-1, 0, 0, -1⟩, ⟨-1, 0, 1, -1⟩, ⟨-1, 1, -1, 0⟩, ⟨-1, 1, 0, -1⟩, ⟨0, -1, 1, -1⟩, ⟨0, -1, 1, 0⟩, ⟨0, -1, 1, 1⟩, ⟨0, 1, -1, -1⟩, ⟨0, 1, -1, 0⟩, ⟨0, 1, -1, 1⟩, ⟨1, -1, 0, 1⟩, ⟨1, -1, 1, 0⟩, ⟨1, 0, -1, 1⟩, ⟨1, 0, 0, 1⟩, ⟨1, 0, 1, 1⟩, ⟨1, 1, -1, 0⟩, ⟨1, 1, 0, 1⟩]
theorem units_eq : small.filter (fun t => isChange t) = units := by rfl
theorem stills_eq (f : Form) : stills f = units.filter fun t => alike (changed f t) f := by
  rw [← units_eq, List.filter_filter]
  unfold stills
  congr 1
  funext t
  rw [Bool.and_comm]
theorem ft {α : Type} {p : α → Bool} {x : α} {l m : List α} (h : p x = true) (e : l.filter p = m) : (x :: l).filter p = x :: m := by
  rw [List.filter_cons, if_pos h, e]
theorem ff {α : Type} {p : α → Bool} {x : α} {l m : List α} (h : p x = false) (e : l.filter p = m) : (x :: l).filter p = m := by
  rw [List.filter_cons, if_neg (by rw [h]; decide), e]
theorem al_t {f g : Form} (h1 : f.a = g.a) (h2 : f.b = g.b) (h3 : f.c = g.c) : alike f g = true := by
  rw [alike_eq, decide_eq_true ⟨h1, h2, h3⟩]
theorem al_f {f g : Form} (h : ¬ (f.a = g.a ∧ f.b = g.b ∧ f.c = g.c)) : alike f g = false := by
  rw [alike_eq, decide_eq_false h]

theorem stills6 {f : Form} (h : Red f) (ha : 0 < f.a) (h1 : f.b = f.a) (h2 : f.c = f.a) : (stills f).length = 6 := by
  obtain ⟨⟨l1, l2⟩, r1, r2⟩ := h
  rw [stills_eq]
  have e : units.filter (fun t => alike (changed f t) f) = [⟨-1, -1, 1, 0⟩, ⟨-1, 0, 0, -1⟩, ⟨0, -1, 1, 1⟩, ⟨0, 1, -1, -1⟩, ⟨1, 0, 0, 1⟩, ⟨1, 1, -1, 0⟩] := by
    unfold units
    refine ff (by refine al_f ?_; simp only [changed, value]; omega) ?_
    refine ft (by refine al_t ?_ ?_ ?_ <;> simp only [changed, value] <;> omega) ?_
    refine ff (by refine al_f ?_; simp only [changed, value]; omega) ?_
    refine ft (by refine al_t ?_ ?_ ?_ <;> simp only [changed, value] <;> omega) ?_
    refine ff (by refine al_f ?_; simp only [changed, value]; omega) ?_
    refine ff (by refine al_f ?_; simp only [changed, value]; omega) ?_
    refine ff (by refine al_f ?_; simp only [changed, value]; omega) ?_
    refine ff (by refine al_f ?_; simp only [changed, value]; omega) ?_
    refine ff (by refine al_f ?_; simp only [changed, value]; omega) ?_
    refine ft (by refine al_t ?_ ?_ ?_ <;> simp only [changed, value] <;> omega) ?_
    refine ft (by refine al_t ?_ ?_ ?_ <;> simp only [changed, value] <;> omega) ?_
    refine ff (by refine al_f ?_; simp only [changed, value]; omega) ?_
    refine ff (by refine al_f ?_; simp only [changed, value]; omega) ?_
    refine ff (by refine al_f ?_; simp only [changed, value]; omega) ?_
    refine ff (by refine al_f ?_; simp only [changed, value]; omega) ?_
    refine ff (by refine al_f ?_; simp only [changed, value]; omega) ?_
    refine ft (by refine al_t ?_ ?_ ?_ <;> simp only [changed, value] <;> omega) ?_
    refine ff (by refine al_f ?_; simp only [changed, value]; omega) ?_
    refine ft (by refine al_t ?_ ?_ ?_ <;> simp only [changed, value] <;> omega) ?_
    refine ff (by refine al_f ?_; simp only [changed, value]; omega) ?_
    rfl
  rw [e]
  rfl
theorem stills4 {f : Form} (h : Red f) (ha : 0 < f.a) (h1 : f.b = 0) (h2 : f.c = f.a) : (stills f).length = 4 := by
  obtain ⟨⟨l1, l2⟩, r1, r2⟩ := h
  rw [stills_eq]
  have e : units.filter (fun t => alike (changed f t) f) = [⟨-1, 0, 0, -1⟩, ⟨0, -1, 1, 0⟩, ⟨0, 1, -1, 0⟩, ⟨1, 0, 0, 1⟩] := by
    unfold units
    refine ff (by refine al_f ?_; simp only [changed, value]; omega) ?_
    refine ff (by refine al_f ?_; simp only [changed, value]; omega) ?_
    refine ff (by refine al_f ?_; simp only [changed, value]; omega) ?_
    refine ft (by refine al_t ?_ ?_ ?_ <;> simp only [changed, value] <;> omega) ?_
    refine ff (by refine al_f ?_; simp only [changed, value]; omega) ?_
    refine ff (by refine al_f ?_; simp only [changed, value]; omega) ?_
    refine ff (by refine al_f ?_; simp only [changed, value]; omega) ?_
    refine ff (by refine al_f ?_; simp only [changed, value]; omega) ?_
    refine ft (by refine al_t ?_ ?_ ?_ <;> simp only [changed, value] <;> omega) ?_
    refine ff (by refine al_f ?_; simp only [changed, value]; omega) ?_
    refine ff (by refine al_f ?_; simp only [changed, value]; omega) ?_
    refine ft (by refine al_t ?_ ?_ ?_ <;> simp only [changed, value] <;> omega) ?_
    refine ff (by refine al_f ?_; simp only [changed, value]; omega) ?_
    refine ff (by refine al_f ?_; simp only [changed, value]; omega) ?_
    refine ff (by refine al_f ?_; simp only [changed, value]; omega) ?_
    refine ff (by refine al_f ?_; simp only [changed, value]; omega) ?_
    refine ft (by refine al_t ?_ ?_ ?_ <;> simp only [changed, value] <;> omega) ?_
    refine ff (by refine al_f ?_; simp only [changed, value]; omega) ?_
    refine ff (by refine al_f ?_; simp only [changed, value]; omega) ?_
    refine ff (by refine al_f ?_; simp only [changed, value]; omega) ?_
    rfl
  rw [e]
  rfl
theorem stills2 {f : Form} (h : Red f) (ha : 0 < f.a) (h1 : ¬ (f.b = f.a ∧ f.c = f.a)) (h2 : ¬ (f.b = 0 ∧ f.c = f.a)) : (stills f).length = 2 := by
  obtain ⟨⟨l1, l2⟩, r1, r2⟩ := h
  rw [stills_eq]
  have e : units.filter (fun t => alike (changed f t) f) = [⟨-1, 0, 0, -1⟩, ⟨1, 0, 0, 1⟩] := by
    unfold units
    refine ff (by refine al_f ?_; simp only [changed, value]; omega) ?_
    refine ff (by refine al_f ?_; simp only [changed, value]; omega) ?_
    refine ff (by refine al_f ?_; simp only [changed, value]; omega) ?_
    refine ft (by refine al_t ?_ ?_ ?_ <;> simp only [changed, value] <;> omega) ?_
    refine ff (by refine al_f ?_; simp only [changed, value]; omega) ?_
    refine ff (by refine al_f ?_; simp only [changed, value]; omega) ?_
    refine ff (by refine al_f ?_; simp only [changed, value]; omega) ?_
    refine ff (by refine al_f ?_; simp only [changed, value]; omega) ?_
    refine ff (by refine al_f ?_; simp only [changed, value]; omega) ?_
    refine ff (by refine al_f ?_; simp only [changed, value]; omega) ?_
    refine ff (by refine al_f ?_; simp only [changed, value]; omega) ?_
    refine ff (by refine al_f ?_; simp only [changed, value]; omega) ?_
    refine ff (by refine al_f ?_; simp only [changed, value]; omega) ?_
    refine ff (by refine al_f ?_; simp only [changed, value]; omega) ?_
    refine ff (by refine al_f ?_; simp only [changed, value]; omega) ?_
    refine ff (by refine al_f ?_; simp only [changed, value]; omega) ?_
    refine ft (by refine al_t ?_ ?_ ?_ <;> simp only [changed, value] <;> omega) ?_
    refine ff (by refine al_f ?_; simp only [changed, value]; omega) ?_
    refine ff (by refine al_f ?_; simp only [changed, value]; omega) ?_
    refine ff (by refine al_f ?_; simp only [changed, value]; omega) ?_
    rfl
  rw [e]
  rfl
/-! ### by the discriminant -/
theorem red_disc {f : Form} (h : Red f) (ha : 0 < f.a) : 3 * (f.a * f.c) ≤ -disc f := by
  obtain ⟨⟨l1, l2⟩, r1, r2⟩ := h
  have h1 : f.b * f.b ≤ f.a * f.a := by
    rcases Int.le_total 0 f.b with k | k
    · exact Int.mul_le_mul l2 l2 k (by omega)
    · have := Int.mul_le_mul (a := -f.b) (b := -f.b) (c := f.a) (d := f.a) (by omega) (by omega) (by omega) (by omega)
      rwa [Int.neg_mul_neg] at this
  have h2 : f.a * f.a ≤ f.a * f.c := Int.mul_le_mul_of_nonneg_left r1 (by omega)
  have e : disc f = f.b * f.b - 4 * (f.a * f.c) := by
    unfold disc
    rw [Int.mul_assoc]
  omega
theorem red_le {f : Form} (h : Red f) (ha : 0 < f.a) : f.a ≤ f.a * f.c ∧ f.c ≤ f.a * f.c := by
  have hc : f.a ≤ f.c := h.2.1
  have h1 := Int.mul_le_mul_of_nonneg_left (show 1 ≤ f.c by omega) (show 0 ≤ f.a by omega)
  have h2 := Int.mul_le_mul_of_nonneg_right (show 1 ≤ f.a by omega) (show 0 ≤ f.c by omega)
  omega
theorem gcd_self3 {n : Nat} : Nat.gcd (Nat.gcd n n) n = n := by
  rw [Nat.gcd_self, Nat.gcd_self]
theorem plain_gcd {f : Form} (h : plain f = true) : Nat.gcd (Nat.gcd f.a.natAbs f.b.natAbs) f.c.natAbs = 1 := by
  unfold plain at h
  rw [Bool.and_eq_true, beq_iff_eq] at h
  exact h.1
theorem stills_count {f : Form} (h : Red f) (ha : 0 < f.a) (hp : Nat.gcd (Nat.gcd f.a.natAbs f.b.natAbs) f.c.natAbs = 1) : (stills f).length = if disc f = -3 then 6 else if disc f = -4 then 4 else 2 := by
  have hd := red_disc h ha
  obtain ⟨k1, k2⟩ := red_le h ha
  by_cases c1 : f.b = f.a ∧ f.c = f.a
  · rw [stills6 h ha c1.1 c1.2]
    rw [c1.1, c1.2, gcd_self3] at hp
    have : f.a = 1 := by omega
    have e : disc f = -3 := by
      unfold disc
      rw [c1.1, c1.2, this]
      rfl
    rw [if_pos e]
  by_cases c2 : f.b = 0 ∧ f.c = f.a
  · rw [stills4 h ha c2.1 c2.2]
    rw [c2.1, c2.2, Int.natAbs_zero, Nat.gcd_zero_right, Nat.gcd_self] at hp
    have : f.a = 1 := by omega
    have e : disc f = -4 := by
      unfold disc
      rw [c2.1, c2.2, this]
      rfl
    rw [if_neg (by omega), if_pos e]
  · rw [stills2 h ha c1 c2]
    have hb : f.a = 1 → f.c = 1 → disc f = f.b * f.b - 4 := fun e1 e2 => by
      unfold disc
      rw [e1, e2]
      omega
    obtain ⟨⟨l1, l2⟩, r1, r2⟩ := h
    have n3 : disc f ≠ -3 := fun e => by
      have e1 : f.a = 1 := by omega
      have e2 : f.c = 1 := by omega
      have h3 := hb e1 e2
      have h4 := r2 (by omega)
      have h5 : f.b = 0 ∨ f.b = 1 := by omega
      rcases h5 with h5 | h5
      · rw [h5] at h3
        omega
      · exact c1 ⟨by omega, by omega⟩
    have n4 : disc f ≠ -4 := fun e => by
      have e1 : f.a = 1 := by omega
      have e2 : f.c = 1 := by omega
      have h3 := hb e1 e2
      have h4 := r2 (by omega)
      have h5 : f.b = 0 ∨ f.b = 1 := by omega
      rcases h5 with h5 | h5
      · exact c2 ⟨h5, by omega⟩
      · rw [h5] at h3
        omega
    rw [if_neg n3, if_neg n4]
/-- symmetries, as the specification tells them -/
theorem sym_count {f : Form} (hp : plain f = true) (hd : disc f < 0) : (stills (down (if above f then f else negated f)).1).length = if disc f = -3 then 6 else if disc f = -4 then 4 else 2 := by
  have key : ∀ g : Form, disc g = disc f → content g = 1 → 0 < g.a → (stills (down g).1).length = if disc f = -3 then 6 else if disc f = -4 then 4 else 2 := fun g h1 h2 h3 => by
    obtain ⟨r1, r2, _, r4, r5⟩ := down_spec (f := g) (by omega) h3
    have e1 : disc (down g).1 = disc f := by rw [← r5, disc_changed r4, h1]
    have e2 : content (down g).1 = 1 := by rw [← r5, content_changed r4, h2]
    rw [stills_count r1 r2 e2, e1]
  have hc := (plain_iff.mp hp).1
  have ha := a_ne hd
  by_cases h : 0 < f.a
  · have : above f = true := by
      unfold above
      simp [hd, h]
    rw [this]
    exact key f rfl hc h
  · have : above f = false := by
      unfold above
      simp [h]
    rw [this]
    refine key (negated f) (disc_negated f) (by rw [content_negated, hc]) ?_
    show 0 < -f.a
    omega
end Fk

set_option Elab.async false
set_option linter.all false
set_option maxRecDepth 100000
set_option maxHeartbeats 2000000
/-! Walks over data: a value stands for a datum (Dp), a piece of syntax evaluates to a datum (EvD), a def keeps a promise over data (spD). -/
namespace Fkw
open PySem PySem.Spec PyProof.Rows L2 Evl
/-! ### data stay under a growing heap -/
mutual
theorem Dp_mono {K : PySem.W.Frag} {H H' : Hp} (e : Ex H H') : ∀ {v : V} {d : PyData}, Dp K H v d → Dp K H' v d
  | _, _, .non => .non
  | _, _, .bl b => .bl b
  | _, _, .int i => .int i
  | _, _, .str x => .str x
  | _, _, .lst h a => .lst (ex_l e h) (DpAll_mono e a)
  | _, _, .tup h a => .tup (ex_t e h) (DpAll_mono e a)
theorem DpAll_mono {K : PySem.W.Frag} {H H' : Hp} (e : Ex H H') : ∀ {vs : List V} {ds : List PyData}, DpAll K H vs ds → DpAll K H' vs ds
  | _, _, .nil => .nil
  | _, _, .cons a b => .cons (Dp_mono e a) (DpAll_mono e b)
end
section
variable {K : PySem.W.Frag} {H H' : Hp}
theorem dp_int {v : V} {n : Int} (h : Dp K H v (.int n)) : v = .int n := by cases h; rfl
theorem dp_bool {v : V} {b : Bool} (h : Dp K H v (.bool b)) : v = .bl b := by cases h; rfl
theorem dp_none {v : V} (h : Dp K H v .none) : v = .non := by cases h; rfl
theorem dp_list {v : V} {ds : List PyData} (h : Dp K H v (.list ds)) : ∃ a xs, v = .ref a ∧ SqL K H a xs ∧ DpAll K H xs ds := by
  cases h with
  | lst h a => exact ⟨_, _, rfl, h, a⟩
theorem dp_tup {v : V} {ds : List PyData} (h : Dp K H v (.tuple ds)) : ∃ a xs, v = .ref a ∧ SqT K H a xs ∧ DpAll K H xs ds := by
  cases h with
  | tup h a => exact ⟨_, _, rfl, h, a⟩
theorem da_nil {vs : List V} (h : DpAll K H vs []) : vs = [] := by cases h; rfl
theorem da_cons {vs : List V} {d : PyData} {ds : List PyData} (h : DpAll K H vs (d :: ds)) : ∃ v r, vs = v :: r ∧ Dp K H v d ∧ DpAll K H r ds := by
  cases h with
  | cons a b => exact ⟨_, _, rfl, a, b⟩
theorem da_len : ∀ {ds : List PyData} {vs : List V}, DpAll K H vs ds → vs.length = ds.length
  | [], _, h => by cases h; rfl
  | d :: ds, _, h => by
    cases h with
    | cons a b => rw [List.length_cons, List.length_cons, da_len b]
theorem da_append : ∀ {xs ys : List V} {ds es : List PyData}, DpAll K H xs ds → DpAll K H ys es → DpAll K H (xs ++ ys) (ds ++ es)
  | _, _, _, _, .nil, h => h
  | _, _, _, _, .cons a b, h => .cons a (da_append b h)
theorem da_get : ∀ {ds : List PyData} {vs : List V} {i : Nat} {d : PyData}, DpAll K H vs ds → ds[i]? = some d → ∃ v, vs[i]? = some v ∧ Dp K H v d
  | [], _, i, d, _, h => by simp at h
  | e :: ds, _, 0, d, .cons a b, h => ⟨_, rfl, by have : e = d := Option.some.inj h; exact this ▸ a⟩
  | e :: ds, _, i + 1, d, .cons a b, h => by
    obtain ⟨v, h1, h2⟩ := da_get (ds := ds) (i := i) (d := d) b (by simpa using h)
    exact ⟨v, by simpa using h1, h2⟩
theorem da_get2 : ∀ {ds : List PyData} {vs : List V} {i : Nat} {v : V}, DpAll K H vs ds → vs[i]? = some v → ∃ d, ds[i]? = some d ∧ Dp K H v d
  | [], _, i, d, h, e => by cases h; simp at e
  | e :: ds, _, 0, v, .cons a b, h => ⟨_, rfl, by have := Option.some.inj h; exact this ▸ a⟩
  | e :: ds, _, i + 1, v, .cons a b, h => by
    obtain ⟨d, h1, h2⟩ := da_get2 (ds := ds) (i := i) (v := v) b (by simpa using h)
    exact ⟨d, by simpa using h1, h2⟩
theorem da_ints : ∀ {ns : List Int} {vs : List V}, DpAll K H vs (ns.map PyData.int) → vs = ns.map V.int
  | [], _, h => by cases h; rfl
  | n :: ns, _, h => by
    cases h with
    | cons a b => rw [dp_int a, da_ints b]; rfl
theorem ints_da : ∀ (ns : List Int), DpAll K H (ns.map V.int) (ns.map PyData.int)
  | [] => .nil
  | _ :: ns => .cons (.int _) (ints_da ns)
theorem dp_tup3 {v : V} {x y z : PyData} (h : Dp K H v (.tuple [x, y, z])) : ∃ a p q r, v = .ref a ∧ SqT K H a [p, q, r] ∧ Dp K H p x ∧ Dp K H q y ∧ Dp K H r z := by
  obtain ⟨a, xs, rfl, hs, ha⟩ := dp_tup h
  obtain ⟨p, _, rfl, h1, ha⟩ := da_cons ha
  obtain ⟨q, _, rfl, h2, ha⟩ := da_cons ha
  obtain ⟨r, _, rfl, h3, ha⟩ := da_cons ha
  cases da_nil ha
  exact ⟨a, p, q, r, rfl, hs, h1, h2, h3⟩
end

/-! ### what evaluates to a datum -/
def EvD (K : PySem.W.Frag) (te : TE) (σ : L2.St) (H : Hp) (d : PyData) : Prop := ∀ H1, Ex H H1 → ∀ Q : VK, (∀ v H2, Ex H1 H2 → Dp K H2 v d → Q v H2) → te σ H1 Q
def EvDA (K : PySem.W.Frag) (ta : TA) (σ : L2.St) (H : Hp) (ds : List PyData) : Prop := ∀ H1, Ex H H1 → ∀ Q : List V → Hp → Prop, (∀ vs H2, Ex H1 H2 → DpAll K H2 vs ds → Q vs H2) → ta σ H1 Q
/-- a new list that may still be changed: its values stand for the data -/
def EvN (K : PySem.W.Frag) (te : TE) (σ : L2.St) (H : Hp) (ds : List PyData) : Prop := ∀ H1, Ex H H1 → ∀ Q : VK, (∀ p xs H2, H1 p = none → Ex H1 H2 → H2 p = some (.lst xs) → DpAll K H2 xs ds → Q (.ref p) H2) → te σ H1 Q
section
variable {K : PySem.W.Frag} {σ : L2.St} {H H' : Hp} {ta tb te tx : TE} {t u : TT} {d dx dy : PyData} {v : V} {r : R2} {tas : TA} {ds : List PyData}
theorem EvD.mono (e : Ex H H') (h : EvD K te σ H d) : EvD K te σ H' d := fun H1 a Q q => h H1 (e.trans a) Q q
theorem EvN.mono (e : Ex H H') (h : EvN K te σ H ds) : EvN K te σ H' ds := fun H1 a Q q => h H1 (e.trans a) Q q
theorem EvDA.mono (e : Ex H H') (h : EvDA K tas σ H ds) : EvDA K tas σ H' ds := fun H1 a Q q => h H1 (e.trans a) Q q
theorem EvN.toD (h : EvN K te σ H ds) : EvD K te σ H (.list ds) := fun H1 a Q q => h H1 a Q fun _ _ H2 _ e hp hd => q _ H2 e (.lst (sq_of hp) hd)
/-- a value known is a datum known -/
theorem EvD.ev {n : Int} (h : EvD K te σ H (.int n)) : Ev te σ H (.int n) := fun H1 a Q q => h H1 a Q fun v H2 e hv => by
  cases dp_int hv
  exact q H2 e
theorem EvD.evb {b : Bool} (h : EvD K te σ H (.bool b)) : Ev te σ H (.bl b) := fun H1 a Q q => h H1 a Q fun v H2 e hv => by
  cases dp_bool hv
  exact q H2 e
theorem ed_of (h : Ev te σ H v) (hd : Dp K H v d) : EvD K te σ H d := fun H1 a Q q => h H1 a Q fun H2 e => q v H2 e (Dp_mono (a.trans e) hd)
theorem ed_var {i : Nat} (h : σ[i]? = some (some v)) (hd : Dp K H v d) : EvD K (tVar i) σ H d := ed_of (ev_var h) hd
theorem ed_int {n : Int} : EvD K (tC (.int n)) σ H (.int n) := ed_of ev_c (.int n)
theorem ed_bl {b : Bool} : EvD K (tC (.bl b)) σ H (.bool b) := ed_of ev_c (.bl b)
theorem ed_non : EvD K (tC .non) σ H .none := ed_of ev_c .non
theorem ed_c (hd : Dp K H v d) : EvD K (tC v) σ H d := ed_of ev_c hd
theorem ed_is {e : PyData} (h : EvD K te σ H d) (q : d = e) : EvD K te σ H e := q ▸ h
theorem EvD.to {n m : Int} (h : EvD K te σ H (.int n)) (q : n = m) : EvD K te σ H (.int m) := q ▸ h
/-- two operands, one operation -/
theorem ed_op (ha : EvD K ta σ H dx) (hb : EvD K tb σ H dy) (hr : ∀ x y H1, Ex H H1 → Dp K H1 x dx → Dp K H1 y dy → ∀ Q : VK, (∀ v H2, Ex H1 H2 → Dp K H2 v d → Q v H2) → r x y H1 Q) : EvD K (tOp r ta tb) σ H d := fun H1 e Q q =>
  ha H1 e _ fun x H2 e2 hx => hb H2 (e.trans e2) _ fun y H3 e3 hy => hr x y H3 ((e.trans e2).trans e3) (Dp_mono e3 hx) hy Q fun v H4 e4 hv => q v H4 ((e2.trans e3).trans e4) hv
theorem ed_I0 {g : Int → Int → V} {i j : Int} (ha : EvD K ta σ H (.int i)) (hb : EvD K tb σ H (.int j)) (hd : Dp K H (g i j) d) : EvD K (tOp (rI0 g) ta tb) σ H d :=
  ed_op ha hb fun x y H1 e hx hy Q q => ⟨i, j, dp_int hx, dp_int hy, q _ H1 (Ex.refl H1) (Dp_mono e hd)⟩
theorem ed_I {C : Int → Int → Prop} {g : Int → Int → V} {i j : Int} (ha : EvD K ta σ H (.int i)) (hb : EvD K tb σ H (.int j)) (hc : C i j) (hd : Dp K H (g i j) d) : EvD K (tOp (rI C g) ta tb) σ H d :=
  ed_op ha hb fun x y H1 e hx hy Q q => ⟨i, j, dp_int hx, dp_int hy, hc, q _ H1 (Ex.refl H1) (Dp_mono e hd)⟩
theorem ed_add {i j : Int} (ha : EvD K ta σ H (.int i)) (hb : EvD K tb σ H (.int j)) : EvD K (tOp (rI0 fun i j => .int (i + j)) ta tb) σ H (.int (i + j)) := ed_I0 ha hb (.int _)
theorem ed_sub {i j : Int} (ha : EvD K ta σ H (.int i)) (hb : EvD K tb σ H (.int j)) : EvD K (tOp (rI0 fun i j => .int (i - j)) ta tb) σ H (.int (i - j)) := ed_I0 ha hb (.int _)
theorem ed_mul {i j : Int} (ha : EvD K ta σ H (.int i)) (hb : EvD K tb σ H (.int j)) (hc : CMul i j) : EvD K (tOp (rI CMul fun i j => .int (i * j)) ta tb) σ H (.int (i * j)) := ed_I ha hb hc (.int _)
theorem ed_fdiv {i j : Int} (ha : EvD K ta σ H (.int i)) (hb : EvD K tb σ H (.int j)) (hc : CDivN i j) : EvD K (tOp (rI CDivN fun i j => .int (i.fdiv j)) ta tb) σ H (.int (i.fdiv j)) := ed_I ha hb hc (.int _)
theorem ed_mod {i j : Int} (ha : EvD K ta σ H (.int i)) (hb : EvD K tb σ H (.int j)) (hc : j ≠ 0) : EvD K (tOp (rI (fun _ j => j ≠ 0) fun i j => .int (i.fmod j)) ta tb) σ H (.int (i.fmod j)) := ed_I ha hb hc (.int _)
theorem ed_lt {i j : Int} (ha : EvD K ta σ H (.int i)) (hb : EvD K tb σ H (.int j)) : EvD K (tOp (rI0 fun i j => .bl (decide (i < j))) ta tb) σ H (.bool (decide (i < j))) := ed_I0 ha hb (.bl _)
theorem ed_le {i j : Int} (ha : EvD K ta σ H (.int i)) (hb : EvD K tb σ H (.int j)) : EvD K (tOp (rI0 fun i j => .bl (decide (i ≤ j))) ta tb) σ H (.bool (decide (i ≤ j))) := ed_I0 ha hb (.bl _)
theorem ed_gt {i j : Int} (ha : EvD K ta σ H (.int i)) (hb : EvD K tb σ H (.int j)) : EvD K (tOp (rI0 fun i j => .bl (decide (j < i))) ta tb) σ H (.bool (decide (j < i))) := ed_I0 ha hb (.bl _)
theorem ed_ge {i j : Int} (ha : EvD K ta σ H (.int i)) (hb : EvD K tb σ H (.int j)) : EvD K (tOp (rI0 fun i j => .bl (decide (j ≤ i))) ta tb) σ H (.bool (decide (j ≤ i))) := ed_I0 ha hb (.bl _)
theorem ed_eqI {i j : Int} (ha : EvD K ta σ H (.int i)) (hb : EvD K tb σ H (.int j)) : EvD K (tOp rEq ta tb) σ H (.bool (decide (i = j))) :=
  ed_op ha hb fun x y H1 _ hx hy Q q => by
    cases dp_int hx
    cases dp_int hy
    refine ⟨rfl, q _ H1 (Ex.refl H1) ?_⟩
    have : decide (V.int i = V.int j) = decide (i = j) := by
      rw [L2.dec_int]
      rfl
    rw [this]
    exact .bl _
theorem ed_neI {i j : Int} (ha : EvD K ta σ H (.int i)) (hb : EvD K tb σ H (.int j)) : EvD K (tOp rNe ta tb) σ H (.bool (!decide (i = j))) :=
  ed_op ha hb fun x y H1 _ hx hy Q q => by
    cases dp_int hx
    cases dp_int hy
    refine ⟨rfl, q _ H1 (Ex.refl H1) ?_⟩
    have : decide (V.int i = V.int j) = decide (i = j) := by
      rw [L2.dec_int]
      rfl
    rw [this]
    exact .bl _
theorem ed_neg {i : Int} (ha : EvD K ta σ H (.int i)) : EvD K (tUn (rU fun i => .int (-i)) ta) σ H (.int (-i)) := fun H1 e Q q =>
  ha H1 e _ fun x H2 e2 hx => by
    cases dp_int hx
    exact ⟨i, rfl, q _ H2 e2 (.int _)⟩
/-! arguments, tuples, lists -/
theorem eda_nil : EvDA K tNil σ H [] := fun H1 _ _ q => q [] H1 (Ex.refl H1) .nil
theorem eda_cons {tr : TA} (h : EvD K te σ H d) (hr : EvDA K tr σ H ds) : EvDA K (tCons te tr) σ H (d :: ds) := fun H1 e _ q =>
  h H1 e _ fun x H2 e2 hx => hr H2 (e.trans e2) _ fun xs H3 e3 hxs => q _ H3 (e2.trans e3) (.cons (Dp_mono e3 hx) hxs)
theorem ed_tup (h : EvDA K tas σ H ds) (hl : ds.length ≤ 100000 := by simp) : EvD K (tTup tas) σ H (.tuple ds) := fun H1 e Q q =>
  h H1 e _ fun xs H2 e2 hx => ⟨by rw [da_len hx]; exact sz_of hl, fun p hp => q _ _ (e2.trans (Ex.new hp)) (.tup (st_of upd_same) (DpAll_mono (Ex.new hp) hx))⟩
theorem en_lst (h : EvDA K tas σ H ds) (hl : ds.length ≤ 100000 := by simp) : EvN K (tLst tas) σ H ds := fun H1 e Q q =>
  h H1 e _ fun xs H2 e2 hx => ⟨by rw [da_len hx]; exact sz_of hl, fun p hp => q p xs _ (fresh_back e2 hp) (e2.trans (Ex.new hp)) upd_same (DpAll_mono (Ex.new hp) hx)⟩
theorem en_list (h : EvD K te σ H d) (hd : d = .list ds ∨ d = .tuple ds) : EvN K (tCB (rListS K) (tCons te tNil)) σ H ds := fun H1 e Q q =>
  h H1 e _ fun x H2 e2 hx => by
    rcases hd with rfl | rfl
    · obtain ⟨a, xs, rfl, hs, ha⟩ := dp_list hx
      exact ⟨a, xs, rfl, .inl hs, fun l hl => q l xs _ (fresh_back e2 hl) (e2.trans (Ex.new hl)) upd_same (DpAll_mono (Ex.new hl) ha)⟩
    · obtain ⟨a, xs, rfl, hs, ha⟩ := dp_tup hx
      exact ⟨a, xs, rfl, .inr hs, fun l hl => q l xs _ (fresh_back e2 hl) (e2.trans (Ex.new hl)) upd_same (DpAll_mono (Ex.new hl) ha)⟩
/-- both operands of a list's +: new lists -/
theorem en_cat {es : List PyData} (ha : EvN K ta σ H ds) (hb : EvN K tb σ H es) (hl : ds.length + es.length ≤ 100000) : EvN K (tOp rCat ta tb) σ H (ds ++ es) := fun H1 e Q q =>
  ha H1 e _ fun p xs H2 hp e2 h2 hx => hb H2 (e.trans e2) _ fun p' ys H3 hp' e3 h3 hy =>
    ⟨p, p', xs, ys, rfl, rfl, e3 p _ h2, h3, by rw [da_len hx, da_len hy]; exact sz_of hl, fun l hl' => q l _ _ (fresh_back (e2.trans e3) hl') ((e2.trans e3).trans (Ex.new hl')) upd_same
      (DpAll_mono (Ex.new hl') (da_append (DpAll_mono e3 hx) hy))⟩
theorem ed_len (h : EvD K te σ H d) (hd : d = .list ds ∨ d = .tuple ds) : EvD K (tCB (rLenS K) (tCons te tNil)) σ H (.int (ds.length : Int)) := fun H1 e Q q =>
  h H1 e _ fun x H2 e2 hx => by
    rcases hd with rfl | rfl
    · obtain ⟨a, xs, rfl, hs, ha⟩ := dp_list hx
      exact ⟨a, xs, rfl, .inl hs, q _ H2 e2 (by rw [da_len ha]; exact .int _)⟩
    · obtain ⟨a, xs, rfl, hs, ha⟩ := dp_tup hx
      exact ⟨a, xs, rfl, .inr hs, q _ H2 e2 (by rw [da_len ha]; exact .int _)⟩
def rAbs : List V → Hp → VK → Prop := fun xs H Q => ∃ i, xs = [.int i] ∧ Q (.int (if i < 0 then -i else i)) H
theorem ed_abs {i : Int} (h : EvD K te σ H (.int i)) : EvD K (tCB rAbs (tCons te tNil)) σ H (.int (i.natAbs : Int)) := fun H1 e Q q =>
  h H1 e _ fun x H2 e2 hx => by
    cases dp_int hx
    refine ⟨i, rfl, q _ H2 e2 ?_⟩
    have : (if i < 0 then -i else i) = (i.natAbs : Int) := by split <;> omega
    rw [this]
    exact .int _
/-- max, min of ints that are not empty -/
theorem ed_max {n : Int} {ns : List Int} {m : Int} (h : EvD K te σ H (.list ((n :: ns).map PyData.int))) (hm : ∀ m', m' ∈ n :: ns → (∀ y, y ∈ n :: ns → y ≤ m') → m' = m) : EvD K (tCB (rMax K) (tCons te tNil)) σ H (.int m) := fun H1 e Q q =>
  h H1 e _ fun x H2 e2 hx => by
    obtain ⟨a, xs, rfl, hs, ha⟩ := dp_list hx
    cases da_ints ha
    refine ⟨a, n :: ns, rfl, hs, by simp, fun m' h1 h2 => ?_⟩
    cases hm m' h1 h2
    exact q _ H2 e2 (.int _)
/-- a tuple's item at a written place -/
theorem ed_ixT {i : Nat} {n : Int} (ha : EvD K ta σ H (.tuple ds)) (hb : EvD K tb σ H (.int n)) (hn : n = (i : Int)) (hi : ds[i]? = some d) : EvD K (tOp (rIxT K) ta tb) σ H d :=
  ed_op ha hb fun x y H1 _ hx hy Q q => by
    cases dp_int hy
    obtain ⟨a, xs, rfl, hs, hxs⟩ := dp_tup hx
    obtain ⟨v, hv, hd⟩ := da_get hxs hi
    exact ⟨a, xs, n, v, rfl, rfl, hs, by rw [hn]; exact atI_nat hv, q _ H1 (Ex.refl H1) hd⟩
theorem ed_ixL {i : Nat} {n : Int} (ha : EvD K ta σ H (.list ds)) (hb : EvD K tb σ H (.int n)) (hn : n = (i : Int)) (hi : ds[i]? = some d) : EvD K (tOp (rIxL K) ta tb) σ H d :=
  ed_op ha hb fun x y H1 _ hx hy Q q => by
    cases dp_int hy
    obtain ⟨a, xs, rfl, hs, hxs⟩ := dp_list hx
    obtain ⟨v, hv, hd⟩ := da_get hxs hi
    exact ⟨a, xs, n, v, rfl, rfl, hs, by rw [hn]; exact atI_nat hv, q _ H1 (Ex.refl H1) hd⟩
/-- and, or as values; not -/
theorem ed_and {a b : Bool} (h1 : EvD K ta σ H (.bool a)) (h2 : a = true → EvD K tb σ H (.bool b)) : EvD K (tAndV ta tb) σ H (.bool (a && b)) := fun H1 e Q q => h1 H1 e _ fun v H2 e2 hv => by
  cases dp_bool hv
  refine ⟨a, rfl, ?_⟩
  cases a with
  | true =>
    show tb σ H2 Q
    exact h2 rfl H2 (e.trans e2) Q fun v H3 e3 hv => q v H3 (e2.trans e3) hv
  | false =>
    show Q (.bl false) H2
    exact q _ H2 e2 (.bl _)
theorem ed_or {a b : Bool} (h1 : EvD K ta σ H (.bool a)) (h2 : a = false → EvD K tb σ H (.bool b)) : EvD K (tOrV ta tb) σ H (.bool (a || b)) := fun H1 e Q q => h1 H1 e _ fun v H2 e2 hv => by
  cases dp_bool hv
  refine ⟨a, rfl, ?_⟩
  cases a with
  | true =>
    show Q (.bl true) H2
    exact q _ H2 e2 (.bl _)
  | false =>
    show tb σ H2 Q
    exact h2 rfl H2 (e.trans e2) Q fun v H3 e3 hv => q v H3 (e2.trans e3) hv
theorem ed_not {a : Bool} (h1 : EvD K ta σ H (.bool a)) : EvD K (tNotV ta) σ H (.bool (!a)) := fun H1 e Q q => h1 H1 e _ fun v H2 e2 hv => by
  cases dp_bool hv
  exact ⟨a, rfl, q _ H2 e2 (.bl _)⟩
theorem et_testD {b : Bool} (h : EvD K te σ H (.bool b)) : EvT (tTest te) σ H b := et_test h.evb
theorem et_BD {b : Bool} (h : EvD K te σ H (.bool b)) : EvT (tB te) σ H b := et_B h.evb
end

/-! ### promises over data -/
def spD (K : PySem.W.Frag) (pre : List PyData → PyData → Prop) : Sp := fun vs H Q _ => ∃ ds d, DpAll K H vs ds ∧ pre ds d ∧ ∀ v H', Ex H H' → Dp K H' v d → Q v H'
/-- a def that hands back a new list, which its caller may change -/
def spN (K : PySem.W.Frag) (pre : List PyData → List PyData → Prop) : Sp := fun vs H Q _ => ∃ ds es, DpAll K H vs ds ∧ pre ds es ∧ ∀ p xs H', H p = none → Ex H H' → H' p = some (.lst xs) → DpAll K H' xs es → Q (.ref p) H'
/-- a def that hands back None or raises the error at CF -/
def spX (K : PySem.W.Frag) (CF : Addr) (pre : List PyData → Bool → Prop) : Sp := fun vs H Q E => ∃ ds b, DpAll K H vs ds ∧ pre ds b ∧ (b = true → ∀ H', Ex H H' → Q .non H') ∧ (b = false → ∀ H', Ex H H' → E (.ref CF) none H')
section
variable {K : PySem.W.Frag} {σ : L2.St} {H H' : Hp} {tas : TA} {ds : List PyData} {d : PyData} {E : XK}
theorem ed_call {pre : List PyData → PyData → Prop} (h : EvDA K tas σ H ds) (hp : pre ds d) : EvD K (tCall (spD K pre) [] E tas) σ H d := fun H1 e Q q =>
  h H1 e _ fun vs H2 e2 hv => ⟨ds, d, by rw [List.append_nil]; exact hv, hp, fun v H3 e3 hd => q v H3 (e2.trans e3) hd⟩
theorem en_call {es : List PyData} {pre : List PyData → List PyData → Prop} (h : EvDA K tas σ H ds) (hp : pre ds es) : EvN K (tCall (spN K pre) [] E tas) σ H es := fun H1 e Q q =>
  h H1 e _ fun vs H2 e2 hv => ⟨ds, es, by rw [List.append_nil]; exact hv, hp, fun p xs H3 hn e3 hl hd => q p xs H3 (fresh_back e2 hn) (e2.trans e3) hl hd⟩
end

/-! ### statements -/
section
variable {K : PySem.W.Frag} {σ : L2.St} {H H' : Hp} {te : TE} {t : TT} {tu tw tz : TS} {d : PyData} {D : Ends} {ds : List PyData}
theorem sd_asg {i : Nat} (h : EvD K te σ H d) (k : ∀ v H1, Ex H H1 → Dp K H1 v d → D.nx (σ.set i (some v)) H1) : tAsg te (gName i) D σ H := h H (Ex.refl H) _ fun v H2 e hv => k v H2 e hv
theorem qd_asg {i : Nat} (h : EvD K te σ H d) (k : ∀ v H1, Ex H H1 → Dp K H1 v d → tz D (σ.set i (some v)) H1) : tSeq (tAsg te (gName i)) tz D σ H := sd_asg (D := { D with nx := tz D }) h k
theorem qd_asgI {i : Nat} {n : Int} (h : EvD K te σ H (.int n)) (k : ∀ H1, Ex H H1 → tz D (σ.set i (some (.int n))) H1) : tSeq (tAsg te (gName i)) tz D σ H := qd_asg h fun v H1 e hv => by
  cases dp_int hv
  exact k H1 e
theorem sd_asgI {i : Nat} {n : Int} (h : EvD K te σ H (.int n)) (k : ∀ H1, Ex H H1 → D.nx (σ.set i (some (.int n))) H1) : tAsg te (gName i) D σ H := sd_asg h fun v H1 e hv => by
  cases dp_int hv
  exact k H1 e
theorem qd_asgN {i : Nat} (h : EvN K te σ H ds) (k : ∀ p xs H1, H p = none → Ex H H1 → H1 p = some (.lst xs) → DpAll K H1 xs ds → tz D (σ.set i (some (.ref p))) H1) : tSeq (tAsg te (gName i)) tz D σ H := h H (Ex.refl H) _ fun p xs H2 hn e hp hv => k p xs H2 hn e hp hv
/-- a, b, c = a tuple of three ints -/
theorem qd_un3 {i j l : Nat} {a b c : Int} (h : EvD K te σ H (.tuple [.int a, .int b, .int c])) (k : ∀ H1, Ex H H1 → tz D (((σ.set i (some (.int a))).set j (some (.int b))).set l (some (.int c))) H1) :
    tSeq (tAsg te (gTup K 3 (gCons (gName i) (gCons (gName j) (gCons (gName l) gNil))))) tz D σ H := h H (Ex.refl H) _ fun v H2 e hv => by
  obtain ⟨p, x, y, z, rfl, hs, hx, hy, hz⟩ := dp_tup3 hv
  cases dp_int hx
  cases dp_int hy
  cases dp_int hz
  exact ⟨p, _, rfl, hs, rfl, _, _, rfl, _, _, rfl, _, _, rfl, rfl, k H2 e⟩
theorem qd_un4 {i j l m : Nat} {a b c f : Int} (h : EvD K te σ H (.tuple [.int a, .int b, .int c, .int f])) (k : ∀ H1, Ex H H1 → tz D ((((σ.set i (some (.int a))).set j (some (.int b))).set l (some (.int c))).set m (some (.int f))) H1) :
    tSeq (tAsg te (gTup K 4 (gCons (gName i) (gCons (gName j) (gCons (gName l) (gCons (gName m) gNil)))))) tz D σ H := h H (Ex.refl H) _ fun v H2 e hv => by
  obtain ⟨a, xs, rfl, hs, ha⟩ := dp_tup hv
  obtain ⟨x, _, rfl, hx, ha⟩ := da_cons ha
  obtain ⟨y, _, rfl, hy, ha⟩ := da_cons ha
  obtain ⟨z, _, rfl, hz, ha⟩ := da_cons ha
  obtain ⟨w, _, rfl, hw, ha⟩ := da_cons ha
  cases da_nil ha
  cases dp_int hx
  cases dp_int hy
  cases dp_int hz
  cases dp_int hw
  exact ⟨a, _, rfl, hs, rfl, _, _, rfl, _, _, rfl, _, _, rfl, _, _, rfl, rfl, k H2 e⟩
/-- a, b = a tuple of two data -/
theorem qd_un2 {i j : Nat} {x y : PyData} (h : EvD K te σ H (.tuple [x, y])) (k : ∀ u v H1, Ex H H1 → Dp K H1 u x → Dp K H1 v y → tz D ((σ.set i (some u)).set j (some v)) H1) :
    tSeq (tAsg te (gTup K 2 (gCons (gName i) (gCons (gName j) gNil)))) tz D σ H := h H (Ex.refl H) _ fun v H2 e hv => by
  obtain ⟨a, xs, rfl, hs, ha⟩ := dp_tup hv
  obtain ⟨u, _, rfl, hx, ha⟩ := da_cons ha
  obtain ⟨w, _, rfl, hy, ha⟩ := da_cons ha
  cases da_nil ha
  exact ⟨a, _, rfl, hs, rfl, _, _, rfl, _, _, rfl, rfl, k u w H2 e hx hy⟩
/-- a, b = x, y -/
theorem qd_par {i j : Nat} {ta : TA} {x y : PyData} (h : EvDA K ta σ H [x, y]) (k : ∀ u v H1, Ex H H1 → Dp K H1 u x → Dp K H1 v y → tz D ((σ.set i (some u)).set j (some v)) H1) : tSeq (tPar i j ta) tz D σ H := h H (Ex.refl H) _ fun vs H2 e hv => by
  obtain ⟨u, _, rfl, hx, ha⟩ := da_cons hv
  obtain ⟨w, _, rfl, hy, ha⟩ := da_cons ha
  cases da_nil ha
  exact ⟨_, _, rfl, k u w H2 e hx hy⟩
theorem sd_par {i j : Nat} {ta : TA} {x y : PyData} (h : EvDA K ta σ H [x, y]) (k : ∀ u v H1, Ex H H1 → Dp K H1 u x → Dp K H1 v y → D.nx ((σ.set i (some u)).set j (some v)) H1) : tPar i j ta D σ H := h H (Ex.refl H) _ fun vs H2 e hv => by
  obtain ⟨u, _, rfl, hx, ha⟩ := da_cons hv
  obtain ⟨w, _, rfl, hy, ha⟩ := da_cons ha
  cases da_nil ha
  exact ⟨_, _, rfl, k u w H2 e hx hy⟩
theorem qd_parI {i j : Nat} {ta : TA} {x y : Int} (h : EvDA K ta σ H [.int x, .int y]) (k : ∀ H1, Ex H H1 → tz D ((σ.set i (some (.int x))).set j (some (.int y))) H1) : tSeq (tPar i j ta) tz D σ H := qd_par h fun u v H1 e hu hv => by
  cases dp_int hu
  cases dp_int hv
  exact k H1 e
theorem sd_parI {i j : Nat} {ta : TA} {x y : Int} (h : EvDA K ta σ H [.int x, .int y]) (k : ∀ H1, Ex H H1 → D.nx ((σ.set i (some (.int x))).set j (some (.int y))) H1) : tPar i j ta D σ H := sd_par h fun u v H1 e hu hv => by
  cases dp_int hu
  cases dp_int hv
  exact k H1 e
theorem sd_ret (h : EvD K te σ H d) (k : ∀ v H1, Ex H H1 → Dp K H1 v d → D.rt v H1) : tRet te D σ H := h H (Ex.refl H) _ fun v H2 e hv => k v H2 e hv
theorem sd_retN (h : EvN K te σ H ds) (k : ∀ p xs H1, H p = none → Ex H H1 → H1 p = some (.lst xs) → DpAll K H1 xs ds → D.rt (.ref p) H1) : tRet te D σ H := h H (Ex.refl H) _ k
end
end Fkw

set_option Elab.async false
set_option linter.all false
set_option maxRecDepth 100000
set_option maxHeartbeats 2000000
/-! Lists that grow: comprehensions, loops that append. -/
namespace Fkw
open PySem PySem.Spec PyProof.Rows L2 Evl
/-! ### data without a list within: they stay when a list changes -/
mutual
def lf : PyData → Bool
  | .list _ => false
  | .dict _ => false
  | .tuple ds => lfs ds
  | .none => true
  | .bool _ => true
  | .int _ => true
  | .str _ => true
def lfs : List PyData → Bool
  | [] => true
  | d :: ds => lf d && lfs ds
end
theorem lfs_append : ∀ (xs ys : List PyData), lfs (xs ++ ys) = (lfs xs && lfs ys)
  | [], ys => rfl
  | x :: xs, ys => by
    show (lf x && lfs (xs ++ ys)) = ((lf x && lfs xs) && lfs ys)
    rw [lfs_append xs ys, Bool.and_assoc]
theorem lfs_of : ∀ {ds : List PyData}, (∀ d ∈ ds, lf d = true) → lfs ds = true
  | [], _ => rfl
  | d :: ds, h => by
    show (lf d && lfs ds) = true
    rw [h d (List.mem_cons_self ..), lfs_of fun e he => h e (List.mem_cons_of_mem _ he)]
    rfl
theorem lfs_mem : ∀ {ds : List PyData}, lfs ds = true → ∀ d ∈ ds, lf d = true
  | d :: ds, h, e, he => by
    have h : (lf d && lfs ds) = true := h
    rw [Bool.and_eq_true] at h
    rcases List.mem_cons.mp he with rfl | he
    · exact h.1
    · exact lfs_mem h.2 e he
theorem lfs_ints (ns : List Int) : lfs (ns.map PyData.int) = true := lfs_of fun d h => by
  obtain ⟨n, _, rfl⟩ := List.mem_map.mp h
  rfl
mutual
theorem Dp_lst {K : PySem.W.Frag} {H : Hp} {D : Addr} {xs ys : List V} (hD : H D = some (.lst xs)) : ∀ {v : V} {d : PyData}, lf d = true → Dp K H v d → Dp K (upd H D (.lst ys)) v d
  | _, _, _, .non => .non
  | _, _, _, .bl b => .bl b
  | _, _, _, .int i => .int i
  | _, _, _, .str x => .str x
  | _, _, l, .lst h a => by cases l
  | _, _, l, .tup (a := p) h a => by
    refine .tup ?_ (DpAll_lst hD l a)
    rcases h with (h | ⟨o, h⟩) | h
    · refine .inl (.inl ?_)
      rw [upd_ne (ne_of h hD (by intro z; cases z))]
      exact h
    · refine .inl (.inr ⟨o, ?_⟩)
      rw [upd_ne (ne_of h hD (by intro z; cases z))]
      exact h
    · exact .inr h
theorem DpAll_lst {K : PySem.W.Frag} {H : Hp} {D : Addr} {xs ys : List V} (hD : H D = some (.lst xs)) : ∀ {vs : List V} {ds : List PyData}, lfs ds = true → DpAll K H vs ds → DpAll K (upd H D (.lst ys)) vs ds
  | _, _, _, .nil => .nil
  | _, _, l, .cons a b => by
    have l := Bool.and_eq_true_iff.mp l
    exact .cons (Dp_lst hD l.1 a) (DpAll_lst hD l.2 b)
end
section
variable {K : PySem.W.Frag} {σ : L2.St} {H H' : Hp} {ta tb te tl : TE} {t u : TT} {d : PyData} {v : V} {tas : TA} {ds es : List PyData}
/-- a list of ours that grows, over a heap where it was not: what it holds -/
def Lst (K : PySem.W.Frag) (H : Hp) (p : Addr) (es : List PyData) (H' : Hp) : Prop := H p = none ∧ Ex H H' ∧ lfs es = true ∧ ∃ xs, H' p = some (.lst xs) ∧ DpAll K H' xs es
theorem Lst.ex {p : Addr} (h : Lst K H p es H') : Ex H H' := h.2.1
theorem Lst.mono {p : Addr} {H2 : Hp} (h : Lst K H p es H') (e : Ex H' H2) : Lst K H p es H2 := by
  obtain ⟨h0, h1, h2, xs, h3, h4⟩ := h
  exact ⟨h0, h1.trans e, h2, xs, e _ _ h3, DpAll_mono e h4⟩
theorem Lst.push {p : Addr} {xs : List V} {y : V} (h : Lst K H p es H') (hp : H' p = some (.lst xs)) (hd : Dp K H' y d) (hl : lf d = true) : Lst K H p (es ++ [d]) (upd H' p (.lst (xs ++ [y]))) := by
  obtain ⟨h0, h1, h2, xs', h3, h4⟩ := h
  rw [h3] at hp
  cases hp
  refine ⟨h0, Ex.mut h1 h0, by rw [lfs_append, h2]; simp [lfs, hl], _, upd_same, ?_⟩
  exact DpAll_lst h3 (by rw [lfs_append, h2]; simp [lfs, hl]) (da_append h4 (.cons hd .nil))
theorem Lst.pushes {p : Addr} {xs ys : List V} {fs : List PyData} (h : Lst K H p es H') (hp : H' p = some (.lst xs)) (hd : DpAll K H' ys fs) (hl : lfs fs = true) : Lst K H p (es ++ fs) (upd H' p (.lst (xs ++ ys))) := by
  obtain ⟨h0, h1, h2, xs', h3, h4⟩ := h
  rw [h3] at hp
  cases hp
  refine ⟨h0, Ex.mut h1 h0, by rw [lfs_append, h2, hl]; rfl, _, upd_same, ?_⟩
  exact DpAll_lst h3 (by rw [lfs_append, h2, hl]; rfl) (da_append h4 hd)
theorem Lst.len {p : Addr} {xs : List V} (h : Lst K H p es H') (hp : H' p = some (.lst xs)) : xs.length = es.length := by
  obtain ⟨h0, h1, h2, xs', h3, h4⟩ := h
  rw [h3] at hp
  cases hp
  exact da_len h4
/-- a new list, empty or not -/
theorem Lst.start {p : Addr} {xs : List V} (h0 : H p = none) (e : Ex H H') (hp : H' p = some (.lst xs)) (hd : DpAll K H' xs es) (hl : lfs es = true) : Lst K H p es H' := ⟨h0, e, hl, xs, hp, hd⟩
theorem Lst.toD {p : Addr} (h : Lst K H p es H') : Dp K H' (.ref p) (.list es) := by
  obtain ⟨h0, h1, h2, xs', h3, h4⟩ := h
  exact .lst (sq_of h3) h4

/-! ### comprehensions -/
def Kept (p : PyData → Bool) (g : PyData → PyData) (ds : List PyData) : List PyData := (ds.filter p).map g
theorem kept_yes {p : PyData → Bool} {g : PyData → PyData} {i : Nat} {d : PyData} (h : ds[i]? = some d) (hp : p d = true) : Kept p g (ds.take (i + 1)) = Kept p g (ds.take i) ++ [g d] := by
  unfold Kept
  rw [List.take_add_one, h, List.filter_append, List.map_append]
  simp [hp]
theorem kept_no {p : PyData → Bool} {g : PyData → PyData} {i : Nat} {d : PyData} (h : ds[i]? = some d) (hp : p d = false) : Kept p g (ds.take (i + 1)) = Kept p g (ds.take i) := by
  unfold Kept
  rw [List.take_add_one, h, List.filter_append, List.map_append]
  simp [hp]
theorem kept_len (p : PyData → Bool) (g : PyData → PyData) (ds : List PyData) : (Kept p g ds).length ≤ ds.length := by
  unfold Kept
  rw [List.length_map]
  exact List.length_filter_le _ _
theorem kept_all {g : PyData → PyData} (ds : List PyData) : Kept (fun _ => true) g ds = ds.map g := by
  unfold Kept
  rw [List.filter_eq_self.mpr (fun _ _ => rfl)]
theorem et_yes : EvT tYes σ H true := fun H1 _ _ q => q H1 (Ex.refl H1)
/-- one turn of a comprehension -/
theorem lc_turn {p : PyData → Bool} {g : PyData → PyData} {D : Addr} {i : Nat} {x : V} {σ2 : L2.St} (L : Lst K H D (Kept p g (ds.take i)) H') (hi : ds[i]? = some d) (hn : i < 50000) (hx : Dp K H' x d)
    (ht : EvT t σ2 H' (p d)) (he : p d = true → EvD K te σ2 H' (g d)) (hl : lf (g d) = true) :
    t σ2 H' fun b H3 => if b = true then te σ2 H3 fun y H4 => ∃ acc, H4 D = some (.lst acc) ∧ acc.length < sizeLine ∧ Lst K H D (Kept p g (ds.take (i + 1))) (upd H4 D (.lst (acc ++ [y]))) else Lst K H D (Kept p g (ds.take (i + 1))) H3 := by
  refine ht H' (Ex.refl _) _ fun H3 e3 => ?_
  cases hp : p d with
  | true =>
    show te σ2 H3 fun y H4 => _
    refine he hp H3 e3 _ fun y H4 e4 hy => ?_
    have L4 := L.mono (e3.trans e4)
    obtain ⟨h0, h1, h2, xs, h3, h4⟩ := id L4
    refine ⟨xs, h3, sz_lt ?_, ?_⟩
    · rw [L4.len h3]
      have := kept_len p g (ds.take i)
      have := List.length_take_le i ds
      omega
    · rw [kept_yes hi hp]
      exact L4.push h3 hy hl
  | false =>
    show Lst K H D (Kept p g (ds.take (i + 1))) H3
    rw [kept_no hi hp]
    exact L.mono e3
theorem en_lcT {j : Nat} {vs : List Nat} (p : PyData → Bool) (g : PyData → PyData) (h : EvD K tl σ H (.tuple ds)) (hz : ds.length ≤ 40000) (hw : ∀ x, wipe ((wipe σ vs).set j (some x)) vs = wipe σ vs)
    (hl : ∀ d ∈ ds, lf (g d) = true)
    (ht : ∀ (d : PyData) (x : V) H1, d ∈ ds → Ex H H1 → Dp K H1 x d → EvT t ((wipe σ vs).set j (some x)) H1 (p d)) (he : ∀ (d : PyData) (x : V) H1, d ∈ ds → Ex H H1 → Dp K H1 x d → p d = true → EvD K te ((wipe σ vs).set j (some x)) H1 (g d)) :
    EvN K (tLc (iTup K tl) (gName j) t te vs) σ H (Kept p g ds) := fun H0 e Q q => h H0 e _ fun x H1 e1 hx => by
  obtain ⟨a, xs, rfl, hs, ha⟩ := dp_tup hx
  refine ⟨a, rfl, ⟨xs, hs⟩, fun Dl hD => ?_⟩
  refine lc_tup (xs := xs) (fun i H' => Lst K H1 Dl (Kept p g (ds.take i)) H') (Lst.start hD (Ex.new hD) upd_same .nil rfl) (fun i H' _ L => ex_t L.ex hs) (fun i x H' hi L => ⟨hw x, ?_⟩) (fun H' L => ?_)
  · obtain ⟨d, hd, hxd⟩ := da_get2 ha hi
    have hm := List.mem_of_getElem? hd
    have hi' := (List.getElem?_eq_some_iff.mp hd).1
    exact lc_turn L hd (by omega) (Dp_mono L.ex hxd) (ht d x H' hm ((e.trans e1).trans L.ex) (Dp_mono L.ex hxd)) (fun hp => he d x H' hm ((e.trans e1).trans L.ex) (Dp_mono L.ex hxd) hp) (hl d hm)
  · rw [da_len ha, List.take_length] at L
    obtain ⟨h0, h1, h2, xs, h3, h4⟩ := L
    exact q Dl xs H' (fresh_back e1 h0) (e1.trans h1) h3 h4
theorem en_lcL {j : Nat} {vs : List Nat} (p : PyData → Bool) (g : PyData → PyData) (h : EvD K tl σ H (.list ds)) (hz : ds.length ≤ 40000) (hw : ∀ x, wipe ((wipe σ vs).set j (some x)) vs = wipe σ vs)
    (hl : ∀ d ∈ ds, lf (g d) = true)
    (ht : ∀ (d : PyData) (x : V) H1, d ∈ ds → Ex H H1 → Dp K H1 x d → EvT t ((wipe σ vs).set j (some x)) H1 (p d)) (he : ∀ (d : PyData) (x : V) H1, d ∈ ds → Ex H H1 → Dp K H1 x d → p d = true → EvD K te ((wipe σ vs).set j (some x)) H1 (g d)) :
    EvN K (tLc (iList K tl) (gName j) t te vs) σ H (Kept p g ds) := fun H0 e Q q => h H0 e _ fun x H1 e1 hx => by
  obtain ⟨a, xs, rfl, hs, ha⟩ := dp_list hx
  refine ⟨a, rfl, ⟨xs, hs⟩, fun Dl hD => ?_⟩
  refine lc_list (xs := xs) (fun i H' => Lst K H1 Dl (Kept p g (ds.take i)) H') (Lst.start hD (Ex.new hD) upd_same .nil rfl) (fun i H' _ L => ex_l L.ex hs) (fun i x H' hi L => ⟨hw x, ?_⟩) (fun H' L => ?_)
  · obtain ⟨d, hd, hxd⟩ := da_get2 ha hi
    have hm := List.mem_of_getElem? hd
    have hi' := (List.getElem?_eq_some_iff.mp hd).1
    exact lc_turn L hd (by omega) (Dp_mono L.ex hxd) (ht d x H' hm ((e.trans e1).trans L.ex) (Dp_mono L.ex hxd)) (fun hp => he d x H' hm ((e.trans e1).trans L.ex) (Dp_mono L.ex hxd) hp) (hl d hm)
  · rw [da_len ha, List.take_length] at L
    obtain ⟨h0, h1, h2, xs, h3, h4⟩ := L
    exact q Dl xs H' (fresh_back e1 h0) (e1.trans h1) h3 h4
/-- without a test -/
theorem en_mapT {j : Nat} {vs : List Nat} (g : PyData → PyData) (h : EvD K tl σ H (.tuple ds)) (hz : ds.length ≤ 40000) (hw : ∀ x, wipe ((wipe σ vs).set j (some x)) vs = wipe σ vs) (hl : ∀ d ∈ ds, lf (g d) = true)
    (he : ∀ (d : PyData) (x : V) H1, d ∈ ds → Ex H H1 → Dp K H1 x d → EvD K te ((wipe σ vs).set j (some x)) H1 (g d)) : EvN K (tLc (iTup K tl) (gName j) tYes te vs) σ H (ds.map g) := by
  rw [← kept_all]
  exact en_lcT (fun _ => true) g h hz hw hl (fun _ _ _ _ _ _ => et_yes) fun d x H1 hd e hx _ => he d x H1 hd e hx
theorem en_mapL {j : Nat} {vs : List Nat} (g : PyData → PyData) (h : EvD K tl σ H (.list ds)) (hz : ds.length ≤ 40000) (hw : ∀ x, wipe ((wipe σ vs).set j (some x)) vs = wipe σ vs) (hl : ∀ d ∈ ds, lf (g d) = true)
    (he : ∀ (d : PyData) (x : V) H1, d ∈ ds → Ex H H1 → Dp K H1 x d → EvD K te ((wipe σ vs).set j (some x)) H1 (g d)) : EvN K (tLc (iList K tl) (gName j) tYes te vs) σ H (ds.map g) := by
  rw [← kept_all]
  exact en_lcL (fun _ => true) g h hz hw hl (fun _ _ _ _ _ _ => et_yes) fun d x H1 hd e hx _ => he d x H1 hd e hx

/-! ### statements over a growing list -/
variable {tu tw tz : TS} {D : Ends}
/-- found.append(e) -/
theorem qd_app {l : Addr} {H0 : Hp} (L : Lst K H0 l es H) (ha : Ev ta σ H (.ref l)) (h : EvD K te σ H d) (hl : lf d = true) (hz : es.length < 100000) (k : ∀ H1, Ex H0 H1 → Lst K H0 l (es ++ [d]) H1 → tz D σ H1) :
    tSeq (tDrop (tBM K "list" rAppend ta (tCons te tNil))) tz D σ H := by
  obtain ⟨h0, h1, h2, xs, h3, h4⟩ := id L
  refine ha H (Ex.refl H) _ fun H1 e1 => ⟨.inl ⟨rfl, xs, sq_of (e1 _ _ h3)⟩, ?_⟩
  refine h H1 e1 _ fun y H2 e2 hy => ?_
  have L2 := L.mono (e1.trans e2)
  have h3' := (e1.trans e2) _ _ h3
  exact ⟨l, xs, y, rfl, rfl, h3', sz_lt (by rw [L2.len h3']; exact hz), k _ (L2.push h3' hy hl).ex (L2.push h3' hy hl)⟩
theorem sd_app {l : Addr} {H0 : Hp} (L : Lst K H0 l es H) (ha : Ev ta σ H (.ref l)) (h : EvD K te σ H d) (hl : lf d = true) (hz : es.length < 100000) (k : ∀ H1, Ex H0 H1 → Lst K H0 l (es ++ [d]) H1 → D.nx σ H1) :
    tDrop (tBM K "list" rAppend ta (tCons te tNil)) D σ H := by
  obtain ⟨h0, h1, h2, xs, h3, h4⟩ := id L
  refine ha H (Ex.refl H) _ fun H1 e1 => ⟨.inl ⟨rfl, xs, sq_of (e1 _ _ h3)⟩, ?_⟩
  refine h H1 e1 _ fun y H2 e2 hy => ?_
  have L2 := L.mono (e1.trans e2)
  have h3' := (e1.trans e2) _ _ h3
  exact ⟨l, xs, y, rfl, rfl, h3', sz_lt (by rw [L2.len h3']; exact hz), k _ (L2.push h3' hy hl).ex (L2.push h3' hy hl)⟩
/-- found.extend(a new list) -/
theorem sd_ext {l : Addr} {H0 : Hp} {fs : List PyData} (L : Lst K H0 l es H) (ha : Ev ta σ H (.ref l)) (h : EvN K te σ H fs) (hl : lfs fs = true) (hz : es.length + fs.length ≤ 100000) (k : ∀ H1, Ex H0 H1 → Lst K H0 l (es ++ fs) H1 → D.nx σ H1) :
    tDrop (tBM K "list" rExtend ta (tCons te tNil)) D σ H := by
  obtain ⟨h0, h1, h2, xs, h3, h4⟩ := id L
  refine ha H (Ex.refl H) _ fun H1 e1 => ⟨.inl ⟨rfl, xs, sq_of (e1 _ _ h3)⟩, ?_⟩
  refine h H1 e1 _ fun q ys H2 hn e2 hq hy => ?_
  have L2 := L.mono (e1.trans e2)
  have h3' := (e1.trans e2) _ _ h3
  exact ⟨l, q, xs, ys, rfl, rfl, h3', hq, by rw [L2.len h3', da_len hy]; exact sz_of hz, k _ (L2.pushes h3' hy hl).ex (L2.pushes h3' hy hl)⟩
/-- the heap without what stands at p -/
def rem (H : Hp) (p : Addr) : Hp := fun b => if b = p then none else H b
theorem rem_at {p : Addr} : rem H p p = none := if_pos rfl
theorem rem_ne {p b : Addr} (h : b ≠ p) : rem H p b = H b := if_neg h
theorem rem_ex {p : Addr} : Ex (rem H p) H := fun a o h => by
  by_cases e : a = p
  · rw [e, rem_at] at h
    cases h
  · rwa [rem_ne e] at h
theorem ex_rem {p : Addr} {H0 : Hp} (e : Ex H0 H) (h : H0 p = none) : Ex H0 (rem H p) := fun a o q => by
  rw [rem_ne (ne_of_none q h)]
  exact e a o q
mutual
theorem Dp_rem {D : Addr} {xs : List V} (hD : H D = some (.lst xs)) : ∀ {v : V} {d : PyData}, lf d = true → Dp K H v d → Dp K (rem H D) v d
  | _, _, _, .non => .non
  | _, _, _, .bl b => .bl b
  | _, _, _, .int i => .int i
  | _, _, _, .str x => .str x
  | _, _, l, .lst h a => by cases l
  | _, _, l, .tup (a := p) h a => by
    refine .tup ?_ (DpAll_rem hD l a)
    rcases h with (h | ⟨o, h⟩) | h
    · refine .inl (.inl ?_)
      rw [rem_ne (ne_of h hD (by intro z; cases z))]
      exact h
    · refine .inl (.inr ⟨o, ?_⟩)
      rw [rem_ne (ne_of h hD (by intro z; cases z))]
      exact h
    · exact .inr h
theorem DpAll_rem {D : Addr} {xs : List V} (hD : H D = some (.lst xs)) : ∀ {vs : List V} {ds : List PyData}, lfs ds = true → DpAll K H vs ds → DpAll K (rem H D) vs ds
  | _, _, _, .nil => .nil
  | _, _, l, .cons a b => by
    have l := Bool.and_eq_true_iff.mp l
    exact .cons (Dp_rem hD l.1 a) (DpAll_rem hD l.2 b)
end
/-- all else that stands is kept by what is done with the list -/
theorem Lst.rebase {H0 : Hp} {p : Addr} (L : Lst K H0 p es H) : Lst K (rem H p) p es H := by
  obtain ⟨h0, h1, h2, xs, h3, h4⟩ := L
  exact ⟨rem_at, rem_ex, h2, xs, h3, h4⟩
theorem Lst.back {H0 H1 : Hp} {p : Addr} (L : Lst K H1 p es H) (e : Ex H0 H1) : Lst K H0 p es H := by
  obtain ⟨h0, h1, h2, xs, h3, h4⟩ := L
  exact ⟨fresh_back e h0, e.trans h1, h2, xs, h3, h4⟩

/-! ### for -/
/-- over a list of data that stands in H -/
theorem qd_forL {g : TG} (h : EvD K tl σ H (.list ds)) (k : ∀ a xs H1, Ex H H1 → SqL K H1 a xs → DpAll K H1 xs ds → ∃ Pv : Nat → L2.St → Hp → Prop, Pv 0 σ H1 ∧ (∀ i σ' H', i ≤ xs.length → Pv i σ' H' → Ex H1 H') ∧
    (∀ i d x σ' H', ds[i]? = some d → Dp K H' x d → Pv i σ' H' → g x σ' H' fun σ2 H2 => tu { D with nx := Pv (i + 1), ct := Pv (i + 1), bk := tz D } σ2 H2) ∧ (∀ σ' H', Pv ds.length σ' H' → tz D σ' H')) : tSeq (tFor (iList K tl) g tu) tz D σ H :=
  h H (Ex.refl H) _ fun v H1 e hv => by
    obtain ⟨a, xs, rfl, hs, ha⟩ := dp_list hv
    obtain ⟨Pv, h0, hk, hb, hd⟩ := k a xs H1 e hs ha
    refine ⟨a, rfl, ⟨xs, hs⟩, for_list (D := { D with nx := tz D }) Pv h0 (fun i σ' H' hi p => ex_l (hk i σ' H' hi p) hs) (fun i x σ' H' hi p => ?_) (fun σ' H' p => hd σ' H' (by rw [← da_len ha]; exact p))⟩
    obtain ⟨d, h1, h2⟩ := da_get2 ha hi
    exact hb i d x σ' H' h1 (Dp_mono (hk i σ' H' (Nat.le_of_lt (List.getElem?_eq_some_iff.mp hi).1) p) h2) p
/-- over a new list (its items without lists), while another list grows -/
theorem qd_forN {g : TG} {p : Addr} {H0 : Hp} (L : Lst K H0 p es H) (h : EvN K tl σ H ds) (hl : lfs ds = true) (k : ∀ Hb H1, Ex H0 Hb → Ex (rem H p) Hb → Ex H H1 → Lst K Hb p es H1 → ∃ Pv : Nat → L2.St → Hp → Prop, Pv 0 σ H1 ∧ (∀ i σ' H', i ≤ ds.length → Pv i σ' H' → Ex Hb H') ∧
    (∀ i d x σ' H', ds[i]? = some d → Dp K H' x d → Pv i σ' H' → g x σ' H' fun σ2 H2 => tu { D with nx := Pv (i + 1), ct := Pv (i + 1), bk := tz D } σ2 H2) ∧ (∀ σ' H', Pv ds.length σ' H' → tz D σ' H')) : tSeq (tFor (iList K tl) g tu) tz D σ H :=
  h H (Ex.refl H) _ fun a xs H1 hn e hp ha => by
    obtain ⟨h0, h1, h2, zs, h3, h4⟩ := id L
    have ne : a ≠ p := fun z => by
      rw [z, h3] at hn
      cases hn
    have L1 := (L.mono e).rebase
    have hp' : rem H1 p a = some (.lst xs) := by rw [rem_ne ne]; exact hp
    have e2 : Ex (rem H p) (rem H1 p) := fun b o q => by
      by_cases c : b = p
      · rw [c, rem_at] at q
        cases q
      · rw [rem_ne c] at q ⊢
        exact e b o q
    obtain ⟨Pv, h0', hk, hb, hd⟩ := k (rem H1 p) H1 (ex_rem (h1.trans e) h0) e2 e L1
    have hl' := da_len ha
    have hda : DpAll K (rem H1 p) xs ds := DpAll_rem (e _ _ h3) hl ha
    refine ⟨a, rfl, ⟨xs, sq_of hp⟩, for_list (D := { D with nx := tz D }) Pv h0' (fun i σ' H' hi q => ex_l (hk i σ' H' (by omega) q) (sq_of hp')) (fun i x σ' H' hi q => ?_) (fun σ' H' q => hd σ' H' (by rw [← hl']; exact q))⟩
    obtain ⟨d, h1, h2⟩ := da_get2 hda hi
    have := (List.getElem?_eq_some_iff.mp hi).1
    exact hb i d x σ' H' h1 (Dp_mono (hk i σ' H' (by omega) q) h2) q
/-- over range(n), range(lo, n) -/
theorem qd_forR1 {n : Int} {g : TG} (h : EvDA K tas σ H [.int n]) (hn : -(2 ^ 62) ≤ n ∧ n < 2 ^ 62) (k : ∀ H1, Ex H H1 → ∃ Pv : Nat → L2.St → Hp → Prop, Pv 0 σ H1 ∧
    (∀ i σ' H', i < n.toNat → Pv i σ' H' → g (.int (0 + (i : Int))) σ' H' fun σ2 H2 => tu { D with nx := Pv (i + 1), ct := Pv (i + 1), bk := tz D } σ2 H2) ∧ (∀ σ' H', Pv n.toNat σ' H' → tz D σ' H')) : tSeq (tFor (iRng1 tas) g tu) tz D σ H :=
  h H (Ex.refl H) _ fun vs H1 e hv => by
    obtain ⟨v, _, rfl, hx, hv⟩ := da_cons hv
    cases da_nil hv
    cases dp_int hx
    obtain ⟨Pv, h0, hb, hd⟩ := k H1 e
    exact ⟨n, rfl, hn.1, hn.2, for_range (D := { D with nx := tz D }) Pv h0 (fun i σ' H' hi p => hb i σ' H' hi p) hd⟩
theorem qd_forR2 {lo n : Int} {g : TG} (h : EvDA K tas σ H [.int lo, .int n]) (hn : -(2 ^ 62) ≤ lo ∧ lo < 2 ^ 62 ∧ -(2 ^ 62) ≤ n ∧ n < 2 ^ 62) (k : ∀ H1, Ex H H1 → ∃ Pv : Nat → L2.St → Hp → Prop, Pv 0 σ H1 ∧
    (∀ i σ' H', i < (n - lo).toNat → Pv i σ' H' → g (.int (lo + (i : Int))) σ' H' fun σ2 H2 => tu { D with nx := Pv (i + 1), ct := Pv (i + 1), bk := tz D } σ2 H2) ∧ (∀ σ' H', Pv (n - lo).toNat σ' H' → tz D σ' H')) : tSeq (tFor (iRng2 tas) g tu) tz D σ H :=
  h H (Ex.refl H) _ fun vs H1 e hv => by
    obtain ⟨v, _, rfl, hx, hv⟩ := da_cons hv
    obtain ⟨v', _, rfl, hx', hv⟩ := da_cons hv
    cases da_nil hv
    cases dp_int hx
    cases dp_int hx'
    obtain ⟨Pv, h0, hb, hd⟩ := k H1 e
    exact ⟨lo, n, rfl, hn, for_range (D := { D with nx := tz D }) Pv h0 (fun i σ' H' hi p => hb i σ' H' hi p) hd⟩
theorem sd_forR2 {lo n : Int} {g : TG} (h : EvDA K tas σ H [.int lo, .int n]) (hn : -(2 ^ 62) ≤ lo ∧ lo < 2 ^ 62 ∧ -(2 ^ 62) ≤ n ∧ n < 2 ^ 62) (k : ∀ H1, Ex H H1 → ∃ Pv : Nat → L2.St → Hp → Prop, Pv 0 σ H1 ∧
    (∀ i σ' H', i < (n - lo).toNat → Pv i σ' H' → g (.int (lo + (i : Int))) σ' H' fun σ2 H2 => tu { D with nx := Pv (i + 1), ct := Pv (i + 1), bk := D.nx } σ2 H2) ∧ (∀ σ' H', Pv (n - lo).toNat σ' H' → D.nx σ' H')) : tFor (iRng2 tas) g tu D σ H :=
  h H (Ex.refl H) _ fun vs H1 e hv => by
    obtain ⟨v, _, rfl, hx, hv⟩ := da_cons hv
    obtain ⟨v', _, rfl, hx', hv⟩ := da_cons hv
    cases da_nil hv
    cases dp_int hx
    cases dp_int hx'
    obtain ⟨Pv, h0, hb, hd⟩ := k H1 e
    exact ⟨lo, n, rfl, hn, for_range (D := D) Pv h0 (fun i σ' H' hi p => hb i σ' H' hi p) hd⟩
/-- over a tuple just written, while a list grows -/
theorem sd_forTup {g : TG} {p : Addr} {H0 : Hp} (L : Lst K H0 p es H) (h : EvD K tl σ H (.tuple ds)) (hl : lfs ds = true) (k : ∀ Hb H1, Ex H0 Hb → Ex (rem H p) Hb → Ex H H1 → Lst K Hb p es H1 → ∃ Pv : Nat → L2.St → Hp → Prop, Pv 0 σ H1 ∧ (∀ i σ' H', i ≤ ds.length → Pv i σ' H' → Ex Hb H') ∧
    (∀ i d x σ' H', ds[i]? = some d → Dp K H' x d → Pv i σ' H' → g x σ' H' fun σ2 H2 => tu { D with nx := Pv (i + 1), ct := Pv (i + 1), bk := D.nx } σ2 H2) ∧ (∀ σ' H', Pv ds.length σ' H' → D.nx σ' H')) : tFor (iTup K tl) g tu D σ H :=
  h H (Ex.refl H) _ fun v H1 e hv => by
    obtain ⟨h0, h1, h2, zs, h3, h4⟩ := id L
    have L1 := (L.mono e).rebase
    have e2 : Ex (rem H p) (rem H1 p) := fun b o q => by
      by_cases c : b = p
      · rw [c, rem_at] at q
        cases q
      · rw [rem_ne c] at q ⊢
        exact e b o q
    have hv' : Dp K (rem H1 p) v (.tuple ds) := Dp_rem (e _ _ h3) hl hv
    obtain ⟨a, xs, rfl, hs, ha⟩ := dp_tup hv'
    obtain ⟨Pv, h0', hk, hb, hd⟩ := k (rem H1 p) H1 (ex_rem (h1.trans e) h0) e2 e L1
    have hl' := da_len ha
    refine ⟨a, rfl, ⟨xs, ex_t rem_ex hs⟩, for_tup (D := D) Pv h0' (fun i σ' H' hi q => ex_t (hk i σ' H' (by omega) q) hs) (fun i x σ' H' hi q => ?_) (fun σ' H' q => hd σ' H' (by rw [← hl']; exact q))⟩
    obtain ⟨d, h1, h2⟩ := da_get2 ha hi
    have := (List.getElem?_eq_some_iff.mp hi).1
    exact hb i d x σ' H' h1 (Dp_mono (hk i σ' H' (by omega) q) h2) q
end
theorem ed_bits {K : PySem.W.Frag} {σ : L2.St} {H : Hp} {te : TE} {i : Int} (h : EvD K te σ H (.int i)) : EvD K (tBits te) σ H (.int (Builtin.Int.intBits i : Nat)) := fun H1 e Q q =>
  h H1 e _ fun x H2 e2 hx => by
    cases dp_int hx
    exact ⟨i, rfl, q _ H2 e2 (.int _)⟩
def rInt1 : List V → Hp → VK → Prop := fun xs H Q => (∃ i, xs = [.int i] ∧ Q (.int i) H) ∨ ∃ k, xs = [.bl k] ∧ Q (.int (if k then 1 else 0)) H
theorem ed_intB {K : PySem.W.Frag} {σ : L2.St} {H : Hp} {te : TE} {b : Bool} (h : EvD K te σ H (.bool b)) : EvD K (tCB rInt1 (tCons te tNil)) σ H (.int (if b then 1 else 0)) := fun H1 e Q q =>
  h H1 e _ fun x H2 e2 hx => by
    cases dp_bool hx
    exact .inr ⟨b, rfl, q _ H2 e2 (.int _)⟩
/-- {k1: v1, k2: v2}.get(y, z), all ints -/
theorem ed_get2 {K : PySem.W.Frag} {σ : L2.St} {H : Hp} {tk1 tv1 tk2 tv2 ty tz : TE} {k1 v1 k2 v2 y z : Int} (h1 : EvD K tk1 σ H (.int k1)) (h2 : EvD K tv1 σ H (.int v1)) (h3 : EvD K tk2 σ H (.int k2)) (h4 : EvD K tv2 σ H (.int v2)) (hy : EvD K ty σ H (.int y)) (hz : EvD K tz σ H (.int z)) (hk : k1 ≠ k2) :
    EvD K (tDGet2 (tDisp [(tk1, tv1), (tk2, tv2)]) ty tz) σ H (.int (if y = k1 then v1 else if y = k2 then v2 else z)) := fun H1 e Q q p hp => by
  refine h1 _ (e.trans (Ex.new hp)) _ fun x1 Ha ea q1 => ?_
  cases dp_int q1
  refine h2 _ ((e.trans (Ex.new hp)).trans ea) _ fun x2 Hb eb q2 => ?_
  cases dp_int q2
  refine h3 _ (((e.trans (Ex.new hp)).trans ea).trans eb) _ fun x3 Hc ec q3 => ?_
  cases dp_int q3
  refine h4 _ ((((e.trans (Ex.new hp)).trans ea).trans eb).trans ec) _ fun x4 Hd ed q4 => ?_
  cases dp_int q4
  have e4 : Ex (upd H1 p (.dK [])) Hd := ((ea.trans eb).trans ec).trans ed
  have hm : mergeK [] [((Sum.inl k1 : Key), V.int v1), (Sum.inl k2, V.int v2)] = [(Sum.inl k1, V.int v1), (Sum.inl k2, V.int v2)] := by
    have : ¬ ((Sum.inl k1 : Key) = Sum.inl k2) := fun z => hk (Sum.inl.inj z)
    simp [mergeK, putK, this]
  refine ⟨e4 p _ upd_same, [(Sum.inl k1, .int v1), (Sum.inl k2, .int v2)], rfl, (by simp), p, rfl, .inl ⟨_, .inl upd_same⟩, ?_⟩
  rw [hm]
  have e5 : Ex H1 (upd Hd p (.dK [(Sum.inl k1, V.int v1), (Sum.inl k2, V.int v2)])) := Ex.mut ((Ex.new hp).trans e4) hp
  refine hy _ (e.trans e5) _ fun x5 He ee q5 => ?_
  cases dp_int q5
  refine hz _ ((e.trans e5).trans ee) _ fun x6 Hf ef q6 => ?_
  cases dp_int q6
  refine ⟨_, DGet.k (k := Sum.inl y) (ef p _ (ee p _ upd_same)), ?_⟩
  refine q _ Hf ((e5.trans ee).trans ef) ?_
  have hv : (valV [((Sum.inl k1 : Key), V.int v1), (Sum.inl k2, V.int v2)] (Sum.inl y)).getD (V.int z) = V.int (if y = k1 then v1 else if y = k2 then v2 else z) := by
    unfold valV
    by_cases c1 : y = k1
    · subst c1
      simp
    · have n1 : ¬ ((Sum.inl k1 : Key) = Sum.inl y) := fun z => c1 (Sum.inl.inj z).symm
      by_cases c2 : y = k2
      · subst c2
        simp [List.find?, n1, c1]
      · have n2 : ¬ ((Sum.inl k2 : Key) = Sum.inl y) := fun z => c2 (Sum.inl.inj z).symm
        simp [List.find?, n1, n2, c1, c2]
  rw [hv]
  exact .int _
/-! ### numbers of the row; forms as data -/
abbrev dF (a b c : Int) : PyData := .tuple [.int a, .int b, .int c]
theorem when_t {b : Bool} {F : Unit → Wrform.Answer} (h : b = true) : Wrform.when b F = F () := by
  unfold Wrform.when
  rw [h]
  rfl
theorem when_f {b : Bool} {F : Unit → Wrform.Answer} (h : b = false) : Wrform.when b F = .no := by
  unfold Wrform.when
  rw [h]
  rfl
abbrev dFm (f : Fc.Form) : PyData := dF f.a f.b f.c
abbrev dCh (t : Fc.Change) : PyData := .tuple [.int t.p, .int t.q, .int t.r, .int t.s]
def W64 (n : Int) : Prop := -(2 ^ 64) < n ∧ n < 2 ^ 64
def fits (a b c : Int) : Bool := decide (a.natAbs ≤ 8192) && (decide (b.natAbs ≤ 8192) && decide (c.natAbs ≤ 8192))
theorem fits_iff {a b c : Int} : fits a b c = true ↔ (-8192 ≤ a ∧ a ≤ 8192) ∧ (-8192 ≤ b ∧ b ≤ 8192) ∧ (-8192 ≤ c ∧ c ≤ 8192) := by
  unfold fits
  simp only [Bool.and_eq_true, decide_eq_true_eq]
  omega
def Sm (n : Int) : Prop := -67108864 ≤ n ∧ n ≤ 67108864
theorem Sm.wide {n : Int} (h : Sm n) : W64 n := by
  unfold Sm at h
  unfold W64
  omega
def SmF (f : Fc.Form) : Prop := Sm f.a ∧ Sm f.b ∧ Sm f.c
theorem mul_le_abs {a b A B : Int} (ha : -A ≤ a ∧ a ≤ A) (hb : -B ≤ b ∧ b ≤ B) : -(A * B) ≤ a * b ∧ a * b ≤ A * B := by
  have h1 : a.natAbs * b.natAbs ≤ A.toNat * B.toNat := Nat.mul_le_mul (by omega) (by omega)
  have h2 : (a * b).natAbs = a.natAbs * b.natAbs := Int.natAbs_mul a b
  have h3 : ((A.toNat * B.toNat : Nat) : Int) = A * B := by
    rw [Int.natCast_mul]
    congr 1 <;> omega
  omega
theorem disc_small {f : Fc.Form} (h : SmF f) : -22517998136852480 ≤ Fc.disc f ∧ Fc.disc f ≤ 22517998136852480 := by
  obtain ⟨h1, h2, h3⟩ := h
  have m1 := mul_le_abs h2 h2
  have m2 := mul_le_abs h1 h3
  have e : Fc.disc f = f.b * f.b - 4 * (f.a * f.c) := by
    unfold Fc.disc
    rw [Int.mul_assoc]
  omega
theorem disc_lt {f : Fc.Form} (h : SmF f) : Fc.disc f < 2 ^ 56 := by
  have := (disc_small h).2
  omega
def In64 (n : Int) : Prop := -9223372036854775808 ≤ n ∧ n ≤ 9223372036854775807
theorem In64.wide {n : Int} (h : In64 n) : W64 n := by
  obtain ⟨h1, h2⟩ := h
  unfold W64
  omega
theorem three : ∀ l : List Int, l.length = 3 → ∃ a b c, l = [a, b, c]
  | [a, b, c], _ => ⟨a, b, c, rfl⟩
  | [], h => by cases h
  | [_], h => by cases h
  | [_, _], h => by cases h
  | _ :: _ :: _ :: _ :: _, h => by simp at h
/-- an error of the class at S is what «except S» names -/
theorem exm_self {K : PySem.W.Frag} {S : Addr} (h1 : PySem.W.subIn K (.ref S) (.type "BaseException") = some true) (h2 : PySem.W.isClsIn K S = true) (h3 : PySem.W.typeIn K (.ref S) = some (.type "type")) (h4 : PySem.W.subIn K (.ref S) (.ref S) = some true) :
    PySem.W.exmOne K (.ref S) (.ref S) = some true := by
  have e1 : (PySem.W.subIn K (.ref S) (.type "BaseException") == some true) = true := by rw [h1] <;> rfl
  have e2 : ((PySem.W.clsIn K S).isSome && PySem.W.typeIn K (.ref S) == some (.type "type")) = true := by
    have h2' : (PySem.W.clsIn K S).isSome = true := h2
    rw [h2', h3] <;> rfl
  show (if (PySem.W.subIn K (.ref S) (.type "BaseException") == some true) = true then (if ((PySem.W.clsIn K S).isSome && PySem.W.typeIn K (.ref S) == some (.type "type")) = true then PySem.W.subIn K (.ref S) (.ref S) else none) else none) = some true
  rw [if_pos e1, if_pos e2]
  exact h4
end Fkw

namespace Fkw
open PySem PySem.Spec PyProof.Rows L2 Evl
open PySem.W (Codec)
local macro_rules
  | `(tactic| walk_at "cm") => `(tactic| first | exact Or.inl ⟨by omega, by omega⟩ | exact Or.inr ⟨by omega, by omega⟩ | skip)
local macro_rules
  | `(tactic| walk_at "ed") => `(tactic| first
    | exact ed_int
    | exact ed_bl
    | exact ed_non
    | exact ed_var rfl (.int _)
    | exact ed_var rfl (by assumption)
    | (refine ed_add ?_ ?_ <;> walk_at "ed")
    | (refine ed_sub ?_ ?_ <;> walk_at "ed")
    | (refine ed_mul ?_ ?_ ?_; rotate_left 2; (case refine_1 => walk_at "ed"); (case refine_2 => walk_at "ed"))
    | (refine ed_abs ?_ <;> walk_at "ed")
    | (refine ed_neg ?_ <;> walk_at "ed")
    | (refine ed_tup ?_ <;> walk_at "ed")
    | exact eda_nil
    | (refine eda_cons ?_ ?_ <;> walk_at "ed")
    | skip)
def topS (i : Nat) : Stmt := PySem.Challenge.pw_formkinds_s08_symmetries.main.body.getD i (.Pass ⟨0, 0, 0, 0⟩)
abbrev s_common : Stmt := topS 6
theorem sc_common : FnScope ["one", "other"] ["one", "other"] (defScope s_common) := ⟨rfl, rfl, rfl, by decide +kernel, rfl, by decide +kernel, by decide +kernel⟩
abbrev s_root_of : Stmt := topS 7
theorem sc_root_of : FnScope ["number", "here", "lower"] ["number"] (defScope s_root_of) := ⟨rfl, rfl, rfl, by decide +kernel, rfl, by decide +kernel, by decide +kernel⟩
abbrev s_is_square : Stmt := topS 8
theorem sc_is_square : FnScope ["number"] ["number"] (defScope s_is_square) := ⟨rfl, rfl, rfl, by decide +kernel, rfl, by decide +kernel, by decide +kernel⟩
abbrev s_is_form : Stmt := topS 9
theorem sc_is_form : FnScope ["form", "number"] ["form"] (defScope s_is_form) := ⟨rfl, rfl, rfl, by decide +kernel, rfl, by decide +kernel, by decide +kernel⟩
abbrev s_discriminant : Stmt := topS 10
theorem sc_discriminant : FnScope ["form", "a", "b", "c"] ["form"] (defScope s_discriminant) := ⟨rfl, rfl, rfl, by decide +kernel, rfl, by decide +kernel, by decide +kernel⟩
abbrev s_kind_of : Stmt := topS 11
theorem sc_kind_of : FnScope ["form", "a", "b", "c", "d"] ["form"] (defScope s_kind_of) := ⟨rfl, rfl, rfl, by decide +kernel, rfl, by decide +kernel, by decide +kernel⟩
abbrev s_symmetries : Stmt := topS 14
theorem sc_symmetries : FnScope ["a", "b", "c", "form"] ["a", "b", "c"] (defScope s_symmetries) := ⟨rfl, rfl, rfl, by decide +kernel, rfl, by decide +kernel, by decide +kernel⟩
/-! ### what the top has written -/
structure Txt (K : PySem.W.Frag) (mg : Str → Option Value) where
  f_common : Addr
  fd_common : FuncData
  g_common : mg "common" = some (.ref f_common)
  F_common : Fun K "common" "common" s_common f_common fd_common
  b_common : L2.Binds K fd_common ["one", "other"] []
  f_root_of : Addr
  fd_root_of : FuncData
  g_root_of : mg "root_of" = some (.ref f_root_of)
  F_root_of : Fun K "root_of" "root_of" s_root_of f_root_of fd_root_of
  b_root_of : L2.Binds K fd_root_of ["number"] []
  f_is_square : Addr
  fd_is_square : FuncData
  g_is_square : mg "is_square" = some (.ref f_is_square)
  F_is_square : Fun K "is_square" "is_square" s_is_square f_is_square fd_is_square
  b_is_square : L2.Binds K fd_is_square ["number"] []
  f_is_form : Addr
  fd_is_form : FuncData
  g_is_form : mg "is_form" = some (.ref f_is_form)
  F_is_form : Fun K "is_form" "is_form" s_is_form f_is_form fd_is_form
  b_is_form : L2.Binds K fd_is_form ["form"] []
  f_discriminant : Addr
  fd_discriminant : FuncData
  g_discriminant : mg "discriminant" = some (.ref f_discriminant)
  F_discriminant : Fun K "discriminant" "discriminant" s_discriminant f_discriminant fd_discriminant
  b_discriminant : L2.Binds K fd_discriminant ["form"] []
  f_kind_of : Addr
  fd_kind_of : FuncData
  g_kind_of : mg "kind_of" = some (.ref f_kind_of)
  F_kind_of : Fun K "kind_of" "kind_of" s_kind_of f_kind_of fd_kind_of
  b_kind_of : L2.Binds K fd_kind_of ["form"] []
  f_symmetries : Addr
  fd_symmetries : FuncData
  g_symmetries : mg "symmetries" = some (.ref f_symmetries)
  F_symmetries : Fun K "symmetries" "symmetries" s_symmetries f_symmetries fd_symmetries
  b_symmetries : L2.Binds K fd_symmetries ["a", "b", "c"] []
  k_MOST : ∃ t, mg "MOST" = some (.int 8192 t)
  k_NOT_PLAIN : ∃ t, mg "NOT_PLAIN" = some (.int 0 t)
  k_ABOVE : ∃ t, mg "ABOVE" = some (.int 1 t)
  k_BELOW : ∃ t, mg "BELOW" = some (.int 2 t)
  k_BOTH : ∃ t, mg "BOTH" = some (.int 3 t)
  a_REFUSED : Addr
  k_REFUSED : mg "REFUSED" = some (.ref a_REFUSED)
  l_REFUSED : ∀ H, SqL K H a_REFUSED [.int (-1)]
  z_abs : mg "abs" = none
  z_int : mg "int" = none
  z_list : mg "list" = none
  z_max : mg "max" = none
section
variable {P : Program} {w : World} {K : PySem.W.Frag} {mg : Str → Option Value} {base : Heap}
/-! ### common -/
def p_common : List PyData → PyData → Prop := fun ds d => ∃ x y : Nat, ds = [.int (x : Int), .int (y : Int)] ∧ d = .int (Nat.gcd x y : Int)
theorem len_common {ds : List PyData} {d : PyData} (h : p_common ds d) : ds.length = 2 := by
  obtain ⟨x, y, rfl, _⟩ := h
  rfl
theorem ok_common (T : Txt K mg) : FnOk P w K mg base CX0 1 T.f_common T.fd_common ["one", "other"] (spD K p_common) := by
  refine T.F_common.ok sc_common (fun vs H Q E h => ?_) (fun cdv A outer s H vs Q E hr h => ?_)
  · obtain ⟨ds, _, hv, hp, _⟩ := h
    rw [da_len hv]
    exact len_common hp
  · obtain ⟨ds, d, hv, hp, hQ⟩ := h
    obtain ⟨x, y, rfl, rfl⟩ := hp
    have hv := da_ints (ns := [(x : Int), (y : Int)]) hv
    subst hv
    refine ⟨_, (pss_cons (ps_while PassesOwn.never (pt_cmpR op_ne (pv 1) pe_int (nomark _))
          (pss_one (ps_par (i := 0) (j := 1) (by rfl) sc_common.nd rfl rfl (by decide) rfl rfl (pa_cons (pv 1) (pa_cons (pe_op op_modN (pv 0) (pv 1)) pa_nil)) (by rfl))))
          (pss_one (ps_ret (pv 0)))), ?_⟩
    refine q_while (fun m σ' H' => ∃ x' y' : Nat, σ' = [some (.int (x' : Int)), some (.int (y' : Int))] ∧ Nat.gcd x' y' = Nat.gcd x y ∧ y' = m ∧ Ex H H') y ⟨x, y, rfl, rfl, rfl, Ex.refl H⟩ ?_
    rintro m σ' H' ⟨x', y', rfl, hg, rfl, e'⟩
    refine ⟨_, et_testD (K := K) (ed_neI (ed_var rfl (.int _)) ed_int), fun hb H1 e1 => ⟨_, fun _ _ q => q, ?_⟩, fun hb H1 e1 => ?_⟩
    · have h0 : 0 < y' := by
        rcases Nat.eq_zero_or_pos y' with h | h
        · simp [h] at hb
        · exact h
      refine sd_parI (K := K) (x := (y' : Int)) (y := ((x' % y' : Nat) : Int)) ?_ fun H2 e2 => ⟨x' % y', Nat.mod_lt _ h0, y', x' % y', rfl, ?_, rfl, (e'.trans e1).trans e2⟩
      · refine eda_cons (ed_var rfl (.int _)) (eda_cons ?_ eda_nil)
        rw [← Fk.fmod_nat]
        exact ed_mod (ed_var rfl (.int _)) (ed_var rfl (.int _)) (by omega)
      · rw [← hg, Nat.gcd_comm y', ← Nat.gcd_rec y' x', Nat.gcd_comm]
    · have h0 : y' = 0 := by
        simpa using hb
      refine sd_ret (K := K) (ed_var rfl (.int _)) fun v H2 e2 hd => hQ v H2 ((e'.trans e1).trans e2) ?_
      rw [← hg, h0, Nat.gcd_zero_right]
      exact hd
/-! ### root_of -/
def p_root_of : List PyData → PyData → Prop := fun ds d => ∃ n : Int, ds = [.int n] ∧ n < 2 ^ 56 ∧ d = .int (Fk.rootI n)
theorem len_root_of {ds : List PyData} {d : PyData} (h : p_root_of ds d) : ds.length = 1 := by
  obtain ⟨n, rfl, _⟩ := h
  rfl
theorem bits_of {n : Nat} (h : 2 ≤ n) : Builtin.Int.intBits (n : Int) = n.log2 + 1 := by
  unfold Builtin.Int.intBits
  rw [if_neg (by simp; omega)]
  rfl
theorem ok_root_of (T : Txt K mg) : FnOk P w K mg base CX0 1 T.f_root_of T.fd_root_of ["number"] (spD K p_root_of) := by
  refine T.F_root_of.ok sc_root_of (fun vs H Q E h => ?_) (fun cdv A outer s H vs Q E hr h => ?_)
  · obtain ⟨ds, _, hv, hp, _⟩ := h
    rw [da_len hv]
    exact len_root_of hp
  · obtain ⟨ds, d, hv, hp, hQ⟩ := h
    obtain ⟨n, rfl, hn, rfl⟩ := hp
    have hv := da_ints (ns := [n]) hv
    subst hv
    refine ⟨_, (pss_cons (ps_if (pt_cmpR op_lt (pv 0) pe_int (nomark _))
          (pss_one (ps_ret (pv 0)))
          pss_nil)
          (pss_cons (ps_set (i := 1) sc_root_of.nd rfl (Or.inl rfl) (pe_op op_shl pe_int (pe_op op_fdivN (pe_op op_add (pe_bits (pv 0)) pe_int) pe_int)))
          (pss_cons (ps_set (i := 2) sc_root_of.nd rfl (Or.inl rfl) (pe_op op_fdivN (pe_op op_add (pv 1) (pe_op op_fdivN (pv 0) (pv 1))) pe_int))
          (pss_cons (ps_while PassesOwn.never (pt_cmpR op_lt (pv 2) (pv 1) (nomark _))
          (pss_cons (ps_set (i := 1) sc_root_of.nd rfl (Or.inl rfl) (pv 2))
          (pss_one (ps_set (i := 2) sc_root_of.nd rfl (Or.inl rfl) (pe_op op_fdivN (pe_op op_add (pv 1) (pe_op op_fdivN (pv 0) (pv 1))) pe_int)))))
          (pss_one (ps_ret (pv 1))))))), ?_⟩
    refine q_when (et_testD (K := K) (ed_lt (ed_var rfl (.int _)) ed_int)) (fun hb H1 e1 => ?_) (fun hb H1 e1 => ?_)
    · refine sd_ret (K := K) (ed_var rfl (.int _)) fun v H2 e2 hd => hQ v H2 (e1.trans e2) ?_
      rw [Fk.rootI, if_pos (of_decide_eq_true hb)]
      exact hd
    · have h2 : 2 ≤ n := by
        have := of_decide_eq_false hb
        omega
      obtain ⟨N, rfl⟩ : ∃ N : Nat, n = (N : Int) := ⟨n.toNat, by omega⟩
      have hN : 2 ≤ N := by omega
      have hN2 : N < 2 ^ 56 := by omega
      have hr2 : Fk.IsRoot N (Fc.rootOf N) := Fk.rootOf_root (Nat.lt_of_lt_of_le hN2 (Nat.pow_le_pow_right (by decide) (by decide)))
      have hrI : Fk.rootI (N : Int) = (Fc.rootOf N : Int) := by
        rw [Fk.rootI_nn (by omega)]
        rfl
      rw [hrI] at hQ
      have s0 : 0 < Fc.rootOf N := by
        rcases Nat.eq_zero_or_pos (Fc.rootOf N) with h | h
        · have := hr2.2
          rw [h] at this
          omega
        · exact h
      generalize Fc.rootOf N = s at hr2 hQ s0
      have hl : N.log2 < 56 := Fk.log2_lt hN2 (by omega)
      have hst := Fk.newton_start (Fk.newton_bits hN) hr2
      have hk : 2 ^ ((N.log2 + 2) / 2) ≤ 2 ^ 28 := Nat.pow_le_pow_right (by decide) (by omega)
      have e28 : (2 : Nat) ^ 28 = 268435456 := by decide
      have hp0 : 0 < 2 ^ ((N.log2 + 2) / 2) := Nat.pow_pos (by decide)
      have hsh : (1 : Int) * 2 ^ ((((Builtin.Int.intBits (N : Int) : Nat) : Int) + 1).fdiv 2).toNat = ((2 ^ ((N.log2 + 2) / 2) : Nat) : Int) := by
        rw [bits_of hN]
        have : ((((N.log2 + 1 : Nat) : Int) + 1).fdiv 2) = (((N.log2 + 2) / 2 : Nat) : Int) := by
          have e : (((N.log2 + 1 : Nat) : Int) + 1) = ((N.log2 + 2 : Nat) : Int) := by omega
          rw [e]
          exact Fk.fdiv_nat _ 2
        rw [this, Int.toNat_natCast, Int.one_mul]
        exact (Int.natCast_pow 2 _).symm
      have hlow : ∀ h : Nat, ((h : Int) + (N : Int).fdiv (h : Int)).fdiv 2 = (((h + N / h) / 2 : Nat) : Int) := fun h => by
        rw [Fk.fdiv_nat, ← Int.natCast_add]
        exact Fk.fdiv_nat _ 2
      have hbig : ∀ h : Nat, 0 < h → h ≤ 268435456 → CDivN (N : Int) (h : Int) := fun h h0 h1 => ⟨by omega, by omega⟩
      refine qd_asgI (K := K) (n := ((2 ^ ((N.log2 + 2) / 2) : Nat) : Int)) ?_ fun H2 e2 => ?_
      · rw [← hsh]
        refine ed_I ed_int (ed_fdiv (ed_add (ed_bits (ed_var rfl (.int _))) ed_int) ed_int ⟨by decide, by decide⟩) ⟨?_, ?_, by decide⟩ (.int _)
        · rw [bits_of hN]
          have := Fk.fdiv_nat (N.log2 + 2) 2
          have e : (((N.log2 + 1 : Nat) : Int) + 1) = ((N.log2 + 2 : Nat) : Int) := by omega
          rw [e, show (2 : Int) = ((2 : Nat) : Int) from rfl, this]
          omega
        · rw [bits_of hN]
          have := Fk.fdiv_nat (N.log2 + 2) 2
          have e : (((N.log2 + 1 : Nat) : Int) + 1) = ((N.log2 + 2 : Nat) : Int) := by omega
          rw [e, show (2 : Int) = ((2 : Nat) : Int) from rfl, this]
          omega
      generalize hh : 2 ^ ((N.log2 + 2) / 2) = h at hst hk hp0 hsh
      refine qd_asgI (K := K) (n := (((h + N / h) / 2 : Nat) : Int)) ?_ fun H3 e3 => ?_
      · rw [← hlow]
        exact ed_fdiv (ed_add (ed_var rfl (.int _)) (ed_fdiv (ed_var rfl (.int _)) (ed_var rfl (.int _)) (hbig h hp0 (by omega)))) ed_int ⟨by decide, by decide⟩
      refine q_while (fun m σ' H' => ∃ h : Nat, σ' = [some (.int (N : Int)), some (.int (h : Int)), some (.int (((h + N / h) / 2 : Nat) : Int))] ∧ 0 < h ∧ h ≤ 268435456 ∧ s ≤ h ∧ h = m ∧ Ex H H') h ⟨h, rfl, hp0, by omega, hst, rfl, (e1.trans e2).trans e3⟩ ?_
      rintro m σ' H' ⟨h, rfl, h0, h1, hs, rfl, e'⟩
      refine ⟨_, et_testD (K := K) (ed_lt (ed_var rfl (.int _)) (ed_var rfl (.int _))), fun hb H1 e1 => ⟨_, fun _ _ q => q, ?_⟩, fun hb H1 e1 => ?_⟩
      · have hlt := of_decide_eq_true hb
        have hge := Fk.newton_ge h0 hr2.1
        refine qd_asgI (K := K) (ed_var rfl (.int _)) fun H2 e2 => ?_
        refine sd_asgI (K := K) (n := ((((h + N / h) / 2 + N / ((h + N / h) / 2)) / 2 : Nat) : Int)) ?_ fun H3 e3 => ⟨(h + N / h) / 2, by omega, (h + N / h) / 2, rfl, by omega, by omega, hge, rfl, ((e'.trans e1).trans e2).trans e3⟩
        rw [← hlow ((h + N / h) / 2)]
        exact ed_fdiv (ed_add (ed_var rfl (.int _)) (ed_fdiv (ed_var rfl (.int _)) (ed_var rfl (.int _)) (hbig ((h + N / h) / 2) (by omega) (by omega)))) ed_int ⟨by decide, by decide⟩
      · have hlt := of_decide_eq_false hb
        have hend := Fk.newton_end h0 hs hr2 (by omega)
        refine sd_ret (K := K) (ed_var rfl (.int _)) fun v H2 e2 hd => hQ v H2 ((e'.trans e1).trans e2) ?_
        rw [← hend]
        exact hd
/-! ### is_square -/
def p_is_square : List PyData → PyData → Prop := fun ds d => ∃ n : Int, ds = [.int n] ∧ n < 2 ^ 56 ∧ d = .bool (Fc.isSquare n)
theorem len_is_square {ds : List PyData} {d : PyData} (h : p_is_square ds d) : ds.length = 1 := by
  obtain ⟨n, rfl, _⟩ := h
  rfl
theorem square_eq (n : Int) : (decide (0 ≤ n) && decide (Fk.rootI n * Fk.rootI n = n)) = Fc.isSquare n := by
  unfold Fc.isSquare
  by_cases h : 0 ≤ n
  · rw [Fk.rootI_nn h, decide_eq_true h, Bool.true_and, Bool.true_and, Bool.beq_eq_decide_eq]
    refine decide_eq_decide.mpr ⟨fun e => ?_, fun e => ?_⟩
    · have : ((Fc.rootOf n.toNat * Fc.rootOf n.toNat : Nat) : Int) = n := by rw [Int.natCast_mul]; exact e
      omega
    · rw [← Int.natCast_mul, e]
      omega
  · rw [decide_eq_false h, Bool.false_and, Bool.false_and]
theorem rootI_lt {n : Int} (h : n < 2 ^ 56) (h0 : 0 ≤ n) : W64 (Fk.rootI n) := by
  have h1 : (Fk.rootI n) = (Fc.rootOf n.toNat : Int) := Fk.rootI_nn h0
  have hr := (Fk.rootOf_root (n := n.toNat) (Nat.lt_of_lt_of_le (show n.toNat < 2 ^ 56 by omega) (Nat.pow_le_pow_right (by decide) (by decide)))).1
  have : Fc.rootOf n.toNat < 2 ^ 28 := Fk.lt_of_sq (by
    have e : 2 ^ 28 * 2 ^ 28 = 2 ^ 56 := by decide
    omega)
  unfold W64
  omega
theorem ok_is_square (T : Txt K mg) : FnOk P w K mg base CX0 2 T.f_is_square T.fd_is_square ["number"] (spD K p_is_square) := by
  have G_root_of := ok_root_of (P := P) (w := w) (base := base) T
  refine T.F_is_square.ok sc_is_square (fun vs H Q E h => ?_) (fun cdv A outer s H vs Q E hr h => ?_)
  · obtain ⟨ds, _, hv, hp, _⟩ := h
    rw [da_len hv]
    exact len_is_square hp
  · obtain ⟨ds, d, hv, hp, hQ⟩ := h
    obtain ⟨n, rfl, hn, rfl⟩ := hp
    have hv := da_ints (ns := [n]) hv
    subst hv
    refine ⟨_, (pss_one (ps_ret (pe_and (pe_cmpR op_ge (pv 0) pe_int (nomark _)) (pe_one (pe_cmpR op_eq (pe_op op_mul (pe_call G_root_of (hr.mono (by decide)) rfl T.g_root_of T.F_root_of.kp T.b_root_of .nil pass0 (pa_cons (pv 0) pa_nil)) (pe_call G_root_of (hr.mono (by decide)) rfl T.g_root_of T.F_root_of.kp T.b_root_of .nil pass0 (pa_cons (pv 0) pa_nil))) (pv 0) (nomark _)))))), ?_⟩
    refine sd_ret (K := K) (ed_is (ed_and (b := decide (Fk.rootI n * Fk.rootI n = n)) (ed_ge (ed_var rfl (.int _)) ed_int) fun h0 => ?_) (congrArg PyData.bool (square_eq n))) fun v H2 e2 hd => hQ v H2 e2 hd
    have h0 := of_decide_eq_true h0
    have w := rootI_lt hn h0
    exact ed_eqI (ed_mul (ed_call (eda_cons (ed_var rfl (.int _)) eda_nil) ⟨n, rfl, hn, rfl⟩) (ed_call (eda_cons (ed_var rfl (.int _)) eda_nil) ⟨n, rfl, hn, rfl⟩) (.inl w)) (ed_var rfl (.int _))
/-! ### is_form -/
def p_is_form : List PyData → PyData → Prop := fun ds d => ∃ a b c, ds = [dF a b c] ∧ d = .bool (fits a b c)
theorem len_is_form {ds : List PyData} {d : PyData} (h : p_is_form ds d) : ds.length = 1 := by
  obtain ⟨a, b, c, rfl, _⟩ := h
  rfl
theorem max3 (a b c m : Int) (hm : m ∈ [a, b, c]) (hle : ∀ y, y ∈ [a, b, c] → y ≤ m) : m = max a (max b c) := by
  have h1 := hle a (by simp)
  have h2 := hle b (by simp)
  have h3 := hle c (by simp)
  simp only [List.mem_cons, List.not_mem_nil, or_false] at hm
  omega
theorem ok_is_form (T : Txt K mg) : FnOk P w K mg base CX0 1 T.f_is_form T.fd_is_form ["form"] (spD K p_is_form) := by
  refine T.F_is_form.ok sc_is_form (fun vs H Q E h => ?_) (fun cdv A outer s H vs Q E hr h => ?_)
  · obtain ⟨ds, _, hv, hp, _⟩ := h
    rw [da_len hv]
    exact len_is_form hp
  · obtain ⟨ds, d, hv, hp, hQ⟩ := h
    obtain ⟨a, b, c, rfl, rfl⟩ := hp
    obtain ⟨v, _, rfl, h1, hv⟩ := da_cons hv
    cases da_nil hv
    refine ⟨_, (pss_one (ps_ret (pe_cmpR op_le (pe_callB (cr_max rfl) (by rfl) T.z_max (by decide +kernel) (pa_cons (pe_lc (own := [("number", 1)]) (g := gName 1) (tt := tYes) rfl sc_is_form.nd (pi_tup (pv 0)) (blkOk_by (own := [("number", 1)]) (N := ["form", "number"]) (sc := defScope s_is_form) (by decide +kernel)) (fun _ _ _ _ _ => pg_name (i := 1) sc_is_form.nd rfl (Or.inl rfl)) (fun _ _ _ _ _ => pts_nil) (fun _ _ _ _ _ => (pe_callB call_abs (by rfl) T.z_abs (by decide +kernel) (pa_cons (pv 1) pa_nil)))) pa_nil)) (pe_glob (v := .int 8192) rfl T.k_MOST.choose_spec ⟨_, rfl⟩) (nomark _)))), ?_⟩
    refine sd_ret (K := K) (d := .bool (decide (max (a.natAbs : Int) (max (b.natAbs : Int) (c.natAbs : Int)) ≤ 8192))) ?_ fun v H2 e2 hd => hQ v H2 e2 ?_
    · refine ed_le (ed_max (n := (a.natAbs : Int)) (ns := [(b.natAbs : Int), (c.natAbs : Int)]) (EvN.toD (en_mapT (ds := [.int a, .int b, .int c]) (fun d => match d with | .int n => .int (n.natAbs : Int) | _ => .none) (ed_var rfl h1) (by simp) (fun _ => rfl) ?_ ?_)) (fun m h1 h2 => max3 _ _ _ m h1 h2)) ed_int
      · intro d hd
        simp only [List.mem_cons, List.not_mem_nil, or_false] at hd
        rcases hd with rfl | rfl | rfl <;> rfl
      · intro d x H1 hd e hx
        simp only [List.mem_cons, List.not_mem_nil, or_false] at hd
        rcases hd with rfl | rfl | rfl <;> exact ed_abs (ed_var rfl hx)
    · have e : decide (max (a.natAbs : Int) (max (b.natAbs : Int) (c.natAbs : Int)) ≤ 8192) = fits a b c := by
        unfold fits
        rw [Bool.eq_iff_iff]
        simp only [decide_eq_true_eq, Bool.and_eq_true]
        omega
      rw [← e]
      exact hd
/-! ### discriminant -/
def p_discriminant : List PyData → PyData → Prop := fun ds d => ∃ f : Fc.Form, ds = [dFm f] ∧ (W64 f.b ∧ W64 f.c) ∧ d = .int (Fc.disc f)
theorem len_discriminant {ds : List PyData} {d : PyData} (h : p_discriminant ds d) : ds.length = 1 := by
  obtain ⟨f, rfl, _⟩ := h
  rfl
theorem w64_four {a : Int} : CMul 4 a := .inl ⟨by decide, by decide⟩
theorem w64_two {a : Int} : CMul 2 a := .inl ⟨by decide, by decide⟩
theorem ok_discriminant (T : Txt K mg) : FnOk P w K mg base CX0 1 T.f_discriminant T.fd_discriminant ["form"] (spD K p_discriminant) := by
  refine T.F_discriminant.ok sc_discriminant (fun vs H Q E h => ?_) (fun cdv A outer s H vs Q E hr h => ?_)
  · obtain ⟨ds, _, hv, hp, _⟩ := h
    rw [da_len hv]
    exact len_discriminant hp
  · obtain ⟨ds, d, hv, hp, hQ⟩ := h
    obtain ⟨⟨a, b, c⟩, rfl, ⟨hb, hc⟩, rfl⟩ := hp
    obtain ⟨v, _, rfl, h1, hv⟩ := da_cons hv
    cases da_nil hv
    refine ⟨_, (pss_cons (ps_asg (pv 0) (pg_tup (by rfl) (pgs_cons (pg_name (i := 1) sc_discriminant.nd rfl (Or.inl rfl)) (pgs_cons (pg_name (i := 2) sc_discriminant.nd rfl (Or.inl rfl)) (pgs_cons (pg_name (i := 3) sc_discriminant.nd rfl (Or.inl rfl)) pgs_nil)))))
          (pss_one (ps_ret (pe_op op_sub (pe_op op_mul (pv 2) (pv 2)) (pe_op op_mul (pe_op op_mul pe_int (pv 1)) (pv 3)))))), ?_⟩
    refine qd_un3 (ed_var rfl h1) fun H1 e1 => ?_
    exact sd_ret (K := K) (ed_sub (ed_mul (ed_var rfl (.int _)) (ed_var rfl (.int _)) (.inl hb)) (ed_mul (ed_mul ed_int (ed_var rfl (.int _)) w64_four) (ed_var rfl (.int _)) (.inr hc))) fun v H2 e2 hd => hQ v H2 (e1.trans e2) hd
/-! ### kind_of -/
def kindN (f : Fc.Form) : Int := if Fc.plain f = false then 0 else if 0 < Fc.disc f then 3 else if 0 < f.a then 1 else 2
def p_kind_of : List PyData → PyData → Prop := fun ds d => ∃ f : Fc.Form, ds = [dFm f] ∧ SmF f ∧ d = .int (kindN f)
theorem len_kind_of {ds : List PyData} {d : PyData} (h : p_kind_of ds d) : ds.length = 1 := by
  obtain ⟨f, rfl, _⟩ := h
  rfl
theorem plain_false {f : Fc.Form} : ((!decide ((Nat.gcd (Nat.gcd f.a.natAbs f.b.natAbs) f.c.natAbs : Int) = 1)) || Fc.isSquare (Fc.disc f)) = !Fc.plain f := by
  unfold Fc.plain
  rw [Bool.not_and, Bool.not_not, Bool.beq_eq_decide_eq]
  congr 2
  exact decide_eq_decide.mpr (by omega)
theorem ok_kind_of (T : Txt K mg) : FnOk P w K mg base CX0 3 T.f_kind_of T.fd_kind_of ["form"] (spD K p_kind_of) := by
  have G_common := ok_common (P := P) (w := w) (base := base) T
  have G_is_square := ok_is_square (P := P) (w := w) (base := base) T
  have G_discriminant := ok_discriminant (P := P) (w := w) (base := base) T
  refine T.F_kind_of.ok sc_kind_of (fun vs H Q E h => ?_) (fun cdv A outer s H vs Q E hr h => ?_)
  · obtain ⟨ds, _, hv, hp, _⟩ := h
    rw [da_len hv]
    exact len_kind_of hp
  · obtain ⟨ds, d, hv, hp, hQ⟩ := h
    obtain ⟨f, rfl, hs, rfl⟩ := hp
    obtain ⟨v, _, rfl, h1, hv⟩ := da_cons hv
    cases da_nil hv
    have hd56 := disc_lt hs
    refine ⟨_, (pss_cons (ps_asg (pv 0) (pg_tup (by rfl) (pgs_cons (pg_name (i := 1) sc_kind_of.nd rfl (Or.inl rfl)) (pgs_cons (pg_name (i := 2) sc_kind_of.nd rfl (Or.inl rfl)) (pgs_cons (pg_name (i := 3) sc_kind_of.nd rfl (Or.inl rfl)) pgs_nil)))))
          (pss_cons (ps_set (i := 4) sc_kind_of.nd rfl (Or.inl rfl) (pe_call G_discriminant (hr.mono (by decide)) rfl T.g_discriminant T.F_discriminant.kp T.b_discriminant .nil pass0 (pa_cons (pv 0) pa_nil)))
          (pss_cons (ps_if (PW.pt (pw_or (pt_cmpR op_ne (pe_call G_common (hr.mono (by decide)) rfl T.g_common T.F_common.kp T.b_common .nil pass0 (pa_cons (pe_call G_common (hr.mono (by decide)) rfl T.g_common T.F_common.kp T.b_common .nil pass0 (pa_cons (pe_callB call_abs (by rfl) T.z_abs (by decide +kernel) (pa_cons (pv 1) pa_nil)) (pa_cons (pe_callB call_abs (by rfl) T.z_abs (by decide +kernel) (pa_cons (pv 2) pa_nil)) pa_nil))) (pa_cons (pe_callB call_abs (by rfl) T.z_abs (by decide +kernel) (pa_cons (pv 3) pa_nil)) pa_nil))) pe_int (nomark _)) (pw_or1 (pt_val (pe_call G_is_square (hr.mono (by decide)) rfl T.g_is_square T.F_is_square.kp T.b_is_square .nil pass0 (pa_cons (pv 4) pa_nil))))))
          (pss_one (ps_ret (pe_glob (v := .int 0) rfl T.k_NOT_PLAIN.choose_spec ⟨_, rfl⟩)))
          pss_nil)
          (pss_cons (ps_if (pt_cmpR op_gt (pv 4) pe_int (nomark _))
          (pss_one (ps_ret (pe_glob (v := .int 3) rfl T.k_BOTH.choose_spec ⟨_, rfl⟩)))
          pss_nil)
          (pss_one (ps_ret (pe_ix ix_list (pe_lst (pa_cons (pe_glob (v := .int 2) rfl T.k_BELOW.choose_spec ⟨_, rfl⟩) (pa_cons (pe_glob (v := .int 1) rfl T.k_ABOVE.choose_spec ⟨_, rfl⟩) pa_nil))) (pe_callTy call_int1 (by rfl) T.z_int (by decide +kernel) (pa_cons (pe_cmpR op_gt (pv 1) pe_int (nomark _)) pa_nil)) (fun _ _ => rfl)))))))), ?_⟩
    refine qd_un3 (ed_var rfl h1) fun H1 e1 => ?_
    refine qd_asgI (K := K) (ed_call (eda_cons (ed_var rfl (Dp_mono e1 h1)) eda_nil) ⟨f, rfl, ⟨hs.2.1.wide, hs.2.2.wide⟩, rfl⟩) fun H2 e2 => ?_
    refine q_when (et_is (et_or (et_testD (K := K) (ed_neI (ed_call (eda_cons (ed_call (eda_cons (ed_abs (ed_var rfl (.int _))) (eda_cons (ed_abs (ed_var rfl (.int _))) eda_nil)) ⟨_, _, rfl, rfl⟩) (eda_cons (ed_abs (ed_var rfl (.int _))) eda_nil)) ⟨_, _, rfl, rfl⟩) ed_int)) fun _ => et_BD (K := K) (ed_call (eda_cons (ed_var rfl (.int _)) eda_nil) ⟨_, rfl, hd56, rfl⟩)) plain_false) (fun hb H3 e3 => ?_) (fun hb H3 e3 => ?_)
    · refine sd_ret (K := K) (ed_c (.int _)) fun v H4 e4 hd => hQ v H4 (((e1.trans e2).trans e3).trans e4) ?_
      rw [kindN, if_pos (by simpa using hb)]
      exact hd
    · have hp : Fc.plain f = true := by simpa using hb
      refine q_when (et_testD (K := K) (ed_gt (ed_var rfl (.int _)) ed_int)) (fun hb2 H4 e4 => ?_) (fun hb2 H4 e4 => ?_)
      · refine sd_ret (K := K) (ed_c (.int _)) fun v H5 e5 hd => hQ v H5 ((((e1.trans e2).trans e3).trans e4).trans e5) ?_
        rw [kindN, if_neg (by rw [hp]; decide), if_pos (of_decide_eq_true hb2)]
        exact hd
      · have hn := of_decide_eq_false hb2
        refine sd_ret (K := K) (d := .int (if 0 < f.a then 1 else 2)) (ed_ixL (i := if 0 < f.a then 1 else 0) (EvN.toD (en_lst (eda_cons (ed_c (.int _)) (eda_cons (ed_c (.int _)) eda_nil)))) (ed_intB (ed_gt (ed_var rfl (.int _)) ed_int)) ?_ ?_) fun v H5 e5 hd => hQ v H5 ((((e1.trans e2).trans e3).trans e4).trans e5) ?_
        · by_cases h : 0 < f.a <;> simp [h]
        · by_cases h : 0 < f.a <;> simp [h]
        · rw [kindN, if_neg (by rw [hp]; decide), if_neg hn]
          exact hd
/-! ### symmetries -/
def p_symmetries : List PyData → PyData → Prop := fun ds d => ∃ a b c, ds = [.int a, .int b, .int c] ∧ (In64 a ∧ In64 b ∧ In64 c) ∧ d = .list ((PyWrform.symmetries a b c).map PyData.int)
theorem len_symmetries {ds : List PyData} {d : PyData} (h : p_symmetries ds d) : ds.length = 3 := by
  obtain ⟨a, b, c, rfl, _⟩ := h
  rfl
theorem kindN_0 {f : Fc.Form} : kindN f = 0 ↔ Fc.plain f = false := by
  unfold kindN
  cases Fc.plain f with
  | false => simp
  | true =>
    rw [if_neg (by decide : ¬ (true = false))]
    constructor
    · intro h
      split at h
      · omega
      · split at h <;> omega
    · intro h
      cases h
theorem kindN_3 {f : Fc.Form} (hp : Fc.plain f = true) : kindN f = 3 ↔ 0 < Fc.disc f := by
  unfold kindN
  rw [hp, if_neg (by decide : ¬ (true = false))]
  constructor
  · intro h
    split at h
    · assumption
    · split at h <;> omega
  · intro h
    rw [if_pos h]
theorem symmetries_law (a b c : Int) : PyWrform.symmetries a b c = if fits a b c = true ∧ Fc.plain ⟨a, b, c⟩ = true then (if 0 < Fc.disc ⟨a, b, c⟩ then [0, 0] else [0, if Fc.disc ⟨a, b, c⟩ = -3 then 6 else if Fc.disc ⟨a, b, c⟩ = -4 then 4 else 2]) else [-1] := by
  show WrformNeutral.told (Wrform.when (Wrform.fits ⟨a, b, c⟩ && Fc.plain ⟨a, b, c⟩) fun _ => if Fc.both ⟨a, b, c⟩ = true then Wrform.num 0 else Wrform.num (Fc.stills (Fc.down (if Fc.above ⟨a, b, c⟩ then ⟨a, b, c⟩ else Fc.negated ⟨a, b, c⟩)).1).length) = _
  have e1 : Wrform.fits ⟨a, b, c⟩ = fits a b c := rfl
  rw [e1]
  generalize hf : (⟨a, b, c⟩ : Fc.Form) = f
  by_cases h1 : fits a b c = true
  · by_cases h2 : Fc.plain f = true
    · rw [when_t (by rw [h1, h2]; rfl), if_pos (⟨h1, h2⟩ : fits a b c = true ∧ Fc.plain f = true)]
      by_cases h3 : 0 < Fc.disc f
      · have : Fc.both f = true := decide_eq_true h3
        rw [if_pos this, if_pos h3]
        rfl
      · have h3' : ¬ Fc.both f = true := by
          unfold Fc.both
          simpa using h3
        have hn := Fk.disc_ne h2
        rw [if_neg h3', if_neg h3, Fk.sym_count h2 (by omega)]
        split
        · rfl
        · split <;> rfl
    · rw [when_f (by simp [h2]), if_neg (fun h => h2 h.2)]
      rfl
  · rw [when_f (by simp [h1]), if_neg (fun h => h1 h.1)]
    rfl
theorem ok_symmetries (T : Txt K mg) : FnOk P w K mg base CX0 4 T.f_symmetries T.fd_symmetries ["a", "b", "c"] (spD K p_symmetries) := by
  have G_is_form := ok_is_form (P := P) (w := w) (base := base) T
  have G_discriminant := ok_discriminant (P := P) (w := w) (base := base) T
  have G_kind_of := ok_kind_of (P := P) (w := w) (base := base) T
  refine T.F_symmetries.ok sc_symmetries (fun vs H Q E h => ?_) (fun cdv A outer s H vs Q E hr h => ?_)
  · obtain ⟨ds, _, hv, hp, _⟩ := h
    rw [da_len hv]
    exact len_symmetries hp
  · obtain ⟨ds, d, hv, hp, hQ⟩ := h
    obtain ⟨a, b, c, rfl, _, rfl⟩ := hp
    have hv := da_ints (ns := [a, b, c]) hv
    subst hv
    rw [symmetries_law] at hQ
    refine ⟨_, (pss_cons (ps_set (i := 3) sc_symmetries.nd rfl (Or.inl rfl) (pe_tup (pa_cons (pv 0) (pa_cons (pv 1) (pa_cons (pv 2) pa_nil)))))
          (pss_cons (ps_if (PW.pt (pw_or (pt_not (pt_val (pe_call G_is_form (hr.mono (by decide)) rfl T.g_is_form T.F_is_form.kp T.b_is_form .nil pass0 (pa_cons (pv 3) pa_nil)))) (pw_or1 (pt_cmpR op_eq (pe_call G_kind_of (hr.mono (by decide)) rfl T.g_kind_of T.F_kind_of.kp T.b_kind_of .nil pass0 (pa_cons (pv 3) pa_nil)) (pe_glob (v := .int 0) rfl T.k_NOT_PLAIN.choose_spec ⟨_, rfl⟩) (nomark _)))))
          (pss_one (ps_ret (pe_callTy call_list_of (by rfl) T.z_list (by decide +kernel) (pa_cons (pe_glob (v := .ref T.a_REFUSED) rfl T.k_REFUSED rfl) pa_nil))))
          pss_nil)
          (pss_cons (ps_if (pt_cmpR op_eq (pe_call G_kind_of (hr.mono (by decide)) rfl T.g_kind_of T.F_kind_of.kp T.b_kind_of .nil pass0 (pa_cons (pv 3) pa_nil)) (pe_glob (v := .int 3) rfl T.k_BOTH.choose_spec ⟨_, rfl⟩) (nomark _))
          (pss_one (ps_ret (pe_lst (pa_cons pe_int (pa_cons pe_int pa_nil)))))
          pss_nil)
          (pss_one (ps_ret (pe_lst (pa_cons pe_int (pa_cons (pe_dget2 (hu_of hr) (pe_disp (pps_cons (pe_un un_neg pe_int) pe_int (pps_cons (pe_un un_neg pe_int) pe_int pps_nil)) (by rfl) (by rfl) (fun z => by cases z) (by decide)) (pe_call G_discriminant (hr.mono (by decide)) rfl T.g_discriminant T.F_discriminant.kp T.b_discriminant .nil pass0 (pa_cons (pv 3) pa_nil)) pe_int ⟨rfl, rfl, rfl, rfl⟩) pa_nil)))))))), ?_⟩
    refine qd_asg (K := K) (d := dFm ⟨a, b, c⟩) (by walk_at "ed") fun v H1 e1 hv => ?_
    have hsm : fits a b c = true → SmF ⟨a, b, c⟩ := fun hb => by
      have := fits_iff.mp hb
      unfold SmF Sm
      dsimp only
      omega
    refine q_when (et_or (et_not (et_BD (K := K) (ed_call (eda_cons (ed_var rfl hv) eda_nil) ⟨a, b, c, rfl, rfl⟩))) fun hb => et_testD (K := K) (ed_eqI (ed_call (eda_cons (ed_var rfl hv) eda_nil) ⟨⟨a, b, c⟩, rfl, hsm (by simpa using hb), rfl⟩) (ed_c (.int _)))) (fun hb1 H2 e2 => ?_) (fun hb1 H2 e2 => ?_)
    · refine sd_ret (K := K) (EvN.toD (en_list (ed_c (.lst (T.l_REFUSED _) (.cons (.int _) .nil))) (.inl rfl))) fun v H3 e3 hd => hQ v H3 ((e1.trans e2).trans e3) ?_
      rw [if_neg]
      · exact hd
      · rintro ⟨k1, k2⟩
        rw [k1] at hb1
        have := kindN_0.mp (of_decide_eq_true hb1)
        rw [this] at k2
        cases k2
    · rw [Bool.or_eq_false_iff] at hb1
      have h1 : fits a b c = true := by simpa using hb1.1
      have h2 : Fc.plain ⟨a, b, c⟩ = true := by
        have := hb1.2
        cases hp : Fc.plain ⟨a, b, c⟩ with
        | true => rfl
        | false => simp [kindN_0.mpr hp] at this
      rw [if_pos ⟨h1, h2⟩] at hQ
      have hs := hsm h1
      replace hv := Dp_mono e2 hv
      refine q_when (et_testD (K := K) (ed_eqI (ed_call (eda_cons (ed_var rfl hv) eda_nil) ⟨⟨a, b, c⟩, rfl, hs, rfl⟩) (ed_c (.int _)))) (fun hb2 H3 e3 => ?_) (fun hb2 H3 e3 => ?_)
      · rw [if_pos ((kindN_3 h2).mp (of_decide_eq_true hb2))] at hQ
        exact sd_ret (K := K) (EvN.toD (en_lst (eda_cons ed_int (eda_cons ed_int eda_nil)))) fun v H4 e4 hd => hQ v H4 (((e1.trans e2).trans e3).trans e4) hd
      · rw [if_neg (fun z => of_decide_eq_false hb2 ((kindN_3 h2).mpr z))] at hQ
        exact sd_ret (K := K) (EvN.toD (en_lst (eda_cons ed_int (eda_cons (ed_get2 (ed_neg ed_int) ed_int (ed_neg ed_int) ed_int (ed_call (eda_cons (ed_var rfl (Dp_mono e3 hv)) eda_nil) ⟨⟨a, b, c⟩, rfl, ⟨hs.2.1.wide, hs.2.2.wide⟩, rfl⟩) ed_int (by decide)) eda_nil)))) fun v H4 e4 hd => hQ v H4 (((e1.trans e2).trans e3).trans e4) hd
end
theorem all_mk {P : Program} {w : World} {K : PySem.W.Frag} {h : Heap} {mg : Str → Option Value} {fa : Addr} (X : K.In h) (G : h.Ns mainGlobals mg) (hfa : mg "symmetries" = some (.ref fa))
    {f0 f1 f2 f3 f4 f5 f6 : Addr} {od0 an0 od1 an1 od2 an2 od3 an3 od4 an4 od5 an5 od6 an6 : Option Addr} {sl0 sl1 sl2 sl3 sl4 sl5 sl6 : Array (Option Value)} {oc0 kV0 dc0 pm0 cd0 ct0 oc1 kV1 dc1 pm1 cd1 ct1 oc2 kV2 dc2 pm2 cd2 ct2 oc3 kV3 dc3 pm3 cd3 ct3 oc4 kV4 dc4 pm4 cd4 ct4 oc5 kV5 dc5 pm5 cd5 ct5 oc6 kV6 dc6 pm6 cd6 ct6 : Value}
    (a0 : PySem.W.nsIn K mainGlobals "common" = some (some (.ref f0))) (l0 : K.lookup f0 = some ⟨oc0, od0, .func (PySem.W.fnOf "common" "common" (defArgs s_common) (defBody s_common) (defScope s_common) .none kV0 dc0 pm0 an0 cd0 ct0), sl0⟩) (c0 : PySem.W.codeIn K cd0 "common" = true) (k0 : PySem.W.keepIn K (.ref f0) = true)
    (a1 : PySem.W.nsIn K mainGlobals "root_of" = some (some (.ref f1))) (l1 : K.lookup f1 = some ⟨oc1, od1, .func (PySem.W.fnOf "root_of" "root_of" (defArgs s_root_of) (defBody s_root_of) (defScope s_root_of) .none kV1 dc1 pm1 an1 cd1 ct1), sl1⟩) (c1 : PySem.W.codeIn K cd1 "root_of" = true) (k1 : PySem.W.keepIn K (.ref f1) = true)
    (a2 : PySem.W.nsIn K mainGlobals "is_square" = some (some (.ref f2))) (l2 : K.lookup f2 = some ⟨oc2, od2, .func (PySem.W.fnOf "is_square" "is_square" (defArgs s_is_square) (defBody s_is_square) (defScope s_is_square) .none kV2 dc2 pm2 an2 cd2 ct2), sl2⟩) (c2 : PySem.W.codeIn K cd2 "is_square" = true) (k2 : PySem.W.keepIn K (.ref f2) = true)
    (a3 : PySem.W.nsIn K mainGlobals "is_form" = some (some (.ref f3))) (l3 : K.lookup f3 = some ⟨oc3, od3, .func (PySem.W.fnOf "is_form" "is_form" (defArgs s_is_form) (defBody s_is_form) (defScope s_is_form) .none kV3 dc3 pm3 an3 cd3 ct3), sl3⟩) (c3 : PySem.W.codeIn K cd3 "is_form" = true) (k3 : PySem.W.keepIn K (.ref f3) = true)
    (a4 : PySem.W.nsIn K mainGlobals "discriminant" = some (some (.ref f4))) (l4 : K.lookup f4 = some ⟨oc4, od4, .func (PySem.W.fnOf "discriminant" "discriminant" (defArgs s_discriminant) (defBody s_discriminant) (defScope s_discriminant) .none kV4 dc4 pm4 an4 cd4 ct4), sl4⟩) (c4 : PySem.W.codeIn K cd4 "discriminant" = true) (k4 : PySem.W.keepIn K (.ref f4) = true)
    (a5 : PySem.W.nsIn K mainGlobals "kind_of" = some (some (.ref f5))) (l5 : K.lookup f5 = some ⟨oc5, od5, .func (PySem.W.fnOf "kind_of" "kind_of" (defArgs s_kind_of) (defBody s_kind_of) (defScope s_kind_of) .none kV5 dc5 pm5 an5 cd5 ct5), sl5⟩) (c5 : PySem.W.codeIn K cd5 "kind_of" = true) (k5 : PySem.W.keepIn K (.ref f5) = true)
    (a6 : PySem.W.nsIn K mainGlobals "symmetries" = some (some (.ref f6))) (l6 : K.lookup f6 = some ⟨oc6, od6, .func (PySem.W.fnOf "symmetries" "symmetries" (defArgs s_symmetries) (defBody s_symmetries) (defScope s_symmetries) .none kV6 dc6 pm6 an6 cd6 ct6), sl6⟩) (c6 : PySem.W.codeIn K cd6 "symmetries" = true) (k6 : PySem.W.keepIn K (.ref f6) = true)
    {t_MOST : Tok} (m_MOST : PySem.W.nsIn K mainGlobals "MOST" = some (some (.int 8192 t_MOST)))
    {t_NOT_PLAIN : Tok} (m_NOT_PLAIN : PySem.W.nsIn K mainGlobals "NOT_PLAIN" = some (some (.int 0 t_NOT_PLAIN)))
    {t_ABOVE : Tok} (m_ABOVE : PySem.W.nsIn K mainGlobals "ABOVE" = some (some (.int 1 t_ABOVE)))
    {t_BELOW : Tok} (m_BELOW : PySem.W.nsIn K mainGlobals "BELOW" = some (some (.int 2 t_BELOW)))
    {t_BOTH : Tok} (m_BOTH : PySem.W.nsIn K mainGlobals "BOTH" = some (some (.int 3 t_BOTH)))
    {aR : Addr} {tR : Tok} {nR : Nat} {slR : Array (Option Value)} (m_REFUSED : PySem.W.nsIn K mainGlobals "REFUSED" = some (some (.ref aR))) (l_REFUSED : K.lookup aR = some ⟨.type "list", none, .seq #[.int (-1) tR] nR, slR⟩)
    (z_abs : PySem.W.nsIn K mainGlobals "abs" = some none)
    (z_int : PySem.W.nsIn K mainGlobals "int" = some none)
    (z_list : PySem.W.nsIn K mainGlobals "list" = some none)
    (z_max : PySem.W.nsIn K mainGlobals "max" = some none)
    : ∃ fd : FuncData, (∀ (s : Shared) (us : List Value), us.length = (["a", "b", "c"] : List Str).length → BindsTo s fd ⟨us, []⟩ ((["a", "b", "c"] : List Str).zip us)) ∧ ∀ base : Heap, K.In base → base.Ns mainGlobals mg → FnOk P w K mg base CX0 4 fa fd ["a", "b", "c"] (spD K p_symmetries) := by
  have e := hfa.symm.trans (PySem.W.mg_of X G a6)
  obtain rfl : f6 = fa := by cases e; rfl
  have T : Nonempty { T : Txt K mg // T.f_symmetries = f6 ∧ T.fd_symmetries = PySem.W.fnOf "symmetries" "symmetries" (defArgs s_symmetries) (defBody s_symmetries) (defScope s_symmetries) .none kV6 dc6 pm6 an6 cd6 ct6 } := ⟨⟨{
    k_MOST := ⟨t_MOST, PySem.W.mg_of X G m_MOST⟩
    k_NOT_PLAIN := ⟨t_NOT_PLAIN, PySem.W.mg_of X G m_NOT_PLAIN⟩
    k_ABOVE := ⟨t_ABOVE, PySem.W.mg_of X G m_ABOVE⟩
    k_BELOW := ⟨t_BELOW, PySem.W.mg_of X G m_BELOW⟩
    k_BOTH := ⟨t_BOTH, PySem.W.mg_of X G m_BOTH⟩
    a_REFUSED := aR
    k_REFUSED := PySem.W.mg_of X G m_REFUSED
    l_REFUSED := fun H => .inr ⟨_, _, _, l_REFUSED, rfl, rfl, rfl, (by show 1 ≤ sizeLine; decide), .cons ⟨_, rfl⟩ .nil⟩
    z_abs := PySem.W.mg_none_of X G z_abs
    z_int := PySem.W.mg_none_of X G z_int
    z_list := PySem.W.mg_none_of X G z_list
    z_max := PySem.W.mg_none_of X G z_max
    f_common := f0
    fd_common := _
    g_common := PySem.W.mg_of X G a0
    F_common := fun_mk (st := s_common) l0 c0 k0
    b_common := (fun_mk (st := s_common) l0 c0 k0).binds (ps := ["one", "other"]) fun _ _ _ _ _ _ us hl => match us, hl with | [_, _], _ => rfl
    f_root_of := f1
    fd_root_of := _
    g_root_of := PySem.W.mg_of X G a1
    F_root_of := fun_mk (st := s_root_of) l1 c1 k1
    b_root_of := (fun_mk (st := s_root_of) l1 c1 k1).binds (ps := ["number"]) fun _ _ _ _ _ _ us hl => match us, hl with | [_], _ => rfl
    f_is_square := f2
    fd_is_square := _
    g_is_square := PySem.W.mg_of X G a2
    F_is_square := fun_mk (st := s_is_square) l2 c2 k2
    b_is_square := (fun_mk (st := s_is_square) l2 c2 k2).binds (ps := ["number"]) fun _ _ _ _ _ _ us hl => match us, hl with | [_], _ => rfl
    f_is_form := f3
    fd_is_form := _
    g_is_form := PySem.W.mg_of X G a3
    F_is_form := fun_mk (st := s_is_form) l3 c3 k3
    b_is_form := (fun_mk (st := s_is_form) l3 c3 k3).binds (ps := ["form"]) fun _ _ _ _ _ _ us hl => match us, hl with | [_], _ => rfl
    f_discriminant := f4
    fd_discriminant := _
    g_discriminant := PySem.W.mg_of X G a4
    F_discriminant := fun_mk (st := s_discriminant) l4 c4 k4
    b_discriminant := (fun_mk (st := s_discriminant) l4 c4 k4).binds (ps := ["form"]) fun _ _ _ _ _ _ us hl => match us, hl with | [_], _ => rfl
    f_kind_of := f5
    fd_kind_of := _
    g_kind_of := PySem.W.mg_of X G a5
    F_kind_of := fun_mk (st := s_kind_of) l5 c5 k5
    b_kind_of := (fun_mk (st := s_kind_of) l5 c5 k5).binds (ps := ["form"]) fun _ _ _ _ _ _ us hl => match us, hl with | [_], _ => rfl
    f_symmetries := f6
    fd_symmetries := _
    g_symmetries := PySem.W.mg_of X G a6
    F_symmetries := fun_mk (st := s_symmetries) l6 c6 k6
    b_symmetries := (fun_mk (st := s_symmetries) l6 c6 k6).binds (ps := ["a", "b", "c"]) fun _ _ _ _ _ _ us hl => match us, hl with | [_, _, _], _ => rfl
    }, rfl, rfl⟩⟩
  obtain ⟨T, e1, e2⟩ := T
  refine ⟨T.fd_symmetries, fun s us hu => ?_, fun base _ _ => e1 ▸ ok_symmetries T⟩
  rw [e2]
  exact match us, hu with | [_, _, _], _ => .of_eq rfl
theorem dw_list {K : PySem.W.Frag} {H : Hp} {v : V} {ns : List Int} (h : Dp K H v (.list (ns.map PyData.int))) : Dw K H v (.list (ns.map PySem.W.WData.int)) := by
  obtain ⟨a, xs, rfl, hs, ha⟩ := dp_list h
  cases da_ints ha
  exact .lst hs (dw_ints ns)
end Fkw
open PySem PySem.W PyProof.Rows
set_option maxRecDepth 100000 in
set_option maxHeartbeats 8000000 in
theorem PySem.Challenge.cw_formkinds_s08_symmetries_holds : PySem.Challenge.rw_formkinds_s08_symmetries.Holds := by
  w_on; k_headS; (case hw => exact ⟨[.int 0, .int 0, .int 0], by decide +kernel, by decide +kernel⟩)
  k_fillS
  refine L2.walk_specK (r := PySem.Challenge.rw_formkinds_s08_symmetries) (k := 4) (CX := L2.CX0) (ps := ["a", "b", "c"]) (sp := fun K => Fkw.spD K Fkw.p_symmetries) (by decide +kernel) rfl rfl ⟨rfl, by decide, by decide⟩ (fun w h Y => PySem.W.kIn_of Y) ?F ?S (fun _ _ _ _ z => z)
  case F =>
    intro w mg fa h Y KX G hmg
    refine' Fkw.all_mk KX G hmg ?a0 ?l0 ?c0 ?k0 ?a1 ?l1 ?c1 ?k1 ?a2 ?l2 ?c2 ?k2 ?a3 ?l3 ?c3 ?k3 ?a4 ?l4 ?c4 ?k4 ?a5 ?l5 ?c5 ?k5 ?a6 ?l6 ?c6 ?k6 ?m_MOST ?m_NOT_PLAIN ?m_ABOVE ?m_BELOW ?m_BOTH ?m_REFUSED ?l_REFUSED ?z_abs ?z_int ?z_list ?z_max
    (case a0 => k_is)
    (case l0 => k_is)
    (case c0 => k_is)
    (case k0 => k_is)
    (case a1 => k_is)
    (case l1 => k_is)
    (case c1 => k_is)
    (case k1 => k_is)
    (case a2 => k_is)
    (case l2 => k_is)
    (case c2 => k_is)
    (case k2 => k_is)
    (case a3 => k_is)
    (case l3 => k_is)
    (case c3 => k_is)
    (case k3 => k_is)
    (case a4 => k_is)
    (case l4 => k_is)
    (case c4 => k_is)
    (case k4 => k_is)
    (case a5 => k_is)
    (case l5 => k_is)
    (case c5 => k_is)
    (case k5 => k_is)
    (case a6 => k_is)
    (case l6 => k_is)
    (case c6 => k_is)
    (case k6 => k_is)
    (case m_MOST => k_is)
    (case m_NOT_PLAIN => k_is)
    (case m_ABOVE => k_is)
    (case m_BELOW => k_is)
    (case m_BOTH => k_is)
    (case m_REFUSED => k_is)
    (case l_REFUSED => k_is)
    (case z_abs => k_is)
    (case z_int => k_is)
    (case z_list => k_is)
    (case z_max => k_is)
  case S =>
    intro K H xs args hO hwi hask hx
    obtain ⟨x0, x1, x2, u⟩ := args
    cases hx with
    | cons h0 hx =>
    cases hx with
    | cons h1 hx =>
    cases hx with
    | cons h2 hx =>
    cases hx
    cases h0
    cases h1
    cases h2
    have q : (Codec.inInt _ _ x0 && (Codec.inInt _ _ x1 && (Codec.inInt _ _ x2 && true))) = true := hwi
    simp only [Bool.and_eq_true] at q
    have q0 := Codec.inInt_iff.mp q.1
    have q1 := Codec.inInt_iff.mp q.2.1
    have q2 := Codec.inInt_iff.mp q.2.2.1
    refine ⟨_, _, .cons (.int _) (.cons (.int _) (.cons (.int _) (.nil))), ⟨x0, x1, x2, rfl, ⟨⟨q0.1, q0.2⟩, ⟨q1.1, q1.2⟩, ⟨q2.1, q2.2⟩⟩, rfl⟩, fun v H' _ hd => ?_⟩
    exact Fkw.dw_list hd
#print axioms PySem.Challenge.cw_formkinds_s08_symmetries_holds
