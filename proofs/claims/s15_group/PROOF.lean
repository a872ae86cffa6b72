import PyProof.Rows.All
import Wide.All
import OpenK.AllK
import Wide.FinOn
import Open.SpecLaws
import KE.OsGo
import HandS.ForSpec
import HandS.TryMany
import HandS.Comp
import HandS.Evl
import HandS.WideBits
import HandS.Wide
import HandS.Dict
import KE.LtData
import HandS.SortKw
import KE.KMinKey
import KE.SortKeyHeap
import KE.KDictPairs
import KE.KDictList
import KE.KDictWalk
import HandS.Iter
import HandS.ExcValue
import HandS.Deep
import HandS.Walk
import PySem.Challenge.RW_formkinds_s15_group
set_option Elab.async false
set_option linter.all false
set_option maxRecDepth 100000
set_option maxHeartbeats 2000000
/-! Plain numbers: whole roots, squares, common divisors. -/
namespace Fk
open Fc

theorem sq_mono {a b : Nat} (h : a ≤ b) : a * a ≤ b * b := Nat.mul_le_mul h h
theorem lt_of_sq {a b : Nat} (h : a * a < b * b) : a < b := by
  by_cases c : a < b
  · exact c
  · exact absurd (sq_mono (Nat.le_of_not_lt c)) (Nat.not_le_of_lt h)

/-- r is the whole root of n -/
def IsRoot (n r : Nat) : Prop := r * r ≤ n ∧ n < (r + 1) * (r + 1)
theorem IsRoot.uniq {n r s : Nat} (a : IsRoot n r) (b : IsRoot n s) : r = s := by
  have h1 : r < s + 1 := lt_of_sq (Nat.lt_of_le_of_lt a.1 b.2)
  have h2 : s < r + 1 := lt_of_sq (Nat.lt_of_le_of_lt b.1 a.2)
  omega

def bitStep (n : Nat) (r i : Nat) : Nat := let s := r + 2 ^ (39 - i)
  if s * s ≤ n then s else r
theorem rootOf_eq (n : Nat) : rootOf n = (List.range 40).foldl (bitStep n) 0 := rfl
set_option exponentiation.threshold 300
set_option maxRecDepth 20000
theorem bits_inv (n : Nat) (hn : n < 2 ^ 80) : ∀ k, k ≤ 40 → ((List.range k).foldl (bitStep n) 0) * ((List.range k).foldl (bitStep n) 0) ≤ n ∧ n < ((List.range k).foldl (bitStep n) 0 + 2 ^ (40 - k)) * ((List.range k).foldl (bitStep n) 0 + 2 ^ (40 - k))
  | 0, _ => by
    rw [List.range_zero, List.foldl_nil, Nat.zero_add, Nat.sub_zero, ← Nat.pow_add]
    exact ⟨Nat.zero_le _, hn⟩
  | k + 1, hk => by
    have ih := bits_inv n hn k (by omega)
    rw [List.range_succ, List.foldl_append]
    show (bitStep n ((List.range k).foldl (bitStep n) 0) k) * (bitStep n ((List.range k).foldl (bitStep n) 0) k) ≤ n ∧ n < (bitStep n ((List.range k).foldl (bitStep n) 0) k + 2 ^ (40 - (k + 1))) * (bitStep n ((List.range k).foldl (bitStep n) 0) k + 2 ^ (40 - (k + 1)))
    generalize (List.range k).foldl (bitStep n) 0 = r at ih
    have e1 : 39 - k = 40 - (k + 1) := by omega
    have e2 : 2 ^ (40 - k) = 2 ^ (40 - (k + 1)) + 2 ^ (40 - (k + 1)) := by
      rw [show 40 - k = (40 - (k + 1)) + 1 by omega, Nat.pow_succ]
      omega
    rw [e2] at ih
    generalize hw : 2 ^ (40 - (k + 1)) = w at ih
    unfold bitStep
    rw [e1, hw]
    dsimp only
    by_cases c : (r + w) * (r + w) ≤ n
    · rw [if_pos c]
      refine ⟨c, ?_⟩
      have := ih.2
      rw [← Nat.add_assoc] at this
      exact this
    · rw [if_neg c]
      exact ⟨ih.1, by omega⟩
theorem rootOf_root {n : Nat} (hn : n < 2 ^ 80) : IsRoot n (rootOf n) := by
  have h := bits_inv n hn 40 (Nat.le_refl _)
  rw [← rootOf_eq] at h
  exact h
theorem rootOf_is {n r : Nat} (hn : n < 2 ^ 80) (h : IsRoot n r) : rootOf n = r := (rootOf_root hn).uniq h
theorem rootOf_sq {n : Nat} (hn : n * n < 2 ^ 80) : rootOf (n * n) = n := rootOf_is hn ⟨Nat.le_refl _, by
  have : (n + 1) * (n + 1) = n * n + 2 * n + 1 := by grind
  omega⟩

/-! ### Newton's root -/
/-- the program's root: of what is below 2 the number itself -/
def rootI (n : Int) : Int := if n < 2 then n else (rootOf n.toNat : Int)
theorem rootI_nn {n : Int} (h0 : 0 ≤ n) : rootI n = (rootOf n.toNat : Int) := by
  unfold rootI
  split
  · rename_i h
    have : n = 0 ∨ n = 1 := by omega
    rcases this with rfl | rfl
    · show (0 : Int) = ((rootOf (0 * 0) : Nat) : Int)
      rw [rootOf_sq (by decide)]
      rfl
    · show (1 : Int) = ((rootOf (1 * 1) : Nat) : Int)
      rw [rootOf_sq (by decide)]
      rfl
  · rfl
theorem newton_ge {s h n : Nat} (hh : 0 < h) (hs : s * s ≤ n) : s ≤ (h + n / h) / 2 := by
  have h1 : n / h * h + n % h = n := Nat.div_add_mod' n h
  have h2 : n % h < h := Nat.mod_lt _ hh
  generalize hq : n / h = q at h1
  by_cases c : s ≤ (h + q) / 2
  · exact c
  · exfalso
    have c1 : h + q < 2 * s := by omega
    -- n < (q+1) h ; 4 (q+1) h ≤ (q+1+h)^2
    have a1 : n < (q + 1) * h := by
      have : (q + 1) * h = q * h + h := by grind
      omega
    have c2 : q + 1 + h ≤ 2 * s := by omega
    have a2 : (q + 1 + h) * (q + 1 + h) ≤ (2 * s) * (2 * s) := sq_mono c2
    have a3 : 4 * ((q + 1) * h) ≤ (q + 1 + h) * (q + 1 + h) := by
      rcases Nat.le_total (q + 1) h with l | l
      · obtain ⟨t, rfl⟩ := Nat.exists_eq_add_of_le l
        have : (q + 1 + (q + 1 + t)) * (q + 1 + (q + 1 + t)) = 4 * ((q + 1) * (q + 1 + t)) + t * t := by grind
        omega
      · obtain ⟨t, ht⟩ := Nat.exists_eq_add_of_le l
        rw [ht]
        have : (h + t + h) * (h + t + h) = 4 * ((h + t) * h) + t * t := by grind
        omega
    have a4 : (2 * s) * (2 * s) = 4 * (s * s) := by grind
    omega
/-- the loop stops where the next number is not below: that is the root -/
theorem newton_end {s h n : Nat} (hh : 0 < h) (hsh : s ≤ h) (hr : IsRoot n s) (he : ¬ (h + n / h) / 2 < h) : h = s := by
  have h1 : h ≤ n / h := by omega
  have h2 : h * h ≤ n := by
    have := (Nat.le_div_iff_mul_le hh).mp h1
    exact this
  have h3 : h < s + 1 := lt_of_sq (Nat.lt_of_le_of_lt h2 hr.2)
  omega
theorem newton_start {n k : Nat} (h : n < 2 ^ (2 * k)) {s : Nat} (hr : IsRoot n s) : s ≤ 2 ^ k := by
  have : s < 2 ^ k := by
    refine lt_of_sq ?_
    rw [← Nat.pow_add, ← Nat.two_mul]
    exact Nat.lt_of_le_of_lt hr.1 h
  omega

/-! ### squares -/
theorem isSquare_iff {d : Int} (hd : d < 2 ^ 80) : isSquare d = true ↔ ∃ r : Int, r * r = d := by
  unfold isSquare
  rw [Bool.and_eq_true, decide_eq_true_iff, beq_iff_eq]
  constructor
  · rintro ⟨h0, h⟩
    refine ⟨(rootOf d.toNat : Int), ?_⟩
    have : ((rootOf d.toNat * rootOf d.toNat : Nat) : Int) = (d.toNat : Int) := by rw [h]
    rw [Int.natCast_mul] at this
    rw [this]
    omega
  · rintro ⟨r, rfl⟩
    have h0 : 0 ≤ r * r := by
      rcases Int.le_total 0 r with h | h
      · exact Int.mul_nonneg h h
      · have := Int.mul_nonneg (Int.neg_nonneg_of_nonpos h) (Int.neg_nonneg_of_nonpos h)
        rwa [Int.neg_mul_neg] at this
    refine ⟨h0, ?_⟩
    have e : (r * r).toNat = r.natAbs * r.natAbs := by
      have := Int.natAbs_mul r r
      omega
    rw [e]
    have : r.natAbs * r.natAbs < 2 ^ 80 := by
      have : (2 : Int) ^ 80 = ((2 ^ 80 : Nat) : Int) := by norm_cast
      omega
    rw [rootOf_sq this]
/-! ### the program's division -/
theorem fdiv_nat (a b : Nat) : (a : Int).fdiv b = ((a / b : Nat) : Int) := by
  rw [Int.fdiv_eq_ediv_of_nonneg _ (Int.natCast_nonneg b), Int.natCast_ediv]
theorem fmod_nat (a b : Nat) : (a : Int).fmod b = ((a % b : Nat) : Int) := by
  rw [Int.fmod_eq_emod_of_nonneg _ (Int.natCast_nonneg b), Int.natCast_emod]
theorem newton_bits {n : Nat} (_h : 2 ≤ n) : n < 2 ^ (2 * ((n.log2 + 2) / 2)) := by
  refine Nat.lt_of_lt_of_le (Nat.lt_log2_self) ?_
  refine Nat.pow_le_pow_right (by decide) ?_
  omega
theorem log2_lt {n k : Nat} (h : n < 2 ^ k) (h0 : n ≠ 0) : n.log2 < k := (Nat.log2_lt h0).mpr h
end Fk

/-! Forms below 0 of discriminant: the least form by steps down. -/
namespace Fk
open Fc
theorem form_ext {f g : Form} (h1 : f.a = g.a) (h2 : f.b = g.b) (h3 : f.c = g.c) : f = g := by
  cases f
  cases g
  simp at h1 h2 h3
  simp [h1, h2, h3]
theorem change_ext {f g : Change} (h1 : f.p = g.p) (h2 : f.q = g.q) (h3 : f.r = g.r) (h4 : f.s = g.s) : f = g := by
  cases f
  cases g
  simp at h1 h2 h3 h4
  simp [h1, h2, h3, h4]
theorem alike_iff {f g : Form} : alike f g = true ↔ f = g := by
  unfold alike
  rw [Bool.and_eq_true, Bool.and_eq_true, beq_iff_eq, beq_iff_eq, beq_iff_eq]
  constructor
  · rintro ⟨h1, h2, h3⟩
    exact form_ext h1 h2 h3
  · rintro rfl
    exact ⟨rfl, rfl, rfl⟩
theorem alike_eq (f g : Form) : alike f g = decide (f.a = g.a ∧ f.b = g.b ∧ f.c = g.c) := by
  rw [Bool.eq_iff_iff, alike_iff, decide_eq_true_iff]
  constructor
  · rintro rfl
    exact ⟨rfl, rfl, rfl⟩
  · rintro ⟨h1, h2, h3⟩
    exact form_ext h1 h2 h3

/-! ### changes -/
theorem changed_then (f : Form) (t u : Change) : changed f (t.then_ u) = changed (changed f t) u := by
  apply form_ext <;> simp only [changed, Change.then_, value] <;> grind
def IsCh (t : Change) : Prop := t.p * t.s - t.q * t.r = 1
theorem isChange_iff {t : Change} : isChange t = true ↔ IsCh t := by
  unfold isChange IsCh
  rw [beq_iff_eq]
theorem IsCh.then {t u : Change} (h : IsCh t) (k : IsCh u) : IsCh (t.then_ u) := by
  unfold IsCh at *
  simp only [Change.then_]
  have : (t.p * t.s - t.q * t.r) * (u.p * u.s - u.q * u.r) = 1 := by rw [h, k]; rfl
  grind
theorem IsCh.back {t : Change} (h : IsCh t) : IsCh t.back := by
  unfold IsCh at *
  simp only [Change.back]
  grind
theorem disc_changed {f : Form} {t : Change} (h : IsCh t) : disc (changed f t) = disc f := by
  unfold IsCh at h
  simp only [changed, value, disc]
  have : (t.p * t.s - t.q * t.r) * (t.p * t.s - t.q * t.r) = 1 := by rw [h]; rfl
  grind
theorem changed_same (f : Form) : changed f same = f := by
  apply form_ext <;> simp only [changed, same, value] <;> grind
theorem then_same (t : Change) : t.then_ same = t := by
  apply change_ext <;> simp only [Change.then_, same] <;> grind
theorem same_then (t : Change) : Change.then_ same t = t := by
  apply change_ext <;> simp only [Change.then_, same] <;> grind
theorem changed_back {f : Form} {t : Change} (h : IsCh t) : changed (changed f t) t.back = f := by
  rw [← changed_then]
  have e : t.then_ t.back = same := by
    unfold IsCh at h
    apply change_ext <;> simp only [Change.then_, Change.back, same] <;> grind
  rw [e, changed_same]
theorem isCh_same : IsCh same := rfl
theorem isCh_swap : IsCh swap := rfl
theorem isCh_shift (k : Int) : IsCh ⟨1, k, 0, 1⟩ := by
  unfold IsCh
  simp
/-- x goes over into x + k y -/
theorem changed_shift (f : Form) (k : Int) : changed f ⟨1, k, 0, 1⟩ = ⟨f.a, f.b + 2 * f.a * k, f.a * k * k + f.b * k + f.c⟩ := by
  apply form_ext <;> simp only [changed, value] <;> grind
theorem changed_swap (f : Form) : changed f swap = ⟨f.c, -f.b, f.a⟩ := by
  apply form_ext <;> simp only [changed, value, swap] <;> grind

/-! ### one step -/
def Lev (f : Form) : Prop := -f.a < f.b ∧ f.b ≤ f.a
theorem level_lev {f : Form} (h : 0 < f.a) : Lev (changed f (level f)) := by
  unfold level
  rw [changed_shift]
  unfold Lev
  dsimp only
  have h1 := Int.emod_add_mul_ediv (f.a - f.b) (2 * f.a)
  have h2 := Int.emod_nonneg (f.a - f.b) (show 2 * f.a ≠ 0 by omega)
  have h3 := Int.emod_lt_of_pos (f.a - f.b) (show 0 < 2 * f.a by omega)
  generalize hq : 2 * f.a * ((f.a - f.b) / (2 * f.a)) = q at *
  omega
theorem level_id {f : Form} (h : Lev f) : level f = same := by
  obtain ⟨h1, h2⟩ := h
  unfold level same
  have : (f.a - f.b) / (2 * f.a) = 0 := Int.ediv_eq_zero_of_lt (by omega) (by omega)
  rw [this]
/-- the program's test -/
theorem lev_iff {f : Form} : (f.b > f.a ∨ f.b ≤ 0 - f.a) ↔ ¬ Lev f := by
  unfold Lev
  omega
theorem downFrom_level {f : Form} {t : Change} {n : Nat} (h : 0 < f.a) : downFrom (n + 1) (changed f (level f)) (t.then_ (level f)) = downFrom (n + 1) f t := by
  conv => lhs; unfold downFrom
  conv => rhs; unfold downFrom
  rw [level_id (level_lev h)]
  dsimp only
  rw [changed_same, then_same]
theorem downFrom_swap {f : Form} {t : Change} {n : Nat} (h : Lev f) (hs : f.c < f.a ∨ (f.c = f.a ∧ f.b < 0)) : downFrom (n + 1) f t = downFrom n (changed f swap) (t.then_ swap) := by
  conv => lhs; unfold downFrom
  rw [level_id h]
  dsimp only
  rw [changed_same, then_same]
  exact if_pos hs
theorem downFrom_end {f : Form} {t : Change} {n : Nat} (h : Lev f) (hs : ¬ (f.c < f.a ∨ (f.c = f.a ∧ f.b < 0))) : downFrom (n + 1) f t = (f, t) := by
  conv => lhs; unfold downFrom
  rw [level_id h]
  dsimp only
  rw [changed_same, then_same]
  exact if_neg hs

/-! ### reduced forms -/
def Red (f : Form) : Prop := Lev f ∧ f.a ≤ f.c ∧ (f.a = f.c → 0 ≤ f.b)
theorem red_iff {f : Form} (h : Lev f) : ¬ (f.c < f.a ∨ (f.c = f.a ∧ f.b < 0)) ↔ Red f := by
  unfold Red
  constructor
  · intro k
    exact ⟨h, by omega, by omega⟩
  · rintro ⟨_, k1, k2⟩
    omega
theorem c_pos {f : Form} (hd : disc f < 0) (ha : 0 < f.a) : 0 < f.c := by
  unfold disc at hd
  have h0 : 0 ≤ f.b * f.b := by
    rcases Int.le_total 0 f.b with h | h
    · exact Int.mul_nonneg h h
    · have := Int.mul_nonneg (Int.neg_nonneg_of_nonpos h) (Int.neg_nonneg_of_nonpos h)
      rwa [Int.neg_mul_neg] at this
  have h1 : 0 < 4 * f.a * f.c := by omega
  have h2 : 0 < 4 * f.a := by omega
  by_cases h3 : 0 < f.c
  · exact h3
  · exfalso
    have := Int.mul_nonneg (Int.le_of_lt h2) (show 0 ≤ -f.c by omega)
    rw [Int.mul_neg] at this
    omega
/-- what a run down leads to -/
theorem down_run : ∀ (n : Nat) (f : Form) (t : Change), disc f < 0 → 0 < f.a → (f.a.toNat + 2 ≤ n ∨ (1 ≤ n ∧ Red f)) →
    Red (downFrom n f t).1 ∧ 0 < (downFrom n f t).1.a ∧ (downFrom n f t).1.a ≤ f.a ∧ ∃ u, IsCh u ∧ (downFrom n f t).2 = t.then_ u ∧ changed f u = (downFrom n f t).1
  | 0, _, _, _, _, h => by omega
  | n + 1, f, t, hd, ha, h => by
    have hl := level_lev ha
    have hu : IsCh (level f) := isCh_shift _
    rw [← downFrom_level ha]
    have ea : (changed f (level f)).a = f.a := by
      unfold level
      rw [changed_shift]
    by_cases hs : (changed f (level f)).c < (changed f (level f)).a ∨ ((changed f (level f)).c = (changed f (level f)).a ∧ (changed f (level f)).b < 0)
    · rw [downFrom_swap hl hs]
      have hn : f.a.toNat + 2 ≤ n + 1 := by
        rcases h with h | ⟨_, h⟩
        · exact h
        · exfalso
          rw [level_id h.1, changed_same] at hs
          exact (red_iff h.1).mpr h hs
      have hd' : disc (changed f (level f)) < 0 := by
        rw [disc_changed hu]
        exact hd
      have hc := c_pos hd' (by rw [ea]; exact ha)
      have hsw := changed_swap (changed f (level f))
      generalize hgf : changed f (level f) = g at *
      have hg : disc (changed g swap) < 0 := by
        rw [disc_changed isCh_swap]
        exact hd'
      have hga : (changed g swap).a = g.c := by rw [hsw]
      obtain ⟨r1, r2, r2', u, r3, r4, r5⟩ := down_run n (changed g swap) ((t.then_ (level f)).then_ swap) hg (by rw [hga]; exact hc) (by
        rw [hga]
        rcases hs with hs | hs
        · left
          omega
        · right
          refine ⟨by omega, ?_⟩
          rw [hsw]
          obtain ⟨l1, l2⟩ := hl
          unfold Red Lev
          dsimp only
          omega)
      refine ⟨r1, r2, by rw [hga] at r2'; omega, (level f).then_ (swap.then_ u), hu.then (isCh_swap.then r3), ?_, ?_⟩
      · rw [r4]
        apply change_ext <;> simp only [Change.then_] <;> grind
      · rw [← r5, changed_then, changed_then, hgf]
    · rw [downFrom_end hl hs]
      exact ⟨(red_iff hl).mp hs, by rw [ea]; exact ha, by rw [ea]; exact Int.le_refl _, level f, hu, rfl, rfl⟩
theorem down_spec {f : Form} (hd : disc f < 0) (ha : 0 < f.a) : Red (down f).1 ∧ 0 < (down f).1.a ∧ (down f).1.a ≤ f.a ∧ IsCh (down f).2 ∧ changed f (down f).2 = (down f).1 := by
  obtain ⟨h1, h2, h3, u, h4, h5, h6⟩ := down_run (f.a.natAbs + 2) f same hd ha (.inl (by omega))
  have e : (down f).2 = u := h5.trans (same_then u)
  exact ⟨h1, h2, h3, e ▸ h4, by rw [e]; exact h6⟩
/-! ### what divides all three -/
def content (f : Form) : Nat := Nat.gcd (Nat.gcd f.a.natAbs f.b.natAbs) f.c.natAbs
theorem content_dvd (f : Form) : (content f : Int) ∣ f.a ∧ (content f : Int) ∣ f.b ∧ (content f : Int) ∣ f.c := by
  unfold content
  have h1 := Nat.gcd_dvd_left (Nat.gcd f.a.natAbs f.b.natAbs) f.c.natAbs
  have h2 := Nat.gcd_dvd_right (Nat.gcd f.a.natAbs f.b.natAbs) f.c.natAbs
  refine ⟨Int.ofNat_dvd_left.mpr (Nat.dvd_trans h1 (Nat.gcd_dvd_left _ _)), Int.ofNat_dvd_left.mpr (Nat.dvd_trans h1 (Nat.gcd_dvd_right _ _)), Int.ofNat_dvd_left.mpr h2⟩
theorem dvd_content {f : Form} {n : Nat} (h1 : (n : Int) ∣ f.a) (h2 : (n : Int) ∣ f.b) (h3 : (n : Int) ∣ f.c) : n ∣ content f :=
  Nat.dvd_gcd (Nat.dvd_gcd (Int.ofNat_dvd_left.mp h1) (Int.ofNat_dvd_left.mp h2)) (Int.ofNat_dvd_left.mp h3)
theorem dvd_changed {f : Form} {n : Int} (t : Change) (h1 : n ∣ f.a) (h2 : n ∣ f.b) (h3 : n ∣ f.c) : n ∣ (changed f t).a ∧ n ∣ (changed f t).b ∧ n ∣ (changed f t).c := by
  obtain ⟨x, hx⟩ := h1
  obtain ⟨y, hy⟩ := h2
  obtain ⟨z, hz⟩ := h3
  refine ⟨⟨value ⟨x, y, z⟩ t.p t.r, ?_⟩, ⟨2 * x * t.p * t.q + y * (t.p * t.s + t.q * t.r) + 2 * z * t.r * t.s, ?_⟩, ⟨value ⟨x, y, z⟩ t.q t.s, ?_⟩⟩ <;> simp only [changed, value, hx, hy, hz] <;> grind
theorem content_dvd_changed (f : Form) (t : Change) : content f ∣ content (changed f t) := by
  obtain ⟨h1, h2, h3⟩ := content_dvd f
  obtain ⟨k1, k2, k3⟩ := dvd_changed t h1 h2 h3
  exact dvd_content k1 k2 k3
theorem content_changed {f : Form} {t : Change} (h : IsCh t) : content (changed f t) = content f := by
  refine Nat.dvd_antisymm ?_ (content_dvd_changed f t)
  have := content_dvd_changed (changed f t) t.back
  rwa [changed_back h] at this
theorem content_negated (f : Form) : content (negated f) = content f := by
  unfold content negated
  simp only [Int.natAbs_neg]
theorem disc_negated (f : Form) : disc (negated f) = disc f := by
  simp only [disc, negated]
  grind
theorem plain_iff {f : Form} : plain f = true ↔ content f = 1 ∧ isSquare (disc f) = false := by
  unfold plain content
  rw [Bool.and_eq_true, beq_iff_eq, Bool.not_eq_true']
theorem isSquare_zero : isSquare 0 = true := (isSquare_iff (by decide)).mpr ⟨0, rfl⟩
theorem disc_ne {f : Form} (h : plain f = true) : disc f ≠ 0 := fun e => by
  have := (plain_iff.mp h).2
  rw [e, isSquare_zero] at this
  cases this
theorem sq_nonneg (x : Int) : 0 ≤ x * x := by
  rcases Int.le_total 0 x with h | h
  · exact Int.mul_nonneg h h
  · have := Int.mul_nonneg (Int.neg_nonneg_of_nonpos h) (Int.neg_nonneg_of_nonpos h)
    rwa [Int.neg_mul_neg] at this
theorem a_ne {f : Form} (h : disc f < 0) : f.a ≠ 0 := fun e => by
  unfold disc at h
  rw [e] at h
  have := sq_nonneg f.b
  simp at h
  omega
/-! ### the order of forms -/
theorem before_iff {f g : Form} : before f g = true ↔ f.a.natAbs < g.a.natAbs ∨ (f.a.natAbs = g.a.natAbs ∧ ((0 < f.a ∧ ¬ 0 < g.a) ∨ ((0 < f.a ↔ 0 < g.a) ∧ (f.b.natAbs < g.b.natAbs ∨ (f.b.natAbs = g.b.natAbs ∧ 0 ≤ f.b ∧ g.b < 0))))) := by
  unfold before
  by_cases h1 : f.a.natAbs = g.a.natAbs
  · rw [if_neg (by simpa using h1)]
    by_cases h2 : (decide (0 < f.a) != decide (0 < g.a)) = true
    · rw [if_pos h2]
      have h2' : ¬ (0 < f.a ↔ 0 < g.a) := by
        intro h
        simp [h] at h2
      rw [decide_eq_true_iff]
      omega
    · rw [if_neg h2]
      have h2' : (0 < f.a ↔ 0 < g.a) := by
        by_cases p : 0 < f.a <;> by_cases q : 0 < g.a <;> simp [p, q] at h2 ⊢
      by_cases h3 : f.b.natAbs = g.b.natAbs
      · rw [if_neg (by simpa using h3), Bool.and_eq_true, decide_eq_true_iff, decide_eq_true_iff]
        omega
      · rw [if_pos h3, decide_eq_true_iff]
        omega
  · rw [if_pos h1, decide_eq_true_iff]
    omega
theorem before_irrefl (f : Form) : before f f = false := by
  cases h : before f f with
  | false => rfl
  | true =>
    rw [before_iff] at h
    omega
theorem before_trans {f g h : Form} (h1 : before f g = true) (h2 : before g h = true) : before f h = true := by
  rw [before_iff] at *
  omega
/-- of forms of one discriminant none are alike in order -/
theorem before_total {f g : Form} (h1 : before f g = false) (h2 : before g f = false) : f.a = g.a ∧ f.b = g.b := by
  have k1 : ¬ before f g = true := by rw [h1]; decide
  have k2 : ¬ before g f = true := by rw [h2]; decide
  rw [before_iff] at k1 k2
  omega
/-! ### what falls on the way down -/
def meas (f : Form) : Nat := 8 * f.a.toNat + (if f.b > f.a ∨ f.b ≤ 0 - f.a then 4 else 0) + (if f.b < 0 then 2 else 0)
theorem meas_level {f : Form} (ha : 0 < f.a) (h : f.b > f.a ∨ f.b ≤ 0 - f.a) : meas (changed f (level f)) < meas f := by
  have hl := level_lev ha
  have ea : (changed f (level f)).a = f.a := by
    unfold level
    rw [changed_shift]
  have hn : ¬ ((changed f (level f)).b > (changed f (level f)).a ∨ (changed f (level f)).b ≤ 0 - (changed f (level f)).a) := fun z => lev_iff.mp z hl
  unfold meas
  rw [if_pos h, if_neg hn, ea]
  split <;> split <;> omega
theorem meas_swap {f : Form} (hc : 0 < f.c) (hl : Lev f) (h : f.c < f.a ∨ (f.c = f.a ∧ f.b < 0)) : meas (changed f swap) < meas f := by
  obtain ⟨l1, l2⟩ := hl
  rw [changed_swap]
  unfold meas
  dsimp only
  rcases h with h | ⟨h1, h2⟩
  · have hn : ¬ (f.b > f.a ∨ f.b ≤ 0 - f.a) := by omega
    rw [if_neg hn]
    split <;> split <;> split <;> omega
  · have hn : ¬ (f.b > f.a ∨ f.b ≤ 0 - f.a) := by omega
    have hn2 : ¬ (-f.b > f.c ∨ -f.b ≤ 0 - f.c) := by omega
    rw [if_neg hn, if_neg hn2, if_pos h2, if_neg (by omega)]
    omega
end Fk

/-! The changes that leave a least form above as it is. -/
namespace Fk
open Fc
def units : List Change := [⟨-1, -1, 0, -1⟩, ⟨-1, -1, 1, 0⟩, ⟨-1, 0, -1, -1⟩, ⟨-1, 0, 0, -1⟩, ⟨-1, 0, 1, -1⟩, ⟨-1, 1, -1, 0⟩, ⟨-1, 1, 0, -1⟩, ⟨0, -1, 1, -1⟩, ⟨0, -1, 1, 0⟩, ⟨0, -1, 1, 1⟩, ⟨0, 1, -1, -1⟩, ⟨0, 1, -1, 0⟩, ⟨0, 1, -1, 1⟩, ⟨1, -1, 0, 1⟩, ⟨1, -1, 1, 0⟩, ⟨1, 0, -1, 1⟩, ⟨1, 0, 0, 1⟩, ⟨1, 0, 1, 1⟩, ⟨1, 1, -1, 0⟩, ⟨1, 1, 0, 1⟩]
theorem units_eq : small.filter (fun t => isChange t) = units := by rfl
theorem stills_eq (f : Form) : stills f = units.filter fun t => alike (changed f t) f := by
  rw [← units_eq, List.filter_filter]
  unfold stills
  congr 1
  funext t
  rw [Bool.and_comm]
theorem ft {α : Type} {p : α → Bool} {x : α} {l m : List α} (h : p x = true) (e : l.filter p = m) : (x :: l).filter p = x :: m := by
  rw [List.filter_cons, if_pos h, e]
theorem ff {α : Type} {p : α → Bool} {x : α} {l m : List α} (h : p x = false) (e : l.filter p = m) : (x :: l).filter p = m := by
  rw [List.filter_cons, if_neg (by rw [h]; decide), e]
theorem al_t {f g : Form} (h1 : f.a = g.a) (h2 : f.b = g.b) (h3 : f.c = g.c) : alike f g = true := by
  rw [alike_eq, decide_eq_true ⟨h1, h2, h3⟩]
theorem al_f {f g : Form} (h : ¬ (f.a = g.a ∧ f.b = g.b ∧ f.c = g.c)) : alike f g = false := by
  rw [alike_eq, decide_eq_false h]

theorem stills6 {f : Form} (h : Red f) (ha : 0 < f.a) (h1 : f.b = f.a) (h2 : f.c = f.a) : (stills f).length = 6 := by
  obtain ⟨⟨l1, l2⟩, r1, r2⟩ := h
  rw [stills_eq]
  have e : units.filter (fun t => alike (changed f t) f) = [⟨-1, -1, 1, 0⟩, ⟨-1, 0, 0, -1⟩, ⟨0, -1, 1, 1⟩, ⟨0, 1, -1, -1⟩, ⟨1, 0, 0, 1⟩, ⟨1, 1, -1, 0⟩] := by
    unfold units
    refine ff (by refine al_f ?_; simp only [changed, value]; omega) ?_
    refine ft (by refine al_t ?_ ?_ ?_ <;> simp only [changed, value] <;> omega) ?_
    refine ff (by refine al_f ?_; simp only [changed, value]; omega) ?_
    refine ft (by refine al_t ?_ ?_ ?_ <;> simp only [changed, value] <;> omega) ?_
    refine ff (by refine al_f ?_; simp only [changed, value]; omega) ?_
    refine ff (by refine al_f ?_; simp only [changed, value]; omega) ?_
    refine ff (by refine al_f ?_; simp only [changed, value]; omega) ?_
    refine ff (by refine al_f ?_; simp only [changed, value]; omega) ?_
    refine ff (by refine al_f ?_; simp only [changed, value]; omega) ?_
    refine ft (by refine al_t ?_ ?_ ?_ <;> simp only [changed, value] <;> omega) ?_
    refine ft (by refine al_t ?_ ?_ ?_ <;> simp only [changed, value] <;> omega) ?_
    refine ff (by refine al_f ?_; simp only [changed, value]; omega) ?_
    refine ff (by refine al_f ?_; simp only [changed, value]; omega) ?_
    refine ff (by refine al_f ?_; simp only [changed, value]; omega) ?_
    refine ff (by refine al_f ?_; simp only [changed, value]; omega) ?_
    refine ff (by refine al_f ?_; simp only [changed, value]; omega) ?_
    refine ft (by refine al_t ?_ ?_ ?_ <;> simp only [changed, value] <;> omega) ?_
    refine ff (by refine al_f ?_; simp only [changed, value]; omega) ?_
    refine ft (by refine al_t ?_ ?_ ?_ <;> simp only [changed, value] <;> omega) ?_
    refine ff (by refine al_f ?_; simp only [changed, value]; omega) ?_
    rfl
  rw [e]
  rfl
theorem stills4 {f : Form} (h : Red f) (ha : 0 < f.a) (h1 : f.b = 0) (h2 : f.c = f.a) : (stills f).length = 4 := by
  obtain ⟨⟨l1, l2⟩, r1, r2⟩ := h
  rw [stills_eq]
  have e : units.filter (fun t => alike (changed f t) f) = [⟨-1, 0, 0, -1⟩, ⟨0, -1, 1, 0⟩, ⟨0, 1, -1, 0⟩, ⟨1, 0, 0, 1⟩] := by
    unfold units
    refine ff (by refine al_f ?_; simp only [changed, value]; omega) ?_
    refine ff (by refine al_f ?_; simp only [changed, value]; omega) ?_
    refine ff (by refine al_f ?_; simp only [changed, value]; omega) ?_
    refine ft (by refine al_t ?_ ?_ ?_ <;> simp only [changed, value] <;> omega) ?_
    refine ff (by refine al_f ?_; simp only [changed, value]; omega) ?_
    refine ff (by refine al_f ?_; simp only [changed, value]; omega) ?_
    refine ff (by refine al_f ?_; simp only [changed, value]; omega) ?_
    refine ff (by refine al_f ?_; simp only [changed, value]; omega) ?_
    refine ft (by refine al_t ?_ ?_ ?_ <;> simp only [changed, value] <;> omega) ?_
    refine ff (by refine al_f ?_; simp only [changed, value]; omega) ?_
    refine ff (by refine al_f ?_; simp only [changed, value]; omega) ?_
    refine ft (by refine al_t ?_ ?_ ?_ <;> simp only [changed, value] <;> omega) ?_
    refine ff (by refine al_f ?_; simp only [changed, value]; omega) ?_
    refine ff (by refine al_f ?_; simp only [changed, value]; omega) ?_
    refine ff (by refine al_f ?_; simp only [changed, value]; omega) ?_
    refine ff (by refine al_f ?_; simp only [changed, value]; omega) ?_
    refine ft (by refine al_t ?_ ?_ ?_ <;> simp only [changed, value] <;> omega) ?_
    refine ff (by refine al_f ?_; simp only [changed, value]; omega) ?_
    refine ff (by refine al_f ?_; simp only [changed, value]; omega) ?_
    refine ff (by refine al_f ?_; simp only [changed, value]; omega) ?_
    rfl
  rw [e]
  rfl
theorem stills2 {f : Form} (h : Red f) (ha : 0 < f.a) (h1 : ¬ (f.b = f.a ∧ f.c = f.a)) (h2 : ¬ (f.b = 0 ∧ f.c = f.a)) : (stills f).length = 2 := by
  obtain ⟨⟨l1, l2⟩, r1, r2⟩ := h
  rw [stills_eq]
  have e : units.filter (fun t => alike (changed f t) f) = [⟨-1, 0, 0, -1⟩, ⟨1, 0, 0, 1⟩] := by
    unfold units
    refine ff (by refine al_f ?_; simp only [changed, value]; omega) ?_
    refine ff (by refine al_f ?_; simp only [changed, value]; omega) ?_
    refine ff (by refine al_f ?_; simp only [changed, value]; omega) ?_
    refine ft (by refine al_t ?_ ?_ ?_ <;> simp only [changed, value] <;> omega) ?_
    refine ff (by refine al_f ?_; simp only [changed, value]; omega) ?_
    refine ff (by refine al_f ?_; simp only [changed, value]; omega) ?_
    refine ff (by refine al_f ?_; simp only [changed, value]; omega) ?_
    refine ff (by refine al_f ?_; simp only [changed, value]; omega) ?_
    refine ff (by refine al_f ?_; simp only [changed, value]; omega) ?_
    refine ff (by refine al_f ?_; simp only [changed, value]; omega) ?_
    refine ff (by refine al_f ?_; simp only [changed, value]; omega) ?_
    refine ff (by refine al_f ?_; simp only [changed, value]; omega) ?_
    refine ff (by refine al_f ?_; simp only [changed, value]; omega) ?_
    refine ff (by refine al_f ?_; simp only [changed, value]; omega) ?_
    refine ff (by refine al_f ?_; simp only [changed, value]; omega) ?_
    refine ff (by refine al_f ?_; simp only [changed, value]; omega) ?_
    refine ft (by refine al_t ?_ ?_ ?_ <;> simp only [changed, value] <;> omega) ?_
    refine ff (by refine al_f ?_; simp only [changed, value]; omega) ?_
    refine ff (by refine al_f ?_; simp only [changed, value]; omega) ?_
    refine ff (by refine al_f ?_; simp only [changed, value]; omega) ?_
    rfl
  rw [e]
  rfl
/-! ### by the discriminant -/
theorem red_disc {f : Form} (h : Red f) (ha : 0 < f.a) : 3 * (f.a * f.c) ≤ -disc f := by
  obtain ⟨⟨l1, l2⟩, r1, r2⟩ := h
  have h1 : f.b * f.b ≤ f.a * f.a := by
    rcases Int.le_total 0 f.b with k | k
    · exact Int.mul_le_mul l2 l2 k (by omega)
    · have := Int.mul_le_mul (a := -f.b) (b := -f.b) (c := f.a) (d := f.a) (by omega) (by omega) (by omega) (by omega)
      rwa [Int.neg_mul_neg] at this
  have h2 : f.a * f.a ≤ f.a * f.c := Int.mul_le_mul_of_nonneg_left r1 (by omega)
  have e : disc f = f.b * f.b - 4 * (f.a * f.c) := by
    unfold disc
    rw [Int.mul_assoc]
  omega
theorem red_le {f : Form} (h : Red f) (ha : 0 < f.a) : f.a ≤ f.a * f.c ∧ f.c ≤ f.a * f.c := by
  have hc : f.a ≤ f.c := h.2.1
  have h1 := Int.mul_le_mul_of_nonneg_left (show 1 ≤ f.c by omega) (show 0 ≤ f.a by omega)
  have h2 := Int.mul_le_mul_of_nonneg_right (show 1 ≤ f.a by omega) (show 0 ≤ f.c by omega)
  omega
theorem gcd_self3 {n : Nat} : Nat.gcd (Nat.gcd n n) n = n := by
  rw [Nat.gcd_self, Nat.gcd_self]
theorem plain_gcd {f : Form} (h : plain f = true) : Nat.gcd (Nat.gcd f.a.natAbs f.b.natAbs) f.c.natAbs = 1 := by
  unfold plain at h
  rw [Bool.and_eq_true, beq_iff_eq] at h
  exact h.1
theorem stills_count {f : Form} (h : Red f) (ha : 0 < f.a) (hp : Nat.gcd (Nat.gcd f.a.natAbs f.b.natAbs) f.c.natAbs = 1) : (stills f).length = if disc f = -3 then 6 else if disc f = -4 then 4 else 2 := by
  have hd := red_disc h ha
  obtain ⟨k1, k2⟩ := red_le h ha
  by_cases c1 : f.b = f.a ∧ f.c = f.a
  · rw [stills6 h ha c1.1 c1.2]
    rw [c1.1, c1.2, gcd_self3] at hp
    have : f.a = 1 := by omega
    have e : disc f = -3 := by
      unfold disc
      rw [c1.1, c1.2, this]
      rfl
    rw [if_pos e]
  by_cases c2 : f.b = 0 ∧ f.c = f.a
  · rw [stills4 h ha c2.1 c2.2]
    rw [c2.1, c2.2, Int.natAbs_zero, Nat.gcd_zero_right, Nat.gcd_self] at hp
    have : f.a = 1 := by omega
    have e : disc f = -4 := by
      unfold disc
      rw [c2.1, c2.2, this]
      rfl
    rw [if_neg (by omega), if_pos e]
  · rw [stills2 h ha c1 c2]
    have hb : f.a = 1 → f.c = 1 → disc f = f.b * f.b - 4 := fun e1 e2 => by
      unfold disc
      rw [e1, e2]
      omega
    obtain ⟨⟨l1, l2⟩, r1, r2⟩ := h
    have n3 : disc f ≠ -3 := fun e => by
      have e1 : f.a = 1 := by omega
      have e2 : f.c = 1 := by omega
      have h3 := hb e1 e2
      have h4 := r2 (by omega)
      have h5 : f.b = 0 ∨ f.b = 1 := by omega
      rcases h5 with h5 | h5
      · rw [h5] at h3
        omega
      · exact c1 ⟨by omega, by omega⟩
    have n4 : disc f ≠ -4 := fun e => by
      have e1 : f.a = 1 := by omega
      have e2 : f.c = 1 := by omega
      have h3 := hb e1 e2
      have h4 := r2 (by omega)
      have h5 : f.b = 0 ∨ f.b = 1 := by omega
      rcases h5 with h5 | h5
      · exact c2 ⟨h5, by omega⟩
      · rw [h5] at h3
        omega
    rw [if_neg n3, if_neg n4]
/-- symmetries, as the specification tells them -/
theorem sym_count {f : Form} (hp : plain f = true) (hd : disc f < 0) : (stills (down (if above f then f else negated f)).1).length = if disc f = -3 then 6 else if disc f = -4 then 4 else 2 := by
  have key : ∀ g : Form, disc g = disc f → content g = 1 → 0 < g.a → (stills (down g).1).length = if disc f = -3 then 6 else if disc f = -4 then 4 else 2 := fun g h1 h2 h3 => by
    obtain ⟨r1, r2, _, r4, r5⟩ := down_spec (f := g) (by omega) h3
    have e1 : disc (down g).1 = disc f := by rw [← r5, disc_changed r4, h1]
    have e2 : content (down g).1 = 1 := by rw [← r5, content_changed r4, h2]
    rw [stills_count r1 r2 e2, e1]
  have hc := (plain_iff.mp hp).1
  have ha := a_ne hd
  by_cases h : 0 < f.a
  · have : above f = true := by
      unfold above
      simp [hd, h]
    rw [this]
    exact key f rfl hc h
  · have : above f = false := by
      unfold above
      simp [h]
    rw [this]
    refine key (negated f) (disc_negated f) (by rw [content_negated, hc]) ?_
    show 0 < -f.a
    omega
end Fk

/-! Forms above 0 of discriminant: reduced ones, their circle. -/
namespace Fk
open Fc
/-! ### roots -/
/-- w is the whole root of d, which is no square -/
structure Rt (d w : Int) : Prop where
  w0 : 0 ≤ w
  lo : w * w < d
  hi : d < (w + 1) * (w + 1)
theorem lt_sq {x y : Int} (hy : 0 ≤ y) (h : x * x < y * y) : x < y := by
  by_cases c : x < y
  · exact c
  · exfalso
    have := Int.mul_le_mul (a := y) (b := y) (c := x) (d := x) (by omega) (by omega) hy (by omega)
    omega
theorem sq_le {x y : Int} (hx : 0 ≤ x) (h : x ≤ y) : x * x ≤ y * y := Int.mul_le_mul h h hx (by omega)
theorem Rt.le {d w x : Int} (h : Rt d w) (hx : 0 ≤ x) : x ≤ w ↔ x * x < d := by
  constructor
  · intro k
    have := sq_le hx k
    have := h.lo
    omega
  · intro k
    have := lt_sq (x := x) (y := w + 1) (by have := h.w0; omega) (by have := h.hi; omega)
    omega
theorem Rt.gt {d w x : Int} (h : Rt d w) (hx : 0 ≤ x) (hn : ∀ r : Int, r * r ≠ d) : w < x ↔ d < x * x := by
  have h1 := h.le hx
  have h2 := hn x
  omega
theorem rt_of {d : Int} (h0 : 0 < d) (hd : d < 2 ^ 58) (hn : ∀ r : Int, r * r ≠ d) : Rt d (rootOf d.toNat : Int) := by
  have hr := rootOf_root (n := d.toNat) (Nat.lt_of_lt_of_le (show d.toNat < 2 ^ 58 by omega) (Nat.pow_le_pow_right (by decide) (by decide)))
  generalize rootOf d.toNat = r at hr
  obtain ⟨h1, h2⟩ := hr
  have e1 : ((r * r : Nat) : Int) = (r : Int) * (r : Int) := Int.natCast_mul _ _
  have e2 : (((r + 1) * (r + 1) : Nat) : Int) = ((r : Int) + 1) * ((r : Int) + 1) := by
    rw [Int.natCast_mul]
    rfl
  have e3 := hn (r : Int)
  refine ⟨by omega, ?_, ?_⟩
  · have : ((r * r : Nat) : Int) ≤ d := by omega
    omega
  · have : d < (((r + 1) * (r + 1) : Nat) : Int) := by omega
    omega
theorem c_ne {f : Form} (hn : ∀ r : Int, r * r ≠ disc f) : f.c ≠ 0 := fun e => by
  refine hn f.b ?_
  unfold disc
  rw [e]
  omega
theorem a_ne' {f : Form} (hn : ∀ r : Int, r * r ≠ disc f) : f.a ≠ 0 := fun e => by
  refine hn f.b ?_
  unfold disc
  rw [e]
  omega

/-! ### the next form -/
/-- its middle -/
def nb (w : Int) (f : Form) : Int := let m := 2 * (f.c.natAbs : Int)
  if w < (f.c.natAbs : Int) then (let r := (-f.b) % m
    if (f.c.natAbs : Int) < r then r - m else r) else w - (w + f.b) % m
theorem next_nb (w d : Int) (f : Form) : next w d f = ⟨f.c, nb w f, (nb w f * nb w f - d) / (4 * f.c)⟩ := rfl
/-- the program's middle -/
theorem nb_prog {w : Int} {f : Form} (hc : f.c ≠ 0) : nb w f = (if (f.c.natAbs : Int) > w then (f.c.natAbs : Int) else w) - ((if (f.c.natAbs : Int) > w then (f.c.natAbs : Int) else w) + f.b) % (2 * (f.c.natAbs : Int)) := by
  unfold nb
  dsimp only
  by_cases h : w < (f.c.natAbs : Int)
  · rw [if_pos h, if_pos h]
    generalize hC : (f.c.natAbs : Int) = C at *
    have hC0 : 0 < C := by omega
    have a1 := Int.emod_add_mul_ediv (-f.b) (2 * C)
    have a2 := Int.emod_nonneg (-f.b) (show 2 * C ≠ 0 by omega)
    have a3 := Int.emod_lt_of_pos (-f.b) (show 0 < 2 * C by omega)
    have b1 := Int.emod_add_mul_ediv (C + f.b) (2 * C)
    have b2 := Int.emod_nonneg (C + f.b) (show 2 * C ≠ 0 by omega)
    have b3 := Int.emod_lt_of_pos (C + f.b) (show 0 < 2 * C by omega)
    generalize (-f.b) % (2 * C) = r at *
    generalize (C + f.b) % (2 * C) = s at *
    generalize (-f.b) / (2 * C) = q at *
    generalize (C + f.b) / (2 * C) = p at *
    -- r + s = C (1 - 2 (p + q)), 0 ≤ r + s < 4 C
    have e : r + s = C - 2 * C * (p + q) := by grind
    have hq : p + q = 0 ∨ p + q = -1 := by
      by_cases c1 : p + q ≥ 1
      · exfalso
        have := Int.mul_le_mul_of_nonneg_left c1 (show 0 ≤ 2 * C by omega)
        omega
      · by_cases c2 : p + q ≤ -2
        · exfalso
          have := Int.mul_le_mul_of_nonneg_left c2 (show 0 ≤ 2 * C by omega)
          omega
        · omega
    rcases hq with hq | hq
    · rw [hq] at e
      rw [if_neg (by omega)]
      omega
    · rw [hq] at e
      by_cases c : C < r
      · rw [if_pos c]
        omega
      · rw [if_neg c]
        omega
  · rw [if_neg h, if_neg h]
/-- it is the form changed -/
theorem nb_cong {w : Int} {f : Form} (hc : f.c ≠ 0) : ∃ k, nb w f = -f.b + 2 * f.c * k := by
  rw [nb_prog hc]
  generalize (if (f.c.natAbs : Int) > w then (f.c.natAbs : Int) else w) = M
  have b1 := Int.emod_add_mul_ediv (M + f.b) (2 * (f.c.natAbs : Int))
  generalize (M + f.b) % (2 * (f.c.natAbs : Int)) = s at *
  generalize (M + f.b) / (2 * (f.c.natAbs : Int)) = p at *
  rcases Int.natAbs_eq f.c with h | h
  · refine ⟨p, ?_⟩
    rw [← h] at b1
    grind
  · refine ⟨-p, ?_⟩
    have : (f.c.natAbs : Int) = -f.c := by omega
    rw [this] at b1
    grind
def nextCh (k : Int) : Change := ⟨0, -1, 1, k⟩
theorem isCh_next (k : Int) : IsCh (nextCh k) := by
  show 0 * k - (-1) * 1 = 1
  omega
theorem changed_next (f : Form) (k : Int) : changed f (nextCh k) = ⟨f.c, -f.b + 2 * f.c * k, f.a - f.b * k + f.c * k * k⟩ := by
  apply form_ext <;> simp only [changed, value, nextCh] <;> grind
theorem div_exact {b c d q : Int} (hc : c ≠ 0) (h : b * b - d = 4 * c * q) : (b * b - d) / (4 * c) = q := by
  rw [h]
  exact Int.mul_ediv_cancel_left q (by omega)
theorem fdiv_exact {b c d q : Int} (hc : c ≠ 0) (h : b * b - d = 4 * c * q) : (b * b - d).fdiv (4 * c) = q := by
  rw [h]
  exact Int.mul_fdiv_cancel_left q (by omega)
theorem next_changed {w : Int} {f : Form} (hc : f.c ≠ 0) : ∃ k, next w (disc f) f = changed f (nextCh k) := by
  obtain ⟨k, hk⟩ := nb_cong (w := w) hc
  refine ⟨k, ?_⟩
  rw [next_nb, changed_next, hk, div_exact (q := f.a - f.b * k + f.c * k * k) hc]
  unfold disc
  grind
theorem next_div {w : Int} {f : Form} (hc : f.c ≠ 0) : nb w f * nb w f - disc f = 4 * f.c * (next w (disc f) f).c := by
  obtain ⟨k, hk⟩ := nb_cong (w := w) hc
  obtain ⟨k', hk'⟩ := next_changed (w := w) hc
  have : nb w f * nb w f - disc f = 4 * f.c * (f.a - f.b * k + f.c * k * k) := by
    rw [hk]
    unfold disc
    grind
  rw [next_nb]
  dsimp only
  rw [this, Int.mul_ediv_cancel_left _ (by omega)]
theorem disc_next {w : Int} {f : Form} (hc : f.c ≠ 0) : disc (next w (disc f) f) = disc f := by
  obtain ⟨k, hk⟩ := next_changed (w := w) hc
  rw [hk, disc_changed (isCh_next k)]
theorem nb_big {w : Int} {f : Form} (hc : f.c ≠ 0) (h : w < (f.c.natAbs : Int)) : -(f.c.natAbs : Int) < nb w f ∧ nb w f ≤ (f.c.natAbs : Int) := by
  rw [nb_prog hc, if_pos h]
  have b2 := Int.emod_nonneg ((f.c.natAbs : Int) + f.b) (show 2 * (f.c.natAbs : Int) ≠ 0 by omega)
  have b3 := Int.emod_lt_of_pos ((f.c.natAbs : Int) + f.b) (show 0 < 2 * (f.c.natAbs : Int) by omega)
  omega
theorem nb_small {w : Int} {f : Form} (hc : f.c ≠ 0) (h : ¬ w < (f.c.natAbs : Int)) : w - 2 * (f.c.natAbs : Int) < nb w f ∧ nb w f ≤ w := by
  rw [nb_prog hc, if_neg h]
  have b2 := Int.emod_nonneg (w + f.b) (show 2 * (f.c.natAbs : Int) ≠ 0 by omega)
  have b3 := Int.emod_lt_of_pos (w + f.b) (show 0 < 2 * (f.c.natAbs : Int) by omega)
  omega
/-- of a class of numbers the greatest below w is one -/
theorem nb_max {w : Int} {f : Form} (hc : f.c ≠ 0) (h : ¬ w < (f.c.natAbs : Int)) {x : Int} (hx : x ≤ w) (hk : ∃ k, x = -f.b + 2 * f.c * k) : x ≤ nb w f := by
  obtain ⟨k, rfl⟩ := hk
  obtain ⟨j, hj⟩ := nb_cong (w := w) hc
  have h1 := (nb_small hc h).1
  by_cases c : -f.b + 2 * f.c * k ≤ nb w f
  · exact c
  · exfalso
    have h2 : 0 < 2 * f.c * (k - j) ∧ 2 * f.c * (k - j) < 2 * (f.c.natAbs : Int) := by
      have : 2 * f.c * (k - j) = 2 * f.c * k - 2 * f.c * j := by grind
      omega
    have h3 : 2 * f.c * (k - j) = 2 * (f.c * (k - j)) := by grind
    have h4 := Int.natAbs_mul f.c (k - j)
    have h5 : (k - j).natAbs ≠ 0 := fun e => by
      have : k - j = 0 := by omega
      rw [this] at h2
      omega
    have h6 : f.c.natAbs * 1 ≤ f.c.natAbs * (k - j).natAbs := Nat.mul_le_mul_left _ (by omega)
    omega

/-! ### reduced -/
structure RedI (w : Int) (f : Form) : Prop where
  b0 : 0 < f.b
  bw : f.b ≤ w
  lo : w < f.b + 2 * (f.a.natAbs : Int)
  hi : 2 * (f.a.natAbs : Int) ≤ w + f.b
theorem reduced_iff {w : Int} {f : Form} : reduced w f = true ↔ RedI w f := by
  unfold reduced
  simp only [Bool.and_eq_true, decide_eq_true_eq]
  exact ⟨fun ⟨h1, h2, h3, h4⟩ => ⟨h1, h2, h3, h4⟩, fun h => ⟨h.b0, h.bw, h.lo, h.hi⟩⟩
theorem abs_mul_neg {a c : Int} (h : a * c < 0) : ((a.natAbs * c.natAbs : Nat) : Int) = -(a * c) := by
  have := Int.natAbs_mul a c
  omega
theorem red_neg {w d : Int} {f : Form} (R : Rt d w) (hd : disc f = d) (h : RedI w f) : f.a * f.c < 0 ∧ d = f.b * f.b + 4 * ((f.a.natAbs : Int) * (f.c.natAbs : Int)) := by
  have h1 := (R.le (by have := h.b0; omega)).mp h.bw
  have e : disc f = f.b * f.b - 4 * (f.a * f.c) := by
    unfold disc
    rw [Int.mul_assoc]
  have h2 : f.a * f.c < 0 := by omega
  refine ⟨h2, ?_⟩
  have h3 := abs_mul_neg h2
  rw [Int.natCast_mul] at h3
  omega
/-- the same of the last coefficient -/
theorem red_sym {w d : Int} {f : Form} (R : Rt d w) (hn : ∀ r : Int, r * r ≠ d) (hd : disc f = d) (h : RedI w f) : w < f.b + 2 * (f.c.natAbs : Int) ∧ 2 * (f.c.natAbs : Int) ≤ w + f.b := by
  obtain ⟨h1, h2⟩ := red_neg R hd h
  have b0 := h.b0
  have g1 := (R.gt (x := f.b + 2 * (f.a.natAbs : Int)) (by omega) hn).mp h.lo
  have ha : 0 < (f.a.natAbs : Int) := by
    rcases Nat.eq_zero_or_pos f.a.natAbs with e | e
    · have : f.a = 0 := by omega
      rw [this] at h1
      omega
    · omega
  have hc : 0 < (f.c.natAbs : Int) := by
    rcases Nat.eq_zero_or_pos f.c.natAbs with e | e
    · have : f.c = 0 := by omega
      rw [this] at h1
      omega
    · omega
  have hhi := h.hi
  generalize (f.a.natAbs : Int) = A at *
  generalize (f.c.natAbs : Int) = C at *
  generalize f.b = b at *
  -- C < A + b
  have k1 : C < A + b := by
    have e : (b + 2 * A) * (b + 2 * A) = b * b + 4 * (A * (A + b)) := by grind
    have : A * C < A * (A + b) := by omega
    exact Int.lt_of_mul_lt_mul_left this (by omega)
  -- A < C + b
  have k2 : A < C + b := by
    by_cases c : 2 * A ≤ b
    · omega
    · have g2 := (R.le (x := 2 * A - b) (by omega)).mp (by omega)
      have e : (2 * A - b) * (2 * A - b) = b * b + 4 * (A * (A - b)) := by grind
      have : A * (A - b) < A * C := by omega
      have := Int.lt_of_mul_lt_mul_left this (by omega)
      omega
  constructor
  · refine (R.gt (x := b + 2 * C) (by omega) hn).mpr ?_
    have e : (b + 2 * C) * (b + 2 * C) = b * b + 4 * (C * (C + b)) := by grind
    have := Int.mul_lt_mul_of_pos_left k2 hc
    have e2 : C * A = A * C := Int.mul_comm _ _
    omega
  · by_cases c : 2 * C ≤ b
    · have := R.w0
      omega
    · have : 2 * C - b ≤ w := by
        refine (R.le (by omega)).mpr ?_
        have e : (2 * C - b) * (2 * C - b) = b * b + 4 * (C * (C - b)) := by grind
        have := Int.mul_lt_mul_of_pos_left (show C - b < A by omega) hc
        have e2 : C * A = A * C := Int.mul_comm _ _
        omega
      omega
theorem red_c {w d : Int} {f : Form} (R : Rt d w) (hn : ∀ r : Int, r * r ≠ d) (hd : disc f = d) (h : RedI w f) : ¬ w < (f.c.natAbs : Int) := by
  have := red_sym R hn hd h
  have := h.bw
  omega
/-- the next one of a reduced one is reduced -/
theorem red_next {w d : Int} {f : Form} (R : Rt d w) (hn : ∀ r : Int, r * r ≠ d) (hd : disc f = d) (h : RedI w f) : RedI w (next w d f) := by
  have hc : f.c ≠ 0 := c_ne (by rw [hd]; exact hn)
  have hs := red_sym R hn hd h
  have hw := red_c R hn hd h
  have hb := nb_small hc hw
  have hm := nb_max hc hw (x := 2 * (f.c.natAbs : Int) - f.b) (by omega) (by
    rcases Int.natAbs_eq f.c with e | e
    · exact ⟨1, by omega⟩
    · exact ⟨-1, by omega⟩)
  have hbw := h.bw
  rw [next_nb]
  exact ⟨by show 0 < nb w f; omega, hb.2, by show w < nb w f + 2 * (f.c.natAbs : Int); omega, by show 2 * (f.c.natAbs : Int) ≤ w + nb w f; omega⟩
/-- and tells the one before -/
theorem next_inj {w d : Int} {f g : Form} (R : Rt d w) (hn : ∀ r : Int, r * r ≠ d) (hf : disc f = d) (hg : disc g = d) (rf : RedI w f) (rg : RedI w g) (h : next w d f = next w d g) : f = g := by
  have hc : f.c ≠ 0 := c_ne (by rw [hf]; exact hn)
  have hcg : g.c ≠ 0 := c_ne (by rw [hg]; exact hn)
  have e1 : f.c = g.c := congrArg Form.a h
  have e2 : nb w f = nb w g := congrArg Form.b h
  have s1 := red_sym R hn hf rf
  have s2 := red_sym R hn hg rg
  obtain ⟨k, hk⟩ := nb_cong (w := w) hc
  obtain ⟨j, hj⟩ := nb_cong (w := w) hcg
  have b1 := rf.bw
  have b2 := rg.bw
  have e3 : f.b = g.b := by
    rw [← e1] at hj s2
    have h2 : f.b - g.b = 2 * (f.c * (k - j)) := by grind
    have h4 := Int.natAbs_mul f.c (k - j)
    by_cases c : k - j = 0
    · rw [c] at h2
      omega
    · exfalso
      have h6 : f.c.natAbs * 1 ≤ f.c.natAbs * (k - j).natAbs := Nat.mul_le_mul_left _ (by omega)
      omega
  have e4 : f.a = g.a := by
    have h1 : disc f = disc g := by rw [hf, hg]
    unfold disc at h1
    rw [e1, e3] at h1
    have : f.a * (4 * g.c) = g.a * (4 * g.c) := by grind
    exact Int.eq_of_mul_eq_mul_right (by omega) this
  exact form_ext e4 e3 e1

/-! ### the way in -/
/-- where the last coefficient is small, two steps are enough -/
theorem near_red {w d : Int} {f : Form} (R : Rt d w) (hn : ∀ r : Int, r * r ≠ d) (hd : disc f = d) (hc : ¬ w < (f.c.natAbs : Int)) : RedI w (next w d f) ∨ 2 * ((next w d f).c.natAbs : Int) ≤ w := by
  have hc0 : f.c ≠ 0 := c_ne (by rw [hd]; exact hn)
  have hb := nb_small hc0 hc
  have hdv := next_div (w := w) hc0
  rw [hd] at hdv
  by_cases h : 0 < nb w f ∧ 2 * (f.c.natAbs : Int) ≤ w + nb w f
  · left
    rw [next_nb]
    exact ⟨h.1, hb.2, by show w < nb w f + 2 * (f.c.natAbs : Int); omega, h.2⟩
  · right
    have h1 : w + (nb w f).natAbs + 1 ≤ 2 * (f.c.natAbs : Int) := by omega
    have hbd : (nb w f).natAbs ≤ w := by omega
    have hlt := (R.le (x := ((nb w f).natAbs : Int)) (by omega)).mp hbd
    have hsq : ((nb w f).natAbs : Int) * ((nb w f).natAbs : Int) = nb w f * nb w f := by
      rcases Int.natAbs_eq (nb w f) with e | e
      · rw [← e]
      · have : ((nb w f).natAbs : Int) = - nb w f := by omega
        rw [this, Int.neg_mul_neg]
    have hneg : f.c * (next w d f).c < 0 := by
      have : 4 * f.c * (next w d f).c = 4 * (f.c * (next w d f).c) := by grind
      omega
    have habs := abs_mul_neg hneg
    rw [Int.natCast_mul] at habs
    have hhi := R.hi
    generalize (f.c.natAbs : Int) = C at *
    generalize ((next w d f).c.natAbs : Int) = C' at *
    have hB : 0 ≤ ((nb w f).natAbs : Int) := by omega
    generalize ((nb w f).natAbs : Int) = B at *
    -- 4 C C' = d - B^2 < (w + 1 - B)(w + 1 + B) <= (w + 1 - B) 2 C
    have h2 : 4 * (C * C') = d - B * B := by
      have : 4 * f.c * (next w d f).c = 4 * (f.c * (next w d f).c) := by grind
      omega
    have h3 : (w + 1) * (w + 1) - B * B = (w + 1 - B) * (w + 1 + B) := by grind
    have h4 : (w + 1 - B) * (w + 1 + B) ≤ (w + 1 - B) * (2 * C) := Int.mul_le_mul_of_nonneg_left (by omega) (by omega)
    have h5 : (w + 1 - B) * (2 * C) = C * (2 * (w + 1 - B)) := by grind
    have h6 : C * (4 * C') < C * (2 * (w + 1 - B)) := by
      have : C * (4 * C') = 4 * (C * C') := by grind
      omega
    have hC0 : 0 ≤ C := by have := R.w0; omega
    have h7 : 4 * C' < 2 * (w + 1 - B) := Int.lt_of_mul_lt_mul_left h6 hC0
    have hB0 : 0 ≤ B := hB
    omega
theorem half_red {w d : Int} {f : Form} (R : Rt d w) (hn : ∀ r : Int, r * r ≠ d) (hd : disc f = d) (hc : 2 * (f.c.natAbs : Int) ≤ w) : RedI w (next w d f) := by
  have hc0 : f.c ≠ 0 := c_ne (by rw [hd]; exact hn)
  have hb := nb_small hc0 (w := w) (by omega)
  rw [next_nb]
  exact ⟨by show 0 < nb w f; omega, hb.2, by show w < nb w f + 2 * (f.c.natAbs : Int); omega, by show 2 * (f.c.natAbs : Int) ≤ w + nb w f; omega⟩
/-- where it is great, it falls -/
theorem far_next {w d : Int} {f : Form} (R : Rt d w) (hn : ∀ r : Int, r * r ≠ d) (hd : disc f = d) (hc : w < (f.c.natAbs : Int)) : 4 * ((next w d f).c.natAbs : Int) ≤ (f.c.natAbs : Int) := by
  have hc0 : f.c ≠ 0 := c_ne (by rw [hd]; exact hn)
  have hb := nb_big hc0 hc
  have hdv := next_div (w := w) hc0
  rw [hd] at hdv
  have hhi := R.hi
  have hw0 := R.w0
  have h1 : (w + 1) * (w + 1) ≤ (f.c.natAbs : Int) * (f.c.natAbs : Int) := sq_le (by omega) (by omega)
  have h2 : 0 ≤ nb w f * nb w f := sq_nonneg _
  have h3 : nb w f * nb w f ≤ (f.c.natAbs : Int) * (f.c.natAbs : Int) := by
    have e : nb w f * nb w f = ((nb w f).natAbs : Int) * ((nb w f).natAbs : Int) := by
      rcases Int.natAbs_eq (nb w f) with e | e
      · rw [← e]
      · have : ((nb w f).natAbs : Int) = - nb w f := by omega
        rw [this, Int.neg_mul_neg]
    rw [e]
    exact sq_le (by omega) (by omega)
  have h4 : (4 * f.c * (next w d f).c).natAbs ≤ f.c.natAbs * f.c.natAbs := by
    have : ((f.c.natAbs * f.c.natAbs : Nat) : Int) = (f.c.natAbs : Int) * (f.c.natAbs : Int) := Int.natCast_mul _ _
    have := R.lo
    have := sq_nonneg w
    omega
  have h5 : (4 * f.c * (next w d f).c).natAbs = f.c.natAbs * (4 * (next w d f).c.natAbs) := by
    rw [Int.natAbs_mul, Int.natAbs_mul]
    grind
  rw [h5] at h4
  have := Nat.le_of_mul_le_mul_left h4 (by omega)
  omega
theorem into_stop {w d : Int} {f : Form} (h : RedI w f) : ∀ n, into w d n f = f
  | 0 => rfl
  | n + 1 => if_pos (reduced_iff.mpr h)
theorem into_go {w d : Int} {f : Form} (h : ¬ RedI w f) (n : Nat) : into w d (n + 1) f = into w d n (next w d f) := if_neg (fun e => h (reduced_iff.mp e))
theorem disc_next' {w d : Int} {f : Form} (hn : ∀ r : Int, r * r ≠ d) (hd : disc f = d) : disc (next w d f) = d := by
  have := disc_next (w := w) (f := f) (c_ne (by rw [hd]; exact hn))
  rw [hd] at this
  exact this
theorem into_red {w d : Int} (R : Rt d w) (hn : ∀ r : Int, r * r ≠ d) : ∀ (n : Nat) (f : Form), disc f = d → f.c.natAbs < 2 ^ n → ∀ m, n + 3 ≤ m → RedI w (into w d m f)
  | n, f, hd, hc, m, hm => by
    by_cases h0 : RedI w f
    · rw [into_stop h0]
      exact h0
    obtain ⟨m, rfl⟩ : ∃ k, m = k + 1 := ⟨m - 1, by omega⟩
    rw [into_go h0]
    have hd1 := disc_next' (w := w) hn hd
    by_cases hw : w < (f.c.natAbs : Int)
    · match n with
      | 0 =>
        have := R.w0
        omega
      | n + 1 =>
        have := far_next R hn hd hw
        have e : 2 ^ (n + 1) = 2 * 2 ^ n := by rw [Nat.pow_succ, Nat.mul_comm]
        exact into_red R hn n _ hd1 (by omega) m (by omega)
    · rcases near_red R hn hd hw with h1 | h1
      · rw [into_stop h1]
        exact h1
      · obtain ⟨m, rfl⟩ : ∃ k, m = k + 1 := ⟨m - 1, by omega⟩
        by_cases h2 : RedI w (next w d f)
        · rw [into_stop h2]
          exact h2
        · rw [into_go h2]
          have h3 := half_red R hn hd1 h1
          rw [into_stop h3]
          exact h3
theorem into_disc {w d : Int} (hn : ∀ r : Int, r * r ≠ d) : ∀ (n : Nat) (f : Form), disc f = d → disc (into w d n f) = d
  | 0, _, h => h
  | n + 1, f, h => by
    by_cases h0 : RedI w f
    · rw [into_stop h0]
      exact h
    · rw [into_go h0]
      exact into_disc hn n _ (disc_next' hn h)
end Fk

/-! The circle of reduced forms closes, within the specification's steps. -/
namespace Fk
open Fc
/-! ### pigeons -/
theorem pigeon : ∀ (n : Nat) (h : Nat → Nat), (∀ i, i ≤ n → h i < n) → ∃ i j, i < j ∧ j ≤ n ∧ h i = h j
  | 0, h, k => absurd (k 0 (Nat.le_refl 0)) (Nat.not_lt_zero _)
  | n + 1, h, k => by
    by_cases c : ∃ i, i ≤ n ∧ h i = h (n + 1)
    · obtain ⟨i, hi, e⟩ := c
      exact ⟨i, n + 1, by omega, Nat.le_refl _, e⟩
    · have c' : ∀ i, i ≤ n → h i ≠ h (n + 1) := fun i hi e => c ⟨i, hi, e⟩
      obtain ⟨i, j, h1, h2, h3⟩ := pigeon n (fun i => if h i < h (n + 1) then h i else h i - 1) (fun i hi => by
        have h1 := k i (by omega)
        have h2 := c' i hi
        have h4 := k (n + 1) (Nat.le_refl _)
        split <;> omega)
      refine ⟨i, j, h1, by omega, ?_⟩
      have e1 := c' i (by omega)
      have e2 := c' j h2
      split at h3 <;> split at h3 <;> omega
theorem least_pos {P : Nat → Prop} (hd : ∀ n, P n ∨ ¬ P n) : ∀ n, 1 ≤ n → P n → ∃ p, 1 ≤ p ∧ p ≤ n ∧ P p ∧ ∀ j, 1 ≤ j → j < p → ¬ P j
  | n, h1, hp => by
    by_cases c : ∃ j, 1 ≤ j ∧ j < n ∧ P j
    · obtain ⟨j, a, b, e⟩ := c
      obtain ⟨p, p1, p2, p3, p4⟩ := least_pos hd j a e
      exact ⟨p, p1, by omega, p3, p4⟩
    · exact ⟨n, h1, Nat.le_refl _, hp, fun j a b e => c ⟨j, a, b, e⟩⟩
termination_by n => n

/-! ### steps -/
def itn (w d : Int) : Nat → Form → Form
  | 0, f => f
  | n + 1, f => next w d (itn w d n f)
theorem itn_add {w d : Int} (f : Form) (m : Nat) : ∀ n, itn w d (m + n) f = itn w d n (itn w d m f)
  | 0 => rfl
  | n + 1 => by
    show next w d (itn w d (m + n) f) = next w d (itn w d n (itn w d m f))
    rw [itn_add f m n]
section
variable {w d : Int} {f : Form}
theorem itn_red (R : Rt d w) (hn : ∀ r : Int, r * r ≠ d) (hd : disc f = d) (h : RedI w f) : ∀ n, disc (itn w d n f) = d ∧ RedI w (itn w d n f)
  | 0 => ⟨hd, h⟩
  | n + 1 => by
    obtain ⟨h1, h2⟩ := itn_red R hn hd h n
    exact ⟨disc_next' hn h1, red_next R hn h1 h2⟩
theorem itn_cancel (R : Rt d w) (hn : ∀ r : Int, r * r ≠ d) (hd : disc f = d) (h : RedI w f) : ∀ i k, itn w d i f = itn w d (i + k) f → itn w d k f = f
  | 0, k, e => by
    rw [Nat.zero_add] at e
    exact e.symm
  | i + 1, k, e => by
    refine itn_cancel R hn hd h i k ?_
    have e' : next w d (itn w d i f) = next w d (itn w d (i + k) f) := by
      rw [show i + 1 + k = (i + k) + 1 by omega] at e
      exact e
    have a := itn_red R hn hd h i
    have b := itn_red R hn hd h (i + k)
    exact next_inj R hn a.1 b.1 a.2 b.2 e'
end
/-! ### a number for each reduced form -/
def pre (b : Int) : Int := if b % 2 = 1 then (b / 2) * (b / 2) else (b / 2 - 1) * (b / 2)
def off (w : Int) (f : Form) : Int := (f.a.natAbs : Int) - (w - f.b) / 2 - 1
def sg (f : Form) : Nat := if 0 < f.a then 1 else 0
theorem sg_le (f : Form) : sg f ≤ 1 := by
  unfold sg
  split <;> omega
theorem sg_iff {f g : Form} (h : sg f = sg g) : (0 < f.a ↔ 0 < g.a) := by
  unfold sg at h
  split at h <;> split at h <;> omega
/-- the numbers of one middle stand behind those of the lesser ones -/
def code (w : Int) (f : Form) : Nat := 2 * (pre f.b + off w f).toNat + sg f
theorem par_b {f : Form} {d : Int} (hd : disc f = d) : f.b % 2 = d % 2 := by
  have e : disc f = f.b * f.b - 4 * (f.a * f.c) := by
    unfold disc
    rw [Int.mul_assoc]
  have h : (f.b * f.b) % 2 = f.b % 2 := by
    rcases Int.emod_two_eq f.b with h | h
    · rw [Int.mul_emod, h]
      rfl
    · rw [Int.mul_emod, h]
      rfl
  omega
theorem w_le {w d : Int} (R : Rt d w) (hd : d ≤ 20000) : w ≤ 141 := by
  by_cases c : w ≤ 141
  · exact c
  · exfalso
    have := sq_le (x := 142) (y := w) (by omega) (by omega)
    have := R.lo
    omega
/-- the place within one middle -/
theorem off_lt {w : Int} {f : Form} (h : RedI w f) : 0 ≤ off w f ∧ off w f < f.b := by
  have h1 := h.lo
  have h2 := h.hi
  unfold off
  omega
theorem pre_nn {b : Int} (h0 : 0 < b) : 0 ≤ pre b := by
  unfold pre
  split
  · exact sq_nonneg _
  · exact Int.mul_nonneg (by omega) (by omega)
theorem pre_step {b c : Int} (h0 : 0 < b) (h1 : b < c) (h2 : b % 2 = c % 2) : pre b + b ≤ pre c := by
  unfold pre
  have hbc : b / 2 + 1 ≤ c / 2 := by omega
  by_cases ho : b % 2 = 1
  · rw [if_pos ho, if_pos (by omega)]
    have := sq_le (x := b / 2 + 1) (y := c / 2) (by omega) hbc
    have e : (b / 2 + 1) * (b / 2 + 1) = (b / 2) * (b / 2) + 2 * (b / 2) + 1 := by grind
    omega
  · rw [if_neg ho, if_neg (by omega)]
    have := Int.mul_le_mul (a := b / 2) (b := b / 2 + 1) (c := c / 2 - 1) (d := c / 2) (by omega) hbc (by omega) (by omega)
    have e : (b / 2) * (b / 2 + 1) = (b / 2 - 1) * (b / 2) + 2 * (b / 2) := by grind
    omega
theorem code_lt {w d : Int} {f : Form} (R : Rt d w) (hd : disc f = d) (h20 : d ≤ 20000) (h : RedI w f) : code w f < 9941 := by
  have hw := w_le R h20
  have ho := off_lt h
  have hb := h.b0
  have hbw := h.bw
  have hs := sg_le f
  have hq : pre f.b + off w f < 4970 := by
    by_cases hodd : f.b % 2 = 1
    · have ep : pre f.b = (f.b / 2) * (f.b / 2) := if_pos hodd
      by_cases h70 : f.b / 2 ≤ 69
      · have := sq_le (x := f.b / 2) (y := 69) (by omega) h70
        omega
      · have e70 : f.b / 2 = 70 := by omega
        have eb : f.b = 141 := by omega
        have ew : w = 141 := by omega
        obtain ⟨g1, g2⟩ := red_neg R hd h
        rw [eb] at g2
        have hc : 0 < (f.c.natAbs : Int) := by
          rcases Nat.eq_zero_or_pos f.c.natAbs with e | e
          · have : f.c = 0 := by omega
            rw [this] at g1
            omega
          · omega
        have h1 : (f.a.natAbs : Int) * 1 ≤ (f.a.natAbs : Int) * (f.c.natAbs : Int) := Int.mul_le_mul_of_nonneg_left (by omega) (by omega)
        rw [e70] at ep
        unfold off
        omega
    · have ep : pre f.b = (f.b / 2 - 1) * (f.b / 2) := if_neg hodd
      have h70 : f.b / 2 ≤ 70 := by omega
      have := Int.mul_le_mul (a := f.b / 2 - 1) (b := f.b / 2) (c := 69) (d := 70) (by omega) (by omega) (by omega) (by omega)
      omega
  unfold code
  omega
theorem code_inj {w d : Int} {f g : Form} (hn : ∀ r : Int, r * r ≠ d) (hf : disc f = d) (hg : disc g = d) (rf : RedI w f) (rg : RedI w g) (e : code w f = code w g) : f = g := by
  have of := off_lt rf
  have og := off_lt rg
  have bf := rf.b0
  have bg := rg.b0
  have pf := par_b hf
  have pg := par_b hg
  have nf := pre_nn bf
  have ng := pre_nn bg
  have s1 := sg_le f
  have s2 := sg_le g
  unfold code at e
  have e1 := sg_iff (f := f) (g := g) (by omega)
  have e2 : pre f.b + off w f = pre g.b + off w g := by omega
  have eb : f.b = g.b := by
    rcases Int.lt_trichotomy f.b g.b with h | h | h
    · have := pre_step bf h (by omega)
      omega
    · exact h
    · have := pre_step bg h (by omega)
      omega
  have ea : f.a = g.a := by
    unfold off at e2
    rw [eb] at e2
    have h1 : (f.a.natAbs : Int) = (g.a.natAbs : Int) := by omega
    omega
  have ha : g.a ≠ 0 := a_ne' (by rw [hg]; exact hn)
  have ec : f.c = g.c := by
    have h1 : disc f = disc g := by rw [hf, hg]
    unfold disc at h1
    rw [eb, ea] at h1
    have : (4 * g.a) * f.c = (4 * g.a) * g.c := by omega
    exact Int.eq_of_mul_eq_mul_left (by omega) this
  exact form_ext ea eb ec

/-! ### the circle closes -/
section
variable {w d : Int} {f : Form}
theorem closes (R : Rt d w) (hn : ∀ r : Int, r * r ≠ d) (hd : disc f = d) (h20 : d ≤ 20000) (h : RedI w f) : ∃ p, 1 ≤ p ∧ p ≤ 9941 ∧ itn w d p f = f ∧ ∀ j, 1 ≤ j → j < p → itn w d j f ≠ f := by
  obtain ⟨i, j, h1, h2, h3⟩ := pigeon 9941 (fun n => code w (itn w d n f)) (fun n _ => by
    have a := itn_red R hn hd h n
    exact code_lt R a.1 h20 a.2)
  have a := itn_red R hn hd h i
  have b := itn_red R hn hd h j
  have e := code_inj hn a.1 b.1 a.2 b.2 h3
  have e2 := itn_cancel R hn hd h i (j - i) (by rw [show i + (j - i) = j by omega]; exact e)
  obtain ⟨p, p1, p2, p3, p4⟩ := least_pos (P := fun n => itn w d n f = f) (fun n => Classical.em _) (j - i) (by omega) e2
  exact ⟨p, p1, by omega, p3, p4⟩
/-- the forms of the circle, from the j-th on -/
theorem circle_from {p : Nat} (hp : itn w d p f = f) (hm : ∀ j, 1 ≤ j → j < p → itn w d j f ≠ f) : ∀ (k j n : Nat), j + k = p → 1 ≤ k → k ≤ n → circle w d f n (itn w d j f) = (List.range k).map fun i => itn w d (j + i) f
  | 0, _, _, _, h, _ => by omega
  | k + 1, j, 0, _, _, h => by omega
  | k + 1, j, n + 1, h1, _, h3 => by
    show itn w d j f :: (if alike (next w d (itn w d j f)) f = true then [] else circle w d f n (next w d (itn w d j f))) = _
    have e : next w d (itn w d j f) = itn w d (j + 1) f := rfl
    rw [e, List.range_succ_eq_map, List.map_cons, List.map_map]
    by_cases c : k = 0
    · subst c
      have : j + 1 = p := by omega
      rw [this, hp, if_pos (alike_iff.mpr rfl)]
      rfl
    · rw [if_neg (fun z => hm (j + 1) (by omega) (by omega) (alike_iff.mp z)), circle_from hp hm k (j + 1) n (by omega) (by omega) (by omega)]
      show itn w d j f :: _ = itn w d (j + 0) f :: _
      congr 1
      refine List.map_congr_left fun i _ => ?_
      show itn w d (j + 1 + i) f = itn w d (j + (i + 1)) f
      congr 1
      omega
theorem circle_all {p : Nat} (h1 : 1 ≤ p) (h2 : p ≤ FUEL) (hp : itn w d p f = f) (hm : ∀ j, 1 ≤ j → j < p → itn w d j f ≠ f) : circle w d f FUEL f = (List.range p).map fun i => itn w d i f := by
  have := circle_from hp hm p 0 FUEL (by omega) h1 h2
  rw [show itn w d 0 f = f from rfl] at this
  rw [this]
  refine List.map_congr_left fun i _ => ?_
  rw [Nat.zero_add]
end
/-! ### b near to 0 -/
def cb (f : Form) : Int := let m := 2 * (f.a.natAbs : Int)
  let r := f.b % m
  if (f.a.natAbs : Int) < r then r - m else r
theorem centred_cb (d : Int) (f : Form) : centred d f = ⟨f.a, cb f, (cb f * cb f - d) / (4 * f.a)⟩ := rfl
theorem cb_bound {f : Form} (ha : f.a ≠ 0) : -(f.a.natAbs : Int) < cb f ∧ cb f ≤ (f.a.natAbs : Int) := by
  unfold cb
  dsimp only
  have b2 := Int.emod_nonneg f.b (show 2 * (f.a.natAbs : Int) ≠ 0 by omega)
  have b3 := Int.emod_lt_of_pos f.b (show 0 < 2 * (f.a.natAbs : Int) by omega)
  split <;> omega
theorem cb_cong (f : Form) : ∃ k, cb f = f.b + 2 * f.a * k := by
  unfold cb
  dsimp only
  have b1 := Int.emod_add_mul_ediv f.b (2 * (f.a.natAbs : Int))
  generalize f.b % (2 * (f.a.natAbs : Int)) = s at *
  generalize f.b / (2 * (f.a.natAbs : Int)) = p at *
  rcases Int.natAbs_eq f.a with h | h
  · have e : (f.a.natAbs : Int) = f.a := h.symm
    rw [e] at b1 ⊢
    split
    · exact ⟨-p - 1, by grind⟩
    · exact ⟨-p, by grind⟩
  · have e : (f.a.natAbs : Int) = -f.a := by omega
    rw [e] at b1 ⊢
    split
    · exact ⟨p + 1, by grind⟩
    · exact ⟨p, by grind⟩
theorem centred_changed {f : Form} (ha : f.a ≠ 0) : ∃ k, centred (disc f) f = changed f ⟨1, k, 0, 1⟩ := by
  obtain ⟨k, hk⟩ := cb_cong f
  refine ⟨k, ?_⟩
  rw [centred_cb, changed_shift, hk, div_exact (q := f.a * k * k + f.b * k + f.c) ha]
  unfold disc
  grind
theorem centred_div {f : Form} (ha : f.a ≠ 0) : cb f * cb f - disc f = 4 * f.a * (centred (disc f) f).c := by
  obtain ⟨k, hk⟩ := cb_cong f
  have : cb f * cb f - disc f = 4 * f.a * (f.a * k * k + f.b * k + f.c) := by
    rw [hk]
    unfold disc
    grind
  rw [centred_cb]
  dsimp only
  rw [this, Int.mul_ediv_cancel_left _ (by omega)]
/-! ### sizes -/
theorem abs_le_of_mul {x y B : Int} (hy : y ≠ 0) (h : (x * y).natAbs ≤ B) : x.natAbs ≤ B := by
  have h1 := Int.natAbs_mul x y
  have h2 : x.natAbs * 1 ≤ x.natAbs * y.natAbs := Nat.mul_le_mul_left _ (by omega)
  omega
theorem next_small {w d : Int} {f : Form} (R : Rt d w) (hn : ∀ r : Int, r * r ≠ d) (hd : disc f = d) (h20 : d ≤ 20000) (hc : f.c.natAbs ≤ 150000000) : (next w d f).a.natAbs ≤ 150000000 ∧ (next w d f).b.natAbs ≤ 150000000 ∧ (next w d f).c.natAbs ≤ 150000000 := by
  have hc0 : f.c ≠ 0 := c_ne (by rw [hd]; exact hn)
  have hw := w_le R h20
  have hw0 := R.w0
  by_cases h : w < (f.c.natAbs : Int)
  · have h1 := far_next R hn hd h
    have h2 := nb_big hc0 h
    refine ⟨hc, ?_, by omega⟩
    show (nb w f).natAbs ≤ 150000000
    omega
  · have h2 := nb_small hc0 h
    have hdv := next_div (w := w) hc0
    rw [hd] at hdv
    have h3 : nb w f * nb w f ≤ w * w := by
      have e : nb w f * nb w f = ((nb w f).natAbs : Int) * ((nb w f).natAbs : Int) := by
        rcases Int.natAbs_eq (nb w f) with e | e
        · rw [← e]
        · have : ((nb w f).natAbs : Int) = - nb w f := by omega
          rw [this, Int.neg_mul_neg]
      rw [e]
      exact sq_le (by omega) (by omega)
    have h4 := sq_nonneg (nb w f)
    have h5 := R.lo
    have h6 : ((next w d f).c * (4 * f.c)).natAbs ≤ (20000 : Int) := by
      have : (next w d f).c * (4 * f.c) = 4 * f.c * (next w d f).c := Int.mul_comm _ _
      rw [this]
      omega
    have h7 := abs_le_of_mul (by omega) h6
    refine ⟨hc, ?_, by omega⟩
    show (nb w f).natAbs ≤ 150000000
    omega
end Fk

/-! Forms above 0 of discriminant that are the same have one circle. -/
namespace Fk
open Fc
/-- one changed is the other -/
def Eqv (f g : Form) : Prop := ∃ t, IsCh t ∧ changed f t = g
theorem Eqv.refl (f : Form) : Eqv f f := ⟨same, isCh_same, changed_same f⟩
theorem Eqv.symm {f g : Form} (h : Eqv f g) : Eqv g f := by
  obtain ⟨t, h1, rfl⟩ := h
  exact ⟨t.back, h1.back, changed_back h1⟩
theorem Eqv.trans {f g k : Form} (h : Eqv f g) (h2 : Eqv g k) : Eqv f k := by
  obtain ⟨t, h1, rfl⟩ := h
  obtain ⟨u, h3, rfl⟩ := h2
  exact ⟨t.then_ u, h1.then h3, changed_then f t u⟩
theorem Eqv.disc {f g : Form} (h : Eqv f g) : disc f = disc g := by
  obtain ⟨t, h1, rfl⟩ := h
  exact (disc_changed h1).symm
theorem Eqv.content {f g : Form} (h : Eqv f g) : content f = content g := by
  obtain ⟨t, h1, rfl⟩ := h
  exact (content_changed h1).symm
theorem eqv_next {w : Int} {f : Form} (hc : f.c ≠ 0) : Eqv f (next w (Fc.disc f) f) := by
  obtain ⟨k, hk⟩ := next_changed (w := w) hc
  exact ⟨nextCh k, isCh_next k, hk.symm⟩
theorem eqv_centred {f : Form} (ha : f.a ≠ 0) : Eqv f (centred (Fc.disc f) f) := by
  obtain ⟨k, hk⟩ := centred_changed ha
  exact ⟨_, isCh_shift k, hk.symm⟩

/-! ### the river: a above 0, c below -/
def Semi (f : Form) : Prop := 0 < f.a ∧ f.c < 0
def chL : Change := ⟨1, 0, 1, 1⟩
def chR : Change := ⟨1, 1, 0, 1⟩
theorem changed_L (f : Form) : changed f chL = ⟨f.a + f.b + f.c, f.b + 2 * f.c, f.c⟩ := by
  apply form_ext <;> simp only [changed, value, chL] <;> grind
theorem changed_R (f : Form) : changed f chR = ⟨f.a, f.b + 2 * f.a, f.a + f.b + f.c⟩ := by
  apply form_ext <;> simp only [changed, value, chR] <;> grind
def stepF (f : Form) : Form := if 0 < f.a + f.b + f.c then changed f chL else changed f chR
def itF : Nat → Form → Form
  | 0, f => f
  | n + 1, f => stepF (itF n f)
theorem itF_add (f : Form) (m : Nat) : ∀ n, itF (m + n) f = itF n (itF m f)
  | 0 => rfl
  | n + 1 => by
    show stepF (itF (m + n) f) = stepF (itF n (itF m f))
    rw [itF_add f m n]
/-- above and below lie on the two sides of one line -/
theorem slope {f : Form} (h : Semi f) {x y x' y' : Int} (hx : 0 ≤ x) (hy : 0 ≤ y) (hx' : 0 ≤ x') (hy' : 0 ≤ y') (h1 : 0 < value f x y) (h2 : value f x' y' < 0) : 0 < x * y' - x' * y := by
  obtain ⟨ha, hc⟩ := h
  have e : value f x y * (x' * y') - value f x' y' * (x * y) = (x * y' - x' * y) * (f.a * (x * x') - f.c * (y * y')) := by
    unfold value
    grind
  have n1 : 0 ≤ x' * y' := Int.mul_nonneg hx' hy'
  have n2 : 0 ≤ x * y := Int.mul_nonneg hx hy
  have n3 : 0 ≤ f.a * (x * x') - f.c * (y * y') := by
    have k1 := Int.mul_nonneg (show 0 ≤ f.a by omega) (Int.mul_nonneg hx hx')
    have k2 := Int.mul_nonneg (show 0 ≤ -f.c by omega) (Int.mul_nonneg hy hy')
    rw [Int.neg_mul] at k2
    omega
  have p1 := Int.mul_nonneg (show 0 ≤ value f x y by omega) n1
  have p2 := Int.mul_nonneg (show 0 ≤ -value f x' y' by omega) n2
  rw [Int.neg_mul] at p2
  by_cases z : x' * y' = 0 ∧ x * y = 0
  · -- the axes
    have hy0 : y' ≠ 0 := fun q => by
      rw [q] at h2
      have := Int.mul_nonneg (show 0 ≤ f.a by omega) (sq_nonneg x')
      unfold value at h2
      have e : f.a * x' * x' = f.a * (x' * x') := by grind
      simp only [Int.mul_zero, Int.add_zero] at h2
      omega
    have hx0 : x ≠ 0 := fun q => by
      rw [q] at h1
      have := Int.mul_nonneg (show 0 ≤ -f.c by omega) (sq_nonneg y)
      rw [Int.neg_mul] at this
      unfold value at h1
      have e : f.c * y * y = f.c * (y * y) := by grind
      simp only [Int.mul_zero, Int.zero_mul, Int.zero_add] at h1
      omega
    have e1 : x' = 0 := by
      rcases Int.mul_eq_zero.mp z.1 with q | q
      · exact q
      · exact absurd q hy0
    have e2 : y = 0 := by
      rcases Int.mul_eq_zero.mp z.2 with q | q
      · exact absurd q hx0
      · exact q
    rw [e1, e2]
    have := Int.mul_pos (show 0 < x by omega) (show 0 < y' by omega)
    omega
  · have pos : 0 < value f x y * (x' * y') - value f x' y' * (x * y) := by
      by_cases z1 : x' * y' = 0
      · have z2 : 0 < x * y := by
          have : x * y ≠ 0 := fun q => z ⟨z1, q⟩
          omega
        have := Int.mul_pos (show 0 < -value f x' y' by omega) z2
        rw [Int.neg_mul] at this
        omega
      · have := Int.mul_pos h1 (show 0 < x' * y' by omega)
        omega
    rw [e] at pos
    by_cases c : 0 < x * y' - x' * y
    · exact c
    · exfalso
      have := Int.mul_nonneg (show 0 ≤ -(x * y' - x' * y) by omega) n3
      rw [Int.neg_mul] at this
      omega
theorem stepF_L {f : Form} (h : 0 < f.a + f.b + f.c) : stepF f = changed f chL := if_pos h
theorem stepF_R {f : Form} (h : ¬ 0 < f.a + f.b + f.c) : stepF f = changed f chR := if_neg h
theorem a_ne_of {f : Form} {t : Change} (hn : ∀ r : Int, r * r ≠ disc f) (h : IsCh t) : (changed f t).a ≠ 0 ∧ (changed f t).c ≠ 0 := by
  have e := disc_changed (f := f) h
  exact ⟨a_ne' (by rw [e]; exact hn), c_ne (by rw [e]; exact hn)⟩
/-- whoever goes over by a change of numbers from 0 on is met on the way -/
theorem conn_nn : ∀ (n : Nat) (f : Form) (t : Change), (∀ r : Int, r * r ≠ disc f) → Semi f → Semi (changed f t) → IsCh t → 0 ≤ t.p → 0 ≤ t.q → 0 ≤ t.r → 0 ≤ t.s → (t.p + t.q + t.r + t.s).toNat ≤ n → ∃ k, itF k f = changed f t
  | 0, f, t, _, _, _, ht, h1, h2, h3, h4, hs => by
    exfalso
    have e : t.p = 0 ∧ t.q = 0 := by omega
    unfold IsCh at ht
    rw [e.1, e.2] at ht
    omega
  | n + 1, f, ⟨p, q, r, s⟩, hn, hf, hg, ht, h1, h2, h3, h4, hs => by
    have hdet : p * s - q * r = 1 := ht
    dsimp only at h1 h2 h3 h4 hs
    have ga : 0 < value f p r := hg.1
    have gc : value f q s < 0 := hg.2
    by_cases c1 : q ≤ p ∧ s ≤ r
    · -- the first column is the greater one
      have ht' : IsCh ⟨p - q, q, r - s, s⟩ := by
        show (p - q) * s - q * (r - s) = 1
        grind
      have e : changed f ⟨p, q, r, s⟩ = changed (changed f ⟨p - q, q, r - s, s⟩) chL := by
        rw [← changed_then]
        congr 1
        apply change_ext <;> simp only [Change.then_, chL] <;> grind
      have hne := (a_ne_of hn ht').1
      have hpos : 0 < value f (p - q) (r - s) := by
        by_cases c : 0 < value f (p - q) (r - s)
        · exact c
        · exfalso
          have hlt : value f (p - q) (r - s) < 0 := by
            have : value f (p - q) (r - s) ≠ 0 := hne
            omega
          have := slope hf h1 h3 (show 0 ≤ p - q by omega) (show 0 ≤ r - s by omega) ga hlt
          have e2 : p * (r - s) - (p - q) * r = -(p * s - q * r) := by grind
          omega
      have hsemi : Semi (changed f ⟨p - q, q, r - s, s⟩) := ⟨hpos, gc⟩
      have hq1 : 0 < q + s := by
        by_cases z : q = 0 ∧ s = 0
        · exfalso
          rw [z.1, z.2] at hdet
          omega
        · omega
      obtain ⟨k, hk⟩ := conn_nn n f ⟨p - q, q, r - s, s⟩ hn hf hsemi ht' (by show 0 ≤ p - q; omega) h2 (by show 0 ≤ r - s; omega) h4 (by show (p - q + q + (r - s) + s).toNat ≤ n; omega)
      refine ⟨k + 1, ?_⟩
      show stepF (itF k f) = _
      rw [hk, e]
      refine stepF_L ?_
      have := changed_L (changed f ⟨p - q, q, r - s, s⟩)
      have h5 : (changed (changed f ⟨p - q, q, r - s, s⟩) chL).a = value f p r := by rw [← e]; rfl
      rw [this] at h5
      dsimp only at h5
      omega
    · by_cases c2 : p ≤ q ∧ r ≤ s
      · have ht' : IsCh ⟨p, q - p, r, s - r⟩ := by
          show p * (s - r) - (q - p) * r = 1
          grind
        have e : changed f ⟨p, q, r, s⟩ = changed (changed f ⟨p, q - p, r, s - r⟩) chR := by
          rw [← changed_then]
          congr 1
          apply change_ext <;> simp only [Change.then_, chR] <;> grind
        have hne := (a_ne_of hn ht').2
        have hneg : value f (q - p) (s - r) < 0 := by
          by_cases c : value f (q - p) (s - r) < 0
          · exact c
          · exfalso
            have hgt : 0 < value f (q - p) (s - r) := by
              have : value f (q - p) (s - r) ≠ 0 := hne
              omega
            have := slope hf (show 0 ≤ q - p by omega) (show 0 ≤ s - r by omega) h2 h4 hgt gc
            have e2 : (q - p) * s - q * (s - r) = -(p * s - q * r) := by grind
            omega
        have hsemi : Semi (changed f ⟨p, q - p, r, s - r⟩) := ⟨ga, hneg⟩
        have hq1 : 0 < p + r := by
          by_cases z : p = 0 ∧ r = 0
          · exfalso
            rw [z.1, z.2] at hdet
            omega
          · omega
        obtain ⟨k, hk⟩ := conn_nn n f ⟨p, q - p, r, s - r⟩ hn hf hsemi ht' h1 (by show 0 ≤ q - p; omega) h3 (by show 0 ≤ s - r; omega) (by show (p + (q - p) + r + (s - r)).toNat ≤ n; omega)
        refine ⟨k + 1, ?_⟩
        show stepF (itF k f) = _
        rw [hk, e]
        refine stepF_R ?_
        have := changed_R (changed f ⟨p, q - p, r, s - r⟩)
        have h5 : (changed (changed f ⟨p, q - p, r, s - r⟩) chR).c = value f q s := by rw [← e]; rfl
        rw [this] at h5
        dsimp only at h5
        omega
      · -- only the one is left
        have hI : q = 0 ∧ r = 0 := by
          by_cases c3 : q < p
          · have c4 : r < s := by omega
            have := Int.mul_le_mul (a := q + 1) (b := r + 1) (c := p) (d := s) (by omega) (by omega) (by omega) (by omega)
            have e : (q + 1) * (r + 1) = q * r + q + r + 1 := by grind
            omega
          · exfalso
            have c4 : p < q := by omega
            have c5 : s < r := by omega
            have := Int.mul_le_mul (a := p + 1) (b := s + 1) (c := q) (d := r) (by omega) (by omega) (by omega) (by omega)
            have e : (p + 1) * (s + 1) = p * s + p + s + 1 := by grind
            omega
        obtain ⟨rfl, rfl⟩ := hI
        have hps : p = 1 ∧ s = 1 := by
          have e : p * s = 1 := by omega
          have hp0 : p ≠ 0 := fun z => by
            rw [z] at e
            omega
          have hs0 : s ≠ 0 := fun z => by
            rw [z] at e
            omega
          have := Int.mul_le_mul_of_nonneg_left (show 1 ≤ s by omega) (show 0 ≤ p by omega)
          have := Int.mul_le_mul_of_nonneg_right (show 1 ≤ p by omega) (show 0 ≤ s by omega)
          omega
        obtain ⟨rfl, rfl⟩ := hps
        exact ⟨0, (changed_same f).symm⟩
theorem changed_neg (f : Form) (t : Change) : changed f ⟨-t.p, -t.q, -t.r, -t.s⟩ = changed f t := by
  apply form_ext <;> simp only [changed, value] <;> grind
theorem isCh_neg {t : Change} (h : IsCh t) : IsCh ⟨-t.p, -t.q, -t.r, -t.s⟩ := by
  unfold IsCh at *
  dsimp only
  rw [Int.neg_mul_neg, Int.neg_mul_neg]
  exact h
def flip (f : Form) : Form := ⟨f.a, -f.b, f.c⟩
theorem value_flip (f : Form) (x y : Int) : value (flip f) x (-y) = value f x y := by
  unfold value flip
  grind
/-- two on the river that are the same: the one is met on the way from the other -/
theorem conn_pos {f : Form} {t : Change} (hn : ∀ r : Int, r * r ≠ disc f) (hf : Semi f) (hg : Semi (changed f t)) (ht : IsCh t) (hp : 0 ≤ t.p) : (∃ k, itF k f = changed f t) ∨ ∃ k, itF k (changed f t) = f := by
  obtain ⟨p, q, r, s⟩ := t
  have hdet : p * s - q * r = 1 := ht
  have ga : 0 < value f p r := hg.1
  have gc : value f q s < 0 := hg.2
  have hfa := hf.1
  have hfc := hf.2
  dsimp only at hp
  have hp0 : p ≠ 0 := fun z => by
    rw [z] at ga
    have := Int.mul_nonneg (show 0 ≤ -f.c by omega) (sq_nonneg r)
    rw [Int.neg_mul] at this
    unfold value at ga
    have e : f.c * r * r = f.c * (r * r) := by grind
    simp only [Int.mul_zero, Int.zero_mul, Int.zero_add] at ga
    omega
  have hs0 : s ≠ 0 := fun z => by
    rw [z] at gc
    have := Int.mul_nonneg (show 0 ≤ f.a by omega) (sq_nonneg q)
    unfold value at gc
    have e : f.a * q * q = f.a * (q * q) := by grind
    simp only [Int.mul_zero, Int.add_zero] at gc
    omega
  by_cases hs : 0 < s
  · have hqr : 0 ≤ q * r := by
      have := Int.mul_pos (show 0 < p by omega) hs
      omega
    by_cases h2 : 0 ≤ q ∧ 0 ≤ r
    · exact .inl (conn_nn _ f ⟨p, q, r, s⟩ hn hf hg ht hp h2.1 h2.2 (by show 0 ≤ s; omega) (Nat.le_refl _))
    · right
      have h3 : q ≤ 0 ∧ r ≤ 0 := by
        by_cases c : 0 < q
        · have hr : r < 0 := by omega
          have := Int.mul_pos c (show 0 < -r by omega)
          rw [Int.mul_neg] at this
          omega
        · by_cases c' : 0 < r
          · have hq : q < 0 := by omega
            have := Int.mul_pos (show 0 < -q by omega) c'
            rw [Int.neg_mul] at this
            omega
          · omega
      have hb := changed_back (f := f) ht
      have hd := disc_changed (f := f) ht
      have := conn_nn _ (changed f ⟨p, q, r, s⟩) (Change.back ⟨p, q, r, s⟩) (by rw [hd]; exact hn) hg (by rw [hb]; exact hf) ht.back (by show 0 ≤ s; omega) (by show 0 ≤ -q; omega) (by show 0 ≤ -r; omega) hp (Nat.le_refl _)
      rw [hb] at this
      exact this
  · exfalso
    have hs' : s < 0 := by omega
    have hqr : q * r < 0 := by
      have := Int.mul_pos (show 0 < p by omega) (show 0 < -s by omega)
      rw [Int.mul_neg] at this
      omega
    by_cases hq : 0 < q
    · have hr : r < 0 := by
        by_cases c : r < 0
        · exact c
        · have := Int.mul_nonneg (show 0 ≤ q by omega) (show 0 ≤ r by omega)
          omega
      have hfl : Semi (flip f) := hf
      have := slope hfl (x := p) (y := -r) (x' := q) (y' := -s) hp (by omega) (by omega) (by omega) (by rw [value_flip]; exact ga) (by rw [value_flip]; exact gc)
      have e : p * -s - q * -r = -(p * s - q * r) := by grind
      omega
    · have hq' : q < 0 := by
        have : q ≠ 0 := fun z => by
          rw [z] at hqr
          omega
        omega
      have hr : 0 < r := by
        by_cases c : 0 < r
        · exact c
        · have := Int.mul_nonneg (show 0 ≤ -q by omega) (show 0 ≤ -r by omega)
          rw [Int.neg_mul_neg] at this
          omega
      have e0 : value f (-q) (-s) = value f q s := by
        unfold value
        grind
      have := slope hf (x := p) (y := r) (x' := -q) (y' := -s) hp (by omega) (by omega) (by omega) ga (by rw [e0]; exact gc)
      have e : p * -s - -q * r = -(p * s - q * r) := by grind
      omega
theorem conn {f g : Form} (hn : ∀ r : Int, r * r ≠ disc f) (hf : Semi f) (hg : Semi g) (h : Eqv f g) : (∃ k, itF k f = g) ∨ ∃ k, itF k g = f := by
  obtain ⟨t, ht, rfl⟩ := h
  by_cases hp : 0 ≤ t.p
  · exact conn_pos hn hf hg ht hp
  · have := conn_pos (t := ⟨-t.p, -t.q, -t.r, -t.s⟩) hn hf (by rw [changed_neg]; exact hg) (isCh_neg ht) (by show 0 ≤ -t.p; omega)
    rw [changed_neg] at this
    exact this
end Fk

/-! The circle of a form above 0 of discriminant is its class's. -/
namespace Fk
open Fc
/-- a reduced one, seen on the river -/
def onR (f : Form) : Form := if 0 < f.a then f else changed f swap
theorem eqv_onR (f : Form) : Eqv f (onR f) := by
  unfold onR
  split
  · exact Eqv.refl f
  · exact ⟨swap, isCh_swap, rfl⟩
theorem mul_neg_cases {a c : Int} (h : a * c < 0) : (0 < a ∧ c < 0) ∨ (a < 0 ∧ 0 < c) := by
  rcases Int.lt_trichotomy a 0 with h1 | h1 | h1
  · right
    refine ⟨h1, ?_⟩
    by_cases c0 : 0 < c
    · exact c0
    · exfalso
      have := Int.mul_nonneg (show 0 ≤ -a by omega) (show 0 ≤ -c by omega)
      rw [Int.neg_mul_neg] at this
      omega
  · rw [h1] at h
    omega
  · left
    refine ⟨h1, ?_⟩
    by_cases c0 : c < 0
    · exact c0
    · exfalso
      have := Int.mul_nonneg (show 0 ≤ a by omega) (show 0 ≤ c by omega)
      omega
theorem onR_semi {w d : Int} {f : Form} (R : Rt d w) (hd : disc f = d) (h : RedI w f) : Semi (onR f) := by
  obtain ⟨h1, _⟩ := red_neg R hd h
  unfold onR
  rcases mul_neg_cases h1 with ⟨ha, hc⟩ | ⟨ha, hc⟩
  · rw [if_pos ha]
    exact ⟨ha, hc⟩
  · rw [if_neg (by omega), changed_swap]
    exact ⟨hc, ha⟩
theorem onR_inj {w : Int} {f g : Form} (hf : RedI w f) (hg : RedI w g) (h : onR f = onR g) : f = g := by
  have b1 := hf.b0
  have b2 := hg.b0
  unfold onR at h
  split at h <;> split at h
  · exact h
  · exfalso
    have := congrArg Form.b h
    rw [changed_swap] at this
    dsimp only at this
    omega
  · exfalso
    have := congrArg Form.b h
    rw [changed_swap] at this
    dsimp only at this
    omega
  · rw [changed_swap, changed_swap] at h
    have e1 := congrArg Form.a h
    have e2 := congrArg Form.b h
    have e3 := congrArg Form.c h
    dsimp only at e1 e2 e3
    exact form_ext e3 (by omega) e1
theorem L_pow (f : Form) (i : Int) : changed f ⟨1, 0, i, 1⟩ = ⟨f.a + f.b * i + f.c * i * i, f.b + 2 * f.c * i, f.c⟩ := by
  apply form_ext <;> simp only [changed, value] <;> grind
theorem L_more (f : Form) (i : Int) : changed (changed f ⟨1, 0, i, 1⟩) chL = changed f ⟨1, 0, i + 1, 1⟩ := by
  rw [L_pow, L_pow, changed_L]
  apply form_ext <;> dsimp only <;> grind
theorem R_more (f : Form) (i : Int) : changed (changed f ⟨1, i, 0, 1⟩) chR = changed f ⟨1, i + 1, 0, 1⟩ := by
  rw [changed_shift, changed_shift, changed_R]
  apply form_ext <;> dsimp only <;> grind
/-- between two values above 0 -/
theorem concave {A B C : Int} (hC : C < 0) {j : Nat} (h0 : 0 < A) (hj : 0 < A + B * j + C * j * j) (i : Nat) (hi : i ≤ j) : 0 < A + B * i + C * i * i := by
  by_cases e : j = 0
  · have : i = 0 := by omega
    subst this
    simpa using h0
  have k : (j : Int) * (A + B * i + C * i * i) = ((j : Int) - i) * A + i * (A + B * j + C * j * j) + (-C) * (i * (((j : Int) - i) * j)) := by grind
  have k1 := Int.mul_nonneg (show 0 ≤ -C by omega) (Int.mul_nonneg (show (0 : Int) ≤ i by omega) (Int.mul_nonneg (show (0 : Int) ≤ (j : Int) - i by omega) (show (0 : Int) ≤ (j : Int) by omega)))
  have k2 := Int.mul_nonneg (show (0 : Int) ≤ (j : Int) - i by omega) (show 0 ≤ A by omega)
  have k3 := Int.mul_nonneg (show (0 : Int) ≤ i by omega) (show 0 ≤ A + B * j + C * j * j by omega)
  have k4 : 0 < ((j : Int) - i) * A + i * (A + B * j + C * j * j) := by
    by_cases ei : i = j
    · rw [ei]
      have := Int.mul_pos (show (0 : Int) < j by omega) hj
      have e : ((j : Int) - j) * A = 0 := by
        rw [Int.sub_self, Int.zero_mul]
      omega
    · have := Int.mul_pos (show (0 : Int) < (j : Int) - i by omega) h0
      omega
  by_cases c : 0 < A + B * i + C * i * i
  · exact c
  · exfalso
    have := Int.mul_nonneg (show (0 : Int) ≤ j by omega) (show 0 ≤ -(A + B * i + C * i * i) by omega)
    rw [Int.mul_neg] at this
    omega
theorem itF_L {f : Form} (hf : Semi f) {j : Nat} (hj : 0 < f.a + f.b * j + f.c * j * j) : ∀ i, i ≤ j → itF i f = changed f ⟨1, 0, i, 1⟩
  | 0, _ => (changed_same f).symm
  | i + 1, hi => by
    show stepF (itF i f) = _
    rw [itF_L hf hj i (by omega)]
    have h1 := concave hf.2 hf.1 hj (i + 1) hi
    rw [stepF_L, L_more]
    · rfl
    · rw [L_pow]
      dsimp only
      have e : f.a + f.b * ((i + 1 : Nat) : Int) + f.c * ((i + 1 : Nat) : Int) * ((i + 1 : Nat) : Int) = f.a + f.b * i + f.c * i * i + (f.b + 2 * f.c * i) + f.c := by
        rw [Int.natCast_add]
        grind
      omega
theorem itF_R {f : Form} (hf : Semi f) {j : Nat} (hj : f.a * j * j + f.b * j + f.c < 0) : ∀ i, i ≤ j → itF i f = changed f ⟨1, i, 0, 1⟩
  | 0, _ => (changed_same f).symm
  | i + 1, hi => by
    show stepF (itF i f) = _
    rw [itF_R hf hj i (by omega)]
    have h1 := concave (A := -f.c) (B := -f.b) (C := -f.a) (by have := hf.1; omega) (by have := hf.2; omega) (j := j) (by
      have : -f.c + -f.b * (j : Int) + -f.a * j * j = -(f.a * j * j + f.b * j + f.c) := by grind
      omega) (i + 1) hi
    rw [stepF_R, R_more]
    · rfl
    · rw [changed_shift]
      dsimp only
      have e : -f.c + -f.b * ((i + 1 : Nat) : Int) + -f.a * ((i + 1 : Nat) : Int) * ((i + 1 : Nat) : Int) = -(f.a + (f.b + 2 * f.a * i) + (f.a * i * i + f.b * i + f.c)) := by
        rw [Int.natCast_add]
        grind
      omega
/-- from a reduced one to the next: no other lies between -/
theorem river_next {w d : Int} {f : Form} (R : Rt d w) (hn : ∀ r : Int, r * r ≠ d) (hd : disc f = d) (h : RedI w f) : ∃ j, 1 ≤ j ∧ itF j (onR f) = onR (next w d f) ∧ ∀ i, 0 < i → i < j → ∀ g, RedI w g → itF i (onR f) ≠ onR g := by
  have hc0 : f.c ≠ 0 := c_ne (by rw [hd]; exact hn)
  have hs := onR_semi R hd h
  have hr' := red_next R hn hd h
  have hd' := disc_next' (w := w) hn hd
  have hs' := onR_semi R hd' hr'
  obtain ⟨s1, s2⟩ := red_sym R hn hd h
  obtain ⟨hneg, _⟩ := red_neg R hd h
  obtain ⟨k, hk⟩ := nb_cong (w := w) hc0
  have hb' : (next w d f).b = nb w f := rfl
  have hbp := hr'.b0
  rw [hb'] at hbp
  have hbw := h.bw
  have hbw' := hr'.bw
  rw [hb'] at hbw'
  have hb0 := h.b0
  have hnx : next w d f = changed f (nextCh k) := by
    rw [changed_next, next_nb, ← hd, hk, div_exact (q := f.a - f.b * k + f.c * k * k) hc0]
    unfold disc
    grind
  have en := hnx
  rw [changed_next] at en
  rcases mul_neg_cases hneg with ⟨ha, hc⟩ | ⟨ha, hc⟩
  · -- the river goes left
    have hkn : k < 0 := by
      by_cases c : k < 0
      · exact c
      · have := Int.mul_nonneg (show 0 ≤ -f.c by omega) (show 0 ≤ k by omega)
        rw [Int.neg_mul] at this
        have e : 2 * f.c * k = 2 * (f.c * k) := Int.mul_assoc _ _ _
        omega
    have eJ : ((-k).toNat : Int) = -k := by omega
    generalize hJ : (-k).toNat = j at eJ
    have ek : k = -(j : Int) := by omega
    subst ek
    have eo : onR f = f := if_pos ha
    have eo' : onR (next w d f) = changed f ⟨1, 0, j, 1⟩ := by
      have hna : ¬ 0 < (next w d f).a := by
        rw [next_nb]
        show ¬ 0 < f.c
        omega
      unfold onR
      rw [if_neg hna, changed_swap, en, L_pow]
      apply form_ext <;> dsimp only <;> grind
    have hsj : 0 < f.a + f.b * j + f.c * j * j := by
      have := hs'.1
      rw [eo', L_pow] at this
      exact this
    have hit := itF_L (by rw [eo] at hs; exact hs) hsj
    refine ⟨j, by omega, ?_, fun i i0 ij g hg e => ?_⟩
    · rw [eo, eo', hit j (Nat.le_refl _)]
    · rw [eo, hit i (by omega), L_pow] at e
      have g0 := hg.b0
      have gw := hg.bw
      have glo := hg.lo
      have hci : f.c * (i : Int) ≤ f.c * 1 := by
        have := Int.mul_le_mul_of_nonneg_left (show (1 : Int) ≤ i by omega) (show 0 ≤ -f.c by omega)
        rw [Int.neg_mul, Int.neg_mul] at this
        omega
      have hcj : f.c * (j : Int) ≤ f.c * ((i : Int) + 1) := by
        have := Int.mul_le_mul_of_nonneg_left (show (i : Int) + 1 ≤ j by omega) (show 0 ≤ -f.c by omega)
        rw [Int.neg_mul, Int.neg_mul] at this
        omega
      have ei : 2 * f.c * (i : Int) = 2 * (f.c * i) := Int.mul_assoc _ _ _
      have ej : 2 * f.c * -(j : Int) = -(2 * (f.c * j)) := by grind
      have ei1 : f.c * ((i : Int) + 1) = f.c * i + f.c := by grind
      by_cases ga : 0 < g.a
      · have eg : onR g = g := if_pos ga
        rw [eg] at e
        have e1 := congrArg Form.b e
        have e2 := congrArg Form.c e
        dsimp only at e1 e2
        have : disc f = disc g := by
          have a1 := L_pow f (i : Int)
          rw [e] at a1
          rw [← a1]
          refine (disc_changed ?_).symm
          show (1 : Int) * 1 - 0 * i = 1
          omega
        have gs := red_sym R hn (by omega) hg
        omega
      · have eg : onR g = changed g swap := if_neg ga
        rw [eg, changed_swap] at e
        have e1 := congrArg Form.b e
        have e2 := congrArg Form.c e
        dsimp only at e1 e2
        omega
  · have hkn : 0 < k := by
      by_cases c : 0 < k
      · exact c
      · have := Int.mul_nonneg (show 0 ≤ f.c by omega) (show 0 ≤ -k by omega)
        rw [Int.mul_neg] at this
        have e : 2 * f.c * k = 2 * (f.c * k) := Int.mul_assoc _ _ _
        omega
    have eJ : (k.toNat : Int) = k := by omega
    generalize hJ : k.toNat = j at eJ
    subst eJ
    have eo : onR f = ⟨f.c, -f.b, f.a⟩ := by
      unfold onR
      rw [if_neg (by omega), changed_swap]
    have eo' : onR (next w d f) = changed (onR f) ⟨1, j, 0, 1⟩ := by
      have hna : 0 < (next w d f).a := by
        rw [next_nb]
        exact hc
      rw [eo]
      unfold onR
      rw [if_pos hna, en, changed_shift]
      apply form_ext <;> dsimp only <;> grind
    have hsj : (onR f).a * j * j + (onR f).b * j + (onR f).c < 0 := by
      have := hs'.2
      rw [eo', changed_shift] at this
      exact this
    have hit := itF_R hs hsj
    refine ⟨j, by omega, ?_, fun i i0 ij g hg e => ?_⟩
    · rw [eo', hit j (Nat.le_refl _)]
    · rw [hit i (by omega), eo, changed_shift] at e
      have g0 := hg.b0
      have gw := hg.bw
      have glo := hg.lo
      have hci : f.c * 1 ≤ f.c * (i : Int) := Int.mul_le_mul_of_nonneg_left (show (1 : Int) ≤ i by omega) (show 0 ≤ f.c by omega)
      have hcj : f.c * ((i : Int) + 1) ≤ f.c * (j : Int) := Int.mul_le_mul_of_nonneg_left (show (i : Int) + 1 ≤ j by omega) (show 0 ≤ f.c by omega)
      have ei : 2 * f.c * (i : Int) = 2 * (f.c * i) := Int.mul_assoc _ _ _
      have ej : 2 * f.c * (j : Int) = 2 * (f.c * j) := Int.mul_assoc _ _ _
      have ei1 : f.c * ((i : Int) + 1) = f.c * i + f.c := by grind
      by_cases ga : 0 < g.a
      · have eg : onR g = g := if_pos ga
        rw [eg] at e
        have e1 := congrArg Form.a e
        have e2 := congrArg Form.b e
        dsimp only at e1 e2
        omega
      · have eg : onR g = changed g swap := if_neg ga
        rw [eg, changed_swap] at e
        have e1 := congrArg Form.a e
        have e2 := congrArg Form.b e
        dsimp only at e1 e2
        have : disc f = disc g := by
          have a1 := changed_shift ⟨f.c, -f.b, f.a⟩ (i : Int)
          dsimp only at a1
          rw [e] at a1
          have a2 := congrArg disc a1
          rw [disc_changed (isCh_shift _)] at a2
          unfold disc at a2 ⊢
          dsimp only at a2
          grind
        have gs := red_sym R hn (by omega) hg
        omega
/-- so whoever is met on the river is met on the circle -/
theorem river_circle {w d : Int} (R : Rt d w) (hn : ∀ r : Int, r * r ≠ d) : ∀ (n : Nat) (f g : Form), disc f = d → RedI w f → RedI w g → itF n (onR f) = onR g → ∃ m, itn w d m f = g
  | n, f, g, hd, hf, hg, e => by
    by_cases h0 : n = 0
    · subst h0
      exact ⟨0, onR_inj hf hg e⟩
    · obtain ⟨j, j1, j2, j3⟩ := river_next R hn hd hf
      have hjn : j ≤ n := by
        by_cases c : j ≤ n
        · exact c
        · exact absurd e (j3 n (by omega) (by omega) g hg)
      rw [show n = j + (n - j) by omega, itF_add, j2] at e
      obtain ⟨m, hm⟩ := river_circle R hn (n - j) (next w d f) g (disc_next' hn hd) (red_next R hn hd hf) hg e
      refine ⟨1 + m, ?_⟩
      rw [itn_add]
      exact hm
termination_by n => n
theorem itn_mul {w d : Int} {f : Form} {p : Nat} (h : itn w d p f = f) : ∀ q, itn w d (p * q) f = f
  | 0 => rfl
  | q + 1 => by
    rw [Nat.mul_add, Nat.mul_one, itn_add, itn_mul h q, h]
theorem itn_mod {w d : Int} {f : Form} {p : Nat} (h : itn w d p f = f) (i : Nat) : itn w d i f = itn w d (i % p) f := by
  have := itn_add (w := w) (d := d) f (p * (i / p)) (i % p)
  rw [itn_mul h] at this
  rw [← this, Nat.div_add_mod]
/-- reduced ones that are the same lie on one circle -/
theorem one_circle {w d : Int} {f g : Form} (R : Rt d w) (hn : ∀ r : Int, r * r ≠ d) (h20 : d ≤ 20000) (hd : disc f = d) (hf : RedI w f) (hg : RedI w g) (h : Eqv f g) : ∃ m, itn w d m f = g := by
  have hdg : disc g = d := by rw [← h.disc, hd]
  have e : Eqv (onR f) (onR g) := (eqv_onR f).symm.trans (h.trans (eqv_onR g))
  rcases conn (by rw [← (eqv_onR f).disc, hd]; exact hn) (onR_semi R hd hf) (onR_semi R hdg hg) e with ⟨k, hk⟩ | ⟨k, hk⟩
  · exact river_circle R hn k f g hd hf hg hk
  · obtain ⟨m, hm⟩ := river_circle R hn k g f hdg hg hf hk
    obtain ⟨p, p1, _, p3, _⟩ := closes R hn hdg h20 hg
    refine ⟨p * m - m, ?_⟩
    have hpm : m ≤ p * m := Nat.le_mul_of_pos_left m (by omega)
    have := itn_add (w := w) (d := d) g m (p * m - m)
    rw [hm, show m + (p * m - m) = p * m by omega, itn_mul p3] at this
    exact this.symm
theorem eqv_into {w d : Int} (hn : ∀ r : Int, r * r ≠ d) : ∀ (n : Nat) (f : Form), disc f = d → Eqv f (into w d n f)
  | 0, f, _ => Eqv.refl f
  | n + 1, f, hd => by
    by_cases h : RedI w f
    · rw [into_stop h]
      exact Eqv.refl f
    · rw [into_go h]
      have := eqv_next (w := w) (f := f) (c_ne (by rw [hd]; exact hn))
      rw [hd] at this
      exact this.trans (eqv_into hn n _ (disc_next' hn hd))
theorem eqv_itn {w d : Int} (hn : ∀ r : Int, r * r ≠ d) {f : Form} (hd : disc f = d) : ∀ n, Eqv f (itn w d n f) ∧ disc (itn w d n f) = d
  | 0 => ⟨Eqv.refl f, hd⟩
  | n + 1 => by
    obtain ⟨h1, h2⟩ := eqv_itn hn hd n
    have := eqv_next (w := w) (f := itn w d n f) (c_ne (by rw [h2]; exact hn))
    rw [h2] at this
    exact ⟨h1.trans this, disc_next' hn h2⟩
end Fk

/-! Forms above: the least one is its class's. -/
namespace Fk
open Fc
theorem abs_cases (x : Int) : (x.natAbs : Int) = x ∨ (x.natAbs : Int) = -x := by omega
/-- a value is not below that much -/
theorem value_low {f : Form} (h : Red f) (x y : Int) : f.a * ((x.natAbs : Int) * x.natAbs - x.natAbs * y.natAbs + y.natAbs * y.natAbs) ≤ value f x y := by
  obtain ⟨⟨l1, l2⟩, l3, _⟩ := h
  have e : value f x y - f.a * ((x.natAbs : Int) * x.natAbs - x.natAbs * y.natAbs + y.natAbs * y.natAbs) = (f.b * (x * y) + f.a * ((x.natAbs : Int) * y.natAbs)) + (f.c - f.a) * ((y.natAbs : Int) * y.natAbs) := by
    unfold value
    rcases abs_cases x with e1 | e1 <;> rcases abs_cases y with e2 | e2 <;> rw [e1, e2] <;> grind
  have n1 : 0 ≤ (f.c - f.a) * ((y.natAbs : Int) * y.natAbs) := Int.mul_nonneg (by omega) (sq_nonneg _)
  have n2 : 0 ≤ f.b * (x * y) + f.a * ((x.natAbs : Int) * y.natAbs) := by
    have nn : 0 ≤ (x.natAbs : Int) * y.natAbs := Int.mul_nonneg (by omega) (by omega)
    have : x * y = (x.natAbs : Int) * y.natAbs ∨ x * y = -((x.natAbs : Int) * y.natAbs) := by
      rcases abs_cases x with e1 | e1 <;> rcases abs_cases y with e2 | e2 <;> rw [e1, e2]
      · exact .inl rfl
      · right
        grind
      · right
        grind
      · left
        grind
    rcases this with e | e
    · rw [e]
      have := Int.mul_nonneg (show 0 ≤ f.b + f.a by omega) nn
      have e : (f.b + f.a) * ((x.natAbs : Int) * y.natAbs) = f.b * ((x.natAbs : Int) * y.natAbs) + f.a * ((x.natAbs : Int) * y.natAbs) := by grind
      omega
    · rw [e]
      have := Int.mul_nonneg (show 0 ≤ f.a - f.b by omega) nn
      have e : (f.a - f.b) * ((x.natAbs : Int) * y.natAbs) = f.b * -((x.natAbs : Int) * y.natAbs) + f.a * ((x.natAbs : Int) * y.natAbs) := by grind
      omega
  omega
theorem norm_low (P R : Int) : 3 * (R * R) ≤ 4 * (P * P - P * R + R * R) ∧ 3 * (P * P) ≤ 4 * (P * P - P * R + R * R) := by
  have h1 := sq_nonneg (2 * P - R)
  have h2 := sq_nonneg (2 * R - P)
  have e1 : (2 * P - R) * (2 * P - R) = 4 * (P * P - P * R + R * R) - 3 * (R * R) := by grind
  have e2 : (2 * R - P) * (2 * R - P) = 4 * (P * P - P * R + R * R) - 3 * (P * P) := by grind
  omega
theorem sq_le_one {x : Int} (h : x * x ≤ 1) : x = 0 ∨ x = 1 ∨ x = -1 := by
  by_cases c : 2 ≤ x.natAbs
  · exfalso
    have := sq_le (x := 2) (y := (x.natAbs : Int)) (by omega) (by omega)
    rcases abs_cases x with e | e <;> rw [e] at this
    · omega
    · rw [Int.neg_mul_neg] at this
      omega
  · omega
theorem sq_pos {x : Int} (h : x ≠ 0) : 1 ≤ x * x := by
  have := sq_le (x := 1) (y := (x.natAbs : Int)) (by omega) (by omega)
  rcases abs_cases x with e | e <;> rw [e] at this
  · omega
  · rw [Int.neg_mul_neg] at this
    omega
theorem a_le_of {f : Form} {t : Change} (hf : Red f) (ha : 0 < f.a) (ht : IsCh t) : f.a ≤ (changed f t).a := by
  have h1 := value_low hf t.p t.r
  have h2 : 1 ≤ (t.p.natAbs : Int) * t.p.natAbs - t.p.natAbs * t.r.natAbs + t.r.natAbs * t.r.natAbs := by
    obtain ⟨n1, n2⟩ := norm_low (t.p.natAbs : Int) (t.r.natAbs : Int)
    by_cases c : t.r = 0
    · have hp : t.p ≠ 0 := fun e => by
        unfold IsCh at ht
        rw [c, e] at ht
        omega
      have := sq_pos (x := (t.p.natAbs : Int)) (by omega)
      omega
    · have := sq_pos (x := (t.r.natAbs : Int)) (by omega)
      omega
  have := Int.mul_le_mul_of_nonneg_left h2 (show 0 ≤ f.a by omega)
  show f.a ≤ value f t.p t.r
  omega
theorem mid_eq {a b b' k : Int} (ha : 0 < a) (h1 : -a < b) (h2 : b ≤ a) (h3 : -a < b') (h4 : b' ≤ a) (e : b' = b + 2 * a * k) : b' = b := by
  have e2 : 2 * a * k = 2 * (a * k) := Int.mul_assoc _ _ _
  by_cases c : k = 0
  · rw [c] at e
    omega
  · exfalso
    by_cases c1 : 0 < k
    · have := Int.mul_le_mul_of_nonneg_left (show 1 ≤ k by omega) (show 0 ≤ a by omega)
      omega
    · have := Int.mul_le_mul_of_nonneg_left (show k ≤ -1 by omega) (show 0 ≤ a by omega)
      omega
theorem c_of {f g : Form} (ha : 0 < f.a) (h1 : f.a = g.a) (h2 : f.b = g.b) (h : disc f = disc g) : f = g := by
  unfold disc at h
  rw [← h1, ← h2] at h
  have : (4 * f.a) * f.c = (4 * f.a) * g.c := by omega
  exact form_ext h1 h2 (Int.eq_of_mul_eq_mul_left (by omega) this)
theorem red_unique {f g : Form} (hf : Red f) (hg : Red g) (ha : 0 < f.a) (hga : 0 < g.a) (h : Eqv f g) : f = g := by
  have hd := h.disc
  have h2 := h.symm
  obtain ⟨t, ht, e⟩ := h
  obtain ⟨u, hu, e'⟩ := h2
  have k1 := a_le_of hf ha ht
  have k2 := a_le_of hg hga hu
  rw [e] at k1
  rw [e'] at k2
  have hA : f.a = g.a := by omega
  obtain ⟨⟨l1, l2⟩, l3, l4⟩ := hf
  obtain ⟨⟨m1, m2⟩, m3, m4⟩ := hg
  have hv : value f t.p t.r = f.a := by
    have := congrArg Form.a e
    rw [hA]
    exact this
  have hb : 2 * f.a * t.p * t.q + f.b * (t.p * t.s + t.q * t.r) + 2 * f.c * t.r * t.s = g.b := congrArg Form.b e
  have hnorm : (t.p.natAbs : Int) * t.p.natAbs - t.p.natAbs * t.r.natAbs + t.r.natAbs * t.r.natAbs ≤ 1 := by
    have h1 := value_low ⟨⟨l1, l2⟩, l3, l4⟩ t.p t.r
    rw [hv] at h1
    exact Int.le_of_mul_le_mul_left (show f.a * _ ≤ f.a * 1 by omega) ha
  obtain ⟨n1, n2⟩ := norm_low (t.p.natAbs : Int) (t.r.natAbs : Int)
  have hr1 := sq_le_one (x := (t.r.natAbs : Int)) (by omega)
  have hp1 := sq_le_one (x := (t.p.natAbs : Int)) (by omega)
  obtain ⟨p, q, r, s⟩ := t
  have ht' : p * s - q * r = 1 := ht
  dsimp only at hv hb hr1 hp1
  have hr : r = 0 ∨ r = 1 ∨ r = -1 := by omega
  have hp : p = 0 ∨ p = 1 ∨ p = -1 := by omega
  have fin : (∃ k, g.b = f.b + 2 * f.a * k) → f = g := fun ⟨k, hk⟩ =>
    c_of ha hA (mid_eq ha l1 l2 (by omega) (by omega) hk).symm hd
  -- where c is a
  have fin2 : f.a = f.c → (∃ k, g.b = -f.b + 2 * f.a * k) → f = g := fun hac ⟨k, hk⟩ => by
    have b0 := l4 hac
    by_cases hba : f.b = f.a
    · exact fin ⟨k - 1, by grind⟩
    · have hb' : g.b = -f.b := mid_eq ha (by omega) (by omega) (by omega) (by omega) hk
      have hcc : f.c = g.c := by
        unfold disc at hd
        rw [hb', ← hA] at hd
        have : (4 * f.a) * f.c = (4 * f.a) * g.c := by
          rw [Int.neg_mul_neg] at hd
          omega
        exact Int.eq_of_mul_eq_mul_left (by omega) this
      have := m4 (by omega)
      exact c_of ha hA (by omega) hd
  rcases hr with rfl | rfl | rfl
  · -- a shift
    rcases hp with rfl | rfl | rfl
    · omega
    · obtain rfl : s = 1 := by omega
      refine fin ⟨q, ?_⟩
      rw [← hb]
      grind
    · obtain rfl : s = -1 := by omega
      refine fin ⟨-q, ?_⟩
      rw [← hb]
      grind
  · rcases hp with rfl | rfl | rfl
    · exact fin2 (by unfold value at hv; grind) ⟨s, by unfold value at hv; grind⟩
    · exfalso
      unfold value at hv
      have : f.b = -f.c := by grind
      omega
    · have hbc : f.b = f.c := by
        unfold value at hv
        grind
      have hac : f.a = f.c := by omega
      exact fin ⟨-1 - q, by grind⟩
  · rcases hp with rfl | rfl | rfl
    · exact fin2 (by unfold value at hv; grind) ⟨-s, by unfold value at hv; grind⟩
    · have hbc : f.b = f.c := by
        unfold value at hv
        grind
      have hac : f.a = f.c := by omega
      exact fin ⟨q - 1, by grind⟩
    · exfalso
      unfold value at hv
      have : f.b = -f.c := by grind
      omega
theorem down_eqv {f : Form} (hd : disc f < 0) (ha : 0 < f.a) : Eqv f (down f).1 := by
  obtain ⟨_, _, _, h, e⟩ := down_spec hd ha
  exact ⟨_, h, e⟩
theorem down_unique {f g : Form} (hd : disc f < 0) (ha : 0 < f.a) (hg : 0 < g.a) (h : Eqv f g) : (down f).1 = (down g).1 := by
  have hd2 : disc g < 0 := by rw [← h.disc]; exact hd
  obtain ⟨r1, p1, _⟩ := down_spec hd ha
  obtain ⟨r2, p2, _⟩ := down_spec hd2 hg
  exact red_unique r1 r2 p1 p2 ((down_eqv hd ha).symm.trans (h.trans (down_eqv hd2 hg)))
end Fk

set_option Elab.async false
set_option linter.all false
set_option maxRecDepth 100000
set_option maxHeartbeats 2000000
/-! Walks over data: a value stands for a datum (Dp), a piece of syntax evaluates to a datum (EvD), a def keeps a promise over data (spD). -/
namespace Fkw
open PySem PySem.Spec PyProof.Rows L2 Evl
/-! ### data stay under a growing heap -/
mutual
theorem Dp_mono {K : PySem.W.Frag} {H H' : Hp} (e : Ex H H') : ∀ {v : V} {d : PyData}, Dp K H v d → Dp K H' v d
  | _, _, .non => .non
  | _, _, .bl b => .bl b
  | _, _, .int i => .int i
  | _, _, .str x => .str x
  | _, _, .lst h a => .lst (ex_l e h) (DpAll_mono e a)
  | _, _, .tup h a => .tup (ex_t e h) (DpAll_mono e a)
theorem DpAll_mono {K : PySem.W.Frag} {H H' : Hp} (e : Ex H H') : ∀ {vs : List V} {ds : List PyData}, DpAll K H vs ds → DpAll K H' vs ds
  | _, _, .nil => .nil
  | _, _, .cons a b => .cons (Dp_mono e a) (DpAll_mono e b)
end
section
variable {K : PySem.W.Frag} {H H' : Hp}
theorem dp_int {v : V} {n : Int} (h : Dp K H v (.int n)) : v = .int n := by cases h; rfl
theorem dp_bool {v : V} {b : Bool} (h : Dp K H v (.bool b)) : v = .bl b := by cases h; rfl
theorem dp_none {v : V} (h : Dp K H v .none) : v = .non := by cases h; rfl
theorem dp_list {v : V} {ds : List PyData} (h : Dp K H v (.list ds)) : ∃ a xs, v = .ref a ∧ SqL K H a xs ∧ DpAll K H xs ds := by
  cases h with
  | lst h a => exact ⟨_, _, rfl, h, a⟩
theorem dp_tup {v : V} {ds : List PyData} (h : Dp K H v (.tuple ds)) : ∃ a xs, v = .ref a ∧ SqT K H a xs ∧ DpAll K H xs ds := by
  cases h with
  | tup h a => exact ⟨_, _, rfl, h, a⟩
theorem da_nil {vs : List V} (h : DpAll K H vs []) : vs = [] := by cases h; rfl
theorem da_cons {vs : List V} {d : PyData} {ds : List PyData} (h : DpAll K H vs (d :: ds)) : ∃ v r, vs = v :: r ∧ Dp K H v d ∧ DpAll K H r ds := by
  cases h with
  | cons a b => exact ⟨_, _, rfl, a, b⟩
theorem da_len : ∀ {ds : List PyData} {vs : List V}, DpAll K H vs ds → vs.length = ds.length
  | [], _, h => by cases h; rfl
  | d :: ds, _, h => by
    cases h with
    | cons a b => rw [List.length_cons, List.length_cons, da_len b]
theorem da_append : ∀ {xs ys : List V} {ds es : List PyData}, DpAll K H xs ds → DpAll K H ys es → DpAll K H (xs ++ ys) (ds ++ es)
  | _, _, _, _, .nil, h => h
  | _, _, _, _, .cons a b, h => .cons a (da_append b h)
theorem da_get : ∀ {ds : List PyData} {vs : List V} {i : Nat} {d : PyData}, DpAll K H vs ds → ds[i]? = some d → ∃ v, vs[i]? = some v ∧ Dp K H v d
  | [], _, i, d, _, h => by simp at h
  | e :: ds, _, 0, d, .cons a b, h => ⟨_, rfl, by have : e = d := Option.some.inj h; exact this ▸ a⟩
  | e :: ds, _, i + 1, d, .cons a b, h => by
    obtain ⟨v, h1, h2⟩ := da_get (ds := ds) (i := i) (d := d) b (by simpa using h)
    exact ⟨v, by simpa using h1, h2⟩
theorem da_get2 : ∀ {ds : List PyData} {vs : List V} {i : Nat} {v : V}, DpAll K H vs ds → vs[i]? = some v → ∃ d, ds[i]? = some d ∧ Dp K H v d
  | [], _, i, d, h, e => by cases h; simp at e
  | e :: ds, _, 0, v, .cons a b, h => ⟨_, rfl, by have := Option.some.inj h; exact this ▸ a⟩
  | e :: ds, _, i + 1, v, .cons a b, h => by
    obtain ⟨d, h1, h2⟩ := da_get2 (ds := ds) (i := i) (v := v) b (by simpa using h)
    exact ⟨d, by simpa using h1, h2⟩
theorem da_ints : ∀ {ns : List Int} {vs : List V}, DpAll K H vs (ns.map PyData.int) → vs = ns.map V.int
  | [], _, h => by cases h; rfl
  | n :: ns, _, h => by
    cases h with
    | cons a b => rw [dp_int a, da_ints b]; rfl
theorem ints_da : ∀ (ns : List Int), DpAll K H (ns.map V.int) (ns.map PyData.int)
  | [] => .nil
  | _ :: ns => .cons (.int _) (ints_da ns)
theorem dp_tup3 {v : V} {x y z : PyData} (h : Dp K H v (.tuple [x, y, z])) : ∃ a p q r, v = .ref a ∧ SqT K H a [p, q, r] ∧ Dp K H p x ∧ Dp K H q y ∧ Dp K H r z := by
  obtain ⟨a, xs, rfl, hs, ha⟩ := dp_tup h
  obtain ⟨p, _, rfl, h1, ha⟩ := da_cons ha
  obtain ⟨q, _, rfl, h2, ha⟩ := da_cons ha
  obtain ⟨r, _, rfl, h3, ha⟩ := da_cons ha
  cases da_nil ha
  exact ⟨a, p, q, r, rfl, hs, h1, h2, h3⟩
end

/-! ### what evaluates to a datum -/
def EvD (K : PySem.W.Frag) (te : TE) (σ : L2.St) (H : Hp) (d : PyData) : Prop := ∀ H1, Ex H H1 → ∀ Q : VK, (∀ v H2, Ex H1 H2 → Dp K H2 v d → Q v H2) → te σ H1 Q
def EvDA (K : PySem.W.Frag) (ta : TA) (σ : L2.St) (H : Hp) (ds : List PyData) : Prop := ∀ H1, Ex H H1 → ∀ Q : List V → Hp → Prop, (∀ vs H2, Ex H1 H2 → DpAll K H2 vs ds → Q vs H2) → ta σ H1 Q
/-- a new list that may still be changed: its values stand for the data -/
def EvN (K : PySem.W.Frag) (te : TE) (σ : L2.St) (H : Hp) (ds : List PyData) : Prop := ∀ H1, Ex H H1 → ∀ Q : VK, (∀ p xs H2, H1 p = none → Ex H1 H2 → H2 p = some (.lst xs) → DpAll K H2 xs ds → Q (.ref p) H2) → te σ H1 Q
section
variable {K : PySem.W.Frag} {σ : L2.St} {H H' : Hp} {ta tb te tx : TE} {t u : TT} {d dx dy : PyData} {v : V} {r : R2} {tas : TA} {ds : List PyData}
theorem EvD.mono (e : Ex H H') (h : EvD K te σ H d) : EvD K te σ H' d := fun H1 a Q q => h H1 (e.trans a) Q q
theorem EvN.mono (e : Ex H H') (h : EvN K te σ H ds) : EvN K te σ H' ds := fun H1 a Q q => h H1 (e.trans a) Q q
theorem EvDA.mono (e : Ex H H') (h : EvDA K tas σ H ds) : EvDA K tas σ H' ds := fun H1 a Q q => h H1 (e.trans a) Q q
theorem EvN.toD (h : EvN K te σ H ds) : EvD K te σ H (.list ds) := fun H1 a Q q => h H1 a Q fun _ _ H2 _ e hp hd => q _ H2 e (.lst (sq_of hp) hd)
/-- a value known is a datum known -/
theorem EvD.ev {n : Int} (h : EvD K te σ H (.int n)) : Ev te σ H (.int n) := fun H1 a Q q => h H1 a Q fun v H2 e hv => by
  cases dp_int hv
  exact q H2 e
theorem EvD.evb {b : Bool} (h : EvD K te σ H (.bool b)) : Ev te σ H (.bl b) := fun H1 a Q q => h H1 a Q fun v H2 e hv => by
  cases dp_bool hv
  exact q H2 e
theorem ed_of (h : Ev te σ H v) (hd : Dp K H v d) : EvD K te σ H d := fun H1 a Q q => h H1 a Q fun H2 e => q v H2 e (Dp_mono (a.trans e) hd)
theorem ed_var {i : Nat} (h : σ[i]? = some (some v)) (hd : Dp K H v d) : EvD K (tVar i) σ H d := ed_of (ev_var h) hd
theorem ed_int {n : Int} : EvD K (tC (.int n)) σ H (.int n) := ed_of ev_c (.int n)
theorem ed_bl {b : Bool} : EvD K (tC (.bl b)) σ H (.bool b) := ed_of ev_c (.bl b)
theorem ed_non : EvD K (tC .non) σ H .none := ed_of ev_c .non
theorem ed_c (hd : Dp K H v d) : EvD K (tC v) σ H d := ed_of ev_c hd
theorem ed_is {e : PyData} (h : EvD K te σ H d) (q : d = e) : EvD K te σ H e := q ▸ h
theorem EvD.to {n m : Int} (h : EvD K te σ H (.int n)) (q : n = m) : EvD K te σ H (.int m) := q ▸ h
/-- two operands, one operation -/
theorem ed_op (ha : EvD K ta σ H dx) (hb : EvD K tb σ H dy) (hr : ∀ x y H1, Ex H H1 → Dp K H1 x dx → Dp K H1 y dy → ∀ Q : VK, (∀ v H2, Ex H1 H2 → Dp K H2 v d → Q v H2) → r x y H1 Q) : EvD K (tOp r ta tb) σ H d := fun H1 e Q q =>
  ha H1 e _ fun x H2 e2 hx => hb H2 (e.trans e2) _ fun y H3 e3 hy => hr x y H3 ((e.trans e2).trans e3) (Dp_mono e3 hx) hy Q fun v H4 e4 hv => q v H4 ((e2.trans e3).trans e4) hv
theorem ed_I0 {g : Int → Int → V} {i j : Int} (ha : EvD K ta σ H (.int i)) (hb : EvD K tb σ H (.int j)) (hd : Dp K H (g i j) d) : EvD K (tOp (rI0 g) ta tb) σ H d :=
  ed_op ha hb fun x y H1 e hx hy Q q => ⟨i, j, dp_int hx, dp_int hy, q _ H1 (Ex.refl H1) (Dp_mono e hd)⟩
theorem ed_I {C : Int → Int → Prop} {g : Int → Int → V} {i j : Int} (ha : EvD K ta σ H (.int i)) (hb : EvD K tb σ H (.int j)) (hc : C i j) (hd : Dp K H (g i j) d) : EvD K (tOp (rI C g) ta tb) σ H d :=
  ed_op ha hb fun x y H1 e hx hy Q q => ⟨i, j, dp_int hx, dp_int hy, hc, q _ H1 (Ex.refl H1) (Dp_mono e hd)⟩
theorem ed_add {i j : Int} (ha : EvD K ta σ H (.int i)) (hb : EvD K tb σ H (.int j)) : EvD K (tOp (rI0 fun i j => .int (i + j)) ta tb) σ H (.int (i + j)) := ed_I0 ha hb (.int _)
theorem ed_sub {i j : Int} (ha : EvD K ta σ H (.int i)) (hb : EvD K tb σ H (.int j)) : EvD K (tOp (rI0 fun i j => .int (i - j)) ta tb) σ H (.int (i - j)) := ed_I0 ha hb (.int _)
theorem ed_mul {i j : Int} (ha : EvD K ta σ H (.int i)) (hb : EvD K tb σ H (.int j)) (hc : CMul i j) : EvD K (tOp (rI CMul fun i j => .int (i * j)) ta tb) σ H (.int (i * j)) := ed_I ha hb hc (.int _)
theorem ed_fdiv {i j : Int} (ha : EvD K ta σ H (.int i)) (hb : EvD K tb σ H (.int j)) (hc : CDivN i j) : EvD K (tOp (rI CDivN fun i j => .int (i.fdiv j)) ta tb) σ H (.int (i.fdiv j)) := ed_I ha hb hc (.int _)
theorem ed_mod {i j : Int} (ha : EvD K ta σ H (.int i)) (hb : EvD K tb σ H (.int j)) (hc : j ≠ 0) : EvD K (tOp (rI (fun _ j => j ≠ 0) fun i j => .int (i.fmod j)) ta tb) σ H (.int (i.fmod j)) := ed_I ha hb hc (.int _)
theorem ed_lt {i j : Int} (ha : EvD K ta σ H (.int i)) (hb : EvD K tb σ H (.int j)) : EvD K (tOp (rI0 fun i j => .bl (decide (i < j))) ta tb) σ H (.bool (decide (i < j))) := ed_I0 ha hb (.bl _)
theorem ed_le {i j : Int} (ha : EvD K ta σ H (.int i)) (hb : EvD K tb σ H (.int j)) : EvD K (tOp (rI0 fun i j => .bl (decide (i ≤ j))) ta tb) σ H (.bool (decide (i ≤ j))) := ed_I0 ha hb (.bl _)
theorem ed_gt {i j : Int} (ha : EvD K ta σ H (.int i)) (hb : EvD K tb σ H (.int j)) : EvD K (tOp (rI0 fun i j => .bl (decide (j < i))) ta tb) σ H (.bool (decide (j < i))) := ed_I0 ha hb (.bl _)
theorem ed_ge {i j : Int} (ha : EvD K ta σ H (.int i)) (hb : EvD K tb σ H (.int j)) : EvD K (tOp (rI0 fun i j => .bl (decide (j ≤ i))) ta tb) σ H (.bool (decide (j ≤ i))) := ed_I0 ha hb (.bl _)
theorem ed_eqI {i j : Int} (ha : EvD K ta σ H (.int i)) (hb : EvD K tb σ H (.int j)) : EvD K (tOp rEq ta tb) σ H (.bool (decide (i = j))) :=
  ed_op ha hb fun x y H1 _ hx hy Q q => by
    cases dp_int hx
    cases dp_int hy
    refine ⟨rfl, q _ H1 (Ex.refl H1) ?_⟩
    have : decide (V.int i = V.int j) = decide (i = j) := by
      rw [L2.dec_int]
      rfl
    rw [this]
    exact .bl _
theorem ed_neI {i j : Int} (ha : EvD K ta σ H (.int i)) (hb : EvD K tb σ H (.int j)) : EvD K (tOp rNe ta tb) σ H (.bool (!decide (i = j))) :=
  ed_op ha hb fun x y H1 _ hx hy Q q => by
    cases dp_int hx
    cases dp_int hy
    refine ⟨rfl, q _ H1 (Ex.refl H1) ?_⟩
    have : decide (V.int i = V.int j) = decide (i = j) := by
      rw [L2.dec_int]
      rfl
    rw [this]
    exact .bl _
theorem ed_neg {i : Int} (ha : EvD K ta σ H (.int i)) : EvD K (tUn (rU fun i => .int (-i)) ta) σ H (.int (-i)) := fun H1 e Q q =>
  ha H1 e _ fun x H2 e2 hx => by
    cases dp_int hx
    exact ⟨i, rfl, q _ H2 e2 (.int _)⟩
/-! arguments, tuples, lists -/
theorem eda_nil : EvDA K tNil σ H [] := fun H1 _ _ q => q [] H1 (Ex.refl H1) .nil
theorem eda_cons {tr : TA} (h : EvD K te σ H d) (hr : EvDA K tr σ H ds) : EvDA K (tCons te tr) σ H (d :: ds) := fun H1 e _ q =>
  h H1 e _ fun x H2 e2 hx => hr H2 (e.trans e2) _ fun xs H3 e3 hxs => q _ H3 (e2.trans e3) (.cons (Dp_mono e3 hx) hxs)
theorem ed_tup (h : EvDA K tas σ H ds) (hl : ds.length ≤ 100000 := by simp) : EvD K (tTup tas) σ H (.tuple ds) := fun H1 e Q q =>
  h H1 e _ fun xs H2 e2 hx => ⟨by rw [da_len hx]; exact sz_of hl, fun p hp => q _ _ (e2.trans (Ex.new hp)) (.tup (st_of upd_same) (DpAll_mono (Ex.new hp) hx))⟩
theorem en_lst (h : EvDA K tas σ H ds) (hl : ds.length ≤ 100000 := by simp) : EvN K (tLst tas) σ H ds := fun H1 e Q q =>
  h H1 e _ fun xs H2 e2 hx => ⟨by rw [da_len hx]; exact sz_of hl, fun p hp => q p xs _ (fresh_back e2 hp) (e2.trans (Ex.new hp)) upd_same (DpAll_mono (Ex.new hp) hx)⟩
theorem en_list (h : EvD K te σ H d) (hd : d = .list ds ∨ d = .tuple ds) : EvN K (tCB (rListS K) (tCons te tNil)) σ H ds := fun H1 e Q q =>
  h H1 e _ fun x H2 e2 hx => by
    rcases hd with rfl | rfl
    · obtain ⟨a, xs, rfl, hs, ha⟩ := dp_list hx
      exact ⟨a, xs, rfl, .inl hs, fun l hl => q l xs _ (fresh_back e2 hl) (e2.trans (Ex.new hl)) upd_same (DpAll_mono (Ex.new hl) ha)⟩
    · obtain ⟨a, xs, rfl, hs, ha⟩ := dp_tup hx
      exact ⟨a, xs, rfl, .inr hs, fun l hl => q l xs _ (fresh_back e2 hl) (e2.trans (Ex.new hl)) upd_same (DpAll_mono (Ex.new hl) ha)⟩
/-- both operands of a list's +: new lists -/
theorem en_cat {es : List PyData} (ha : EvN K ta σ H ds) (hb : EvN K tb σ H es) (hl : ds.length + es.length ≤ 100000) : EvN K (tOp rCat ta tb) σ H (ds ++ es) := fun H1 e Q q =>
  ha H1 e _ fun p xs H2 hp e2 h2 hx => hb H2 (e.trans e2) _ fun p' ys H3 hp' e3 h3 hy =>
    ⟨p, p', xs, ys, rfl, rfl, e3 p _ h2, h3, by rw [da_len hx, da_len hy]; exact sz_of hl, fun l hl' => q l _ _ (fresh_back (e2.trans e3) hl') ((e2.trans e3).trans (Ex.new hl')) upd_same
      (DpAll_mono (Ex.new hl') (da_append (DpAll_mono e3 hx) hy))⟩
theorem ed_len (h : EvD K te σ H d) (hd : d = .list ds ∨ d = .tuple ds) : EvD K (tCB (rLenS K) (tCons te tNil)) σ H (.int (ds.length : Int)) := fun H1 e Q q =>
  h H1 e _ fun x H2 e2 hx => by
    rcases hd with rfl | rfl
    · obtain ⟨a, xs, rfl, hs, ha⟩ := dp_list hx
      exact ⟨a, xs, rfl, .inl hs, q _ H2 e2 (by rw [da_len ha]; exact .int _)⟩
    · obtain ⟨a, xs, rfl, hs, ha⟩ := dp_tup hx
      exact ⟨a, xs, rfl, .inr hs, q _ H2 e2 (by rw [da_len ha]; exact .int _)⟩
def rAbs : List V → Hp → VK → Prop := fun xs H Q => ∃ i, xs = [.int i] ∧ Q (.int (if i < 0 then -i else i)) H
theorem ed_abs {i : Int} (h : EvD K te σ H (.int i)) : EvD K (tCB rAbs (tCons te tNil)) σ H (.int (i.natAbs : Int)) := fun H1 e Q q =>
  h H1 e _ fun x H2 e2 hx => by
    cases dp_int hx
    refine ⟨i, rfl, q _ H2 e2 ?_⟩
    have : (if i < 0 then -i else i) = (i.natAbs : Int) := by split <;> omega
    rw [this]
    exact .int _
/-- max, min of ints that are not empty -/
theorem ed_max {n : Int} {ns : List Int} {m : Int} (h : EvD K te σ H (.list ((n :: ns).map PyData.int))) (hm : ∀ m', m' ∈ n :: ns → (∀ y, y ∈ n :: ns → y ≤ m') → m' = m) : EvD K (tCB (rMax K) (tCons te tNil)) σ H (.int m) := fun H1 e Q q =>
  h H1 e _ fun x H2 e2 hx => by
    obtain ⟨a, xs, rfl, hs, ha⟩ := dp_list hx
    cases da_ints ha
    refine ⟨a, n :: ns, rfl, hs, by simp, fun m' h1 h2 => ?_⟩
    cases hm m' h1 h2
    exact q _ H2 e2 (.int _)
/-- a tuple's item at a written place -/
theorem ed_ixT {i : Nat} {n : Int} (ha : EvD K ta σ H (.tuple ds)) (hb : EvD K tb σ H (.int n)) (hn : n = (i : Int)) (hi : ds[i]? = some d) : EvD K (tOp (rIxT K) ta tb) σ H d :=
  ed_op ha hb fun x y H1 _ hx hy Q q => by
    cases dp_int hy
    obtain ⟨a, xs, rfl, hs, hxs⟩ := dp_tup hx
    obtain ⟨v, hv, hd⟩ := da_get hxs hi
    exact ⟨a, xs, n, v, rfl, rfl, hs, by rw [hn]; exact atI_nat hv, q _ H1 (Ex.refl H1) hd⟩
theorem ed_ixL {i : Nat} {n : Int} (ha : EvD K ta σ H (.list ds)) (hb : EvD K tb σ H (.int n)) (hn : n = (i : Int)) (hi : ds[i]? = some d) : EvD K (tOp (rIxL K) ta tb) σ H d :=
  ed_op ha hb fun x y H1 _ hx hy Q q => by
    cases dp_int hy
    obtain ⟨a, xs, rfl, hs, hxs⟩ := dp_list hx
    obtain ⟨v, hv, hd⟩ := da_get hxs hi
    exact ⟨a, xs, n, v, rfl, rfl, hs, by rw [hn]; exact atI_nat hv, q _ H1 (Ex.refl H1) hd⟩
/-- and, or as values; not -/
theorem ed_and {a b : Bool} (h1 : EvD K ta σ H (.bool a)) (h2 : a = true → EvD K tb σ H (.bool b)) : EvD K (tAndV ta tb) σ H (.bool (a && b)) := fun H1 e Q q => h1 H1 e _ fun v H2 e2 hv => by
  cases dp_bool hv
  refine ⟨a, rfl, ?_⟩
  cases a with
  | true =>
    show tb σ H2 Q
    exact h2 rfl H2 (e.trans e2) Q fun v H3 e3 hv => q v H3 (e2.trans e3) hv
  | false =>
    show Q (.bl false) H2
    exact q _ H2 e2 (.bl _)
theorem ed_or {a b : Bool} (h1 : EvD K ta σ H (.bool a)) (h2 : a = false → EvD K tb σ H (.bool b)) : EvD K (tOrV ta tb) σ H (.bool (a || b)) := fun H1 e Q q => h1 H1 e _ fun v H2 e2 hv => by
  cases dp_bool hv
  refine ⟨a, rfl, ?_⟩
  cases a with
  | true =>
    show Q (.bl true) H2
    exact q _ H2 e2 (.bl _)
  | false =>
    show tb σ H2 Q
    exact h2 rfl H2 (e.trans e2) Q fun v H3 e3 hv => q v H3 (e2.trans e3) hv
theorem ed_not {a : Bool} (h1 : EvD K ta σ H (.bool a)) : EvD K (tNotV ta) σ H (.bool (!a)) := fun H1 e Q q => h1 H1 e _ fun v H2 e2 hv => by
  cases dp_bool hv
  exact ⟨a, rfl, q _ H2 e2 (.bl _)⟩
theorem et_testD {b : Bool} (h : EvD K te σ H (.bool b)) : EvT (tTest te) σ H b := et_test h.evb
theorem et_BD {b : Bool} (h : EvD K te σ H (.bool b)) : EvT (tB te) σ H b := et_B h.evb
end

/-! ### promises over data -/
def spD (K : PySem.W.Frag) (pre : List PyData → PyData → Prop) : Sp := fun vs H Q _ => ∃ ds d, DpAll K H vs ds ∧ pre ds d ∧ ∀ v H', Ex H H' → Dp K H' v d → Q v H'
/-- a def that hands back a new list, which its caller may change -/
def spN (K : PySem.W.Frag) (pre : List PyData → List PyData → Prop) : Sp := fun vs H Q _ => ∃ ds es, DpAll K H vs ds ∧ pre ds es ∧ ∀ p xs H', H p = none → Ex H H' → H' p = some (.lst xs) → DpAll K H' xs es → Q (.ref p) H'
/-- a def that hands back None or raises the error at CF -/
def spX (K : PySem.W.Frag) (CF : Addr) (pre : List PyData → Bool → Prop) : Sp := fun vs H Q E => ∃ ds b, DpAll K H vs ds ∧ pre ds b ∧ (b = true → ∀ H', Ex H H' → Q .non H') ∧ (b = false → ∀ H', Ex H H' → E (.ref CF) none H')
section
variable {K : PySem.W.Frag} {σ : L2.St} {H H' : Hp} {tas : TA} {ds : List PyData} {d : PyData} {E : XK}
theorem ed_call {pre : List PyData → PyData → Prop} (h : EvDA K tas σ H ds) (hp : pre ds d) : EvD K (tCall (spD K pre) [] E tas) σ H d := fun H1 e Q q =>
  h H1 e _ fun vs H2 e2 hv => ⟨ds, d, by rw [List.append_nil]; exact hv, hp, fun v H3 e3 hd => q v H3 (e2.trans e3) hd⟩
theorem en_call {es : List PyData} {pre : List PyData → List PyData → Prop} (h : EvDA K tas σ H ds) (hp : pre ds es) : EvN K (tCall (spN K pre) [] E tas) σ H es := fun H1 e Q q =>
  h H1 e _ fun vs H2 e2 hv => ⟨ds, es, by rw [List.append_nil]; exact hv, hp, fun p xs H3 hn e3 hl hd => q p xs H3 (fresh_back e2 hn) (e2.trans e3) hl hd⟩
end

/-! ### statements -/
section
variable {K : PySem.W.Frag} {σ : L2.St} {H H' : Hp} {te : TE} {t : TT} {tu tw tz : TS} {d : PyData} {D : Ends} {ds : List PyData}
theorem sd_asg {i : Nat} (h : EvD K te σ H d) (k : ∀ v H1, Ex H H1 → Dp K H1 v d → D.nx (σ.set i (some v)) H1) : tAsg te (gName i) D σ H := h H (Ex.refl H) _ fun v H2 e hv => k v H2 e hv
theorem qd_asg {i : Nat} (h : EvD K te σ H d) (k : ∀ v H1, Ex H H1 → Dp K H1 v d → tz D (σ.set i (some v)) H1) : tSeq (tAsg te (gName i)) tz D σ H := sd_asg (D := { D with nx := tz D }) h k
theorem qd_asgI {i : Nat} {n : Int} (h : EvD K te σ H (.int n)) (k : ∀ H1, Ex H H1 → tz D (σ.set i (some (.int n))) H1) : tSeq (tAsg te (gName i)) tz D σ H := qd_asg h fun v H1 e hv => by
  cases dp_int hv
  exact k H1 e
theorem sd_asgI {i : Nat} {n : Int} (h : EvD K te σ H (.int n)) (k : ∀ H1, Ex H H1 → D.nx (σ.set i (some (.int n))) H1) : tAsg te (gName i) D σ H := sd_asg h fun v H1 e hv => by
  cases dp_int hv
  exact k H1 e
theorem qd_asgN {i : Nat} (h : EvN K te σ H ds) (k : ∀ p xs H1, H p = none → Ex H H1 → H1 p = some (.lst xs) → DpAll K H1 xs ds → tz D (σ.set i (some (.ref p))) H1) : tSeq (tAsg te (gName i)) tz D σ H := h H (Ex.refl H) _ fun p xs H2 hn e hp hv => k p xs H2 hn e hp hv
/-- a, b, c = a tuple of three ints -/
theorem qd_un3 {i j l : Nat} {a b c : Int} (h : EvD K te σ H (.tuple [.int a, .int b, .int c])) (k : ∀ H1, Ex H H1 → tz D (((σ.set i (some (.int a))).set j (some (.int b))).set l (some (.int c))) H1) :
    tSeq (tAsg te (gTup K 3 (gCons (gName i) (gCons (gName j) (gCons (gName l) gNil))))) tz D σ H := h H (Ex.refl H) _ fun v H2 e hv => by
  obtain ⟨p, x, y, z, rfl, hs, hx, hy, hz⟩ := dp_tup3 hv
  cases dp_int hx
  cases dp_int hy
  cases dp_int hz
  exact ⟨p, _, rfl, hs, rfl, _, _, rfl, _, _, rfl, _, _, rfl, rfl, k H2 e⟩
theorem qd_un4 {i j l m : Nat} {a b c f : Int} (h : EvD K te σ H (.tuple [.int a, .int b, .int c, .int f])) (k : ∀ H1, Ex H H1 → tz D ((((σ.set i (some (.int a))).set j (some (.int b))).set l (some (.int c))).set m (some (.int f))) H1) :
    tSeq (tAsg te (gTup K 4 (gCons (gName i) (gCons (gName j) (gCons (gName l) (gCons (gName m) gNil)))))) tz D σ H := h H (Ex.refl H) _ fun v H2 e hv => by
  obtain ⟨a, xs, rfl, hs, ha⟩ := dp_tup hv
  obtain ⟨x, _, rfl, hx, ha⟩ := da_cons ha
  obtain ⟨y, _, rfl, hy, ha⟩ := da_cons ha
  obtain ⟨z, _, rfl, hz, ha⟩ := da_cons ha
  obtain ⟨w, _, rfl, hw, ha⟩ := da_cons ha
  cases da_nil ha
  cases dp_int hx
  cases dp_int hy
  cases dp_int hz
  cases dp_int hw
  exact ⟨a, _, rfl, hs, rfl, _, _, rfl, _, _, rfl, _, _, rfl, _, _, rfl, rfl, k H2 e⟩
/-- a, b = a tuple of two data -/
theorem qd_un2 {i j : Nat} {x y : PyData} (h : EvD K te σ H (.tuple [x, y])) (k : ∀ u v H1, Ex H H1 → Dp K H1 u x → Dp K H1 v y → tz D ((σ.set i (some u)).set j (some v)) H1) :
    tSeq (tAsg te (gTup K 2 (gCons (gName i) (gCons (gName j) gNil)))) tz D σ H := h H (Ex.refl H) _ fun v H2 e hv => by
  obtain ⟨a, xs, rfl, hs, ha⟩ := dp_tup hv
  obtain ⟨u, _, rfl, hx, ha⟩ := da_cons ha
  obtain ⟨w, _, rfl, hy, ha⟩ := da_cons ha
  cases da_nil ha
  exact ⟨a, _, rfl, hs, rfl, _, _, rfl, _, _, rfl, rfl, k u w H2 e hx hy⟩
/-- a, b = x, y -/
theorem qd_par {i j : Nat} {ta : TA} {x y : PyData} (h : EvDA K ta σ H [x, y]) (k : ∀ u v H1, Ex H H1 → Dp K H1 u x → Dp K H1 v y → tz D ((σ.set i (some u)).set j (some v)) H1) : tSeq (tPar i j ta) tz D σ H := h H (Ex.refl H) _ fun vs H2 e hv => by
  obtain ⟨u, _, rfl, hx, ha⟩ := da_cons hv
  obtain ⟨w, _, rfl, hy, ha⟩ := da_cons ha
  cases da_nil ha
  exact ⟨_, _, rfl, k u w H2 e hx hy⟩
theorem sd_par {i j : Nat} {ta : TA} {x y : PyData} (h : EvDA K ta σ H [x, y]) (k : ∀ u v H1, Ex H H1 → Dp K H1 u x → Dp K H1 v y → D.nx ((σ.set i (some u)).set j (some v)) H1) : tPar i j ta D σ H := h H (Ex.refl H) _ fun vs H2 e hv => by
  obtain ⟨u, _, rfl, hx, ha⟩ := da_cons hv
  obtain ⟨w, _, rfl, hy, ha⟩ := da_cons ha
  cases da_nil ha
  exact ⟨_, _, rfl, k u w H2 e hx hy⟩
theorem qd_parI {i j : Nat} {ta : TA} {x y : Int} (h : EvDA K ta σ H [.int x, .int y]) (k : ∀ H1, Ex H H1 → tz D ((σ.set i (some (.int x))).set j (some (.int y))) H1) : tSeq (tPar i j ta) tz D σ H := qd_par h fun u v H1 e hu hv => by
  cases dp_int hu
  cases dp_int hv
  exact k H1 e
theorem sd_parI {i j : Nat} {ta : TA} {x y : Int} (h : EvDA K ta σ H [.int x, .int y]) (k : ∀ H1, Ex H H1 → D.nx ((σ.set i (some (.int x))).set j (some (.int y))) H1) : tPar i j ta D σ H := sd_par h fun u v H1 e hu hv => by
  cases dp_int hu
  cases dp_int hv
  exact k H1 e
theorem sd_ret (h : EvD K te σ H d) (k : ∀ v H1, Ex H H1 → Dp K H1 v d → D.rt v H1) : tRet te D σ H := h H (Ex.refl H) _ fun v H2 e hv => k v H2 e hv
theorem sd_retN (h : EvN K te σ H ds) (k : ∀ p xs H1, H p = none → Ex H H1 → H1 p = some (.lst xs) → DpAll K H1 xs ds → D.rt (.ref p) H1) : tRet te D σ H := h H (Ex.refl H) _ k
end
end Fkw

set_option Elab.async false
set_option linter.all false
set_option maxRecDepth 100000
set_option maxHeartbeats 2000000
/-! Lists that grow: comprehensions, loops that append. -/
namespace Fkw
open PySem PySem.Spec PyProof.Rows L2 Evl
/-! ### data without a list within: they stay when a list changes -/
mutual
def lf : PyData → Bool
  | .list _ => false
  | .dict _ => false
  | .tuple ds => lfs ds
  | .none => true
  | .bool _ => true
  | .int _ => true
  | .str _ => true
def lfs : List PyData → Bool
  | [] => true
  | d :: ds => lf d && lfs ds
end
theorem lfs_append : ∀ (xs ys : List PyData), lfs (xs ++ ys) = (lfs xs && lfs ys)
  | [], ys => rfl
  | x :: xs, ys => by
    show (lf x && lfs (xs ++ ys)) = ((lf x && lfs xs) && lfs ys)
    rw [lfs_append xs ys, Bool.and_assoc]
theorem lfs_of : ∀ {ds : List PyData}, (∀ d ∈ ds, lf d = true) → lfs ds = true
  | [], _ => rfl
  | d :: ds, h => by
    show (lf d && lfs ds) = true
    rw [h d (List.mem_cons_self ..), lfs_of fun e he => h e (List.mem_cons_of_mem _ he)]
    rfl
theorem lfs_mem : ∀ {ds : List PyData}, lfs ds = true → ∀ d ∈ ds, lf d = true
  | d :: ds, h, e, he => by
    have h : (lf d && lfs ds) = true := h
    rw [Bool.and_eq_true] at h
    rcases List.mem_cons.mp he with rfl | he
    · exact h.1
    · exact lfs_mem h.2 e he
theorem lfs_ints (ns : List Int) : lfs (ns.map PyData.int) = true := lfs_of fun d h => by
  obtain ⟨n, _, rfl⟩ := List.mem_map.mp h
  rfl
mutual
theorem Dp_lst {K : PySem.W.Frag} {H : Hp} {D : Addr} {xs ys : List V} (hD : H D = some (.lst xs)) : ∀ {v : V} {d : PyData}, lf d = true → Dp K H v d → Dp K (upd H D (.lst ys)) v d
  | _, _, _, .non => .non
  | _, _, _, .bl b => .bl b
  | _, _, _, .int i => .int i
  | _, _, _, .str x => .str x
  | _, _, l, .lst h a => by cases l
  | _, _, l, .tup (a := p) h a => by
    refine .tup ?_ (DpAll_lst hD l a)
    rcases h with (h | ⟨o, h⟩) | h
    · refine .inl (.inl ?_)
      rw [upd_ne (ne_of h hD (by intro z; cases z))]
      exact h
    · refine .inl (.inr ⟨o, ?_⟩)
      rw [upd_ne (ne_of h hD (by intro z; cases z))]
      exact h
    · exact .inr h
theorem DpAll_lst {K : PySem.W.Frag} {H : Hp} {D : Addr} {xs ys : List V} (hD : H D = some (.lst xs)) : ∀ {vs : List V} {ds : List PyData}, lfs ds = true → DpAll K H vs ds → DpAll K (upd H D (.lst ys)) vs ds
  | _, _, _, .nil => .nil
  | _, _, l, .cons a b => by
    have l := Bool.and_eq_true_iff.mp l
    exact .cons (Dp_lst hD l.1 a) (DpAll_lst hD l.2 b)
end
section
variable {K : PySem.W.Frag} {σ : L2.St} {H H' : Hp} {ta tb te tl : TE} {t u : TT} {d : PyData} {v : V} {tas : TA} {ds es : List PyData}
/-- a list of ours that grows, over a heap where it was not: what it holds -/
def Lst (K : PySem.W.Frag) (H : Hp) (p : Addr) (es : List PyData) (H' : Hp) : Prop := H p = none ∧ Ex H H' ∧ lfs es = true ∧ ∃ xs, H' p = some (.lst xs) ∧ DpAll K H' xs es
theorem Lst.ex {p : Addr} (h : Lst K H p es H') : Ex H H' := h.2.1
theorem Lst.mono {p : Addr} {H2 : Hp} (h : Lst K H p es H') (e : Ex H' H2) : Lst K H p es H2 := by
  obtain ⟨h0, h1, h2, xs, h3, h4⟩ := h
  exact ⟨h0, h1.trans e, h2, xs, e _ _ h3, DpAll_mono e h4⟩
theorem Lst.push {p : Addr} {xs : List V} {y : V} (h : Lst K H p es H') (hp : H' p = some (.lst xs)) (hd : Dp K H' y d) (hl : lf d = true) : Lst K H p (es ++ [d]) (upd H' p (.lst (xs ++ [y]))) := by
  obtain ⟨h0, h1, h2, xs', h3, h4⟩ := h
  rw [h3] at hp
  cases hp
  refine ⟨h0, Ex.mut h1 h0, by rw [lfs_append, h2]; simp [lfs, hl], _, upd_same, ?_⟩
  exact DpAll_lst h3 (by rw [lfs_append, h2]; simp [lfs, hl]) (da_append h4 (.cons hd .nil))
theorem Lst.pushes {p : Addr} {xs ys : List V} {fs : List PyData} (h : Lst K H p es H') (hp : H' p = some (.lst xs)) (hd : DpAll K H' ys fs) (hl : lfs fs = true) : Lst K H p (es ++ fs) (upd H' p (.lst (xs ++ ys))) := by
  obtain ⟨h0, h1, h2, xs', h3, h4⟩ := h
  rw [h3] at hp
  cases hp
  refine ⟨h0, Ex.mut h1 h0, by rw [lfs_append, h2, hl]; rfl, _, upd_same, ?_⟩
  exact DpAll_lst h3 (by rw [lfs_append, h2, hl]; rfl) (da_append h4 hd)
theorem Lst.len {p : Addr} {xs : List V} (h : Lst K H p es H') (hp : H' p = some (.lst xs)) : xs.length = es.length := by
  obtain ⟨h0, h1, h2, xs', h3, h4⟩ := h
  rw [h3] at hp
  cases hp
  exact da_len h4
/-- a new list, empty or not -/
theorem Lst.start {p : Addr} {xs : List V} (h0 : H p = none) (e : Ex H H') (hp : H' p = some (.lst xs)) (hd : DpAll K H' xs es) (hl : lfs es = true) : Lst K H p es H' := ⟨h0, e, hl, xs, hp, hd⟩
theorem Lst.toD {p : Addr} (h : Lst K H p es H') : Dp K H' (.ref p) (.list es) := by
  obtain ⟨h0, h1, h2, xs', h3, h4⟩ := h
  exact .lst (sq_of h3) h4

/-! ### comprehensions -/
def Kept (p : PyData → Bool) (g : PyData → PyData) (ds : List PyData) : List PyData := (ds.filter p).map g
theorem kept_yes {p : PyData → Bool} {g : PyData → PyData} {i : Nat} {d : PyData} (h : ds[i]? = some d) (hp : p d = true) : Kept p g (ds.take (i + 1)) = Kept p g (ds.take i) ++ [g d] := by
  unfold Kept
  rw [List.take_add_one, h, List.filter_append, List.map_append]
  simp [hp]
theorem kept_no {p : PyData → Bool} {g : PyData → PyData} {i : Nat} {d : PyData} (h : ds[i]? = some d) (hp : p d = false) : Kept p g (ds.take (i + 1)) = Kept p g (ds.take i) := by
  unfold Kept
  rw [List.take_add_one, h, List.filter_append, List.map_append]
  simp [hp]
theorem kept_len (p : PyData → Bool) (g : PyData → PyData) (ds : List PyData) : (Kept p g ds).length ≤ ds.length := by
  unfold Kept
  rw [List.length_map]
  exact List.length_filter_le _ _
theorem kept_all {g : PyData → PyData} (ds : List PyData) : Kept (fun _ => true) g ds = ds.map g := by
  unfold Kept
  rw [List.filter_eq_self.mpr (fun _ _ => rfl)]
theorem et_yes : EvT tYes σ H true := fun H1 _ _ q => q H1 (Ex.refl H1)
/-- one turn of a comprehension -/
theorem lc_turn {p : PyData → Bool} {g : PyData → PyData} {D : Addr} {i : Nat} {x : V} {σ2 : L2.St} (L : Lst K H D (Kept p g (ds.take i)) H') (hi : ds[i]? = some d) (hn : i < 50000) (hx : Dp K H' x d)
    (ht : EvT t σ2 H' (p d)) (he : p d = true → EvD K te σ2 H' (g d)) (hl : lf (g d) = true) :
    t σ2 H' fun b H3 => if b = true then te σ2 H3 fun y H4 => ∃ acc, H4 D = some (.lst acc) ∧ acc.length < sizeLine ∧ Lst K H D (Kept p g (ds.take (i + 1))) (upd H4 D (.lst (acc ++ [y]))) else Lst K H D (Kept p g (ds.take (i + 1))) H3 := by
  refine ht H' (Ex.refl _) _ fun H3 e3 => ?_
  cases hp : p d with
  | true =>
    show te σ2 H3 fun y H4 => _
    refine he hp H3 e3 _ fun y H4 e4 hy => ?_
    have L4 := L.mono (e3.trans e4)
    obtain ⟨h0, h1, h2, xs, h3, h4⟩ := id L4
    refine ⟨xs, h3, sz_lt ?_, ?_⟩
    · rw [L4.len h3]
      have := kept_len p g (ds.take i)
      have := List.length_take_le i ds
      omega
    · rw [kept_yes hi hp]
      exact L4.push h3 hy hl
  | false =>
    show Lst K H D (Kept p g (ds.take (i + 1))) H3
    rw [kept_no hi hp]
    exact L.mono e3
theorem en_lcT {j : Nat} {vs : List Nat} (p : PyData → Bool) (g : PyData → PyData) (h : EvD K tl σ H (.tuple ds)) (hz : ds.length ≤ 40000) (hw : ∀ x, wipe ((wipe σ vs).set j (some x)) vs = wipe σ vs)
    (hl : ∀ d ∈ ds, lf (g d) = true)
    (ht : ∀ (d : PyData) (x : V) H1, d ∈ ds → Ex H H1 → Dp K H1 x d → EvT t ((wipe σ vs).set j (some x)) H1 (p d)) (he : ∀ (d : PyData) (x : V) H1, d ∈ ds → Ex H H1 → Dp K H1 x d → p d = true → EvD K te ((wipe σ vs).set j (some x)) H1 (g d)) :
    EvN K (tLc (iTup K tl) (gName j) t te vs) σ H (Kept p g ds) := fun H0 e Q q => h H0 e _ fun x H1 e1 hx => by
  obtain ⟨a, xs, rfl, hs, ha⟩ := dp_tup hx
  refine ⟨a, rfl, ⟨xs, hs⟩, fun Dl hD => ?_⟩
  refine lc_tup (xs := xs) (fun i H' => Lst K H1 Dl (Kept p g (ds.take i)) H') (Lst.start hD (Ex.new hD) upd_same .nil rfl) (fun i H' _ L => ex_t L.ex hs) (fun i x H' hi L => ⟨hw x, ?_⟩) (fun H' L => ?_)
  · obtain ⟨d, hd, hxd⟩ := da_get2 ha hi
    have hm := List.mem_of_getElem? hd
    have hi' := (List.getElem?_eq_some_iff.mp hd).1
    exact lc_turn L hd (by omega) (Dp_mono L.ex hxd) (ht d x H' hm ((e.trans e1).trans L.ex) (Dp_mono L.ex hxd)) (fun hp => he d x H' hm ((e.trans e1).trans L.ex) (Dp_mono L.ex hxd) hp) (hl d hm)
  · rw [da_len ha, List.take_length] at L
    obtain ⟨h0, h1, h2, xs, h3, h4⟩ := L
    exact q Dl xs H' (fresh_back e1 h0) (e1.trans h1) h3 h4
theorem en_lcL {j : Nat} {vs : List Nat} (p : PyData → Bool) (g : PyData → PyData) (h : EvD K tl σ H (.list ds)) (hz : ds.length ≤ 40000) (hw : ∀ x, wipe ((wipe σ vs).set j (some x)) vs = wipe σ vs)
    (hl : ∀ d ∈ ds, lf (g d) = true)
    (ht : ∀ (d : PyData) (x : V) H1, d ∈ ds → Ex H H1 → Dp K H1 x d → EvT t ((wipe σ vs).set j (some x)) H1 (p d)) (he : ∀ (d : PyData) (x : V) H1, d ∈ ds → Ex H H1 → Dp K H1 x d → p d = true → EvD K te ((wipe σ vs).set j (some x)) H1 (g d)) :
    EvN K (tLc (iList K tl) (gName j) t te vs) σ H (Kept p g ds) := fun H0 e Q q => h H0 e _ fun x H1 e1 hx => by
  obtain ⟨a, xs, rfl, hs, ha⟩ := dp_list hx
  refine ⟨a, rfl, ⟨xs, hs⟩, fun Dl hD => ?_⟩
  refine lc_list (xs := xs) (fun i H' => Lst K H1 Dl (Kept p g (ds.take i)) H') (Lst.start hD (Ex.new hD) upd_same .nil rfl) (fun i H' _ L => ex_l L.ex hs) (fun i x H' hi L => ⟨hw x, ?_⟩) (fun H' L => ?_)
  · obtain ⟨d, hd, hxd⟩ := da_get2 ha hi
    have hm := List.mem_of_getElem? hd
    have hi' := (List.getElem?_eq_some_iff.mp hd).1
    exact lc_turn L hd (by omega) (Dp_mono L.ex hxd) (ht d x H' hm ((e.trans e1).trans L.ex) (Dp_mono L.ex hxd)) (fun hp => he d x H' hm ((e.trans e1).trans L.ex) (Dp_mono L.ex hxd) hp) (hl d hm)
  · rw [da_len ha, List.take_length] at L
    obtain ⟨h0, h1, h2, xs, h3, h4⟩ := L
    exact q Dl xs H' (fresh_back e1 h0) (e1.trans h1) h3 h4
/-- without a test -/
theorem en_mapT {j : Nat} {vs : List Nat} (g : PyData → PyData) (h : EvD K tl σ H (.tuple ds)) (hz : ds.length ≤ 40000) (hw : ∀ x, wipe ((wipe σ vs).set j (some x)) vs = wipe σ vs) (hl : ∀ d ∈ ds, lf (g d) = true)
    (he : ∀ (d : PyData) (x : V) H1, d ∈ ds → Ex H H1 → Dp K H1 x d → EvD K te ((wipe σ vs).set j (some x)) H1 (g d)) : EvN K (tLc (iTup K tl) (gName j) tYes te vs) σ H (ds.map g) := by
  rw [← kept_all]
  exact en_lcT (fun _ => true) g h hz hw hl (fun _ _ _ _ _ _ => et_yes) fun d x H1 hd e hx _ => he d x H1 hd e hx
theorem en_mapL {j : Nat} {vs : List Nat} (g : PyData → PyData) (h : EvD K tl σ H (.list ds)) (hz : ds.length ≤ 40000) (hw : ∀ x, wipe ((wipe σ vs).set j (some x)) vs = wipe σ vs) (hl : ∀ d ∈ ds, lf (g d) = true)
    (he : ∀ (d : PyData) (x : V) H1, d ∈ ds → Ex H H1 → Dp K H1 x d → EvD K te ((wipe σ vs).set j (some x)) H1 (g d)) : EvN K (tLc (iList K tl) (gName j) tYes te vs) σ H (ds.map g) := by
  rw [← kept_all]
  exact en_lcL (fun _ => true) g h hz hw hl (fun _ _ _ _ _ _ => et_yes) fun d x H1 hd e hx _ => he d x H1 hd e hx

/-! ### statements over a growing list -/
variable {tu tw tz : TS} {D : Ends}
/-- found.append(e) -/
theorem qd_app {l : Addr} {H0 : Hp} (L : Lst K H0 l es H) (ha : Ev ta σ H (.ref l)) (h : EvD K te σ H d) (hl : lf d = true) (hz : es.length < 100000) (k : ∀ H1, (∀ v d, lf d = true → Dp K H v d → Dp K H1 v d) → Lst K H0 l (es ++ [d]) H1 → tz D σ H1) :
    tSeq (tDrop (tBM K "list" rAppend ta (tCons te tNil))) tz D σ H := by
  obtain ⟨h0, h1, h2, xs, h3, h4⟩ := id L
  refine ha H (Ex.refl H) _ fun H1 e1 => ⟨.inl ⟨rfl, xs, sq_of (e1 _ _ h3)⟩, ?_⟩
  refine h H1 e1 _ fun y H2 e2 hy => ?_
  have L2 := L.mono (e1.trans e2)
  have h3' := (e1.trans e2) _ _ h3
  exact ⟨l, xs, y, rfl, rfl, h3', sz_lt (by rw [L2.len h3']; exact hz), k _ (fun v d hd h => Dp_lst h3' hd (Dp_mono (e1.trans e2) h)) (L2.push h3' hy hl)⟩
theorem sd_app {l : Addr} {H0 : Hp} (L : Lst K H0 l es H) (ha : Ev ta σ H (.ref l)) (h : EvD K te σ H d) (hl : lf d = true) (hz : es.length < 100000) (k : ∀ H1, (∀ v d, lf d = true → Dp K H v d → Dp K H1 v d) → Lst K H0 l (es ++ [d]) H1 → D.nx σ H1) :
    tDrop (tBM K "list" rAppend ta (tCons te tNil)) D σ H := by
  obtain ⟨h0, h1, h2, xs, h3, h4⟩ := id L
  refine ha H (Ex.refl H) _ fun H1 e1 => ⟨.inl ⟨rfl, xs, sq_of (e1 _ _ h3)⟩, ?_⟩
  refine h H1 e1 _ fun y H2 e2 hy => ?_
  have L2 := L.mono (e1.trans e2)
  have h3' := (e1.trans e2) _ _ h3
  exact ⟨l, xs, y, rfl, rfl, h3', sz_lt (by rw [L2.len h3']; exact hz), k _ (fun v d hd h => Dp_lst h3' hd (Dp_mono (e1.trans e2) h)) (L2.push h3' hy hl)⟩
/-- found.extend(a new list) -/
theorem sd_ext {l : Addr} {H0 : Hp} {fs : List PyData} (L : Lst K H0 l es H) (ha : Ev ta σ H (.ref l)) (h : EvN K te σ H fs) (hl : lfs fs = true) (hz : es.length + fs.length ≤ 100000) (k : ∀ H1, (∀ v d, lf d = true → Dp K H v d → Dp K H1 v d) → Lst K H0 l (es ++ fs) H1 → D.nx σ H1) :
    tDrop (tBM K "list" rExtend ta (tCons te tNil)) D σ H := by
  obtain ⟨h0, h1, h2, xs, h3, h4⟩ := id L
  refine ha H (Ex.refl H) _ fun H1 e1 => ⟨.inl ⟨rfl, xs, sq_of (e1 _ _ h3)⟩, ?_⟩
  refine h H1 e1 _ fun q ys H2 hn e2 hq hy => ?_
  have L2 := L.mono (e1.trans e2)
  have h3' := (e1.trans e2) _ _ h3
  exact ⟨l, q, xs, ys, rfl, rfl, h3', hq, by rw [L2.len h3', da_len hy]; exact sz_of hz, k _ (fun v d hd h => Dp_lst h3' hd (Dp_mono (e1.trans e2) h)) (L2.pushes h3' hy hl)⟩
/-- the heap without what stands at p -/
def rem (H : Hp) (p : Addr) : Hp := fun b => if b = p then none else H b
theorem rem_at {p : Addr} : rem H p p = none := if_pos rfl
theorem rem_ne {p b : Addr} (h : b ≠ p) : rem H p b = H b := if_neg h
theorem rem_ex {p : Addr} : Ex (rem H p) H := fun a o h => by
  by_cases e : a = p
  · rw [e, rem_at] at h
    cases h
  · rwa [rem_ne e] at h
theorem ex_rem {p : Addr} {H0 : Hp} (e : Ex H0 H) (h : H0 p = none) : Ex H0 (rem H p) := fun a o q => by
  rw [rem_ne (ne_of_none q h)]
  exact e a o q
mutual
theorem Dp_rem {D : Addr} {xs : List V} (hD : H D = some (.lst xs)) : ∀ {v : V} {d : PyData}, lf d = true → Dp K H v d → Dp K (rem H D) v d
  | _, _, _, .non => .non
  | _, _, _, .bl b => .bl b
  | _, _, _, .int i => .int i
  | _, _, _, .str x => .str x
  | _, _, l, .lst h a => by cases l
  | _, _, l, .tup (a := p) h a => by
    refine .tup ?_ (DpAll_rem hD l a)
    rcases h with (h | ⟨o, h⟩) | h
    · refine .inl (.inl ?_)
      rw [rem_ne (ne_of h hD (by intro z; cases z))]
      exact h
    · refine .inl (.inr ⟨o, ?_⟩)
      rw [rem_ne (ne_of h hD (by intro z; cases z))]
      exact h
    · exact .inr h
theorem DpAll_rem {D : Addr} {xs : List V} (hD : H D = some (.lst xs)) : ∀ {vs : List V} {ds : List PyData}, lfs ds = true → DpAll K H vs ds → DpAll K (rem H D) vs ds
  | _, _, _, .nil => .nil
  | _, _, l, .cons a b => by
    have l := Bool.and_eq_true_iff.mp l
    exact .cons (Dp_rem hD l.1 a) (DpAll_rem hD l.2 b)
end
/-- all else that stands is kept by what is done with the list -/
theorem Lst.rebase {H0 : Hp} {p : Addr} (L : Lst K H0 p es H) : Lst K (rem H p) p es H := by
  obtain ⟨h0, h1, h2, xs, h3, h4⟩ := L
  exact ⟨rem_at, rem_ex, h2, xs, h3, h4⟩
theorem Lst.back {H0 H1 : Hp} {p : Addr} (L : Lst K H1 p es H) (e : Ex H0 H1) : Lst K H0 p es H := by
  obtain ⟨h0, h1, h2, xs, h3, h4⟩ := L
  exact ⟨fresh_back e h0, e.trans h1, h2, xs, h3, h4⟩

/-! ### for -/
/-- over a list of data that stands in H -/
theorem qd_forL {g : TG} (h : EvD K tl σ H (.list ds)) (k : ∀ a xs H1, Ex H H1 → SqL K H1 a xs → DpAll K H1 xs ds → ∃ Pv : Nat → L2.St → Hp → Prop, Pv 0 σ H1 ∧ (∀ i σ' H', i ≤ xs.length → Pv i σ' H' → Ex H1 H') ∧
    (∀ i d x σ' H', ds[i]? = some d → Dp K H' x d → Pv i σ' H' → g x σ' H' fun σ2 H2 => tu { D with nx := Pv (i + 1), ct := Pv (i + 1), bk := tz D } σ2 H2) ∧ (∀ σ' H', Pv ds.length σ' H' → tz D σ' H')) : tSeq (tFor (iList K tl) g tu) tz D σ H :=
  h H (Ex.refl H) _ fun v H1 e hv => by
    obtain ⟨a, xs, rfl, hs, ha⟩ := dp_list hv
    obtain ⟨Pv, h0, hk, hb, hd⟩ := k a xs H1 e hs ha
    refine ⟨a, rfl, ⟨xs, hs⟩, for_list (D := { D with nx := tz D }) Pv h0 (fun i σ' H' hi p => ex_l (hk i σ' H' hi p) hs) (fun i x σ' H' hi p => ?_) (fun σ' H' p => hd σ' H' (by rw [← da_len ha]; exact p))⟩
    obtain ⟨d, h1, h2⟩ := da_get2 ha hi
    exact hb i d x σ' H' h1 (Dp_mono (hk i σ' H' (Nat.le_of_lt (List.getElem?_eq_some_iff.mp hi).1) p) h2) p
/-- over a new list (its items without lists), while another list grows -/
theorem qd_forN {g : TG} {p : Addr} {H0 : Hp} (L : Lst K H0 p es H) (h : EvN K tl σ H ds) (hl : lfs ds = true) (k : ∀ Hb H1, Ex H0 Hb → Ex (rem H p) Hb → Ex H H1 → Lst K Hb p es H1 → ∃ Pv : Nat → L2.St → Hp → Prop, Pv 0 σ H1 ∧ (∀ i σ' H', i ≤ ds.length → Pv i σ' H' → Ex Hb H') ∧
    (∀ i d x σ' H', ds[i]? = some d → Dp K H' x d → Pv i σ' H' → g x σ' H' fun σ2 H2 => tu { D with nx := Pv (i + 1), ct := Pv (i + 1), bk := tz D } σ2 H2) ∧ (∀ σ' H', Pv ds.length σ' H' → tz D σ' H')) : tSeq (tFor (iList K tl) g tu) tz D σ H :=
  h H (Ex.refl H) _ fun a xs H1 hn e hp ha => by
    obtain ⟨h0, h1, h2, zs, h3, h4⟩ := id L
    have ne : a ≠ p := fun z => by
      rw [z, h3] at hn
      cases hn
    have L1 := (L.mono e).rebase
    have hp' : rem H1 p a = some (.lst xs) := by rw [rem_ne ne]; exact hp
    have e2 : Ex (rem H p) (rem H1 p) := fun b o q => by
      by_cases c : b = p
      · rw [c, rem_at] at q
        cases q
      · rw [rem_ne c] at q ⊢
        exact e b o q
    obtain ⟨Pv, h0', hk, hb, hd⟩ := k (rem H1 p) H1 (ex_rem (h1.trans e) h0) e2 e L1
    have hl' := da_len ha
    have hda : DpAll K (rem H1 p) xs ds := DpAll_rem (e _ _ h3) hl ha
    refine ⟨a, rfl, ⟨xs, sq_of hp⟩, for_list (D := { D with nx := tz D }) Pv h0' (fun i σ' H' hi q => ex_l (hk i σ' H' (by omega) q) (sq_of hp')) (fun i x σ' H' hi q => ?_) (fun σ' H' q => hd σ' H' (by rw [← hl']; exact q))⟩
    obtain ⟨d, h1, h2⟩ := da_get2 hda hi
    have := (List.getElem?_eq_some_iff.mp hi).1
    exact hb i d x σ' H' h1 (Dp_mono (hk i σ' H' (by omega) q) h2) q
/-- over range(n), range(lo, n) -/
theorem qd_forR1 {n : Int} {g : TG} (h : EvDA K tas σ H [.int n]) (hn : -(2 ^ 62) ≤ n ∧ n < 2 ^ 62) (k : ∀ H1, Ex H H1 → ∃ Pv : Nat → L2.St → Hp → Prop, Pv 0 σ H1 ∧
    (∀ i σ' H', i < n.toNat → Pv i σ' H' → g (.int (0 + (i : Int))) σ' H' fun σ2 H2 => tu { D with nx := Pv (i + 1), ct := Pv (i + 1), bk := tz D } σ2 H2) ∧ (∀ σ' H', Pv n.toNat σ' H' → tz D σ' H')) : tSeq (tFor (iRng1 tas) g tu) tz D σ H :=
  h H (Ex.refl H) _ fun vs H1 e hv => by
    obtain ⟨v, _, rfl, hx, hv⟩ := da_cons hv
    cases da_nil hv
    cases dp_int hx
    obtain ⟨Pv, h0, hb, hd⟩ := k H1 e
    exact ⟨n, rfl, hn.1, hn.2, for_range (D := { D with nx := tz D }) Pv h0 (fun i σ' H' hi p => hb i σ' H' hi p) hd⟩
theorem qd_forR2 {lo n : Int} {g : TG} (h : EvDA K tas σ H [.int lo, .int n]) (hn : -(2 ^ 62) ≤ lo ∧ lo < 2 ^ 62 ∧ -(2 ^ 62) ≤ n ∧ n < 2 ^ 62) (k : ∀ H1, Ex H H1 → ∃ Pv : Nat → L2.St → Hp → Prop, Pv 0 σ H1 ∧
    (∀ i σ' H', i < (n - lo).toNat → Pv i σ' H' → g (.int (lo + (i : Int))) σ' H' fun σ2 H2 => tu { D with nx := Pv (i + 1), ct := Pv (i + 1), bk := tz D } σ2 H2) ∧ (∀ σ' H', Pv (n - lo).toNat σ' H' → tz D σ' H')) : tSeq (tFor (iRng2 tas) g tu) tz D σ H :=
  h H (Ex.refl H) _ fun vs H1 e hv => by
    obtain ⟨v, _, rfl, hx, hv⟩ := da_cons hv
    obtain ⟨v', _, rfl, hx', hv⟩ := da_cons hv
    cases da_nil hv
    cases dp_int hx
    cases dp_int hx'
    obtain ⟨Pv, h0, hb, hd⟩ := k H1 e
    exact ⟨lo, n, rfl, hn, for_range (D := { D with nx := tz D }) Pv h0 (fun i σ' H' hi p => hb i σ' H' hi p) hd⟩
theorem sd_forR2 {lo n : Int} {g : TG} (h : EvDA K tas σ H [.int lo, .int n]) (hn : -(2 ^ 62) ≤ lo ∧ lo < 2 ^ 62 ∧ -(2 ^ 62) ≤ n ∧ n < 2 ^ 62) (k : ∀ H1, Ex H H1 → ∃ Pv : Nat → L2.St → Hp → Prop, Pv 0 σ H1 ∧
    (∀ i σ' H', i < (n - lo).toNat → Pv i σ' H' → g (.int (lo + (i : Int))) σ' H' fun σ2 H2 => tu { D with nx := Pv (i + 1), ct := Pv (i + 1), bk := D.nx } σ2 H2) ∧ (∀ σ' H', Pv (n - lo).toNat σ' H' → D.nx σ' H')) : tFor (iRng2 tas) g tu D σ H :=
  h H (Ex.refl H) _ fun vs H1 e hv => by
    obtain ⟨v, _, rfl, hx, hv⟩ := da_cons hv
    obtain ⟨v', _, rfl, hx', hv⟩ := da_cons hv
    cases da_nil hv
    cases dp_int hx
    cases dp_int hx'
    obtain ⟨Pv, h0, hb, hd⟩ := k H1 e
    exact ⟨lo, n, rfl, hn, for_range (D := D) Pv h0 (fun i σ' H' hi p => hb i σ' H' hi p) hd⟩
/-- over a tuple just written, while a list grows -/
theorem sd_forTup {g : TG} {p : Addr} {H0 : Hp} (L : Lst K H0 p es H) (h : EvD K tl σ H (.tuple ds)) (hl : lfs ds = true) (k : ∀ Hb H1, Ex H0 Hb → Ex (rem H p) Hb → Ex H H1 → Lst K Hb p es H1 → ∃ Pv : Nat → L2.St → Hp → Prop, Pv 0 σ H1 ∧ (∀ i σ' H', i ≤ ds.length → Pv i σ' H' → Ex Hb H') ∧
    (∀ i d x σ' H', ds[i]? = some d → Dp K H' x d → Pv i σ' H' → g x σ' H' fun σ2 H2 => tu { D with nx := Pv (i + 1), ct := Pv (i + 1), bk := D.nx } σ2 H2) ∧ (∀ σ' H', Pv ds.length σ' H' → D.nx σ' H')) : tFor (iTup K tl) g tu D σ H :=
  h H (Ex.refl H) _ fun v H1 e hv => by
    obtain ⟨h0, h1, h2, zs, h3, h4⟩ := id L
    have L1 := (L.mono e).rebase
    have e2 : Ex (rem H p) (rem H1 p) := fun b o q => by
      by_cases c : b = p
      · rw [c, rem_at] at q
        cases q
      · rw [rem_ne c] at q ⊢
        exact e b o q
    have hv' : Dp K (rem H1 p) v (.tuple ds) := Dp_rem (e _ _ h3) hl hv
    obtain ⟨a, xs, rfl, hs, ha⟩ := dp_tup hv'
    obtain ⟨Pv, h0', hk, hb, hd⟩ := k (rem H1 p) H1 (ex_rem (h1.trans e) h0) e2 e L1
    have hl' := da_len ha
    refine ⟨a, rfl, ⟨xs, ex_t rem_ex hs⟩, for_tup (D := D) Pv h0' (fun i σ' H' hi q => ex_t (hk i σ' H' (by omega) q) hs) (fun i x σ' H' hi q => ?_) (fun σ' H' q => hd σ' H' (by rw [← hl']; exact q))⟩
    obtain ⟨d, h1, h2⟩ := da_get2 ha hi
    have := (List.getElem?_eq_some_iff.mp hi).1
    exact hb i d x σ' H' h1 (Dp_mono (hk i σ' H' (by omega) q) h2) q
end
theorem ed_bits {K : PySem.W.Frag} {σ : L2.St} {H : Hp} {te : TE} {i : Int} (h : EvD K te σ H (.int i)) : EvD K (tBits te) σ H (.int (Builtin.Int.intBits i : Nat)) := fun H1 e Q q =>
  h H1 e _ fun x H2 e2 hx => by
    cases dp_int hx
    exact ⟨i, rfl, q _ H2 e2 (.int _)⟩
def rInt1 : List V → Hp → VK → Prop := fun xs H Q => (∃ i, xs = [.int i] ∧ Q (.int i) H) ∨ ∃ k, xs = [.bl k] ∧ Q (.int (if k then 1 else 0)) H
theorem ed_intB {K : PySem.W.Frag} {σ : L2.St} {H : Hp} {te : TE} {b : Bool} (h : EvD K te σ H (.bool b)) : EvD K (tCB rInt1 (tCons te tNil)) σ H (.int (if b then 1 else 0)) := fun H1 e Q q =>
  h H1 e _ fun x H2 e2 hx => by
    cases dp_bool hx
    exact .inr ⟨b, rfl, q _ H2 e2 (.int _)⟩
/-- {k1: v1, k2: v2}.get(y, z), all ints -/
theorem ed_get2 {K : PySem.W.Frag} {σ : L2.St} {H : Hp} {tk1 tv1 tk2 tv2 ty tz : TE} {k1 v1 k2 v2 y z : Int} (h1 : EvD K tk1 σ H (.int k1)) (h2 : EvD K tv1 σ H (.int v1)) (h3 : EvD K tk2 σ H (.int k2)) (h4 : EvD K tv2 σ H (.int v2)) (hy : EvD K ty σ H (.int y)) (hz : EvD K tz σ H (.int z)) (hk : k1 ≠ k2) :
    EvD K (tDGet2 (tDisp [(tk1, tv1), (tk2, tv2)]) ty tz) σ H (.int (if y = k1 then v1 else if y = k2 then v2 else z)) := fun H1 e Q q p hp => by
  refine h1 _ (e.trans (Ex.new hp)) _ fun x1 Ha ea q1 => ?_
  cases dp_int q1
  refine h2 _ ((e.trans (Ex.new hp)).trans ea) _ fun x2 Hb eb q2 => ?_
  cases dp_int q2
  refine h3 _ (((e.trans (Ex.new hp)).trans ea).trans eb) _ fun x3 Hc ec q3 => ?_
  cases dp_int q3
  refine h4 _ ((((e.trans (Ex.new hp)).trans ea).trans eb).trans ec) _ fun x4 Hd ed q4 => ?_
  cases dp_int q4
  have e4 : Ex (upd H1 p (.dK [])) Hd := ((ea.trans eb).trans ec).trans ed
  have hm : mergeK [] [((Sum.inl k1 : Key), V.int v1), (Sum.inl k2, V.int v2)] = [(Sum.inl k1, V.int v1), (Sum.inl k2, V.int v2)] := by
    have : ¬ ((Sum.inl k1 : Key) = Sum.inl k2) := fun z => hk (Sum.inl.inj z)
    simp [mergeK, putK, this]
  refine ⟨e4 p _ upd_same, [(Sum.inl k1, .int v1), (Sum.inl k2, .int v2)], rfl, (by simp), p, rfl, .inl ⟨_, .inl upd_same⟩, ?_⟩
  rw [hm]
  have e5 : Ex H1 (upd Hd p (.dK [(Sum.inl k1, V.int v1), (Sum.inl k2, V.int v2)])) := Ex.mut ((Ex.new hp).trans e4) hp
  refine hy _ (e.trans e5) _ fun x5 He ee q5 => ?_
  cases dp_int q5
  refine hz _ ((e.trans e5).trans ee) _ fun x6 Hf ef q6 => ?_
  cases dp_int q6
  refine ⟨_, DGet.k (k := Sum.inl y) (ef p _ (ee p _ upd_same)), ?_⟩
  refine q _ Hf ((e5.trans ee).trans ef) ?_
  have hv : (valV [((Sum.inl k1 : Key), V.int v1), (Sum.inl k2, V.int v2)] (Sum.inl y)).getD (V.int z) = V.int (if y = k1 then v1 else if y = k2 then v2 else z) := by
    unfold valV
    by_cases c1 : y = k1
    · subst c1
      simp
    · have n1 : ¬ ((Sum.inl k1 : Key) = Sum.inl y) := fun z => c1 (Sum.inl.inj z).symm
      by_cases c2 : y = k2
      · subst c2
        simp [List.find?, n1, c1]
      · have n2 : ¬ ((Sum.inl k2 : Key) = Sum.inl y) := fun z => c2 (Sum.inl.inj z).symm
        simp [List.find?, n1, n2, c1, c2]
  rw [hv]
  exact .int _
/-! ### numbers of the row; forms as data -/
abbrev dF (a b c : Int) : PyData := .tuple [.int a, .int b, .int c]
theorem when_t {b : Bool} {F : Unit → Wrform.Answer} (h : b = true) : Wrform.when b F = F () := by
  unfold Wrform.when
  rw [h]
  rfl
theorem when_f {b : Bool} {F : Unit → Wrform.Answer} (h : b = false) : Wrform.when b F = .no := by
  unfold Wrform.when
  rw [h]
  rfl
abbrev dFm (f : Fc.Form) : PyData := dF f.a f.b f.c
abbrev dCh (t : Fc.Change) : PyData := .tuple [.int t.p, .int t.q, .int t.r, .int t.s]
def W64 (n : Int) : Prop := -(2 ^ 64) < n ∧ n < 2 ^ 64
def fits (a b c : Int) : Bool := decide (a.natAbs ≤ 8192) && (decide (b.natAbs ≤ 8192) && decide (c.natAbs ≤ 8192))
theorem fits_iff {a b c : Int} : fits a b c = true ↔ (-8192 ≤ a ∧ a ≤ 8192) ∧ (-8192 ≤ b ∧ b ≤ 8192) ∧ (-8192 ≤ c ∧ c ≤ 8192) := by
  unfold fits
  simp only [Bool.and_eq_true, decide_eq_true_eq]
  omega
def Sm (n : Int) : Prop := -150000000 ≤ n ∧ n ≤ 150000000
theorem Sm.wide {n : Int} (h : Sm n) : W64 n := by
  unfold Sm at h
  unfold W64
  omega
def SmF (f : Fc.Form) : Prop := Sm f.a ∧ Sm f.b ∧ Sm f.c
theorem mul_le_abs {a b A B : Int} (ha : -A ≤ a ∧ a ≤ A) (hb : -B ≤ b ∧ b ≤ B) : -(A * B) ≤ a * b ∧ a * b ≤ A * B := by
  have h1 : a.natAbs * b.natAbs ≤ A.toNat * B.toNat := Nat.mul_le_mul (by omega) (by omega)
  have h2 : (a * b).natAbs = a.natAbs * b.natAbs := Int.natAbs_mul a b
  have h3 : ((A.toNat * B.toNat : Nat) : Int) = A * B := by
    rw [Int.natCast_mul]
    congr 1 <;> omega
  omega
theorem disc_small {f : Fc.Form} (h : SmF f) : -112500000000000000 ≤ Fc.disc f ∧ Fc.disc f ≤ 112500000000000000 := by
  obtain ⟨h1, h2, h3⟩ := h
  have m1 := mul_le_abs h2 h2
  have m2 := mul_le_abs h1 h3
  have e : Fc.disc f = f.b * f.b - 4 * (f.a * f.c) := by
    unfold Fc.disc
    rw [Int.mul_assoc]
  omega
theorem disc_lt {f : Fc.Form} (h : SmF f) : Fc.disc f < 2 ^ 58 := by
  have := (disc_small h).2
  omega
def In64 (n : Int) : Prop := -9223372036854775808 ≤ n ∧ n ≤ 9223372036854775807
theorem In64.wide {n : Int} (h : In64 n) : W64 n := by
  obtain ⟨h1, h2⟩ := h
  unfold W64
  omega
theorem three : ∀ l : List Int, l.length = 3 → ∃ a b c, l = [a, b, c]
  | [a, b, c], _ => ⟨a, b, c, rfl⟩
  | [], h => by cases h
  | [_], h => by cases h
  | [_, _], h => by cases h
  | _ :: _ :: _ :: _ :: _, h => by simp at h
/-- an error of the class at S is what «except S» names -/
theorem exm_self {K : PySem.W.Frag} {S : Addr} (h1 : PySem.W.subIn K (.ref S) (.type "BaseException") = some true) (h2 : PySem.W.isClsIn K S = true) (h3 : PySem.W.typeIn K (.ref S) = some (.type "type")) (h4 : PySem.W.subIn K (.ref S) (.ref S) = some true) :
    PySem.W.exmOne K (.ref S) (.ref S) = some true := by
  have e1 : (PySem.W.subIn K (.ref S) (.type "BaseException") == some true) = true := by rw [h1] <;> rfl
  have e2 : ((PySem.W.clsIn K S).isSome && PySem.W.typeIn K (.ref S) == some (.type "type")) = true := by
    have h2' : (PySem.W.clsIn K S).isSome = true := h2
    rw [h2', h3] <;> rfl
  show (if (PySem.W.subIn K (.ref S) (.type "BaseException") == some true) = true then (if ((PySem.W.clsIn K S).isSome && PySem.W.typeIn K (.ref S) == some (.type "type")) = true then PySem.W.subIn K (.ref S) (.ref S) else none) else none) = some true
  rw [if_pos e1, if_pos e2]
  exact h4
theorem smF_iff {f : Fc.Form} : SmF f ↔ f.a.natAbs ≤ 150000000 ∧ f.b.natAbs ≤ 150000000 ∧ f.c.natAbs ≤ 150000000 := by
  unfold SmF Sm
  omega
theorem w64_0 : W64 0 := by unfold W64; decide
theorem w64_1 : W64 1 := by unfold W64; decide
theorem w64_m1 : W64 (-1) := by unfold W64; decide
/-! ### forms are alike or not -/
theorem eqv_ints : ∀ (ns ms : List Int), PyData.eqvAll (ns.map PyData.int) (ms.map PyData.int) = decide (ns = ms)
  | [], [] => by
    rw [List.map_nil]
    unfold PyData.eqvAll
    rfl
  | [], m :: ms => by
    rw [List.map_nil, List.map_cons]
    unfold PyData.eqvAll
    rfl
  | n :: ns, [] => by
    rw [List.map_nil, List.map_cons]
    unfold PyData.eqvAll
    rfl
  | n :: ns, m :: ms => by
    rw [List.map_cons, List.map_cons, PySem.W.eqv_all_cons, eqv_ints ns ms]
    unfold PyData.eqv
    rw [Bool.eq_iff_iff]
    simp
theorem eqv_form (f g : Fc.Form) : PyData.eqv (dFm f) (dFm g) = Fc.alike f g := by
  show PyData.eqv (.tuple ([f.a, f.b, f.c].map PyData.int)) (.tuple ([g.a, g.b, g.c].map PyData.int)) = _
  unfold PyData.eqv
  rw [eqv_ints]
  unfold Fc.alike
  rw [Bool.eq_iff_iff]
  simp
section
variable {K : PySem.W.Frag} {σ : L2.St} {H : Hp} {ta tb : TE} {dx dy : PyData}
theorem ed_eqD (ha : EvD K ta σ H dx) (hb : EvD K tb σ H dy) (sx : SeqAt.shaped dx = true) (sy : SeqAt.shaped dy = true) : EvD K (tOp (rEqD K) ta tb) σ H (.bool (PyData.eqv dx dy)) :=
  ed_op ha hb fun x y H1 _ hx hy Q q => ⟨dx, dy, hx, hy, sx, sy, q _ H1 (Ex.refl H1) (.bl _)⟩
theorem ed_neD (ha : EvD K ta σ H dx) (hb : EvD K tb σ H dy) (sx : SeqAt.shaped dx = true) (sy : SeqAt.shaped dy = true) : EvD K (tOp (rNeD K) ta tb) σ H (.bool (!PyData.eqv dx dy)) :=
  ed_op ha hb fun x y H1 _ hx hy Q q => ⟨dx, dy, hx, hy, sx, sy, q _ H1 (Ex.refl H1) (.bl _)⟩
end
theorem shaped_form (f : Fc.Form) : SeqAt.shaped (dFm f) = true := by rfl
/-! ### defs that raise -/
section
variable {K : PySem.W.Frag} {σ : L2.St} {H : Hp} {tas : TA} {ds : List PyData} {CF : Addr} {pre : List PyData → Bool → Prop} {b : Bool} {tz : TS} {D : Ends}
theorem sx_callS {E : L2.St → XK} (h : EvDA K tas σ H ds) (hp : pre ds b) (h1 : b = true → ∀ H1, Ex H H1 → D.nx σ H1) (h0 : b = false → ∀ H1, Ex H H1 → E σ (.ref CF) none H1) : tDrop (tCallS (spX K CF pre) E tas) D σ H :=
  h H (Ex.refl H) _ fun vs H2 e2 hv => ⟨ds, b, hv, hp, fun hb H3 e3 => h1 hb H3 (e2.trans e3), fun hb H3 e3 => h0 hb H3 (e2.trans e3)⟩
theorem qx_callS {E : L2.St → XK} (h : EvDA K tas σ H ds) (hp : pre ds b) (h1 : b = true → ∀ H1, Ex H H1 → tz D σ H1) (h0 : b = false → ∀ H1, Ex H H1 → E σ (.ref CF) none H1) : tSeq (tDrop (tCallS (spX K CF pre) E tas)) tz D σ H := sx_callS (D := { D with nx := tz D }) h hp h1 h0
theorem sx_call {E : XK} (h : EvDA K tas σ H ds) (hp : pre ds b) (h1 : b = true → ∀ H1, Ex H H1 → D.nx σ H1) (h0 : b = false → ∀ H1, Ex H H1 → E (.ref CF) none H1) : tDrop (tCall (spX K CF pre) [] E tas) D σ H :=
  h H (Ex.refl H) _ fun vs H2 e2 hv => ⟨ds, b, by rw [List.append_nil]; exact hv, hp, fun hb H3 e3 => h1 hb H3 (e2.trans e3), fun hb H3 e3 => h0 hb H3 (e2.trans e3)⟩
theorem qx_call {E : XK} (h : EvDA K tas σ H ds) (hp : pre ds b) (h1 : b = true → ∀ H1, Ex H H1 → tz D σ H1) (h0 : b = false → ∀ H1, Ex H H1 → E (.ref CF) none H1) : tSeq (tDrop (tCall (spX K CF pre) [] E tas)) tz D σ H := sx_call (D := { D with nx := tz D }) h hp h1 h0
/-- x in (a, b), all ints -/
theorem ed_in2 {ta tb : TE} {x a b : Int} (ha : EvD K ta σ H (.int x)) (hb : EvD K tb σ H (.tuple [.int a, .int b])) : EvD K (tOp (rIn K false) ta tb) σ H (.bool (decide (x = a ∨ x = b))) :=
  ed_op ha hb fun u v H1 _ hu hv Q q => by
    cases dp_int hu
    obtain ⟨p, xs, rfl, hs, hx⟩ := dp_tup hv
    have e := da_ints (ns := [a, b]) hx
    subst e
    refine ⟨p, _, rfl, .inr hs, rfl, rfl, q _ H1 (Ex.refl H1) ?_⟩
    have : (if false = true then !inV (V.int x) ([a, b].map V.int) else inV (V.int x) ([a, b].map V.int)) = decide (x = a ∨ x = b) := by
      rw [if_neg Bool.false_ne_true]
      show ((a == x) || ((b == x) || false)) = _
      rw [Bool.eq_iff_iff]
      simp
      omega
    rw [this]
    exact .bl _
end
section
variable {K : PySem.W.Frag} {σ : L2.St} {H : Hp} {te ta : TE} {ds : List PyData} {d : PyData}
def rTupleS (K : PySem.W.Frag) : List V → Hp → VK → Prop := fun xs H Q => ∃ p ys, xs = [.ref p] ∧ ((SqL K H p ys ∧ ∀ l, H l = none → Q (.ref l) (upd H l (.tup ys))) ∨ (SqT K H p ys ∧ Q (.ref p) H))
/-- tuple(a list) -/
theorem ed_tupleOf (h : EvD K te σ H (.list ds)) : EvD K (tCB (rTupleS K) (tCons te tNil)) σ H (.tuple ds) := fun H1 e Q q =>
  h H1 e _ fun x H2 e2 hx => by
    obtain ⟨a, xs, rfl, hs, ha⟩ := dp_list hx
    exact ⟨a, xs, rfl, .inl ⟨hs, fun l hl => q _ _ (e2.trans (Ex.new hl)) (.tup (st_of upd_same) (DpAll_mono (Ex.new hl) ha))⟩⟩
/-- x is None -/
theorem ed_isN {b : Bool} (h : EvD K ta σ H d) (hb : ∀ v H, Dp K H v d → decide (v = .non) = b) : EvD K (tOp (fun x y H Q => y = .non ∧ Q (.bl (decide (x = .non))) H) ta (tC .non)) σ H (.bool b) := fun H1 e Q q =>
  h H1 e _ fun x H2 e2 hx => ⟨rfl, by
    rw [hb x H2 hx]
    exact q _ H2 e2 (.bl _)⟩
end
theorem q_in {σ : L2.St} {H : Hp} {t tz : TS} {D : Ends} (h : t { D with nx := tz D } σ H) : tSeq t tz D σ H := h
end Fkw

set_option Elab.async false
set_option linter.all false
set_option maxRecDepth 100000
set_option maxHeartbeats 2000000
/-! min of a list of data: by their order, or by the keys that a def gives. -/
namespace Fkw
open PySem PySem.Spec PyProof.Rows L2 Evl
open PySem.W (dataLt alike)
/-! ### the same context, one call deeper -/
abbrev inX (X : Cx) : Cx := { X with A := X.A.in1 }
section
variable {X : Cx} {pins : List (Addr × Obj)} {σ : L2.St} {H : Hp} {s : Shared}
theorem inv_in1 (I : Inv X pins σ H s) : Inv (inX X) pins σ H s := ⟨⟨I.ok.mod, I.ok.kind, I.ok.glob, I.ok.blt, I.ok.above, I.ok.inj, I.ok.has, I.ok.cab, I.ok.hd, I.ok.frames, I.ok.stk, I.ok.exf, I.ok.bs, I.ok.bsz, I.ok.noex, I.ok.exfs, I.ok.funs, I.ok.frf⟩, I.os, I.bare, I.base, I.loc, I.cell, I.free, I.freeC, I.pin, I.hok, I.len⟩
theorem inv_out1 (I : Inv (inX X) pins σ H s) : Inv X pins σ H s := ⟨⟨I.ok.mod, I.ok.kind, I.ok.glob, I.ok.blt, I.ok.above, I.ok.inj, I.ok.has, I.ok.cab, I.ok.hd, I.ok.frames, I.ok.stk, I.ok.exf, I.ok.bs, I.ok.bsz, I.ok.noex, I.ok.exfs, I.ok.funs, I.ok.frf⟩, I.os, I.bare, I.base, I.loc, I.cell, I.free, I.freeC, I.pin, I.hok, I.len⟩
/-- one datum is below another -/
theorem lt_data {x y : V} {u v : Value} {d e : PyData} (I : Inv X pins σ H s) (hx : Dp X.K H x d) (hy : Dp X.K H y e) (rx : RelV x u) (ry : RelV y v) (ha : alike d e = true) (hn : d ≠ .none) (hu : X.A.units + 1 + min d.depth e.depth < cLine) {Q : Value → Shared → Prop} {E : Value → Shared → Prop} (h : Q (.bool (dataLt d e)) s) :
    wpAny (model X.prog X.w) X.A.in1 (richCompare .Lt u v) Q E s := by
  obtain ⟨as, r1⟩ := Dp.reads I d x u hx rx
  obtain ⟨bs, r2⟩ := Dp.reads I e y v hy ry
  exact PySem.W.rcLt_alike d e X.A.in1 s u v as bs r1 r2 ha hn (by show X.A.units + 1 + _ < _; exact hu) X.prog X.w E Q h
theorem fp_up {pl : List (Addr × Obj)} {H' : Hp} {b : Addr} (f : FpOk X pins H b) (h : H' b = none) : FpOk X pins H' b := ⟨h, f.2⟩
end
/-- the place of the first least one -/
def kBest (lt : PyData → PyData → Bool) (ks : List PyData) : Nat → Nat := argBest fun i j => lt (ks.getD i .none) (ks.getD j .none)
theorem kBest_lt (lt : PyData → PyData → Bool) (ks : List PyData) : ∀ j, kBest lt ks j ≤ j
  | 0 => Nat.le_refl _
  | j + 1 => by
    show (if lt _ _ = true then j + 1 else kBest lt ks j) ≤ j + 1
    have := kBest_lt lt ks j
    split <;> omega
/-- an object of ours, no part of the heap that is told -/
structure Own2 (X : Cx) (pins : List (Addr × Obj)) (H : Hp) (it S : Addr) : Prop where
  fi : FpOk X pins H it
  fs : FpOk X pins H S
  ne : S ≠ it


section
variable {X : Cx} {pins : List (Addr × Obj)} {σ : L2.St} {it S l : Addr} {q : Addr} {ds ks : List PyData} {H0 : Hp} {R : Result → Shared → Prop}
/-- what a turn leaves: the best one and its key in S -/
def MinK (X : Cx) (pins : List (Addr × Obj)) (σ : L2.St) (it S l : Addr) (ds ks : List PyData) (H0 : Hp) (j b : Nat) (s : Shared) : Prop :=
  ∃ (H : Hp) (ub uk : Value) (vb vk : V) (c : Nat), Inv X pins σ H s ∧ Ex H0 H ∧ Own2 X pins H it S ∧ s.heap.IsListIter it l j ∧ s.heap.get? S = some (seqObj "list" #[ub, uk] c) ∧
    Dp X.K H vb (ds.getD b .none) ∧ RelV vb ub ∧ Dp X.K H vk (ks.getD b .none) ∧ RelV vk uk
theorem mk_loop (hc : X.calm = true) (hlist : Dp X.K H0 (.ref l) (.list ds)) (hlen : ks.length = ds.length) (hal : ∀ d ∈ ks, ∀ e ∈ ks, alike d e = true) (hnn : ∀ d ∈ ks, d ≠ .none) (hu : ∀ d ∈ ks, X.A.units + 1 + d.depth < cLine)
    (turn : ∀ (i : Nat) (pins : List (Addr × Obj)) (s : Shared) (H : Hp) (x : V) (u : Value), i < ds.length → Inv X pins σ H s → RelV x u → Dp X.K H x (ds.getD i .none) →
      wpAny (model X.prog X.w) X.A.in1 (call (.ref q) [u]) (fun un s2 => ∃ H2 xn, Inv X pins σ H2 s2 ∧ Ex H H2 ∧ RelV xn un ∧ Dp X.K H2 xn (ks.getD i .none)) (fun _ _ => False) s)
    (hR : ∀ s H u v, Inv X pins σ H s → Ex H0 H → RelV v u → Dp X.K H v (ds.getD (kBest dataLt ks (ds.length - 1)) .none) → R (.ok (.ret u)) s) :
    ∀ (r j : Nat) (s : Shared), ds.length - (j + 1) = r → j + 1 ≤ ds.length → MinK X pins σ it S l ds ks H0 (j + 1) (kBest dataLt ks j) s →
      codeAny (model X.prog X.w) X.A (.builtin "min.loop" ⟨[.ref it, .ref q, .ref S], []⟩) R s := by
  have hname : (toString "min" ++ toString ".loop" : String) = "min.loop" := by decide
  intro r
  induction r with
  | zero =>
    intro j s hr hj ⟨H, ub, uk, vb, vk, c, I, e0, own, hit, hS, db, rb, dk, rk⟩
    have hin : j + 1 = ds.length := by omega
    obtain ⟨a, xs, ea, hsq, hda⟩ := dp_list hlist
    cases ea
    obtain ⟨its, rv, p, hz⟩ := I.list (ex_l e0 hsq)
    refine codeAny_builtin PySem.F.entry_min_loop ?_
    rw [Around.under_plainId PySem.F.plain_min_loop _]
    show wpAny _ X.A.in1 (seqItems? (.ref S) >>= _) _ _ _
    refine wpAny_bind (wpAny_seqItems hS rfl ?_)
    show wpAny _ X.A.in1 (tryCatch (pyNext (.ref it)) _ >>= _) _ _ _
    have hl2 := da_len hda
    have hl3 := rv.length
    refine wpAny_bind (wpAny_tryCatch (wpAny_pyNext_list_end (I.ok.hd hc) hit p.isList (by simp; omega) fun h' eb => ?_))
    obtain ⟨f0, f1, f2, f3, f4, f5⟩ := own.fi
    have I1 : Inv X pins σ H { s with heap := h' } := I.turned (t' := s.toks) (fun b o hb e => eb b o hb e) f0 f1 f3 f4 f5
    have hS' := eb S _ own.ne hS
    show wpAny _ X.A.in1 (updateSeq S (fun _ => #[]) >>= _) _ _ _
    refine wpAny_bind ?_
    refine wpAny_updateSeq hS' rfl (wpAny_bind (wpAny_letGo (wpAny_pure ?_)))
    obtain ⟨g0, g1, g2, g3, g4, g5⟩ := own.fs
    have s1 := Heap.SameBut.update h' S (Obj.mapSeq fun _ => (#[] : Array Value))
    have I2 : Inv X pins σ H { s with heap := h'.update S (Obj.mapSeq fun _ => #[]) } := I1.turned (t' := s.toks) (fun b o hb e => (s1.2 b hb).trans e) g0 g1 g3 g4 g5
    refine hR _ H ub vb I2 e0 rb ?_
    rw [← hin, Nat.add_sub_cancel]
    exact db
  | succ r ih =>
    intro j s hr hj ⟨H, ub, uk, vb, vk, c, I, e0, own, hit, hS, db, rb, dk, rk⟩
    have hlt : j + 1 < ds.length := by omega
    obtain ⟨a, xs, ea, hsq, hda⟩ := dp_list hlist
    cases ea
    obtain ⟨its, rv, p, hz⟩ := I.list (ex_l e0 hsq)
    obtain ⟨x, hx, dx⟩ := da_get hda (List.getElem?_eq_getElem hlt)
    obtain ⟨u, hu1, ru⟩ := rv.get hx
    have ed : ds.getD (j + 1) .none = ds[j + 1] := by
      rw [List.getD_eq_getElem?_getD, List.getElem?_eq_getElem hlt]
      rfl
    refine codeAny_builtin PySem.F.entry_min_loop ?_
    rw [Around.under_plainId PySem.F.plain_min_loop _]
    show wpAny _ X.A.in1 (seqItems? (.ref S) >>= _) _ _ _
    refine wpAny_bind (wpAny_seqItems hS rfl ?_)
    show wpAny _ X.A.in1 (tryCatch (pyNext (.ref it)) _ >>= _) _ _ _
    refine wpAny_bind (wpAny_tryCatch (wpAny_pyNext_list_item hit p.isList (x := u) (by simpa using hu1) fun h' hit' sb => ?_))
    obtain ⟨f0, f1, f2, f3, f4, f5⟩ := own.fi
    have I1 : Inv X pins σ H { s with heap := h' } := I.turned (t' := s.toks) (fun b o hb e => (sb.2 b hb).trans e) f0 f1 f3 f4 f5
    have hS1 : h'.get? S = some (seqObj "list" #[ub, uk] c) := (sb.2 S own.ne).trans hS
    have dx1 : Dp X.K H x (ds.getD (j + 1) .none) := by
      rw [ed]
      exact Dp_mono e0 dx
    have hpo : ∀ b ∈ [it, S], ∃ o, h'.get? b = some o ∧ ∀ v, o.data ≠ .cell v := fun b hb => by
      rcases List.mem_cons.mp hb with rfl | hb
      · obtain ⟨oi, h1, _, h3⟩ := id hit'
        exact ⟨oi, h1, fun v z => by rw [h3] at z; cases z⟩
      · rw [List.mem_singleton.mp hb]
        exact ⟨_, hS1, fun v z => by cases z⟩
    have Ip := I1.pinned (fp := [it, S]) (fun b hb => by
      rcases List.mem_cons.mp hb with rfl | hb
      · exact own.fi
      · rw [List.mem_singleton.mp hb]
        exact own.fs) hpo
    show wpAny _ X.A.in1 (tryCatch (holding [u] (call (.ref q) [u])) _ >>= _) _ _ _
    refine wpAny_bind (wpAny_tryCatch (wpAny_holding (wpAny_mono (turn (j + 1) _ _ H x u (by omega) Ip ru dx1) (fun un s2 he => ?_) fun _ _ hF => hF.elim)))
    obtain ⟨H2, xn, I2p, e2, rn, dn⟩ := he
    have I2 := I2p.unpinned
    have pI := hit'
    obtain ⟨oi, hi1, hi2, hi3⟩ := pI
    have qI := I2p.pin (it, oi) (List.mem_append_right _ (List.mem_append_right _ (mem_pinsAt (by simp) hi1)))
    have qS := I2p.pin (S, seqObj "list" #[ub, uk] c) (List.mem_append_right _ (List.mem_append_right _ (mem_pinsAt (by simp) hS1)))
    have own2 : Own2 X pins H2 it S := ⟨⟨qI.2.1, own.fi.2⟩, ⟨qS.2.1, own.fs.2⟩, own.ne⟩
    have hit2 : s2.heap.IsListIter it l (j + 1 + 1) := ⟨oi, qI.1, hi2, hi3⟩
    have hS2 : s2.heap.get? S = some (seqObj "list" #[ub, uk] c) := qS.1
    have hkj : ks.getD (j + 1) .none ∈ ks := by
      rw [List.getD_eq_getElem?_getD, List.getElem?_eq_getElem (by omega)]
      exact List.getElem_mem _
    have hbl := kBest_lt dataLt ks j
    have hkb : ks.getD (kBest dataLt ks j) .none ∈ ks := by
      rw [List.getD_eq_getElem?_getD, List.getElem?_eq_getElem (by omega)]
      exact List.getElem_mem _
    show wpAny _ X.A.in1 (tryCatch (holding [u, un] (richCompare .Lt un uk >>= _)) _ >>= _) _ _ _
    refine wpAny_bind (wpAny_tryCatch (wpAny_holding (wpAny_bind (lt_data I2 dn (Dp_mono e2 dk) rn rk (hal _ hkj _ hkb) (hnn _ hkj) (by have := hu _ hkj; omega) ?_))))
    refine wpAny_bind (wpAny_holding (wpAny_truthy_bool ?_))
    refine wpAny_bind (wpAny_letGo (wpAny_pure ?_))
    cases hb : dataLt (ks.getD (j + 1) .none) (ks.getD (kBest dataLt ks j) .none) with
    | true =>
      simp only [if_true]
      refine wpAny_bind ?_
      refine wpAny_updateSeq hS2 rfl (wpAny_bind (wpAny_letGo ?_))
      rw [hname]
      obtain ⟨g0, g1, g2, g3, g4, g5⟩ := own2.fs
      have sb2 := Heap.SameBut.update s2.heap S (Obj.mapSeq fun _ => #[u, un])
      have I3 : Inv X pins σ H2 { s2 with heap := s2.heap.update S (Obj.mapSeq fun _ => #[u, un]) } := I2.turned (t' := s2.toks) (fun b o hb e => (sb2.2 b hb).trans e) g0 g1 g3 g4 g5
      refine wpAny_pure ⟨plainId_quiet PySem.F.plain_min_loop _, ih (j + 1) _ (by omega) hlt ?_⟩
      have eb : kBest dataLt ks (j + 1) = j + 1 := by
        show (if dataLt _ _ = true then j + 1 else kBest dataLt ks j) = j + 1
        rw [show (argBest (fun i j => dataLt (ks.getD i .none) (ks.getD j .none)) j) = kBest dataLt ks j from rfl, hb, if_pos rfl]
      rw [eb]
      obtain ⟨oi, ho1, ho2, ho3⟩ := hit2
      exact ⟨H2, u, un, x, xn, _, I3, e0.trans e2, own2, ⟨oi, (sb2.2 it own.ne.symm).trans ho1, ho2, ho3⟩, get?_update_seq hS2 _, Dp_mono e2 dx1, ru, dn, rn⟩
    | false =>
      simp only [Bool.false_eq_true, if_false]
      refine wpAny_bind (wpAny_letGo ?_)
      rw [hname]
      refine wpAny_pure ⟨plainId_quiet PySem.F.plain_min_loop _, ih (j + 1) s2 (by omega) hlt ?_⟩
      have eb : kBest dataLt ks (j + 1) = kBest dataLt ks j := by
        show (if dataLt _ _ = true then j + 1 else kBest dataLt ks j) = kBest dataLt ks j
        rw [show (argBest (fun i j => dataLt (ks.getD i .none) (ks.getD j .none)) j) = kBest dataLt ks j from rfl, hb, if_neg Bool.false_ne_true]
      rw [eb]
      exact ⟨H2, ub, uk, vb, vk, c, I2, e0.trans e2, own2, hit2, hS2, Dp_mono e2 db, rb, Dp_mono e2 dk, rk⟩
end


section
variable {X : Cx} {pins : List (Addr × Obj)} {σ : L2.St} {l : Addr} {q : Addr} {ds ks : List PyData} {H0 : Hp} {s : Shared} {Q : VK}
theorem mk_call (hc : X.calm = true) (hlist : Dp X.K H0 (.ref l) (.list ds)) (hne : 0 < ds.length) (hlen : ks.length = ds.length) (hal : ∀ d ∈ ks, ∀ e ∈ ks, alike d e = true) (hnn : ∀ d ∈ ks, d ≠ .none) (hu : ∀ d ∈ ks, X.A.units + 1 + d.depth < cLine)
    (turn : ∀ (i : Nat) (pins : List (Addr × Obj)) (s : Shared) (H : Hp) (x : V) (u : Value), i < ds.length → Inv X pins σ H s → RelV x u → Dp X.K H x (ds.getD i .none) →
      wpAny (model X.prog X.w) X.A.in1 (call (.ref q) [u]) (fun un s2 => ∃ H2 xn, Inv X pins σ H2 s2 ∧ Ex H H2 ∧ RelV xn un ∧ Dp X.K H2 xn (ks.getD i .none)) (fun _ _ => False) s)
    (I : Inv X pins σ H0 s) (hQ : ∀ v H, Ex H0 H → Dp X.K H v (ds.getD (kBest dataLt ks (ds.length - 1)) .none) → Q v H) :
    wpAny (model X.prog X.w) X.A (call (.builtin "min") [.ref l] [(Str.ofString "key", .ref q)]) (EP X pins σ Q) X.xe s := by
  have hname : (toString "min" ++ toString ".loop" : String) = "min.loop" := by decide
  obtain ⟨a, xs, ea, hsq, hda⟩ := dp_list hlist
  cases ea
  obtain ⟨its, rv, p, hz⟩ := I.list hsq
  refine kmk_tree PySem.F.kind_min PySem.F.plain_min PySem.F.entry_min (kmk_min_key _ _) ?_
  show wpAny _ X.A.in1 (Builtin.Builtins.bindParams "min" ["key", "default"] 0 ⟨[], [(Str.ofString "key", .ref q)]⟩ >>= _) _ _ s
  refine wpAny_bind (wpAny_of_eq (show Builtin.Builtins.bindParams "min" ["key", "default"] 0 ⟨[], [(Str.ofString "key", .ref q)]⟩ = pure [some (.ref q), none] from rfl) ?_)
  refine wpAny_bind (wpAny_pure ?_)
  refine wpAny_bind (wpAny_pyIter_list p.isList ?_)
  refine wpAny_bind (wpAny_newList ?_ (Nat.zero_le _))
  rw [hname]
  have hS0 : (s.heap.push { cls := .type "list_iterator", data := .fields #[.ref l, .int 0 0] }).objs.size = s.heap.objs.size + 1 := size_push' ..
  generalize hg : (s.heap.push { cls := .type "list_iterator", data := .fields #[.ref l, .int 0 0] }) = g1 at *
  have gI0 : g1.get? s.heap.objs.size = some { cls := .type "list_iterator", data := .fields #[.ref l, .int 0 0] } := by
    rw [← hg]
    exact Heap.get?_push_size _ rfl
  have k1 : ∀ b o, s.heap.get? b = some o → g1.get? b = some o := fun b o e => by
    rw [← hg]
    exact Heap.get?_push_of_some _ e
  have fi : FpOk X pins H0 s.heap.objs.size := I.fpOk (Nat.le_refl _) (I.hok.fresh (Nat.le_refl _))
  have fs : FpOk X pins H0 g1.objs.size := I.fpOk (by omega) (I.hok.fresh (by omega))
  have nS : g1.objs.size ≠ s.heap.objs.size := by omega
  have I1 : Inv X pins σ H0 { s with heap := g1.push (seqObj "list" #[] 0) } := I.kept (t' := s.toks) fun b o e => Heap.get?_push_of_some _ (k1 b o e)
  have gI : (g1.push (seqObj "list" #[] 0)).get? s.heap.objs.size = some { cls := .type "list_iterator", data := .fields #[.ref l, .int 0 0] } := Heap.get?_push_of_some _ gI0
  have gS : (g1.push (seqObj "list" #[] 0)).get? g1.objs.size = some (seqObj "list" #[] 0) := Heap.get?_push_size _ rfl
  refine wpAny_pure ⟨plainId_quiet PySem.F.plain_min_loop _, ?_⟩
  generalize hit0 : s.heap.objs.size = it at *
  generalize hSS : g1.objs.size = S at *
  show codeAny (model X.prog X.w) X.A (.builtin "min.loop" ⟨[.ref it, .ref q, .ref S], []⟩) _ { s with heap := g1.push (seqObj "list" #[] 0) }
  generalize hs0 : ({ s with heap := g1.push (seqObj "list" #[] 0) } : Shared) = s0 at *
  have gI' : s0.heap.IsListIter it l 0 := by
    rw [← hs0]
    exact ⟨_, gI, rfl, rfl⟩
  have gS' : s0.heap.get? S = some (seqObj "list" #[] 0) := by
    rw [← hs0]
    exact gS
  have hR : ∀ s' H u v, Inv X pins σ H s' → Ex H0 H → RelV v u → Dp X.K H v (ds.getD (kBest dataLt ks (ds.length - 1)) .none) → (fun (r : Result) s' => match r with | .ok (.ret v) => EP X pins σ Q v s' | .ok _ => False | .error e => X.xe e s') (.ok (.ret u)) s' := fun s' H u v I' e' r' d' => ⟨v, H, I', r', hQ v H e' d'⟩
  have own : Own2 X pins H0 it S := ⟨fi, fs, nS⟩
  clear hg k1 gI0 fi fs hit0 hSS hS0 hs0 gI gS
  obtain ⟨its, rv, p, hz⟩ := I1.list hsq
  obtain ⟨x, hx, dx⟩ := da_get hda (List.getElem?_eq_getElem hne)
  obtain ⟨u, hu1, ru⟩ := rv.get hx
  have ed : ds.getD 0 .none = ds[0] := by
    rw [List.getD_eq_getElem?_getD, List.getElem?_eq_getElem hne]
    rfl
  refine codeAny_builtin PySem.F.entry_min_loop ?_
  rw [Around.under_plainId PySem.F.plain_min_loop _]
  show wpAny _ X.A.in1 (seqItems? (.ref S) >>= _) _ _ _
  refine wpAny_bind (wpAny_seqItems gS' rfl ?_)
  show wpAny _ X.A.in1 (tryCatch (pyNext (.ref it)) _ >>= _) _ _ _
  refine wpAny_bind (wpAny_tryCatch (wpAny_pyNext_list_item gI' p.isList (x := u) (by simpa using hu1) fun h' hit' sb => ?_))
  obtain ⟨f0, f1, f2, f3, f4, f5⟩ := own.fi
  have e0 : Ex H0 H0 := Ex.refl H0
  have I := I1
  have I1 : Inv X pins σ H0 { s0 with heap := h' } := I.turned (t' := s0.toks) (fun b o hb e => (sb.2 b hb).trans e) f0 f1 f3 f4 f5
  have hS1 : h'.get? S = some (seqObj "list" #[] 0) := (sb.2 S own.ne).trans gS'
  have dx1 : Dp X.K H0 x (ds.getD 0 .none) := by
    rw [ed]
    exact dx
  have hpo : ∀ b ∈ [it, S], ∃ o, h'.get? b = some o ∧ ∀ v, o.data ≠ .cell v := fun b hb => by
    rcases List.mem_cons.mp hb with rfl | hb
    · obtain ⟨oi, h1, _, h3⟩ := id hit'
      exact ⟨oi, h1, fun v z => by rw [h3] at z; cases z⟩
    · rw [List.mem_singleton.mp hb]
      exact ⟨_, hS1, fun v z => by cases z⟩
  have Ip := I1.pinned (fp := [it, S]) (fun b hb => by
    rcases List.mem_cons.mp hb with rfl | hb
    · exact own.fi
    · rw [List.mem_singleton.mp hb]
      exact own.fs) hpo
  show wpAny _ X.A.in1 (tryCatch (holding [u] (call (.ref q) [u])) _ >>= _) _ _ _
  refine wpAny_bind (wpAny_tryCatch (wpAny_holding (wpAny_mono (turn 0 _ _ H0 x u (by omega) Ip ru dx1) (fun un s2 he => ?_) fun _ _ hF => hF.elim)))
  obtain ⟨H2, xn, I2p, e2, rn, dn⟩ := he
  have I2 := I2p.unpinned
  have pI := hit'
  obtain ⟨oi, hi1, hi2, hi3⟩ := pI
  have qI := I2p.pin (it, oi) (List.mem_append_right _ (List.mem_append_right _ (mem_pinsAt (by simp) hi1)))
  have qS := I2p.pin (S, seqObj "list" #[] 0) (List.mem_append_right _ (List.mem_append_right _ (mem_pinsAt (by simp) hS1)))
  have own2 : Own2 X pins H2 it S := ⟨⟨qI.2.1, own.fi.2⟩, ⟨qS.2.1, own.fs.2⟩, own.ne⟩
  have hit2 : s2.heap.IsListIter it l (0 + 1) := ⟨oi, qI.1, hi2, hi3⟩
  have hS2 : s2.heap.get? S = some (seqObj "list" #[] 0) := qS.1
  obtain ⟨g0, g1, g2, g3, g4, g5⟩ := own2.fs
  have sb2 := Heap.SameBut.update s2.heap S (Obj.mapSeq fun _ => #[u, un])
  have I3 : Inv X pins σ H2 { s2 with heap := s2.heap.update S (Obj.mapSeq fun _ => #[u, un]) } := I2.turned (t' := s2.toks) (fun b o hb e => (sb2.2 b hb).trans e) g0 g1 g3 g4 g5
  show wpAny _ X.A.in1 (updateSeq S (fun _ => #[u, un]) >>= _) _ _ _
  refine wpAny_bind ?_
  refine wpAny_updateSeq hS2 rfl ?_
  rw [hname]
  obtain ⟨oi, ho1, ho2, ho3⟩ := hit2
  exact wpAny_pure ⟨plainId_quiet PySem.F.plain_min_loop _, mk_loop hc hlist hlen hal hnn hu turn hR _ 0 _ rfl hne ⟨H2, u, un, x, xn, _, I3, e2, own2, ⟨oi, (sb2.2 it own.ne.symm).trans ho1, ho2, ho3⟩, get?_update_seq hS2 _, Dp_mono e2 dx1, ru, dn, rn⟩⟩
end


section
variable {X : Cx} {pins : List (Addr × Obj)} {σ : L2.St} {it S l : Addr} {q : Addr} {ds ks : List PyData} {H0 : Hp} {R : Result → Shared → Prop}
/-- what a turn leaves: the best one and its key in S -/
def MinN (X : Cx) (pins : List (Addr × Obj)) (σ : L2.St) (it S l : Addr) (ds ks : List PyData) (H0 : Hp) (j b : Nat) (s : Shared) : Prop :=
  ∃ (H : Hp) (ub uk : Value) (vb vk : V) (c : Nat), Inv X pins σ H s ∧ Ex H0 H ∧ Own2 X pins H it S ∧ s.heap.IsListIter it l j ∧ s.heap.get? S = some (seqObj "list" #[ub, uk] c) ∧
    Dp X.K H vb (ds.getD b .none) ∧ RelV vb ub ∧ Dp X.K H vk (ks.getD b .none) ∧ RelV vk uk
theorem mn_loop (hc : X.calm = true) (hlist : Dp X.K H0 (.ref l) (.list ds)) (hlen : ks.length = ds.length) (hal : ∀ d ∈ ks, ∀ e ∈ ks, alike d e = true) (hnn : ∀ d ∈ ks, d ≠ .none) (hu : ∀ d ∈ ks, X.A.units + 1 + d.depth < cLine)
    (hsame : ds = ks)
    (hR : ∀ s H u v, Inv X pins σ H s → Ex H0 H → RelV v u → Dp X.K H v (ds.getD (kBest dataLt ks (ds.length - 1)) .none) → R (.ok (.ret u)) s) :
    ∀ (r j : Nat) (s : Shared), ds.length - (j + 1) = r → j + 1 ≤ ds.length → MinN X pins σ it S l ds ks H0 (j + 1) (kBest dataLt ks j) s →
      codeAny (model X.prog X.w) X.A (.builtin "min.loop" ⟨[.ref it, .none, .ref S], []⟩) R s := by
  have hname : (toString "min" ++ toString ".loop" : String) = "min.loop" := by decide
  intro r
  induction r with
  | zero =>
    intro j s hr hj ⟨H, ub, uk, vb, vk, c, I, e0, own, hit, hS, db, rb, dk, rk⟩
    have hin : j + 1 = ds.length := by omega
    obtain ⟨a, xs, ea, hsq, hda⟩ := dp_list hlist
    cases ea
    obtain ⟨its, rv, p, hz⟩ := I.list (ex_l e0 hsq)
    refine codeAny_builtin PySem.F.entry_min_loop ?_
    rw [Around.under_plainId PySem.F.plain_min_loop _]
    show wpAny _ X.A.in1 (seqItems? (.ref S) >>= _) _ _ _
    refine wpAny_bind (wpAny_seqItems hS rfl ?_)
    show wpAny _ X.A.in1 (tryCatch (pyNext (.ref it)) _ >>= _) _ _ _
    have hl2 := da_len hda
    have hl3 := rv.length
    refine wpAny_bind (wpAny_tryCatch (wpAny_pyNext_list_end (I.ok.hd hc) hit p.isList (by simp; omega) fun h' eb => ?_))
    obtain ⟨f0, f1, f2, f3, f4, f5⟩ := own.fi
    have I1 : Inv X pins σ H { s with heap := h' } := I.turned (t' := s.toks) (fun b o hb e => eb b o hb e) f0 f1 f3 f4 f5
    have hS' := eb S _ own.ne hS
    show wpAny _ X.A.in1 (updateSeq S (fun _ => #[]) >>= _) _ _ _
    refine wpAny_bind ?_
    refine wpAny_updateSeq hS' rfl (wpAny_bind (wpAny_letGo (wpAny_pure ?_)))
    obtain ⟨g0, g1, g2, g3, g4, g5⟩ := own.fs
    have s1 := Heap.SameBut.update h' S (Obj.mapSeq fun _ => (#[] : Array Value))
    have I2 : Inv X pins σ H { s with heap := h'.update S (Obj.mapSeq fun _ => #[]) } := I1.turned (t' := s.toks) (fun b o hb e => (s1.2 b hb).trans e) g0 g1 g3 g4 g5
    refine hR _ H ub vb I2 e0 rb ?_
    rw [← hin, Nat.add_sub_cancel]
    exact db
  | succ r ih =>
    intro j s hr hj ⟨H, ub, uk, vb, vk, c, I, e0, own, hit, hS, db, rb, dk, rk⟩
    have hlt : j + 1 < ds.length := by omega
    obtain ⟨a, xs, ea, hsq, hda⟩ := dp_list hlist
    cases ea
    obtain ⟨its, rv, p, hz⟩ := I.list (ex_l e0 hsq)
    obtain ⟨x, hx, dx⟩ := da_get hda (List.getElem?_eq_getElem hlt)
    obtain ⟨u, hu1, ru⟩ := rv.get hx
    have ed : ds.getD (j + 1) .none = ds[j + 1] := by
      rw [List.getD_eq_getElem?_getD, List.getElem?_eq_getElem hlt]
      rfl
    refine codeAny_builtin PySem.F.entry_min_loop ?_
    rw [Around.under_plainId PySem.F.plain_min_loop _]
    show wpAny _ X.A.in1 (seqItems? (.ref S) >>= _) _ _ _
    refine wpAny_bind (wpAny_seqItems hS rfl ?_)
    show wpAny _ X.A.in1 (tryCatch (pyNext (.ref it)) _ >>= _) _ _ _
    refine wpAny_bind (wpAny_tryCatch (wpAny_pyNext_list_item hit p.isList (x := u) (by simpa using hu1) fun h' hit' sb => ?_))
    obtain ⟨f0, f1, f2, f3, f4, f5⟩ := own.fi
    have I1 : Inv X pins σ H { s with heap := h' } := I.turned (t' := s.toks) (fun b o hb e => (sb.2 b hb).trans e) f0 f1 f3 f4 f5
    have hS1 : h'.get? S = some (seqObj "list" #[ub, uk] c) := (sb.2 S own.ne).trans hS
    have dx1 : Dp X.K H x (ds.getD (j + 1) .none) := by
      rw [ed]
      exact Dp_mono e0 dx
    refine wpAny_bind (wpAny_pure ?_)
    obtain ⟨H2, e2, s2, I2, xn, rn, dn, hit2, hS2, own2, es2⟩ : ∃ (H2 : Hp) (_ : Ex H H2) (s2 : Shared) (_ : Inv X pins σ H2 s2) (xn : V), RelV xn u ∧ Dp X.K H2 xn (ks.getD (j + 1) .none) ∧ s2.heap.IsListIter it l (j + 1 + 1) ∧ s2.heap.get? S = some (seqObj "list" #[ub, uk] c) ∧ Own2 X pins H2 it S ∧ s2 = { s with heap := h' } := ⟨_, Ex.refl _, _, I1, x, ru, hsame ▸ dx1, hit', hS1, own, rfl⟩
    rw [← es2]
    have hkj : ks.getD (j + 1) .none ∈ ks := by
      rw [List.getD_eq_getElem?_getD, List.getElem?_eq_getElem (by omega)]
      exact List.getElem_mem _
    have hbl := kBest_lt dataLt ks j
    have hkb : ks.getD (kBest dataLt ks j) .none ∈ ks := by
      rw [List.getD_eq_getElem?_getD, List.getElem?_eq_getElem (by omega)]
      exact List.getElem_mem _
    show wpAny _ X.A.in1 (tryCatch (holding [u, u] (richCompare .Lt u uk >>= _)) _ >>= _) _ _ _
    refine wpAny_bind (wpAny_tryCatch (wpAny_holding (wpAny_bind (lt_data I2 dn (Dp_mono e2 dk) rn rk (hal _ hkj _ hkb) (hnn _ hkj) (by have := hu _ hkj; omega) ?_))))
    refine wpAny_bind (wpAny_holding (wpAny_truthy_bool ?_))
    refine wpAny_bind (wpAny_letGo (wpAny_pure ?_))
    cases hb : dataLt (ks.getD (j + 1) .none) (ks.getD (kBest dataLt ks j) .none) with
    | true =>
      simp only [if_true]
      refine wpAny_bind ?_
      refine wpAny_updateSeq hS2 rfl (wpAny_bind (wpAny_letGo ?_))
      rw [hname]
      obtain ⟨g0, g1, g2, g3, g4, g5⟩ := own2.fs
      have sb2 := Heap.SameBut.update s2.heap S (Obj.mapSeq fun _ => #[u, u])
      have I3 : Inv X pins σ H2 { s2 with heap := s2.heap.update S (Obj.mapSeq fun _ => #[u, u]) } := I2.turned (t' := s2.toks) (fun b o hb e => (sb2.2 b hb).trans e) g0 g1 g3 g4 g5
      refine wpAny_pure ⟨plainId_quiet PySem.F.plain_min_loop _, ih (j + 1) _ (by omega) hlt ?_⟩
      have eb : kBest dataLt ks (j + 1) = j + 1 := by
        show (if dataLt _ _ = true then j + 1 else kBest dataLt ks j) = j + 1
        rw [show (argBest (fun i j => dataLt (ks.getD i .none) (ks.getD j .none)) j) = kBest dataLt ks j from rfl, hb, if_pos rfl]
      rw [eb]
      obtain ⟨oi, ho1, ho2, ho3⟩ := hit2
      exact ⟨H2, u, u, x, xn, _, I3, e0.trans e2, own2, ⟨oi, (sb2.2 it own.ne.symm).trans ho1, ho2, ho3⟩, get?_update_seq hS2 _, Dp_mono e2 dx1, ru, dn, rn⟩
    | false =>
      simp only [Bool.false_eq_true, if_false]
      refine wpAny_bind (wpAny_letGo ?_)
      rw [hname]
      refine wpAny_pure ⟨plainId_quiet PySem.F.plain_min_loop _, ih (j + 1) s2 (by omega) hlt ?_⟩
      have eb : kBest dataLt ks (j + 1) = kBest dataLt ks j := by
        show (if dataLt _ _ = true then j + 1 else kBest dataLt ks j) = kBest dataLt ks j
        rw [show (argBest (fun i j => dataLt (ks.getD i .none) (ks.getD j .none)) j) = kBest dataLt ks j from rfl, hb, if_neg Bool.false_ne_true]
      rw [eb]
      exact ⟨H2, ub, uk, vb, vk, c, I2, e0.trans e2, own2, hit2, hS2, Dp_mono e2 db, rb, Dp_mono e2 dk, rk⟩
end


section
variable {X : Cx} {pins : List (Addr × Obj)} {σ : L2.St} {l : Addr} {q : Addr} {ds ks : List PyData} {H0 : Hp} {s : Shared} {Q : VK}
theorem mn_call (hc : X.calm = true) (hlist : Dp X.K H0 (.ref l) (.list ds)) (hne : 0 < ds.length) (hlen : ks.length = ds.length) (hal : ∀ d ∈ ks, ∀ e ∈ ks, alike d e = true) (hnn : ∀ d ∈ ks, d ≠ .none) (hu : ∀ d ∈ ks, X.A.units + 1 + d.depth < cLine)
    (hsame : ds = ks)
    (I : Inv X pins σ H0 s) (hQ : ∀ v H, Ex H0 H → Dp X.K H v (ds.getD (kBest dataLt ks (ds.length - 1)) .none) → Q v H) :
    wpAny (model X.prog X.w) X.A (call (.builtin "min") [.ref l] []) (EP X pins σ Q) X.xe s := by
  have hname : (toString "min" ++ toString ".loop" : String) = "min.loop" := by decide
  obtain ⟨a, xs, ea, hsq, hda⟩ := dp_list hlist
  cases ea
  obtain ⟨its, rv, p, hz⟩ := I.list hsq
  refine call_function_tree PySem.F.kind_min PySem.F.plain_min PySem.F.entry_min (PySem.F.args_min1 _) ?_
  show wpAny _ X.A.in1 (Builtin.Builtins.bindParams "min" ["key", "default"] 0 ⟨[], []⟩ >>= _) _ _ s
  refine wpAny_bind (wpAny_of_eq (show Builtin.Builtins.bindParams "min" ["key", "default"] 0 ⟨[], []⟩ = pure [none, none] from rfl) ?_)
  refine wpAny_bind (wpAny_pure ?_)
  refine wpAny_bind (wpAny_pyIter_list p.isList ?_)
  refine wpAny_bind (wpAny_newList ?_ (Nat.zero_le _))
  rw [hname]
  have hS0 : (s.heap.push { cls := .type "list_iterator", data := .fields #[.ref l, .int 0 0] }).objs.size = s.heap.objs.size + 1 := size_push' ..
  generalize hg : (s.heap.push { cls := .type "list_iterator", data := .fields #[.ref l, .int 0 0] }) = g1 at *
  have gI0 : g1.get? s.heap.objs.size = some { cls := .type "list_iterator", data := .fields #[.ref l, .int 0 0] } := by
    rw [← hg]
    exact Heap.get?_push_size _ rfl
  have k1 : ∀ b o, s.heap.get? b = some o → g1.get? b = some o := fun b o e => by
    rw [← hg]
    exact Heap.get?_push_of_some _ e
  have fi : FpOk X pins H0 s.heap.objs.size := I.fpOk (Nat.le_refl _) (I.hok.fresh (Nat.le_refl _))
  have fs : FpOk X pins H0 g1.objs.size := I.fpOk (by omega) (I.hok.fresh (by omega))
  have nS : g1.objs.size ≠ s.heap.objs.size := by omega
  have I1 : Inv X pins σ H0 { s with heap := g1.push (seqObj "list" #[] 0) } := I.kept (t' := s.toks) fun b o e => Heap.get?_push_of_some _ (k1 b o e)
  have gI : (g1.push (seqObj "list" #[] 0)).get? s.heap.objs.size = some { cls := .type "list_iterator", data := .fields #[.ref l, .int 0 0] } := Heap.get?_push_of_some _ gI0
  have gS : (g1.push (seqObj "list" #[] 0)).get? g1.objs.size = some (seqObj "list" #[] 0) := Heap.get?_push_size _ rfl
  refine wpAny_pure ⟨plainId_quiet PySem.F.plain_min_loop _, ?_⟩
  generalize hit0 : s.heap.objs.size = it at *
  generalize hSS : g1.objs.size = S at *
  show codeAny (model X.prog X.w) X.A (.builtin "min.loop" ⟨[.ref it, .none, .ref S], []⟩) _ { s with heap := g1.push (seqObj "list" #[] 0) }
  generalize hs0 : ({ s with heap := g1.push (seqObj "list" #[] 0) } : Shared) = s0 at *
  have gI' : s0.heap.IsListIter it l 0 := by
    rw [← hs0]
    exact ⟨_, gI, rfl, rfl⟩
  have gS' : s0.heap.get? S = some (seqObj "list" #[] 0) := by
    rw [← hs0]
    exact gS
  have hR : ∀ s' H u v, Inv X pins σ H s' → Ex H0 H → RelV v u → Dp X.K H v (ds.getD (kBest dataLt ks (ds.length - 1)) .none) → (fun (r : Result) s' => match r with | .ok (.ret v) => EP X pins σ Q v s' | .ok _ => False | .error e => X.xe e s') (.ok (.ret u)) s' := fun s' H u v I' e' r' d' => ⟨v, H, I', r', hQ v H e' d'⟩
  have own : Own2 X pins H0 it S := ⟨fi, fs, nS⟩
  clear hg k1 gI0 fi fs hit0 hSS hS0 hs0 gI gS
  obtain ⟨its, rv, p, hz⟩ := I1.list hsq
  obtain ⟨x, hx, dx⟩ := da_get hda (List.getElem?_eq_getElem hne)
  obtain ⟨u, hu1, ru⟩ := rv.get hx
  have ed : ds.getD 0 .none = ds[0] := by
    rw [List.getD_eq_getElem?_getD, List.getElem?_eq_getElem hne]
    rfl
  refine codeAny_builtin PySem.F.entry_min_loop ?_
  rw [Around.under_plainId PySem.F.plain_min_loop _]
  show wpAny _ X.A.in1 (seqItems? (.ref S) >>= _) _ _ _
  refine wpAny_bind (wpAny_seqItems gS' rfl ?_)
  show wpAny _ X.A.in1 (tryCatch (pyNext (.ref it)) _ >>= _) _ _ _
  refine wpAny_bind (wpAny_tryCatch (wpAny_pyNext_list_item gI' p.isList (x := u) (by simpa using hu1) fun h' hit' sb => ?_))
  obtain ⟨f0, f1, f2, f3, f4, f5⟩ := own.fi
  have e0 : Ex H0 H0 := Ex.refl H0
  have I := I1
  have I1 : Inv X pins σ H0 { s0 with heap := h' } := I.turned (t' := s0.toks) (fun b o hb e => (sb.2 b hb).trans e) f0 f1 f3 f4 f5
  have hS1 : h'.get? S = some (seqObj "list" #[] 0) := (sb.2 S own.ne).trans gS'
  have dx1 : Dp X.K H0 x (ds.getD 0 .none) := by
    rw [ed]
    exact dx
  refine wpAny_bind (wpAny_pure ?_)
  obtain ⟨H2, e2, s2, I2, xn, rn, dn, hit2, hS2, own2, es2⟩ : ∃ (H2 : Hp) (_ : Ex H0 H2) (s2 : Shared) (_ : Inv X pins σ H2 s2) (xn : V), RelV xn u ∧ Dp X.K H2 xn (ks.getD 0 .none) ∧ s2.heap.IsListIter it l (0 + 1) ∧ s2.heap.get? S = some (seqObj "list" #[] 0) ∧ Own2 X pins H2 it S ∧ s2 = { s0 with heap := h' } := ⟨_, Ex.refl _, _, I1, x, ru, hsame ▸ dx1, hit', hS1, own, rfl⟩
  rw [← es2]
  obtain ⟨g0, g1, g2, g3, g4, g5⟩ := own2.fs
  have sb2 := Heap.SameBut.update s2.heap S (Obj.mapSeq fun _ => #[u, u])
  have I3 : Inv X pins σ H2 { s2 with heap := s2.heap.update S (Obj.mapSeq fun _ => #[u, u]) } := I2.turned (t' := s2.toks) (fun b o hb e => (sb2.2 b hb).trans e) g0 g1 g3 g4 g5
  show wpAny _ X.A.in1 (updateSeq S (fun _ => #[u, u]) >>= _) _ _ _
  refine wpAny_bind ?_
  refine wpAny_updateSeq hS2 rfl ?_
  rw [hname]
  obtain ⟨oi, ho1, ho2, ho3⟩ := hit2
  exact wpAny_pure ⟨plainId_quiet PySem.F.plain_min_loop _, mn_loop hc hlist hlen hal hnn hu hsame hR _ 0 _ rfl hne ⟨H2, u, u, x, xn, _, I3, e2, own2, ⟨oi, (sb2.2 it own.ne.symm).trans ho1, ho2, ho3⟩, get?_update_seq hS2 _, Dp_mono e2 dx1, ru, dn, rn⟩⟩
end

end Fkw


set_option Elab.async false
set_option linter.all false
set_option maxRecDepth 100000
set_option maxHeartbeats 2000000
namespace Fkw
open PySem PySem.Spec PyProof.Rows L2 Evl
open PySem.W (dataLt alike alikeAll keyToksAll keyToks)
/-! ### ints in order, place by place -/
def ltI : List Int → List Int → Bool
  | a :: l, b :: m => if a = b then ltI l m else decide (a < b)
  | _, _ => false
theorem alike_ints : ∀ {ns ms : List Int}, ns.length = ms.length → alikeAll (ns.map PyData.int) (ms.map PyData.int) = true
  | [], [], _ => by
    rw [List.map_nil]
    unfold alikeAll
    rfl
  | a :: l, b :: m, h => by
    rw [List.map_cons, List.map_cons]
    unfold alikeAll
    rw [alike_ints (by simpa using h)]
    unfold alike
    rfl
theorem lex_ints : ∀ {ns ms : List Int}, ns.length = ms.length → PyProof.Rows.lexLt PyProof.Rows.itemOrd (keyToksAll (ns.map PyData.int)) (keyToksAll (ms.map PyData.int)) = ltI ns ms
  | [], [], _ => by
    rw [List.map_nil]
    unfold keyToksAll ltI
    decide +kernel
  | a :: l, b :: m, h => by
    rw [List.map_cons, List.map_cons]
    have ha : alike (.int a) (.int b) = true := by
      unfold alike
      rfl
    by_cases e : a = b
    · rw [PySem.W.dataLt_all_yes ha (by unfold PyData.eqv; simpa using e), lex_ints (by simpa using h)]
      conv => rhs; unfold ltI
      rw [if_pos e]
    · rw [PySem.W.dataLt_all_no ha (by unfold PyData.eqv; simpa using e), PySem.W.dataLt_int]
      conv => rhs; unfold ltI
      rw [if_neg e]
theorem dataLt_ints {ns ms : List Int} (h : ns.length = ms.length) : dataLt (.tuple (ns.map PyData.int)) (.tuple (ms.map PyData.int)) = ltI ns ms := by
  rw [PySem.W.dataLt_tuple, lex_ints h]
theorem alike_tup {ns ms : List Int} (h : ns.length = ms.length) : alike (.tuple (ns.map PyData.int)) (.tuple (ms.map PyData.int)) = true := by
  unfold alike
  exact alike_ints h
theorem depth_tup (ns : List Int) : (PyData.tuple (ns.map PyData.int)).depth = 1 := by
  unfold PyData.depth
  rw [depthAll_ints]
/-! ### the rules -/
def rMinKey (K : PySem.W.Frag) (f : Addr) (pre : List PyData → PyData → Prop) : List V → List V → Hp → VK → Prop := fun vs zs H Q => ∃ l ds ks, vs = [.ref l] ∧ zs = [.ref f] ∧ Dp K H (.ref l) (.list ds) ∧ 0 < ds.length ∧ ks.length = ds.length ∧
  (∀ i, i < ds.length → pre [ds.getD i .none] (ks.getD i .none)) ∧ (∀ d ∈ ks, ∀ e ∈ ks, alike d e = true) ∧ (∀ d ∈ ks, d ≠ .none) ∧ (∀ d ∈ ks, d.depth ≤ 8) ∧ ∀ v H', Ex H H' → Dp K H' v (ds.getD (kBest dataLt ks (ds.length - 1)) .none) → Q v H'
theorem cr_minKey {X : Cx} {k : Nat} {f : Addr} {fd : FuncData} {p : Str} {pre : List PyData → PyData → Prop} (hc : X.calm = true) (F : FnOk X.prog X.w X.K X.mg X.base CX0 k f fd [p] (spD X.K pre)) (hr : Room (k + 1) X.A) (hb : L2.Binds X.K fd [p] []) :
    CallRK X (.builtin "min") [Str.ofString "key"] (rMinKey X.K f pre) := by
  intro pins s σ H xs zs us ws Q I r1 r2 h
  obtain ⟨l, ds, ks, rfl, rfl, hl, hne, hlen, hp, ha, hn, hd, hQ⟩ := h
  obtain ⟨u, rfl, ru⟩ := Vals.one r1
  cases ru
  obtain ⟨u, rfl, ru⟩ := Vals.one r2
  cases ru
  have hu := hr.units
  refine mk_call hc hl hne hlen ha hn (fun d hm => by have := hd d hm; omega) (fun i pins s H x u hi I rx dx => ?_) I hQ
  refine wpAny_mono (run_fn (X := (inX X).wish fun _ _ => False) (Q := fun xn H2 => Ex H H2 ∧ Dp X.K H2 xn (ks.getD i .none)) (E := E0) F hr.in1 hb .nil pass0 ((inv_in1 I).wish _) (.cons rx .nil) ?_) (fun un s2 he => ?_) fun _ _ z => z
  · exact ⟨_, _, .cons dx .nil, hp i hi, fun v H' e d => ⟨e, d⟩⟩
  · obtain ⟨xn, H2, I2, rn, e2, d2⟩ := he
    exact ⟨H2, xn, inv_out1 I2.unwish, e2, rn, d2⟩
def rMinD (K : PySem.W.Frag) : List V → Hp → VK → Prop := fun vs H Q => ∃ l ds, vs = [.ref l] ∧ Dp K H (.ref l) (.list ds) ∧ 0 < ds.length ∧
  (∀ d ∈ ds, ∀ e ∈ ds, alike d e = true) ∧ (∀ d ∈ ds, d ≠ .none) ∧ (∀ d ∈ ds, d.depth ≤ 8) ∧ ∀ v H', Ex H H' → Dp K H' v (ds.getD (kBest dataLt ds (ds.length - 1)) .none) → Q v H'
theorem cr_minD {X : Cx} {k : Nat} (hc : X.calm = true) (hr : Room k X.A) : CallR X (.builtin "min") (rMinD X.K) := by
  intro pins s σ H xs us Q I r1 h
  obtain ⟨l, ds, rfl, hl, hne, ha, hn, hd, hQ⟩ := h
  obtain ⟨u, rfl, ru⟩ := Vals.one r1
  cases ru
  have hu := hr.units
  exact mn_call hc hl hne rfl ha hn (fun d hm => by have := hd d hm; omega) rfl I hQ
section
variable {K : PySem.W.Frag} {σ : L2.St} {H : Hp} {te : TE} {ds ks : List PyData} {f : Addr} {pre : List PyData → PyData → Prop}
theorem ed_minKey (h : EvD K te σ H (.list ds)) (hne : 0 < ds.length) (hlen : ks.length = ds.length) (hp : ∀ i, i < ds.length → pre [ds.getD i .none] (ks.getD i .none)) (ha : ∀ d ∈ ks, ∀ e ∈ ks, alike d e = true) (hn : ∀ d ∈ ks, d ≠ .none) (hd : ∀ d ∈ ks, d.depth ≤ 8) :
    EvD K (tCKw (rMinKey K f pre) (tCons te tNil) (tCons (tC (.ref f)) tNil)) σ H (ds.getD (kBest dataLt ks (ds.length - 1)) .none) := fun H1 e Q q =>
  h H1 e _ fun v H2 e2 hv => by
    obtain ⟨a, xs, rfl, _, _⟩ := dp_list hv
    exact ⟨a, ds, ks, rfl, rfl, hv, hne, hlen, hp, ha, hn, hd, fun v H' e3 d => q v H' (e2.trans e3) d⟩
theorem ed_minD (h : EvD K te σ H (.list ds)) (hne : 0 < ds.length) (ha : ∀ d ∈ ds, ∀ e ∈ ds, alike d e = true) (hn : ∀ d ∈ ds, d ≠ .none) (hd : ∀ d ∈ ds, d.depth ≤ 8) :
    EvD K (tCB (rMinD K) (tCons te tNil)) σ H (ds.getD (kBest dataLt ds (ds.length - 1)) .none) := fun H1 e Q q =>
  h H1 e _ fun v H2 e2 hv => by
    obtain ⟨a, xs, rfl, _, _⟩ := dp_list hv
    exact ⟨a, ds, rfl, hv, hne, ha, hn, hd, fun v H' e3 d => q v H' (e2.trans e3) d⟩
end
/-! ### the least in order is what a fold keeps -/
section
variable {α : Type} (lt : α → α → Bool)
/-- the first of the least, by one run -/
def pick (x : α) (l : List α) : α := l.foldl (fun g h => if lt h g = true then h else g) x
theorem pick_best {kt : α → PyData} (hlt : ∀ x y : α, dataLt (kt x) (kt y) = lt x y) (l : List α) (x : α) : ∀ j, j ≤ l.length →
    ∃ y, (x :: l)[kBest dataLt ((x :: l).map kt) j]? = some y ∧ y = pick lt x (l.take j)
  | 0, _ => ⟨x, rfl, rfl⟩
  | j + 1, hj => by
    obtain ⟨y, h1, h2⟩ := pick_best hlt l x j (by omega)
    have hn : l[j]? = some l[j] := List.getElem?_eq_getElem (by omega)
    have hn' : (x :: l)[j + 1]? = some l[j] := by simpa using hn
    have g1 : ((x :: l).map kt).getD (j + 1) .none = kt l[j] := by
      rw [List.getD_eq_getElem?_getD, List.getElem?_map, hn']
      rfl
    have g2 : ((x :: l).map kt).getD (kBest dataLt ((x :: l).map kt) j) .none = kt y := by
      rw [List.getD_eq_getElem?_getD, List.getElem?_map, h1]
      rfl
    have e1 : kBest dataLt ((x :: l).map kt) (j + 1) = if lt l[j] y = true then j + 1 else kBest dataLt ((x :: l).map kt) j := by
      show (if dataLt (((x :: l).map kt).getD (j + 1) .none) (((x :: l).map kt).getD (kBest dataLt ((x :: l).map kt) j) .none) = true then j + 1 else kBest dataLt ((x :: l).map kt) j) = _
      rw [g1, g2, hlt]
    have e2 : pick lt x (l.take (j + 1)) = if lt l[j] y = true then l[j] else y := by
      unfold pick
      rw [List.take_add_one, hn, List.foldl_append, h2]
      rfl
    rw [e1, e2]
    by_cases c : lt l[j] y = true
    · rw [if_pos c, if_pos c]
      exact ⟨l[j], hn', rfl⟩
    · rw [if_neg c, if_neg c]
      exact ⟨y, h1, rfl⟩
theorem pick_data {kt dt : α → PyData} (hlt : ∀ x y : α, dataLt (kt x) (kt y) = lt x y) (l : List α) (x : α) :
    ((x :: l).map dt).getD (kBest dataLt ((x :: l).map kt) (((x :: l).map dt).length - 1)) .none = dt (pick lt x l) := by
  obtain ⟨y, h1, h2⟩ := pick_best lt hlt l x l.length (Nat.le_refl _)
  rw [List.take_length] at h2
  have e : ((x :: l).map dt).length - 1 = l.length := by simp
  rw [e, List.getD_eq_getElem?_getD, List.getElem?_map, h1, h2]
  rfl
end
/-! ### the order of forms -/
def plI (f : Fc.Form) : List Int := [(f.a.natAbs : Int), if decide (f.a < 0) then 1 else 0, (f.b.natAbs : Int), if decide (f.b < 0) then 1 else 0]
abbrev dPl (f : Fc.Form) : PyData := .tuple ((plI f).map PyData.int)
theorem place_lt (f g : Fc.Form) : dataLt (dPl f) (dPl g) = Fc.before f g := by
  have hl : (plI f).length = (plI g).length := rfl
  rw [dataLt_ints hl]
  rw [Bool.eq_iff_iff, Fk.before_iff]
  unfold plI
  simp only [ltI, decide_eq_true_eq]
  have p1 : ∃ s : Int, s = (if f.a < 0 then 1 else 0) ∧ ((f.a < 0 ∧ s = 1) ∨ (¬ f.a < 0 ∧ s = 0)) := ⟨_, rfl, by split <;> simp [*]⟩
  have p2 : ∃ s : Int, s = (if g.a < 0 then 1 else 0) ∧ ((g.a < 0 ∧ s = 1) ∨ (¬ g.a < 0 ∧ s = 0)) := ⟨_, rfl, by split <;> simp [*]⟩
  have p3 : ∃ s : Int, s = (if f.b < 0 then 1 else 0) ∧ ((f.b < 0 ∧ s = 1) ∨ (¬ f.b < 0 ∧ s = 0)) := ⟨_, rfl, by split <;> simp [*]⟩
  have p4 : ∃ s : Int, s = (if g.b < 0 then 1 else 0) ∧ ((g.b < 0 ∧ s = 1) ∨ (¬ g.b < 0 ∧ s = 0)) := ⟨_, rfl, by split <;> simp [*]⟩
  obtain ⟨s1, e1, h1⟩ := p1
  obtain ⟨s2, e2, h2⟩ := p2
  obtain ⟨s3, e3, h3⟩ := p3
  obtain ⟨s4, e4, h4⟩ := p4
  rw [← e1, ← e2, ← e3, ← e4]
  by_cases c1 : (f.a.natAbs : Int) = (g.a.natAbs : Int)
  · rw [if_pos c1]
    by_cases c2 : s1 = s2
    · rw [if_pos c2]
      by_cases c3 : (f.b.natAbs : Int) = (g.b.natAbs : Int)
      · rw [if_pos c3]
        by_cases c4 : s3 = s4
        · rw [if_pos c4]
          constructor
          · intro h
            cases h
          · intro h
            exfalso
            omega
        · rw [if_neg c4, decide_eq_true_iff]
          omega
      · rw [if_neg c3, decide_eq_true_iff]
        omega
    · rw [if_neg c2, decide_eq_true_iff]
      omega
  · rw [if_neg c1, decide_eq_true_iff]
    omega
end Fkw

set_option Elab.async false
set_option linter.all false
set_option maxRecDepth 100000
set_option maxHeartbeats 2000000
/-! What is told of forms and of least ones, shared by the walks. -/
namespace Fkw
open PySem PySem.Spec PyProof.Rows L2 Evl
theorem fits_sm {f : Fc.Form} (h : fits f.a f.b f.c = true) : SmF f := by
  have := fits_iff.mp h
  unfold SmF Sm
  omega
/-- what the program's circle asks of a form -/
def CycOk (f : Fc.Form) : Prop := SmF f ∧ 0 < Fc.disc f ∧ Fc.disc f ≤ 20000 ∧ ∀ r : Int, r * r ≠ Fc.disc f
/-- the circle of a form, as the specification runs it -/
def circ (f : Fc.Form) : List Fc.Form := Fc.circle (Fc.rootOf (Fc.disc f).toNat : Int) (Fc.disc f) (Fc.into (Fc.rootOf (Fc.disc f).toNat : Int) (Fc.disc f) Fc.FUEL f) Fc.FUEL (Fc.into (Fc.rootOf (Fc.disc f).toNat : Int) (Fc.disc f) Fc.FUEL f)
/-- of which forms a least one is told -/
def LeastOk (f : Fc.Form) : Prop := (SmF f ∧ Fc.disc f < 0 ∧ 0 < f.a) ∨ CycOk f
theorem least_neg {f : Fc.Form} (h : Fc.disc f < 0) : Fc.least f = (Fc.down f).1 := by
  unfold Fc.least Fc.both
  rw [if_neg (by simp; omega)]
theorem least_pos {f : Fc.Form} (h : 0 < Fc.disc f) : Fc.least f = Fc.firstOf (((circ f).map (Fc.centred (Fc.disc f))).headD f) ((circ f).map (Fc.centred (Fc.disc f))) := by
  unfold Fc.least Fc.both
  rw [if_pos (by simpa using h)]
  rfl
theorem firstOf_pick (x : Fc.Form) (l : List Fc.Form) (y : Fc.Form) : Fc.firstOf ((x :: l).headD y) (x :: l) = pick Fc.before x l := by
  unfold Fc.firstOf pick
  show (x :: l).foldl (fun g h => if Fc.before h g = true then h else g) x = _
  rw [List.foldl_cons, Fk.before_irrefl, if_neg (by decide)]
/-- the circle's forms, one by one -/
theorem circ_is {f : Fc.Form} (h : CycOk f) : ∃ (g : Fc.Form) (p : Nat), 1 ≤ p ∧ p ≤ 9941 ∧ circ f = (List.range p).map (fun i => Fk.itn (Fc.rootOf (Fc.disc f).toNat : Int) (Fc.disc f) i g) ∧ ∀ x ∈ circ f, SmF x ∧ Fc.disc x = Fc.disc f := by
  obtain ⟨hs, h0, h20, hn⟩ := h
  have R := Fk.rt_of h0 (by omega) hn
  unfold circ
  generalize (Fc.rootOf (Fc.disc f).toNat : Int) = w at *
  generalize hdg : Fc.disc f = D at *
  have hbig := (smF_iff.mp hs).2.2
  have hred : Fk.RedI w (Fc.into w D Fc.FUEL f) := Fk.into_red R hn 28 f hdg (by
    have e : 2 ^ 28 = 268435456 := by decide
    omega) Fc.FUEL (by decide)
  have hd' := Fk.into_disc (w := w) hn Fc.FUEL f hdg
  have hsm : ∀ n (f : Fc.Form), Fc.disc f = D → SmF f → SmF (Fc.into w D n f) := fun n => by
    induction n with
    | zero => exact fun f _ h => h
    | succ n ih =>
      intro f hf h
      by_cases c : Fk.RedI w f
      · rw [Fk.into_stop c]
        exact h
      · rw [Fk.into_go c]
        exact ih _ (Fk.disc_next' hn hf) (smF_iff.mpr (Fk.next_small R hn hf h20 (smF_iff.mp h).2.2))
  have hgs := hsm Fc.FUEL f hdg hs
  generalize Fc.into w D Fc.FUEL f = g at *
  obtain ⟨p, p1, p2, p3, p4⟩ := Fk.closes R hn hd' h20 hred
  have hall := Fk.circle_all p1 (by show p ≤ 10000; omega) p3 p4
  rw [hall]
  refine ⟨g, p, p1, p2, rfl, fun x hx => ?_⟩
  obtain ⟨j, hj, rfl⟩ := List.mem_map.mp hx
  refine ⟨?_, (Fk.itn_red R hn hd' hred j).1⟩
  clear hx hj
  induction j with
  | zero => exact hgs
  | succ j ih => exact smF_iff.mpr (Fk.next_small R hn (Fk.itn_red R hn hd' hred j).1 h20 (smF_iff.mp ih).2.2)
theorem disc_facts {d : Int} (h : Fc.isDisc d = true) : (-20000 ≤ d ∧ d ≤ 20000) ∧ (d % 4 = 0 ∨ d % 4 = 1) ∧ (∀ r : Int, r * r ≠ d) ∧ d ≠ 0 := by
  unfold Fc.isDisc Fc.FAR at h
  simp only [Bool.and_eq_true, Bool.or_eq_true, beq_iff_eq, decide_eq_true_eq, Bool.not_eq_true'] at h
  obtain ⟨h1, h2, h3⟩ := h
  have hn : ∀ r : Int, r * r ≠ d := fun r e => by
    have := (Fk.isSquare_iff (d := d) (by omega)).mpr ⟨r, e⟩
    rw [h1] at this
    cases this
  exact ⟨by omega, h2, hn, fun e => hn 0 (by rw [e]; rfl)⟩
theorem leastOk_of {f : Fc.Form} (hs : SmF f) (hd : Fc.isDisc (Fc.disc f) = true) (ha : Fc.disc f < 0 → 0 < f.a) : LeastOk f := by
  obtain ⟨h1, h2, h3, h4⟩ := disc_facts hd
  by_cases c : Fc.disc f < 0
  · exact .inl ⟨hs, c, ha c⟩
  · exact .inr ⟨hs, by omega, by omega, h3⟩
theorem disc_unit {d : Int} (h : d % 4 = 0 ∨ d % 4 = 1) : Fc.disc (Fc.unit d) = d := by
  unfold Fc.unit
  by_cases c : d % 4 = 0
  · rw [if_pos c]
    show 0 * 0 - 4 * 1 * (-(d / 4)) = d
    omega
  · rw [if_neg c]
    show 1 * 1 - 4 * 1 * ((1 - d) / 4) = d
    omega
theorem unit_prog {d : Int} (h : d % 4 = 0 ∨ d % 4 = 1) : Fc.unit d = ⟨1, d.fmod 2, (d.fmod 2 - d).fdiv 4⟩ := by
  have h1 : d.fmod 2 = d % 2 := Int.fmod_eq_emod_of_nonneg _ (by omega)
  have h2 : (d.fmod 2 - d).fdiv 4 = (d.fmod 2 - d) / 4 := Int.fdiv_eq_ediv_of_nonneg _ (by omega)
  rw [h2, h1]
  unfold Fc.unit
  by_cases c : d % 4 = 0
  · rw [if_pos c]
    have e : d % 2 = 0 := by omega
    rw [e]
    refine Fk.form_ext rfl rfl ?_
    show -(d / 4) = (0 - d) / 4
    omega
  · rw [if_neg c]
    have e : d % 2 = 1 := by omega
    rw [e]
theorem unit_ok {d : Int} (h : Fc.isDisc d = true) : LeastOk (Fc.unit d) := by
  obtain ⟨h1, h2, h3, h4⟩ := disc_facts h
  have e := disc_unit h2
  refine leastOk_of ?_ (by rw [e]; exact h) fun _ => ?_
  · rw [smF_iff]
    unfold Fc.unit
    by_cases c : d % 4 = 0
    · rw [if_pos c]
      dsimp only
      omega
    · rw [if_neg c]
      dsimp only
      omega
  · unfold Fc.unit
    split <;> exact Int.one_pos
theorem disc_inverse (f : Fc.Form) : Fc.disc (Fc.inverse f) = Fc.disc f := by
  simp only [Fc.disc, Fc.inverse]
  grind
theorem inverse_ok {f : Fc.Form} (h : LeastOk f) : LeastOk (Fc.inverse f) := by
  have hs : SmF f → SmF (Fc.inverse f) := fun h => by
    rw [smF_iff] at *
    unfold Fc.inverse
    dsimp only
    omega
  unfold LeastOk CycOk at *
  rw [disc_inverse]
  rcases h with ⟨h1, h2, h3⟩ | ⟨h1, h2⟩
  · exact .inl ⟨hs h1, h2, h3⟩
  · exact .inr ⟨hs h1, h2⟩
theorem may_ok {f : Fc.Form} (h : Wrform.may f = true) : SmF f ∧ LeastOk f ∧ Fc.plain f = true ∧ Fc.isDisc (Fc.disc f) = true ∧ (Fc.above f = true ∨ Fc.both f = true) := by
  unfold Wrform.may Fc.classy at h
  rw [Bool.and_eq_true, Bool.and_eq_true, Bool.and_eq_true, Bool.or_eq_true] at h
  obtain ⟨h1, h2, h3, h4⟩ := h
  have hs : SmF f := fits_sm (f := f) h1
  refine ⟨hs, ?_, h2, h3, h4⟩
  have h5 := h3
  unfold Fc.isDisc Fc.FAR at h5
  simp only [Bool.and_eq_true, decide_eq_true_eq, Bool.not_eq_true'] at h5
  have hn : ∀ r : Int, r * r ≠ Fc.disc f := fun r e => by
    have := (Fk.isSquare_iff (d := Fc.disc f) (by have := (disc_small hs).2; omega)).mpr ⟨r, e⟩
    rw [h5.1] at this
    cases this
  rcases h4 with h4 | h4
  · unfold Fc.above at h4
    rw [Bool.and_eq_true, decide_eq_true_iff, decide_eq_true_iff] at h4
    exact .inl ⟨hs, h4.1, h4.2⟩
  · unfold Fc.both at h4
    rw [decide_eq_true_iff] at h4
    exact .inr ⟨hs, h4, by omega, hn⟩
end Fkw

set_option Elab.async false
set_option linter.all false
set_option maxRecDepth 100000
set_option maxHeartbeats 2000000
/-! A dict of tuples, and sorted of its keys by the keys that a def gives. -/
namespace Fkw
open PySem PySem.Spec PyProof.Rows L2 Evl
open PySem.W (dataLt alike alikeAll AllAlike Sortable EachIs KeyedOut dataKind dataLe keyH_end hideAll hideAll_get hideAll_none of_hideAll KeepsBut SortsAt keyedOut_each each_snoc)
section
variable {prog : Program} {w : World} {A : Around} {E : Value → Shared → Prop} {s : Shared} {d : Addr} {es : Array DictEntry} {ep : Nat}
theorem raw_lt {h : Heap} (hm : h.DictRaw d es ep) : d < h.objs.size := let ⟨_, ho, _⟩ := hm; Heap.lt_size ho
theorem kdl_rawD (lo : (d == sysModules) = false) : PySem.W.KdlSrc prog w "dict" d d es.size (fun i v => ∃ hi : i < es.size, v = es[i].key) (fun h => h.DictRaw d es ep) where
  type := fun _ hm => hm.typeIs
  there := fun _ hm => ⟨raw_lt hm, raw_lt hm⟩
  keep := fun _ _ hm hk => hm.at fun o e => hk d (.inl rfl) o e
  notList := by decide
  notTuple := by decide
  hint := fun _ _ _ _ hm hq => PySem.W.kdl_hint_dict hm.typeIs hq
  iter := fun _ _ hh hm => ⟨_, _, (fun _ _ hq => wpAny_pyIter_dict_raw lo hm hq), Walks.rawKeys hh _ d (Nat.ne_of_lt (raw_lt hm)) es ep, ⟨⟨_, Heap.get?_push_size _ rfl, rfl, rfl⟩, hm.at fun o e => Heap.get?_push_of_some _ e⟩⟩
theorem items_keys {acc : Array Value} (h : ItemsOf (fun i v => ∃ hi : i < es.size, v = es[i].key) acc es.size) : acc.toList = es.toList.map (·.key) := by
  apply List.ext_getElem?
  intro j
  rw [List.getElem?_map, Array.getElem?_toList, Array.getElem?_toList]
  by_cases hj : j < es.size
  · have hj' : j < acc.size := by rw [h.1]; exact hj
    obtain ⟨_, e⟩ := h.2 j acc[j] (Array.getElem?_eq_getElem hj')
    rw [Array.getElem?_eq_getElem hj', Array.getElem?_eq_getElem hj, e]
    rfl
  · rw [Array.getElem?_eq_none (by rw [h.1]; omega), Array.getElem?_eq_none (by omega)]
    rfl
theorem collectD {R : List Value → Shared → Prop} (hh : A.handled = none) (lo : (d == sysModules) = false) (hm : s.heap.DictRaw d es ep) (hn : es.size ≤ sizeLine)
    (h : ∀ (h' : Heap) (tk : Nat), (∀ b o, s.heap.get? b = some o → h'.get? b = some o) → s.heap.objs.size < h'.objs.size → R (es.toList.map (·.key)) { s with heap := h', toks := tk }) :
    wpAny (model prog w) A (collect (.ref d)) R E s := by
  have hd : d < s.heap.objs.size := raw_lt hm
  unfold collect
  refine wpAny_bind (wpAny_runValue (codeAny_builtin entry_proto_collect' ?_))
  rw [Around.under_plainId PySem.F.plain_proto_collect _]
  show wpAny _ A.in1 (newList [] >>= fun l => again (.builtin "list.__iadd__" ⟨[l, .ref d], []⟩)) _ _ s
  refine wpAny_bind (wpAny_newObj_type ?_)
  refine wpAny_pure ⟨plainId_quiet PySem.F.plain_list_iadd _, codeAny_builtin entry_list_iadd' ?_⟩
  rw [Around.under_plainId PySem.F.plain_list_iadd _]
  have hS₁ : (s.heap.push { cls := .type "list", data := .seq ([] : List Value).toArray }).get? s.heap.objs.size = some { cls := .type "list", data := .seq #[] } := Heap.get?_push_size _ rfl
  show wpAny _ A.in1 (Builtin.List.listExtendWith (.ref s.heap.objs.size) (.ref d) (.ref s.heap.objs.size)) _ _ _
  have key := PySem.W.kdl_extend (prog := prog) (w := w) (A := A) (s := { s with heap := s.heap.push { cls := .type "list", data := .seq ([] : List Value).toArray } })
    (R := fun (q : Result) (s' : Shared) => ∃ (h' : Heap) (tk : Nat) (acc' : Array Value) (c' : Nat), q = .ok (.ret (.ref s.heap.objs.size)) ∧ s' = { s with heap := h', toks := tk } ∧
      (∀ b o, s.heap.get? b = some o → h'.get? b = some o) ∧ h'.get? s.heap.objs.size = some { cls := .type "list", dict := none, data := .seq acc' c', slots := #[] } ∧ acc'.toList = es.toList.map (·.key))
    (kdl_rawD (es := es) (ep := ep) lo) hh (hm.at fun o e => Heap.get?_push_of_some _ e) s.heap.objs.size (Nat.ne_of_gt hd) (Nat.ne_of_gt hd) (.ref s.heap.objs.size) 0 hS₁
    (fun h' tk acc' c' hk hS' hacc => ⟨h', tk, acc', c', rfl, rfl, fun b o e => hk b o (Nat.ne_of_lt (Heap.lt_size e)) (Heap.get?_push_of_some _ e), hS', items_keys hacc⟩) hn
  refine wpAny_mono key (fun fin s' x => ?_) fun e s' x => ?_
  · cases fin with
    | done f =>
      obtain ⟨h', tk, acc', c', e, rfl, hk, hS', hacc⟩ := x
      cases e
      show wpAny _ A (load s.heap.objs.size >>= _) _ _ _
      refine wpAny_bind (wpAny_load hS' ?_)
      refine wpAny_pure ?_
      show R acc'.toList _
      rw [hacc]
      exact h h' tk hk (Heap.lt_size hS')
    | again c₁ =>
      refine ⟨x.1, codeAny_mono x.2 fun q s₂ y => ?_⟩
      obtain ⟨h', tk, acc', c', rfl, rfl, hk, hS', hacc⟩ := y
      show wpAny _ A (load s.heap.objs.size >>= _) _ _ _
      refine wpAny_bind (wpAny_load hS' ?_)
      refine wpAny_pure ?_
      show R acc'.toList _
      rw [hacc]
      exact h h' tk hk (Heap.lt_size hS')
  · obtain ⟨_, _, _, _, e', _⟩ := x
    cases e'
end
/-- a dict whose keys are these objects, in their order -/
def KeyD (d : Addr) (us : List Value) : HO := .ext fun h => (d == sysModules) = false ∧ us.length ≤ sizeLine ∧ ∃ es ep, h.DictRaw d es ep ∧ es.toList.map (·.key) = us
theorem keyD_get {X : Cx} {pins : List (Addr × Obj)} {σ : L2.St} {H : Hp} {s : Shared} {d : Addr} {us : List Value} (I : Inv X pins σ H s) (h : H d = some (KeyD d us)) : (d == sysModules) = false ∧ us.length ≤ sizeLine ∧ ∃ es ep, s.heap.DictRaw d es ep ∧ es.toList.map (·.key) = us := (I.hok d _ h).1
section
variable {X : Cx} {pins : List (Addr × Obj)} {σ : L2.St} {q : Addr} {bs : List Addr} {ds ks : List PyData} {H0 : Hp} {s : Shared} {Q : VK}
/-- what the run of the keys leaves -/
def SkI (X : Cx) (pins : List (Addr × Obj)) (σ : L2.St) (a kS : Addr) (e1 : Nat) (ks : List PyData) (H0 : Hp) (i : Nat) (s : Shared) : Prop :=
  ∃ (H : Hp) (kA : Array Value) (e : Nat), Inv X pins σ H s ∧ Ex H0 H ∧ FpOk X pins H kS ∧ FpOk X pins H a ∧ s.heap.get? kS = some (seqObj "list" kA e) ∧ s.heap.get? a = some (seqObj "list" #[] e1) ∧
    EachIs (fun v d => ∃ x, RelV x v ∧ Dp X.K H x d) kA.toList (ks.take i)
theorem each_vals {R : Value → PyData × PyData → Prop} {H : Hp} (hR : ∀ v p, R v p → ∃ x, RelV x v ∧ Dp X.K H x p.1) : ∀ {out : List Value} {ps : List (PyData × PyData)}, EachIs R out ps → ∃ xs, Vals xs out ∧ DpAll X.K H xs (ps.map (·.1))
  | _, _, .nil => ⟨[], .nil, .nil⟩
  | _, _, .cons h t => by
    obtain ⟨x, r, dx⟩ := hR _ _ h
    obtain ⟨xs, rs, dxs⟩ := each_vals hR t
    exact ⟨x :: xs, .cons r rs, .cons dx dxs⟩
theorem vals_each {H : Hp} : ∀ (ds ks : List PyData) {xs : List V} {vs : List Value}, Vals xs vs → DpAll X.K H xs ds → ks.length = ds.length → EachIs (fun v (p : PyData × PyData) => ∃ x, RelV x v ∧ Dp X.K H x p.1) vs (ds.zip ks)
  | [], _, xs, vs, r, h, _ => by
    cases da_nil h
    cases r
    exact .nil
  | d :: ds, [], xs, vs, r, h, hl => by cases hl
  | d :: ds, k :: ks, xs, vs, r, h, hl => by
    obtain ⟨x, xs', rfl, dx, dxs⟩ := da_cons h
    cases r with
    | cons r rs => exact .cons ⟨_, r, dx⟩ (vals_each ds ks rs dxs (by simpa using hl))
theorem zip_snd : ∀ {ds ks : List PyData}, ks.length = ds.length → (ds.zip ks).map (·.2) = ks
  | [], [], _ => rfl
  | d :: ds, k :: ks, h => by
    rw [List.zip_cons_cons, List.map_cons, zip_snd (by simpa using h)]
/-- the run of the keys, then the sort -/
theorem sk_rest {A : Around} {xs : List V} {vs : List Value} {a kS : Addr} {e1 : Nat} {E : Value → Shared → Prop} {P : PySem.Fin → Shared → Prop} (hxs : Vals xs vs) (hds : DpAll X.K H0 xs ds) (hlen : ks.length = ds.length) (hal : AllAlike ks) (hsk : Sortable ks) (hu : ∀ d, d ∈ ks → A.units + d.depth < cLine) (hZ : vs.length ≤ sizeLine)
    (turn : ∀ (i : Nat) (pins : List (Addr × Obj)) (s : Shared) (H : Hp) (x : V) (u : Value), i < ds.length → Inv X pins σ H s → RelV x u → Dp X.K H x (ds.getD i .none) →
      wpAny (model X.prog X.w) A (call (.ref q) [u]) (fun un s2 => ∃ H2 xn, Inv X pins σ H2 s2 ∧ Ex H H2 ∧ RelV xn un ∧ Dp X.K H2 xn (ks.getD i .none)) (fun _ _ => False) s)
    (I : Inv X pins σ H0 s) (fk : FpOk X pins H0 kS) (fa : FpOk X pins H0 a) (hka : kS ≠ a) (nk : s.heap.get? kS = some (seqObj "list" #[] 0)) (na : s.heap.get? a = some (seqObj "list" #[] e1))
    (h : ∀ H' s' (out : List V), Inv X pins σ (upd H' a (.lst out)) s' → Ex H0 H' → H' a = none → DpAll X.K H' out (((ds.zip ks).mergeSort (dataLe false (·.2))).map (·.1)) → P (.done (.ret .none)) s') :
    wpAny (model X.prog X.w) A (ksk_rest a (.ref q) false vs.toArray e1 (.ref kS)) P E s := by
  have hvl : vs.length = ds.length := by rw [← hxs.length, da_len hds]
  unfold ksk_rest
  refine wpAny_bind (wpAny_rule ?_)
  first
    | rw [List.forIn_toArray]
    | (rw [← Array.forIn_toList]; simp only [List.toList_toArray])
    | rw [← Array.forIn_toList]
  refine wpAny_bind (ksk_fold (SkI X pins σ a kS e1 ks H0) vs 0 s ⟨H0, #[], 0, I, Ex.refl _, fk, fa, nk, na, by rw [List.take_zero]; exact EachIs.nil⟩ ?step ?done)
  case step =>
    rintro j u s1 hx ⟨H, kA, e, I1, e0, fk1, fa1, nk1, na1, hk⟩
    simp only [Nat.zero_add] at hk ⊢
    have hj : j < vs.length := (List.getElem?_eq_some_iff.mp hx).1
    obtain ⟨x, hxj, ru⟩ : ∃ x, xs[j]? = some x ∧ RelV x u := by
      obtain ⟨u', h1, h2⟩ := hxs.get (x := xs[j]'(by rw [hxs.length]; exact hj)) (List.getElem?_eq_getElem _)
      rw [hx] at h1
      cases h1
      exact ⟨_, List.getElem?_eq_getElem _, h2⟩
    obtain ⟨dj, hdj, dx⟩ := da_get2 hds hxj
    have ed : ds.getD j .none = dj := by
      rw [List.getD_eq_getElem?_getD, hdj]
      rfl
    have hz : kA.size ≤ vs.length := by
      have h1 := hk.length
      rw [Array.length_toList, List.length_take] at h1
      omega
    have hpo : ∀ b ∈ [kS, a], ∃ o, s1.heap.get? b = some o ∧ ∀ v, o.data ≠ .cell v := fun b hb => by
      rcases List.mem_cons.mp hb with rfl | hb
      · exact ⟨_, nk1, fun v z => by cases z⟩
      · rw [List.mem_singleton.mp hb]
        exact ⟨_, na1, fun v z => by cases z⟩
    have Ip := I1.pinned (fp := [kS, a]) (fun b hb => by
      rcases List.mem_cons.mp hb with rfl | hb
      · exact fk1
      · rw [List.mem_singleton.mp hb]
        exact fa1) hpo
    refine wpAny_bind (wpAny_attempt (wpAny_mono (turn j _ _ H x u (by omega) Ip ru (by rw [ed]; exact Dp_mono e0 dx)) (fun un s2 he => ?_) fun _ _ hF => hF.elim))
    obtain ⟨H2, xn, I2p, e2, rn, dn⟩ := he
    have I2 := I2p.unpinned
    have qk := I2p.pin (kS, seqObj "list" kA e) (List.mem_append_right _ (List.mem_append_right _ (mem_pinsAt (by simp) nk1)))
    have qa := I2p.pin (a, seqObj "list" #[] e1) (List.mem_append_right _ (List.mem_append_right _ (mem_pinsAt (by simp) na1)))
    have fk2 : FpOk X pins H2 kS := ⟨qk.2.1, fk1.2⟩
    have fa2 : FpOk X pins H2 a := ⟨qa.2.1, fa1.2⟩
    have s1' := Heap.SameBut.update s2.heap kS (Obj.mapSeq (·.push un))
    obtain ⟨c2, hc2⟩ : ∃ c2, (s2.heap.update kS (Obj.mapSeq (·.push un))).get? kS = some (seqObj "list" (kA.push un) c2) := ⟨_, get?_update_seq qk.1 (·.push un)⟩
    obtain ⟨f0, f1, f2, f3, f4, f5⟩ := fk2
    have I3 : Inv X pins σ H2 { s2 with heap := s2.heap.update kS (Obj.mapSeq (·.push un)) } := I2.turned (t' := s2.toks) (fun b o hb e => (s1'.2 b hb).trans e) f0 f1 f3 f4 f5
    have hjk : j < ks.length := by omega
    have ekd : ks.getD j .none = ks[j] := by
      rw [List.getD_eq_getElem?_getD, List.getElem?_eq_getElem hjk]
      rfl
    have ek : ks.take (j + 1) = ks.take j ++ [ks[j]] := by rw [List.take_add_one, List.getElem?_eq_getElem hjk]; simp
    have ea : (kA.push un).toList = kA.toList ++ [un] := by simp
    refine wpAny_bind (listUpdate_at qk.1 rfl ?_ (Nat.le_trans hz hZ) (Nat.le_trans (Nat.le_of_eq (Array.size_push ..)) (Nat.succ_le_succ (Nat.le_trans hz hZ))))
    refine wpAny_pure ⟨rfl, H2, kA.push un, c2, I3, e0.trans e2, ⟨f0, f1, f2, f3, f4, f5⟩, fa2, hc2, (s1'.2 a hka.symm).trans qa.1, ?_⟩
    rw [ea, ek]
    refine each_snoc ⟨xn, rn, by rw [← ekd]; exact dn⟩ ?_
    exact hk.mono fun u d ⟨x, r, dx⟩ => ⟨x, r, Dp_mono e2 dx⟩
  case done =>
    rintro s1 ⟨H, kA, e, I1, e0, fk1, fa1, nk1, na1, hk⟩
    have e3 : ks.take (0 + vs.length) = ks := List.take_of_length_le (by omega)
    rw [e3] at hk
    have hk' : EachIs (fun v k => ∃ as, Reads s1.heap v k as) kA.toList ks := hk.mono fun v k ⟨x, r, dx⟩ => Dp.reads I1 k x v dx r
    have hsz : kA.size = vs.length := by
      have h1 := hk'.length
      rw [Array.length_toList] at h1
      omega
    refine wpAny_bind (listItems_at nk1 rfl ?_)
    -- the heap without the two lists
    have gk : ∀ b o, b ≠ kS → b ≠ a → s1.heap.get? b = some o → (hideAll s1.heap [kS, a]).get? b = some o := fun b o h1 h2 q => hideAll_get _ q (by simp [h1, h2])
    have gS : (hideAll s1.heap [kS, a]).get? kS = none := hideAll_none _ (by simp)
    have gA : (hideAll s1.heap [kS, a]).get? a = none := hideAll_none _ (by simp)
    have IG : Inv X pins σ H { s1 with heap := hideAll s1.heap [kS, a], toks := s1.toks } := I1.turnedL (ch := [kS, a]) (fun b o hb q => gk b o (fun z => hb (by simp [z])) (fun z => hb (by simp [z])) q) (fun b hb => by
      rcases List.mem_cons.mp hb with rfl | hb
      · exact fk1
      · rw [List.mem_singleton.mp hb]
        exact fa1)
    refine keyH_end (κ := dataKind s1.heap ks) (h₁ := hideAll s1.heap [kS, a]) (fun b o hb q => of_hideAll _ q) gS nk1 na1 hka (SortsAt.data (s := s1) hk' hal hsk hu) hsz hZ fun h3 tk3 c k3 n3 => ?_
    have ko : KeyedOut false ks vs (PySem.W.sortVals (dataKind s1.heap ks) false kA.toList vs) := ⟨s1.heap, kA.toList, hal, rfl, hk'⟩
    generalize PySem.W.sortVals (dataKind s1.heap ks) false kA.toList vs = out at *
    have hE := vals_each (X := X) (H := H0) ds ks hxs hds hlen
    have hO := keyedOut_each (k := fun p : PyData × PyData => p.2) (bs := ds.zip ks) (by rw [zip_snd hlen]; exact ko) hE
    obtain ⟨ys, hys, dys⟩ := each_vals (X := X) (fun v p h => h) hO
    have hol : ys.length = vs.length := by rw [hys.length, ko.length (by omega)]
    refine h H _ ys (IG.laidN (h' := h3) (t' := tk3) (fun b o q => ?_) gA fa1.1 ?_) e0 fa1.1 (DpAll_mono e0 dys)
    · refine k3 b o (fun z => ?_) q
      rw [z, gA] at q
      cases q
    · exact ⟨by omega, out, c, hys, n3⟩
theorem sk_call {xs : List V} {us : List Value} {d : Addr} (hc : X.calm = true) (hd : H0 d = some (KeyD d us)) (hxs : Vals xs us) (hds : DpAll X.K H0 xs ds) (hlen : ks.length = ds.length) (hal : AllAlike ks) (hsk : Sortable ks) (hu : ∀ d, d ∈ ks → X.A.in1.in1.units + d.depth < cLine)
    (turn : ∀ (i : Nat) (pins : List (Addr × Obj)) (s : Shared) (H : Hp) (x : V) (u : Value), i < ds.length → Inv X pins σ H s → RelV x u → Dp X.K H x (ds.getD i .none) →
      wpAny (model X.prog X.w) X.A.in1.in1 (call (.ref q) [u]) (fun un s2 => ∃ H2 xn, Inv X pins σ H2 s2 ∧ Ex H H2 ∧ RelV xn un ∧ Dp X.K H2 xn (ks.getD i .none)) (fun _ _ => False) s)
    (I : Inv X pins σ H0 s) (hQ : ∀ p out H', H0 p = none → Ex H0 H' → H' p = some (.lst out) → DpAll X.K H' out (((ds.zip ks).mergeSort (dataLe false (·.2))).map (·.1)) → Q (.ref p) H') :
    wpAny (model X.prog X.w) X.A (call (.builtin "sorted") [.ref d] [(Str.ofString "key", .ref q)]) (EP X pins σ Q) X.xe s := by
  obtain ⟨lo, hz, es, ep, hraw, hkeys⟩ := keyD_get I hd
  refine call_function_entry_kw kind_sorted plain_sorted entry_sorted (ksk_s1 _ _) ?_
  unfold Builtin.«sorted»
  refine wpAny_bind (m := checkCount "sorted" 1 1 _) (wpAny_pure ?_)
  have hes : es.size ≤ sizeLine := by
    have := congrArg List.length hkeys
    rw [List.length_map, Array.length_toList] at this
    omega
  refine wpAny_bind (collectD (A := X.A.in1) (I.ok.hd hc) lo hraw hes fun h1 tk1 k1 z1 => ?_)
  rw [hkeys]
  refine wpAny_bind (wpAny_newList ?_ hz)
  have ho : (h1.push (seqObj "list" us.toArray 0)).get? h1.objs.size = some (seqObj "list" us.toArray 0) := Heap.get?_push_size _ rfl
  show wpAny _ _ _ _ _ { s with heap := h1.push (seqObj "list" us.toArray 0), toks := tk1 }
  have hsz2 : (h1.push (seqObj "list" us.toArray 0)).objs.size = h1.objs.size + 1 := size_push' ..
  refine wpAny_bind (wpAny_holding (wpAny_call_entry_kw slot_list_sort ⟨_, ho, rfl⟩ entry_list_sort ?body (ksk_l1 _ _)))
  case body =>
    rw [ksk_t1]
    obtain ⟨e1, ho1⟩ : ∃ e1, ((h1.push (seqObj "list" us.toArray 0)).update h1.objs.size (Obj.mapSeq fun _ => (#[] : Array Value))).get? h1.objs.size = some (seqObj "list" #[] e1) := ⟨_, get?_update_seq ho fun _ => #[]⟩
    have k2 : ∀ b o, s.heap.get? b = some o → ((h1.push (seqObj "list" us.toArray 0)).update h1.objs.size (Obj.mapSeq fun _ => (#[] : Array Value))).get? b = some o := fun b o e =>
      (Heap.get?_update_other _ _ (Nat.ne_of_gt (Nat.lt_trans (Heap.lt_size e) z1))).trans (Heap.get?_push_of_some _ (k1 b o e))
    have hsz3 : ((h1.push (seqObj "list" us.toArray 0)).update h1.objs.size (Obj.mapSeq fun _ => (#[] : Array Value))).objs.size = h1.objs.size + 1 := by rw [Heap.size_update, hsz2]
    unfold ksk_tree
    refine wpAny_bind (listItems_at ho rfl ?_)
    refine wpAny_bind (listUpdate_at ho rfl ?_ (by rw [List.size_toArray]; exact hz) (Nat.zero_le _))
    refine wpAny_bind (seqEpoch_at ho1 rfl ?_)
    generalize (h1.push (seqObj "list" us.toArray 0)).update h1.objs.size (Obj.mapSeq fun _ => (#[] : Array Value)) = h2 at *
    refine wpAny_bind (wpAny_newTuple ?_ (by show us.length ≤ _; exact hz))
    refine wpAny_bind (wpAny_newList ?_ (Nat.zero_le _))
    refine wpAny_holding ?_
    have hsz4 : (h2.push (seqObj "tuple" us.toArray 0)).objs.size = h1.objs.size + 2 := by rw [size_push', hsz3]
    have ga : s.heap.objs.size ≤ h1.objs.size := Nat.le_of_lt z1
    have gk : s.heap.objs.size ≤ (h2.push (seqObj "tuple" us.toArray 0)).objs.size := by omega
    have fa : FpOk X pins H0 h1.objs.size := I.fpOk ga (I.hok.fresh ga)
    have fk : FpOk X pins H0 (h2.push (seqObj "tuple" us.toArray 0)).objs.size := I.fpOk gk (I.hok.fresh gk)
    have I4 : Inv X pins σ H0 { s with heap := (h2.push (seqObj "tuple" us.toArray 0)).push (seqObj "list" #[] 0), toks := tk1 } := I.kept (t' := tk1) fun b o e => Heap.get?_push_of_some _ (Heap.get?_push_of_some _ (k2 b o e))
    have hne : (h2.push (seqObj "tuple" us.toArray 0)).objs.size ≠ h1.objs.size := by omega
    refine sk_rest (e1 := e1) hxs hds hlen hal hsk hu hz turn I4 fk fa hne (Heap.get?_push_size _ rfl) (Heap.get?_push_of_some _ (Heap.get?_push_of_some _ ho1)) fun H' s' out I' e' hn' d' => ?_
    refine ⟨.none, rfl, wpAny_pure ⟨_, rfl, ?_⟩⟩
    exact ⟨.ref h1.objs.size, _, I', rfl, hQ _ out _ fa.1 (e'.trans (Ex.new hn')) upd_same (DpAll_mono (Ex.new hn') d')⟩
end
/-- sorted(a dict, key=a def) -/
def rSortD (K : PySem.W.Frag) (f : Addr) (pre : List PyData → PyData → Prop) : List V → List V → Hp → VK → Prop := fun vs zs H Q => ∃ d xs us ds ks, vs = [.ref d] ∧ zs = [.ref f] ∧ H d = some (KeyD d us) ∧ Vals xs us ∧ DpAll K H xs ds ∧ ks.length = ds.length ∧
  (∀ i, i < ds.length → pre [ds.getD i .none] (ks.getD i .none)) ∧ AllAlike ks ∧ Sortable ks ∧ (∀ d ∈ ks, d.depth ≤ 8) ∧ ∀ p out H', H p = none → Ex H H' → H' p = some (.lst out) → DpAll K H' out (((ds.zip ks).mergeSort (dataLe false (·.2))).map (·.1)) → Q (.ref p) H'
theorem cr_sortD {X : Cx} {k : Nat} {f : Addr} {fd : FuncData} {p : Str} {pre : List PyData → PyData → Prop} (hc : X.calm = true) (F : FnOk X.prog X.w X.K X.mg X.base CX0 k f fd [p] (spD X.K pre)) (hr : Room (k + 2) X.A) (hb : L2.Binds X.K fd [p] []) :
    CallRK X (.builtin "sorted") [Str.ofString "key"] (rSortD X.K f pre) := by
  intro pins s σ H xs zs us ws Q I r1 r2 h
  obtain ⟨d, xs, vs, ds, ks, rfl, rfl, hd, hxs, hds, hlen, hp, ha, hsk, hdep, hQ⟩ := h
  obtain ⟨u, rfl, ru⟩ := Vals.one r1
  cases ru
  obtain ⟨u, rfl, ru⟩ := Vals.one r2
  cases ru
  have hu := hr.in1.in1.units
  refine sk_call hc hd hxs hds hlen ha hsk (fun d hm => by have := hdep d hm; omega) (fun i pins s H x u hi I rx dx => ?_) I hQ
  refine wpAny_mono (run_fn (X := (inX (inX X)).wish fun _ _ => False) (Q := fun xn H2 => Ex H H2 ∧ Dp X.K H2 xn (ks.getD i .none)) (E := E0) F hr.in1.in1 hb .nil pass0 ((inv_in1 (inv_in1 I)).wish _) (.cons rx .nil) ?_) (fun un s2 he => ?_) fun _ _ z => z
  · exact ⟨_, _, .cons dx .nil, hp i hi, fun v H' e d => ⟨e, d⟩⟩
  · obtain ⟨xn, H2, I2, rn, e2, d2⟩ := he
    exact ⟨H2, xn, inv_out1 (inv_out1 I2.unwish), e2, rn, d2⟩
/-! ### dict of pairs whose keys are tuples of ints -/
/-- each once, where it stands first -/
def firsts {α : Type} [DecidableEq α] (ks : List α) : List α := ks.foldl (fun acc k => if k ∈ acc then acc else acc ++ [k]) []
theorem stored_keys {K : Type} [DecidableEq K] : ∀ (ps xs : List (K × Addr × Value)), (storedAllH xs ps).map (·.1) = (ps.map (·.1)).foldl (fun acc k => if k ∈ acc then acc else acc ++ [k]) (xs.map (·.1))
  | [], xs => rfl
  | p :: ps, xs => by
    show (storedAllH (storedH xs p.1 p.2.1 p.2.2) ps).map (·.1) = _
    rw [stored_keys ps, List.map_cons, List.foldl_cons]
    congr 1
    have hm : (atKey xs p.1).isSome = true ↔ p.1 ∈ xs.map (·.1) := by
      unfold atKey
      rw [Option.isSome_map, List.find?_isSome]
      simp
    unfold storedH
    by_cases c : p.1 ∈ xs.map (·.1)
    · rw [if_pos (hm.mpr c), if_pos c, List.map_map]
      refine List.map_congr_left fun x _ => ?_
      show (putAt p.1 p.2.2 x).1 = x.1
      unfold putAt
      split <;> rfl
    · rw [if_neg (fun z => c (hm.mp z)), if_neg c, List.map_append]
      rfl
abbrev dTu (k : List Int) : PyData := .tuple (k.map PyData.int)
def rDictT (K : PySem.W.Frag) : List V → Hp → VK → Prop := fun xs H Q => ∃ (l : Addr) (ks : List (List Int)), xs = [.ref l] ∧ Dp K H (.ref l) (.list (ks.map fun k => .tuple [dTu k, .bool true])) ∧
  ∀ p us vs, H p = none → Vals vs us → DpAll K (upd H p (KeyD p us)) vs ((firsts ks).map dTu) → Q (.ref p) (upd H p (KeyD p us))
section
variable {X : Cx} {pins : List (Addr × Obj)} {σ : L2.St} {H : Hp} {s : Shared}
theorem key_ints {P : Program} {w : World} : ∀ {ns : List Int} {us : List Value}, Vals (ns.map V.int) us → ItemsAre (PySem.intKind P w) ns us
  | [], _, r => by
    cases r
    exact .nil
  | n :: ns, _, r => by
    rw [List.map_cons] at r
    cases r with
    | cons h t =>
      obtain ⟨t', rfl⟩ := h
      exact .cons (by simp [PySem.intKind, Value.isInt]) (key_ints t)
theorem pairsT (I : Inv X pins σ H s) : ∀ (ks : List (List Int)) {xs : List V} {its : List Value}, DpAll X.K H xs (ks.map fun k => .tuple [dTu k, .bool true]) → Vals xs its →
    ∃ ts : List (Addr × List Int × Addr), ts.map (·.2.1) = ks ∧ its = ts.map (fun t => .ref t.1) ∧ ∀ t ∈ ts, IsTup s.heap t.1 #[.ref t.2.2, .bool true] ∧ Dp X.K H (.ref t.2.2) (dTu t.2.1) ∧ (tupleKind (PySem.intKind X.prog X.w)).is s.heap t.2.1 t.2.2
  | [], xs, its, h, r => by
    cases da_nil h
    cases r
    exact ⟨[], rfl, rfl, fun t ht => absurd ht List.not_mem_nil⟩
  | k :: ks, xs, its, h, r => by
    obtain ⟨x, xs', rfl, dx, dxs⟩ := da_cons h
    cases r with
    | cons r rs =>
      obtain ⟨ts, e1, e2, e3⟩ := pairsT I ks dxs rs
      obtain ⟨T, ys, rfl, hT, hy⟩ := dp_tup dx
      obtain ⟨y1, _, rfl, d1, hy⟩ := da_cons hy
      obtain ⟨y2, _, rfl, d2, hy⟩ := da_cons hy
      cases da_nil hy
      cases dp_bool d2
      obtain ⟨b, zs, rfl, hb, hz⟩ := dp_tup d1
      have ez := da_ints hz
      subst ez
      cases r
      obtain ⟨us, ru, tu, _⟩ := I.tuple hT
      obtain ⟨ub, rb, tb, _⟩ := I.tuple hb
      cases ru with
      | cons r1 ru =>
        cases ru with
        | cons r2 ru =>
          cases ru
          cases r1
          cases r2
          refine ⟨(T, k, b) :: ts, by rw [List.map_cons, e1], by rw [List.map_cons, e2], fun t ht => ?_⟩
          rcases List.mem_cons.mp ht with rfl | ht
          · obtain ⟨o, ho, hc, n, hd⟩ := tb
            exact ⟨tu, d1, o, ub.toArray, n, ho, hc, hd, by simpa using key_ints rb⟩
          · exact e3 t ht
theorem refs_vals : ∀ st : List (List Int × Addr × Value), Vals (st.map fun x => V.ref x.2.1) (st.map fun x => Value.ref x.2.1)
  | [] => .nil
  | _ :: st => .cons rfl (refs_vals st)
theorem da_refs {K : PySem.W.Frag} {H : Hp} : ∀ {st : List (List Int × Addr × Value)}, (∀ x ∈ st, Dp K H (.ref x.2.1) (dTu x.1)) → DpAll K H (st.map fun x => .ref x.2.1) ((st.map (·.1)).map dTu)
  | [], _ => .nil
  | x :: st, h => .cons (h x List.mem_cons_self) (da_refs fun y hy => h y (List.mem_cons_of_mem _ hy))
theorem cr_dictT {k : Nat} (hc : X.calm = true) (hr : Room (k + 2) X.A) : CallR X (.type "dict") (rDictT X.K) := by
  intro pins s σ H xs us Q I r1 h
  obtain ⟨l, ks, rfl, hl, hQ⟩ := h
  obtain ⟨u, rfl, ru⟩ := Vals.one r1
  cases ru
  obtain ⟨a, ys, ea, hsq, hda⟩ := dp_list hl
  cases ea
  obtain ⟨its, rv, p, hz⟩ := I.list hsq
  obtain ⟨ts, e1, e2, e3⟩ := pairsT I ks hda rv
  have hlen : its.length = ts.length := by rw [e2, List.length_map]
  have hz' : ts.length ≤ sizeLine := by
    rw [← hlen, ← rv.length]
    exact hz
  have hu := hr.in1.in1.units
  have Pa := PairArg.list (prog := X.prog) (w := X.w) l its.toArray (fun j => (ts[j]?.map (·.1)).getD 0) (ts.map fun t => (Value.ref t.2.2, Value.bool true))
  refine PySem.call_dict_pairsH (knd := tupleKind (PySem.intKind X.prog X.w)) (ps := ts.map fun t => (t.2.1, t.2.2, Value.bool true)) Pa (I.ok.hd hc) ?_ ⟨?_, ?_⟩ ⟨by rw [List.length_map, List.length_map], ?_⟩ ?_ (by rw [List.length_map]; exact hz') ?_
  · show X.A.in1.in1.units < cLine
    omega
  · obtain ⟨o, n, ho, hc, hd, hdat⟩ := p
    exact ⟨o, n, ho, hc, hd, hdat⟩
  · refine ⟨by rw [List.size_toArray, List.length_map, hlen], fun j k v hj => ?_⟩
    rw [List.getElem?_map] at hj
    cases q : ts[j]? with
    | none =>
      rw [q] at hj
      cases hj
    | some t =>
      rw [q] at hj
      cases hj
      refine ⟨?_, ?_⟩
      · rw [e2]
        simp [q]
      · have ht := (e3 t (List.mem_of_getElem? q)).1
        left
        have hT : (fun j => (ts[j]?.map (·.1)).getD 0) j = t.1 := by simp [q]
        rw [hT]
        obtain ⟨o, ho, hc, n, hd⟩ := ht
        exact ⟨o, ho, hc, n, hd⟩
  · intro i key v hi
    have hi : (ts.map fun t => (Value.ref t.2.2, Value.bool true))[i]? = some (key, v) := hi
    rw [List.getElem?_map] at hi
    cases q : ts[i]? with
    | none =>
      rw [q] at hi
      cases hi
    | some t =>
      rw [q] at hi
      cases hi
      exact ⟨t.2.1, t.2.2, by rw [List.getElem?_map, q]; rfl, rfl⟩
  · intro h' hk x hx
    obtain ⟨t, ht, rfl⟩ := List.mem_map.mp hx
    obtain ⟨o, its, n, ho, r⟩ := (e3 t ht).2.2
    exact ⟨o, its, n, hk _ _ (Nat.ne_of_lt (Heap.lt_size ho)) (by simp) ho, r⟩
  · intro h' tk hd' hk
    have hm : (s.heap.objs.size == sysModules) = false := beq_eq_false_iff_ne.mpr (Nat.ne_of_gt I.big)
    have hkeep : ∀ b o, s.heap.get? b = some o → h'.get? b = some o := fun b o e => hk b o (by simp) e
    have hst := stored_keys (ts.map fun t => (t.2.1, t.2.2, Value.bool true)) []
    have hsl := storedAllH_length (ts.map fun t => (t.2.1, t.2.2, Value.bool true)) []
    have hdp := storedAllH_keys (P := fun k b => Dp X.K H (.ref b) (dTu k)) (ps := ts.map fun t => (t.2.1, t.2.2, Value.bool true)) (xs := []) (fun x hx => absurd hx List.not_mem_nil) (fun x hx => by
      obtain ⟨t, ht, rfl⟩ := List.mem_map.mp hx
      exact (e3 t ht).2.1)
    rw [List.map_map] at hst
    rw [show (fun t : Addr × List Int × Addr => t.2.1) = ((fun x : List Int × Addr × Value => x.1) ∘ fun t : Addr × List Int × Addr => (t.2.1, t.2.2, Value.bool true)) from rfl] at e1
    rw [e1] at hst
    rw [List.length_map, List.length_nil] at hsl
    generalize storedAllH [] (ts.map fun t => (t.2.1, t.2.2, Value.bool true)) = st at *
    have hst : st.map (·.1) = firsts ks := hst
    have hn : H s.heap.objs.size = none := I.hok.fresh (Nat.le_refl _)
    refine ⟨.ref s.heap.objs.size, upd H s.heap.objs.size (KeyD s.heap.objs.size (st.map fun x => .ref x.2.1)), I.laid (t' := tk) hkeep (Nat.le_refl _) ⟨?_, ?_, ?_⟩, rfl, hQ _ _ (st.map fun x => .ref x.2.1) hn ?_ ?_⟩
    · obtain ⟨o, es, ep, ho, hc, hd, he, _⟩ := hd'
      refine ⟨hm, by rw [List.length_map]; omega, es, ep, ⟨o, ho, hc, hd⟩, ?_⟩
      rw [he, List.map_map]
      rfl
    · obtain ⟨o, es, ep, ho, _⟩ := hd'
      exact ⟨o, ho⟩
    · rintro h1 h2 ⟨g1, g2, es, ep, g3, g4⟩ hk2
      exact ⟨g1, g2, es, ep, g3.at hk2, g4⟩
    · exact refs_vals st
    · rw [← hst]
      exact da_refs fun x hx => Dp_mono (Ex.new hn) (hdp x hx)
end
end Fkw

set_option Elab.async false
set_option linter.all false
/-! The least one of a class is one. -/
namespace Fkw
open Fk (Eqv RedI Rt itn)
theorem circ_full {f : Fc.Form} (h : CycOk f) : ∃ (g : Fc.Form) (p : Nat), 1 ≤ p ∧ circ f = (List.range p).map (fun i => itn (Fc.rootOf (Fc.disc f).toNat : Int) (Fc.disc f) i g) ∧ RedI (Fc.rootOf (Fc.disc f).toNat : Int) g ∧ Fc.disc g = Fc.disc f ∧ Eqv f g ∧ itn (Fc.rootOf (Fc.disc f).toNat : Int) (Fc.disc f) p g = g := by
  obtain ⟨hs, h0, h20, hn⟩ := h
  have R := Fk.rt_of h0 (by omega) hn
  unfold circ
  generalize (Fc.rootOf (Fc.disc f).toNat : Int) = w at *
  generalize hdg : Fc.disc f = D at *
  have hbig := (smF_iff.mp hs).2.2
  have hred : Fk.RedI w (Fc.into w D Fc.FUEL f) := Fk.into_red R hn 28 f hdg (by
    have e : 2 ^ 28 = 268435456 := by decide
    omega) Fc.FUEL (by decide)
  have hd' := Fk.into_disc (w := w) hn Fc.FUEL f hdg
  have he := Fk.eqv_into (w := w) hn Fc.FUEL f hdg
  generalize Fc.into w D Fc.FUEL f = g at *
  obtain ⟨p, p1, p2, p3, p4⟩ := Fk.closes R hn hd' h20 hred
  exact ⟨g, p, p1, Fk.circle_all p1 (by show p ≤ 10000; omega) p3 p4, hred, hd', he, p3⟩
theorem mem_circ {f : Fc.Form} (h : CycOk f) (x : Fc.Form) : x ∈ circ f ↔ RedI (Fc.rootOf (Fc.disc f).toNat : Int) x ∧ Eqv f x := by
  obtain ⟨g, p, p1, hc, hg, hd, he, hp⟩ := circ_full h
  obtain ⟨hs, h0, h20, hn⟩ := h
  have R := Fk.rt_of h0 (by omega) hn
  rw [hc]
  constructor
  · intro hx
    obtain ⟨j, _, rfl⟩ := List.mem_map.mp hx
    exact ⟨(Fk.itn_red R hn hd hg j).2, he.trans (Fk.eqv_itn hn hd j).1⟩
  · rintro ⟨hx, ex⟩
    obtain ⟨m, hm⟩ := Fk.one_circle R hn h20 hd hg hx (he.symm.trans ex)
    refine List.mem_map.mpr ⟨m % p, List.mem_range.mpr (Nat.mod_lt _ (by omega)), ?_⟩
    show itn _ _ (m % p) g = x
    rw [← Fk.itn_mod hp m]
    exact hm
theorem circ_ne {f : Fc.Form} (h : CycOk f) : circ f ≠ [] := by
  obtain ⟨g, p, p1, hc, _⟩ := circ_full h
  rw [hc]
  intro e
  have := congrArg List.length e
  rw [List.length_map, List.length_range] at this
  exact absurd this (by rw [List.length_nil]; omega)
theorem pick_min {α : Type} {lt : α → α → Bool} (asy : ∀ {x y}, lt x y = true → lt y x = false) (ntr : ∀ {x y z}, lt x y = false → lt y z = false → lt x z = false) : ∀ (l : List α) (x : α), pick lt x l ∈ x :: l ∧ ∀ y ∈ x :: l, lt y (pick lt x l) = false
  | [], x => ⟨.head _, fun y hy => by
    obtain rfl := List.mem_singleton.mp hy
    show lt y y = false
    cases c : lt y y with
    | false => rfl
    | true => rw [asy c] at c; cases c⟩
  | a :: l, x => by
    have irr : ∀ y, lt y y = false := fun y => by
      cases c : lt y y with
      | false => rfl
      | true => rw [asy c] at c; cases c
    have e : pick lt x (a :: l) = pick lt (if lt a x = true then a else x) l := rfl
    obtain ⟨h1, h2⟩ := pick_min (lt := lt) (fun h => asy h) (fun h k => ntr h k) l (if lt a x = true then a else x)
    rw [e]
    have hm := h2 _ (.head _)
    refine ⟨?_, fun y hy => ?_⟩
    · rcases List.mem_cons.mp h1 with h | h
      · rw [h]
        split
        · exact .tail _ (.head _)
        · exact .head _
      · exact .tail _ (.tail _ h)
    · rcases List.mem_cons.mp hy with h | hy
      · refine ntr (y := if lt a x = true then a else x) ?_ hm
        rw [h]
        split
        · rename_i c
          exact asy c
        · exact irr _
      · rcases List.mem_cons.mp hy with h | hy
        · refine ntr (y := if lt a x = true then a else x) ?_ hm
          rw [h]
          split
          · exact irr _
          · rename_i c
            exact Bool.not_eq_true _ ▸ c
        · exact h2 _ (.tail _ hy)
theorem before_asy {f g : Fc.Form} (h : Fc.before f g = true) : Fc.before g f = false := by
  cases c : Fc.before g f with
  | false => rfl
  | true =>
    have := Fk.before_trans h c
    rw [Fk.before_irrefl] at this
    cases this
theorem before_f {f g : Fc.Form} : Fc.before f g = false ↔ ¬ Fc.before f g = true := by
  cases Fc.before f g <;> simp
theorem before_ntr {f g h : Fc.Form} (h1 : Fc.before f g = false) (h2 : Fc.before g h = false) : Fc.before f h = false := by
  rw [before_f, Fk.before_iff] at *
  omega
theorem least_is {f : Fc.Form} (h : CycOk f) : (∃ x ∈ circ f, Fc.least f = Fc.centred (Fc.disc f) x) ∧ ∀ x ∈ circ f, Fc.before (Fc.centred (Fc.disc f) x) (Fc.least f) = false := by
  rw [least_pos h.2.1]
  cases hL : (circ f).map (Fc.centred (Fc.disc f)) with
  | nil => exact absurd (List.map_eq_nil_iff.mp hL) (circ_ne h)
  | cons x l =>
    rw [firstOf_pick]
    obtain ⟨h1, h2⟩ := pick_min (lt := Fc.before) (fun h => before_asy h) (fun h k => before_ntr h k) l x
    rw [← hL] at h1 h2
    obtain ⟨y, hy, e⟩ := List.mem_map.mp h1
    exact ⟨⟨y, hy, e.symm⟩, fun z hz => h2 _ (List.mem_map.mpr ⟨z, hz, rfl⟩)⟩
theorem circ_eqv {f x : Fc.Form} (h : CycOk f) (hx : x ∈ circ f) : Eqv f (Fc.centred (Fc.disc f) x) := by
  have h1 := ((mem_circ h x).mp hx).2
  have := Fk.eqv_centred (f := x) (Fk.a_ne' (by rw [← h1.disc]; exact h.2.2.2))
  rw [← h1.disc] at this
  exact h1.trans this
theorem least_eqv {f : Fc.Form} (h : LeastOk f) : Eqv f (Fc.least f) := by
  rcases h with ⟨_, h1, h2⟩ | h
  · rw [least_neg h1]
    exact Fk.down_eqv h1 h2
  · obtain ⟨⟨x, hx, e⟩, _⟩ := least_is h
    rw [e]
    exact circ_eqv h hx
theorem least_same {f g : Fc.Form} (hf : LeastOk f) (hg : LeastOk g) (h : Eqv f g) : Fc.least f = Fc.least g := by
  have hd := h.disc
  rcases hf with ⟨_, h1, h2⟩ | hf
  · rcases hg with ⟨_, h3, h4⟩ | hg
    · rw [least_neg h1, least_neg h3]
      exact Fk.down_unique h1 h2 h4 h
    · have := hg.2.1
      omega
  · rcases hg with ⟨_, h3, h4⟩ | hg
    · have := hf.2.1
      omega
    · have hm : ∀ x, x ∈ circ f ↔ x ∈ circ g := fun x => by
        rw [mem_circ hf, mem_circ hg, hd]
        exact ⟨fun ⟨a, b⟩ => ⟨a, h.symm.trans b⟩, fun ⟨a, b⟩ => ⟨a, h.trans b⟩⟩
      have ef := least_eqv (.inr hf)
      have eg := least_eqv (.inr hg)
      obtain ⟨⟨x, hx, e1⟩, m1⟩ := least_is hf
      obtain ⟨⟨y, hy, e2⟩, m2⟩ := least_is hg
      have b1 := m1 y ((hm y).mpr hy)
      have b2 := m2 x ((hm x).mp hx)
      rw [hd, ← e2] at b1
      rw [← hd, ← e1] at b2
      obtain ⟨k1, k2⟩ := Fk.before_total b2 b1
      have k3 : Fc.disc (Fc.least f) = Fc.disc (Fc.least g) := by rw [← ef.disc, ← eg.disc, hd]
      have ha : (Fc.least g).a ≠ 0 := Fk.a_ne' (by rw [← eg.disc]; exact hg.2.2.2)
      refine Fk.form_ext k1 k2 ?_
      unfold Fc.disc at k3
      rw [k1, k2] at k3
      have : (4 * (Fc.least g).a) * (Fc.least f).c = (4 * (Fc.least g).a) * (Fc.least g).c := by omega
      exact Int.eq_of_mul_eq_mul_left (by omega) this
end Fkw

set_option Elab.async false
set_option linter.all false
/-! Products: the specification's and the program's are the same up to a shift. -/
namespace Fk
open Fc
/-! ### the greatest common divisor, with weights -/
structure Bez (a b u v g : Int) : Prop where
  eq : u * a + v * b = g
  da : g ∣ a
  db : g ∣ b
  nn : 0 ≤ g
theorem Bez.start (a b : Int) (hb : b = 0) : Bez a b (if a < 0 then -1 else 1) 0 (a.natAbs : Int) := by
  subst hb
  by_cases h : a < 0
  · rw [if_pos h]
    have e : (a.natAbs : Int) = -a := by omega
    rw [e]
    exact ⟨by omega, ⟨-1, by omega⟩, ⟨0, by omega⟩, by omega⟩
  · rw [if_neg h]
    have e : (a.natAbs : Int) = a := by omega
    rw [e]
    exact ⟨by omega, ⟨1, by omega⟩, ⟨0, by omega⟩, by omega⟩
theorem Bez.step {a b u v g : Int} (h : Bez b (a % b) u v g) : Bez a b v (u - a / b * v) g := by
  have e := Int.emod_add_mul_ediv a b
  refine ⟨?_, ?_, h.da, h.nn⟩
  · rw [← h.eq]
    have : a % b = a - b * (a / b) := by omega
    rw [this]
    grind
  · obtain ⟨x, hx⟩ := h.da
    obtain ⟨y, hy⟩ := h.db
    exact ⟨y + x * (a / b), by rw [Int.mul_add, ← Int.mul_assoc, ← hx, ← hy]; exact e.symm⟩
theorem bezout_go : ∀ (k n : Nat) (a b : Int), 0 ≤ b → b < 2 ^ k → 2 * k + 1 ≤ n → Bez a b (bezout n a b).1 (bezout n a b).2.1 (bezout n a b).2.2
  | k, 0, a, b, _, _, h => by omega
  | k, n + 1, a, b, h0, hb, hn => by
    unfold bezout
    by_cases z : b = 0
    · rw [if_pos z]
      exact Bez.start a b z
    · rw [if_neg z]
      refine Bez.step ?_
      have r0 := Int.emod_nonneg a z
      have r1 := Int.emod_lt_of_pos a (show 0 < b by omega)
      match n with
      | 0 =>
        have : k = 0 := by omega
        subst this
        omega
      | n + 1 =>
        unfold bezout
        generalize a % b = r at *
        by_cases z2 : r = 0
        · rw [if_pos z2]
          exact Bez.start b r z2
        · rw [if_neg z2]
          refine Bez.step ?_
          have s0 := Int.emod_nonneg b z2
          have s1 := Int.emod_lt_of_pos b (show 0 < r by omega)
          match k with
          | 0 => omega
          | k + 1 =>
            have e : (2 : Int) ^ (k + 1) = 2 * 2 ^ k := by rw [Int.pow_succ, Int.mul_comm]
            refine bezout_go k n r (b % r) s0 ?_ (by omega)
            by_cases c : 2 * r ≤ b
            · omega
            · have e2 := Int.emod_add_mul_ediv b r
              have : 1 ≤ b / r := by
                rw [Int.le_ediv_iff_mul_le (by omega)]
                omega
              have := Int.mul_le_mul_of_nonneg_left this (show 0 ≤ r by omega)
              omega
theorem bezout_is {a b : Int} (hb : b.natAbs < 2 ^ 90) : Bez a b (bezout 200 a b).1 (bezout 200 a b).2.1 (bezout 200 a b).2.2 := by
  by_cases z : b = 0
  · show Bez a b (bezout (199 + 1) a b).1 (bezout (199 + 1) a b).2.1 (bezout (199 + 1) a b).2.2
    unfold bezout
    rw [if_pos z]
    exact Bez.start a b z
  · show Bez a b (bezout (199 + 1) a b).1 (bezout (199 + 1) a b).2.1 (bezout (199 + 1) a b).2.2
    unfold bezout
    rw [if_neg z]
    refine Bez.step ?_
    have r0 := Int.emod_nonneg a z
    have r1 := Int.emod_lt a z
    refine bezout_go 90 199 b (a % b) r0 ?_ (by omega)
    have : ((b.natAbs : Nat) : Int) < ((2 ^ 90 : Nat) : Int) := by omega
    have e : ((2 ^ 90 : Nat) : Int) = (2 : Int) ^ 90 := by decide
    omega
/-! ### the program's -/
def wtEnd (one u v : Int) : Int × Int × Int := if one < 0 then (-one, -u, -v) else (one, u, v)
def wt : Nat → Int → Int → Int → Int → Int → Int → Int × Int × Int
  | 0, one, _, u, _, v, _ => wtEnd one u v
  | n + 1, one, other, u, t, v, w => if other = 0 then wtEnd one u v else
    wt n other (one - one.fdiv other * other) t (u - one.fdiv other * t) w (v - one.fdiv other * w)
def weights (a e : Int) : Int × Int × Int := wt (e.natAbs + 1) a e 1 0 0 1
/-- a state of the run -/
structure WtS (a e one other u t v w : Int) : Prop where
  e1 : one = u * a + v * e
  e2 : other = t * a + w * e
  d1 : ∀ g : Int, g ∣ one → g ∣ other → g ∣ a ∧ g ∣ e
theorem fmod_as (x y : Int) : x - x.fdiv y * y = x.fmod y := by
  have := Int.mul_fdiv_add_fmod x y
  rw [Int.mul_comm] at this
  omega
theorem WtS.next {a e one other u t v w : Int} (h : WtS a e one other u t v w) (q : Int) : WtS a e other (one - q * other) t (u - q * t) w (v - q * w) := by
  refine ⟨h.e2, ?_, fun g g1 g2 => ?_⟩
  · rw [h.e1, h.e2]
    grind
  · refine h.d1 g ?_ g1
    obtain ⟨x, hx⟩ := g1
    obtain ⟨y, hy⟩ := g2
    exact ⟨y + q * x, by rw [Int.mul_add, ← hy, hx]; grind⟩
theorem WtS.bez {a e one u t v w : Int} (h : WtS a e one 0 u t v w) : Bez a e (wtEnd one u v).2.1 (wtEnd one u v).2.2 (wtEnd one u v).1 := by
  obtain ⟨g1, g2⟩ := h.d1 one (Int.dvd_refl _) (Int.dvd_zero _)
  have h1 := h.e1
  unfold wtEnd
  by_cases c : one < 0
  · rw [if_pos c]
    exact ⟨by show -u * a + -v * e = -one; grind, Int.neg_dvd.mpr g1, Int.neg_dvd.mpr g2, by show 0 ≤ -one; omega⟩
  · rw [if_neg c]
    exact ⟨h1.symm, g1, g2, by show 0 ≤ one; omega⟩
/-- how great the weights are -/
structure WtB (B one other u t v w : Int) : Prop where
  sg : (0 < one ∧ 0 ≤ other) ∨ (one < 0 ∧ other ≤ 0)
  bu : (u.natAbs : Int) ≤ B
  bv : (v.natAbs : Int) ≤ B
  bt : (t.natAbs : Int) * one.natAbs + u.natAbs * other.natAbs ≤ B
  bw : (w.natAbs : Int) * one.natAbs + v.natAbs * other.natAbs ≤ B
theorem fmod_pos {x y : Int} (hy : 0 < y) : 0 ≤ x.fmod y ∧ x.fmod y < y := ⟨Int.fmod_nonneg_of_pos _ hy, Int.fmod_lt_of_pos _ hy⟩
theorem fmod_neg {x y : Int} (hy : y < 0) : y < x.fmod y ∧ x.fmod y ≤ 0 := by
  have h := Int.mul_fdiv_add_fmod x y
  have h2 := Int.mul_fdiv_add_fmod (-x) (-y)
  have h3 : (-x).fdiv (-y) = x.fdiv y := Int.neg_fdiv_neg x y
  rw [h3] at h2
  have := fmod_pos (x := -x) (y := -y) (by omega)
  have e : -y * x.fdiv y = -(y * x.fdiv y) := Int.neg_mul _ _
  omega
/-- a quotient of like signs -/
theorem fdiv_abs {x y : Int} (h : (0 < x ∧ 0 < y) ∨ (x < 0 ∧ y < 0)) : ((x.fdiv y).natAbs : Int) * y.natAbs + (x - x.fdiv y * y).natAbs = x.natAbs := by
  rw [fmod_as]
  have e := Int.mul_fdiv_add_fmod x y
  have habs : ((x.fdiv y).natAbs : Int) * y.natAbs = ((x.fdiv y * y).natAbs : Int) := by
    rw [Int.natAbs_mul]
    rfl
  rw [habs, Int.mul_comm]
  have sgn : ∀ q : Int, ∀ y : Int, 0 < y → 0 < y * q + y → 0 ≤ q := fun q y hy h => by
    by_cases c : 0 ≤ q
    · exact c
    · exfalso
      have := Int.mul_le_mul_of_nonneg_left (show q ≤ -1 by omega) (show 0 ≤ y by omega)
      omega
  rcases h with ⟨h1, h2⟩ | ⟨h1, h2⟩
  · have := fmod_pos (x := x) h2
    have q0 := sgn (x.fdiv y) y h2 (by omega)
    have := Int.mul_nonneg (show 0 ≤ y by omega) q0
    omega
  · have := fmod_neg (x := x) h2
    have e2 : -y * x.fdiv y = -(y * x.fdiv y) := Int.neg_mul _ _
    have q0 := sgn (x.fdiv y) (-y) (by omega) (by omega)
    have := Int.mul_nonneg (show 0 ≤ -y by omega) q0
    omega
theorem step_le {x y U T B : Int} (h : (0 < x ∧ 0 < y) ∨ (x < 0 ∧ y < 0)) (hb : (T.natAbs : Int) * x.natAbs + U.natAbs * y.natAbs ≤ B) :
    ((U - x.fdiv y * T).natAbs : Int) * y.natAbs + T.natAbs * (x - x.fdiv y * y).natAbs ≤ B := by
  have h1 := fdiv_abs h
  have h2 : ((U - x.fdiv y * T).natAbs : Int) ≤ U.natAbs + (x.fdiv y).natAbs * T.natAbs := by
    have : ((x.fdiv y).natAbs : Int) * T.natAbs = ((x.fdiv y * T).natAbs : Int) := by
      rw [Int.natAbs_mul]
      rfl
    omega
  have h3 := Int.mul_le_mul_of_nonneg_right h2 (show (0 : Int) ≤ y.natAbs by omega)
  generalize (((x - x.fdiv y * y).natAbs : Nat) : Int) = R at *
  generalize ((x.fdiv y).natAbs : Int) = Qn at *
  generalize ((U - x.fdiv y * T).natAbs : Int) = W at *
  generalize (U.natAbs : Int) = u at *
  generalize (T.natAbs : Int) = t at *
  generalize (y.natAbs : Int) = Y at *
  generalize (x.natAbs : Int) = X at *
  have e : t * X = t * (Qn * Y) + t * R := by rw [← h1, Int.mul_add]
  have e2 : (u + Qn * t) * Y = u * Y + t * (Qn * Y) := by grind
  omega
theorem WtB.next {B one other u t v w : Int} (h : WtB B one other u t v w) (ho : other ≠ 0) : WtB B other (one - one.fdiv other * other) t (u - one.fdiv other * t) w (v - one.fdiv other * w) := by
  have hs : (0 < one ∧ 0 < other) ∨ (one < 0 ∧ other < 0) := by
    have := h.sg
    omega
  have b1 : ∀ T U : Int, (T.natAbs : Int) * one.natAbs + U.natAbs * other.natAbs ≤ B → (T.natAbs : Int) ≤ B := fun T U k => by
    have := Int.mul_le_mul_of_nonneg_left (show (1 : Int) ≤ one.natAbs by omega) (show (0 : Int) ≤ T.natAbs by omega)
    have := Int.mul_nonneg (show (0 : Int) ≤ U.natAbs by omega) (show (0 : Int) ≤ other.natAbs by omega)
    omega
  refine ⟨?_, b1 _ _ h.bt, b1 _ _ h.bw, step_le hs h.bt, step_le hs h.bw⟩
  rw [fmod_as]
  rcases hs with ⟨_, hs⟩ | ⟨_, hs⟩
  · have := fmod_pos (x := one) hs
    omega
  · have := fmod_neg (x := one) hs
    omega
/-- the first step -/
theorem WtB.first {a e : Int} (he : e ≠ 0) : WtB ((a.natAbs : Int) + 2 * e.natAbs + 1) e (a - a.fdiv e * e) 0 (1 - a.fdiv e * 0) 1 (0 - a.fdiv e * 1) := by
  have e1 : (1 : Int) - a.fdiv e * 0 = 1 := by omega
  have e2 : (0 : Int) - a.fdiv e * 1 = -(a.fdiv e) := by omega
  rw [e1, e2, fmod_as]
  have h := Int.mul_fdiv_add_fmod a e
  have habs : ((a.fdiv e).natAbs : Int) * e.natAbs = ((e * a.fdiv e).natAbs : Int) := by
    rw [Int.mul_comm, ← Int.natCast_mul, ← Int.natAbs_mul]
  have hneg : ((-(a.fdiv e)).natAbs : Int) = (a.fdiv e).natAbs := by omega
  have hr : ((a.fmod e).natAbs : Int) ≤ e.natAbs := by
    by_cases c : 0 < e
    · have := fmod_pos (x := a) c
      omega
    · have := fmod_neg (x := a) (y := e) (by omega)
      omega
  refine ⟨?_, ?_, ?_, ?_, ?_⟩
  · by_cases c : 0 < e
    · have := fmod_pos (x := a) c
      omega
    · have := fmod_neg (x := a) (y := e) (by omega)
      omega
  · show (0 : Int) ≤ _
    omega
  · show (1 : Int) ≤ _
    omega
  · show (1 : Int) * e.natAbs + 0 * _ ≤ _
    omega
  · rw [hneg, habs]
    show _ + (1 : Int) * _ ≤ _
    omega
def wtOk (a e : Int) (x : Int × Int × Int) : Prop := Bez a e x.2.1 x.2.2 x.1 ∧ (x.2.1.natAbs : Int) ≤ (a.natAbs : Int) + 2 * e.natAbs + 1 ∧ (x.2.2.natAbs : Int) ≤ (a.natAbs : Int) + 2 * e.natAbs + 1
theorem wt_go {a e : Int} : ∀ (n : Nat) (one other u t v w : Int), other.natAbs < n → WtS a e one other u t v w → (u.natAbs : Int) ≤ (a.natAbs : Int) + 2 * e.natAbs + 1 → (v.natAbs : Int) ≤ (a.natAbs : Int) + 2 * e.natAbs + 1 → (other ≠ 0 → WtB ((a.natAbs : Int) + 2 * e.natAbs + 1) other (one - one.fdiv other * other) t (u - one.fdiv other * t) w (v - one.fdiv other * w)) → wtOk a e (wt n one other u t v w)
  | 0, _, _, _, _, _, _, h, _, _, _, _ => by omega
  | n + 1, one, other, u, t, v, w, h, S, bu, bv, B => by
    unfold wt
    by_cases z : other = 0
    · rw [if_pos z]
      subst z
      refine ⟨S.bez, ?_, ?_⟩ <;> unfold wtEnd <;> split <;> dsimp only <;> omega
    · rw [if_neg z]
      have B' := B z
      refine wt_go n _ _ _ _ _ _ ?_ (S.next _) B'.bu B'.bv fun z2 => B'.next z2
      rw [fmod_as]
      by_cases c : 0 < other
      · have := fmod_pos (x := one) c
        omega
      · have := fmod_neg (x := one) (y := other) (by omega)
        omega
theorem weights_ok (a e : Int) : wtOk a e (weights a e) :=
  wt_go _ _ _ _ _ _ _ (by omega) ⟨by omega, by omega, fun g h1 h2 => ⟨h1, h2⟩⟩ (by show (1 : Int) ≤ _; omega) (by show (0 : Int) ≤ _; omega) fun h => WtB.first h
end Fk

set_option Elab.async false
set_option linter.all false
namespace Fk
open Fc
/-- two forms of one discriminant, what divides all, and its weights -/
structure Par (f g : Form) (v w dl sg n al be ga : Int) : Prop where
  ea : f.a = dl * v
  eg : g.a = dl * w
  eb : f.b = dl * sg + n
  eh : g.b = dl * sg - n
  one : al * v + be * w + ga * sg = 1
  dp : 0 < dl
  hd : disc f = disc g
def parX (g : Form) (n be ga : Int) : Int := be * n - ga * g.c
def parY (f : Form) (n al ga : Int) : Int := -(al * n) - ga * f.c
def parZ (f g : Form) (al be : Int) : Int := al * g.c + be * f.c
def joinF (f g : Form) (v w dl n al be ga : Int) : Form := ⟨v * w, g.b + 2 * w * parX g n be ga, parX g n be ga * parY f n al ga + dl * parZ f g al be⟩
section
variable {f g : Form} {v w dl sg n al be ga : Int}
theorem Par.rel (P : Par f g v w dl sg n al be ga) : sg * n + w * g.c = v * f.c := by
  have h := P.hd
  unfold disc at h
  rw [P.ea, P.eg, P.eb, P.eh] at h
  have h2 : dl * (sg * n + w * g.c) = dl * (v * f.c) := by grind
  exact Int.eq_of_mul_eq_mul_left (by have := P.dp; omega) h2
theorem Par.xy (P : Par f g v w dl sg n al be ga) : n + v * parY f n al ga = w * parX g n be ga := by
  have h := P.rel
  have h1 := P.one
  have e : n * (al * v + be * w + ga * sg) = n := by rw [h1, Int.mul_one]
  unfold parX parY
  grind
theorem Par.cw (P : Par f g v w dl sg n al be ga) : f.c + sg * parY f n al ga = w * parZ f g al be := by
  have h := P.rel
  have h1 := P.one
  have e : f.c * (al * v + be * w + ga * sg) = f.c := by rw [h1, Int.mul_one]
  unfold parY parZ
  grind
theorem Par.disc (P : Par f g v w dl sg n al be ga) : disc (joinF f g v w dl n al be ga) = disc f := by
  have h1 := P.xy
  have h2 := P.cw
  have e1 := P.ea
  have e3 := P.eb
  have e4 := P.eh
  unfold joinF Fc.disc
  dsimp only
  rw [e1, e3, e4]
  generalize parX g n be ga = X at *
  generalize parY f n al ga = Y at *
  generalize parZ f g al be = Z at *
  have hw : f.c = w * Z - sg * Y := by omega
  rw [hw]
  have hn : n = w * X - v * Y := by omega
  rw [hn]
  grind
/-- other weights: the middle moves by a multiple -/
theorem Par.other {al' be' ga' : Int} (P : Par f g v w dl sg n al be ga) (P' : Par f g v w dl sg n al' be' ga') : ∃ k, parX g n be' ga' = parX g n be ga + v * k := by
  have h := P.rel
  have h1 := P.one
  have h2 := P'.one
  refine ⟨-(al' * parX g n be ga - al * parX g n be' ga' + (ga' * be - ga * be') * f.c), ?_⟩
  have e1 : parX g n be ga * (al' * v + be' * w + ga' * sg) = parX g n be ga := by rw [h2, Int.mul_one]
  have e2 : parX g n be' ga' * (al * v + be * w + ga * sg) = parX g n be' ga' := by rw [h1, Int.mul_one]
  have e3 : (ga' * be - ga * be') * (sg * n + w * g.c) = (ga' * be - ga * be') * (v * f.c) := by rw [h]
  have e4 : parX g n be ga * (be' * w + ga' * sg) - parX g n be' ga' * (be * w + ga * sg) = (ga' * be - ga * be') * (sg * n + w * g.c) := by
    unfold parX
    grind
  grind
end
theorem shift_is {f : Form} {d b : Int} (hd : disc f = d) (ha : f.a ≠ 0) (hb : ∃ k, b = f.b + 2 * f.a * k) : (⟨f.a, b, (b * b - d) / (4 * f.a)⟩ : Form) = changed f ⟨1, (b - f.b) / (2 * f.a), 0, 1⟩ ∧ b * b - d = 4 * f.a * ((b * b - d) / (4 * f.a)) := by
  obtain ⟨k, rfl⟩ := hb
  have ek : (f.b + 2 * f.a * k - f.b) / (2 * f.a) = k := by
    rw [show f.b + 2 * f.a * k - f.b = 2 * f.a * k by omega]
    exact Int.mul_ediv_cancel_left _ (by omega)
  have e : (f.b + 2 * f.a * k) * (f.b + 2 * f.a * k) - d = 4 * f.a * (f.a * k * k + f.b * k + f.c) := by
    rw [← hd]
    unfold disc
    grind
  rw [ek, changed_shift]
  refine ⟨form_ext rfl rfl ?_, ?_⟩
  · dsimp only
    exact div_exact ha e
  · rw [div_exact ha e]
    exact e
theorem Bez.swap {a b u v g : Int} (h : Bez a b u v g) : Bez b a v u g := ⟨by rw [Int.add_comm]; exact h.eq, h.db, h.da, h.nn⟩
theorem half_of {f g : Form} (hd : disc f = disc g) : f.b + g.b = 2 * ((f.b + g.b) / 2) ∧ f.b - g.b = 2 * ((f.b - g.b) / 2) ∧ f.b = (f.b + g.b) / 2 + (f.b - g.b) / 2 ∧ g.b = (f.b + g.b) / 2 - (f.b - g.b) / 2 := by
  have h1 := par_b (f := f) (d := disc f) rfl
  have h2 := par_b (f := g) (d := disc g) rfl
  omega
/-- the weights of three -/
theorem par_of {f g : Form} {u x p t z dl : Int} (hd : disc f = disc g) (ha : f.a ≠ 0) (h1 : Bez f.a g.a u x p) (h2 : Bez p ((f.b + g.b) / 2) t z dl) : Par f g (f.a / dl) (g.a / dl) dl ((f.b + g.b) / 2 / dl) ((f.b - g.b) / 2) (t * u) (t * x) z := by
  have d1 : dl ∣ f.a := Int.dvd_trans h2.da h1.da
  have d2 : dl ∣ g.a := Int.dvd_trans h2.da h1.db
  have d3 := h2.db
  have dp : 0 < dl := by
    have := h2.nn
    have : dl ≠ 0 := fun e => by
      rw [e] at d1
      exact ha (Int.zero_dvd.mp d1)
    omega
  obtain ⟨e1, e2, e3, e4⟩ := half_of hd
  have c1 := Int.mul_ediv_cancel' d1
  have c2 := Int.mul_ediv_cancel' d2
  have c3 := Int.mul_ediv_cancel' d3
  refine ⟨c1.symm, c2.symm, by rw [c3]; exact e3, by rw [c3]; exact e4, ?_, dp, hd⟩
  have k : dl * (t * u * (f.a / dl) + t * x * (g.a / dl) + z * ((f.b + g.b) / 2 / dl)) = dl * 1 := by
    have a1 := h1.eq
    have a2 := h2.eq
    have : dl * (t * u * (f.a / dl) + t * x * (g.a / dl) + z * ((f.b + g.b) / 2 / dl)) = t * (u * (dl * (f.a / dl)) + x * (dl * (g.a / dl))) + z * (dl * ((f.b + g.b) / 2 / dl)) := by grind
    rw [this, c1, c2, c3, a1, a2, Int.mul_one]
  exact Int.eq_of_mul_eq_mul_left (by omega) k
/-- the program's product, ahead of the least one -/
def prodP (f g : Form) : Form :=
  let x := weights f.a g.a
  let y := weights x.1 ((f.b + g.b) / 2)
  let d := y.1
  let m := (y.2.1 * (x.2.1 * f.a * g.b + x.2.2 * g.a * f.b) + y.2.2 * (f.b * g.b + disc f) / 2) / d
  let a := f.a * g.a / (d * d)
  let b := m % (2 * (a.natAbs : Int))
  ⟨a, b, (b * b - disc f) / (4 * a)⟩
theorem gcd_same {a b s u x p t z dl u' x' p' t' z' dl' : Int} (h1 : Bez a b u x p) (h2 : Bez p s t z dl) (h1' : Bez a b u' x' p') (h2' : Bez p' s t' z' dl') : dl = dl' := by
  have k : ∀ {u x p t z dl u' x' p' t' z' dl' : Int}, Bez a b u x p → Bez p s t z dl → Bez a b u' x' p' → Bez p' s t' z' dl' → dl ∣ dl' := fun h1 h2 h1' h2' => by
    rw [← h2'.eq]
    refine Int.dvd_add (Int.dvd_mul_of_dvd_right ?_) (Int.dvd_mul_of_dvd_right h2.db)
    rw [← h1'.eq]
    exact Int.dvd_add (Int.dvd_mul_of_dvd_right (Int.dvd_trans h2.da h1.da)) (Int.dvd_mul_of_dvd_right (Int.dvd_trans h2.da h1.db))
  exact Int.dvd_antisymm h2.nn h2'.nn (k h1 h2 h1' h2') (k h1' h2' h1 h2)
/-- what both products are: one form, shifted -/
structure Prods (f g j : Form) : Prop where
  hd : disc j = disc f
  ja : j.a ≠ 0
  pos : 0 < f.a → 0 < g.a → 0 < j.a
  jle : ((j.a.natAbs : Nat) : Int) ≤ f.a.natAbs * g.a.natAbs
theorem natAbs_div_le {x d : Int} (hd : 0 < d) (h : d ∣ x) : ((x / d).natAbs : Int) ≤ x.natAbs := by
  obtain ⟨y, rfl⟩ := h
  rw [Int.mul_ediv_cancel_left _ (by omega), Int.natAbs_mul]
  have : 1 * y.natAbs ≤ d.natAbs * y.natAbs := Nat.mul_le_mul_right _ (by omega)
  omega
theorem Par.prods {f g : Form} {v w dl sg n al be ga : Int} (P : Par f g v w dl sg n al be ga) (ha : f.a ≠ 0) (hg : g.a ≠ 0) : Prods f g (joinF f g v w dl n al be ga) := by
  have dp := P.dp
  have e1 := P.ea
  have e2 := P.eg
  have v0 : v ≠ 0 := fun e => ha (by rw [e1, e, Int.mul_zero])
  have w0 : w ≠ 0 := fun e => hg (by rw [e2, e, Int.mul_zero])
  refine ⟨P.disc, Int.mul_ne_zero v0 w0, fun h1 h2 => ?_, ?_⟩
  · rw [e1] at h1
    rw [e2] at h2
    exact Int.mul_pos (Int.pos_of_mul_pos_right h1 (by omega)) (Int.pos_of_mul_pos_right h2 (by omega))
  · show ((v * w).natAbs : Int) ≤ _
    rw [e1, e2, Int.natAbs_mul, Int.natAbs_mul, Int.natAbs_mul, Int.natCast_mul]
    have d1 : (1 : Int) ≤ dl.natAbs := by omega
    have a1 : (v.natAbs : Int) ≤ ((dl.natAbs * v.natAbs : Nat) : Int) := by
      rw [Int.natCast_mul]
      have := Int.mul_le_mul_of_nonneg_right d1 (show (0 : Int) ≤ v.natAbs by omega)
      omega
    have a2 : (w.natAbs : Int) ≤ ((dl.natAbs * w.natAbs : Nat) : Int) := by
      rw [Int.natCast_mul]
      have := Int.mul_le_mul_of_nonneg_right d1 (show (0 : Int) ≤ w.natAbs by omega)
      omega
    exact Int.mul_le_mul a1 a2 (by omega) (by omega)
theorem shift_prod {j : Form} {d b : Int} (hd : disc j = d) (ha : j.a ≠ 0) (hb : ∃ k, b = j.b + 2 * j.a * k) : Eqv j ⟨j.a, b, (b * b - d) / (4 * j.a)⟩ ∧ b * b - d = 4 * j.a * ((b * b - d) / (4 * j.a)) := by
  obtain ⟨h1, h2⟩ := shift_is hd ha hb
  exact ⟨⟨_, isCh_shift _, h1.symm⟩, h2⟩
/-- what is told of a product -/
structure IsProd (f g j p : Form) (B : Int) : Prop where
  ej : Eqv j p
  pa : p.a = j.a
  pb : (p.b.natAbs : Int) ≤ B + 2 * j.a.natAbs
  pc : p.b * p.b - disc f = 4 * j.a * p.c
theorem spec_prod {f g : Form} (hd : disc f = disc g) (ha : f.a ≠ 0) (hg : g.a ≠ 0) (h1 : f.a.natAbs < 2 ^ 90) (h2 : ((f.b + g.b) / 2).natAbs < 2 ^ 90) : ∃ v w dl sg n al be ga, Par f g v w dl sg n al be ga ∧ v = f.a / dl ∧ w = g.a / dl ∧ n = (f.b - g.b) / 2 ∧ sg = (f.b + g.b) / 2 / dl ∧ IsProd f g (joinF f g v w dl n al be ga) (product f g) g.b.natAbs := by
  have b1 := (bezout_is (a := g.a) (b := f.a) h1).swap
  have b2 := bezout_is (a := (bezout 200 g.a f.a).2.2) (b := (f.b + g.b) / 2) h2
  have e : product f g = (let s := (f.b + g.b) / 2
    let x := bezout 200 g.a f.a
    let y := bezout 200 x.2.2 s
    let d := y.2.2
    let v := f.a / d
    let w := g.a / d
    let n := (f.b - g.b) / 2
    let r := (x.1 * y.1 * n - y.2.1 * g.c) % v
    let b := g.b + 2 * w * r
    ⟨v * w, b, (b * b - disc f) / (4 * v * w)⟩) := rfl
  rw [e]
  dsimp only
  generalize bezout 200 g.a f.a = x at *
  generalize bezout 200 x.2.2 ((f.b + g.b) / 2) = y at *
  have P := par_of hd ha b1 b2
  have Q := P.prods ha hg
  refine ⟨_, _, _, _, _, _, _, _, P, rfl, rfl, rfl, rfl, ?_⟩
  generalize hv : f.a / y.2.2 = v at *
  generalize hw : g.a / y.2.2 = w at *
  generalize hn : (f.b - g.b) / 2 = n at *
  have ex : x.1 * y.1 * n - y.2.1 * g.c = parX g n (y.1 * x.1) y.2.1 := by
    unfold parX
    rw [Int.mul_comm x.1]
  rw [ex]
  have hm := Int.emod_add_mul_ediv (parX g n (y.1 * x.1) y.2.1) v
  have v0 : v ≠ 0 := fun z => Q.ja (by show v * w = 0; rw [z, Int.zero_mul])
  have m0 := Int.emod_nonneg (parX g n (y.1 * x.1) y.2.1) v0
  have m1 := Int.emod_lt (parX g n (y.1 * x.1) y.2.1) v0
  have hj : (joinF f g v w y.2.2 n (y.1 * x.2.1) (y.1 * x.1) y.2.1).b = g.b + 2 * w * parX g n (y.1 * x.1) y.2.1 := rfl
  have ha' : (joinF f g v w y.2.2 n (y.1 * x.2.1) (y.1 * x.1) y.2.1).a = v * w := rfl
  generalize joinF f g v w y.2.2 n (y.1 * x.2.1) (y.1 * x.1) y.2.1 = j at *
  generalize parX g n (y.1 * x.1) y.2.1 = X at *
  rw [Int.mul_assoc 4 v w, ← ha']
  obtain ⟨s1, s2⟩ := shift_prod (b := g.b + 2 * w * (X % v)) Q.hd Q.ja ⟨-(X / v), by
    rw [hj, ha']
    have : X = X % v + v * (X / v) := hm.symm
    generalize X % v = r at *
    generalize X / v = q at *
    rw [this]
    grind⟩
  refine ⟨s1, rfl, ?_, s2⟩
  show ((g.b + 2 * w * (X % v)).natAbs : Int) ≤ _
  have h5 : ((2 * w * (X % v)).natAbs : Int) ≤ 2 * j.a.natAbs := by
    rw [ha', Int.natAbs_mul, Int.natAbs_mul, Int.natAbs_mul]
    have : w.natAbs * (X % v).natAbs ≤ w.natAbs * v.natAbs := Nat.mul_le_mul_left _ (by omega)
    have e1 : (2 : Int).natAbs * w.natAbs * (X % v).natAbs = 2 * (w.natAbs * (X % v).natAbs) := Nat.mul_assoc _ _ _
    rw [Nat.mul_comm v.natAbs]
    omega
  omega
theorem prog_prod {f g : Form} (hd : disc f = disc g) (ha : f.a ≠ 0) (hg : g.a ≠ 0) : ∃ v w dl sg n al be ga, Par f g v w dl sg n al be ga ∧ v = f.a / dl ∧ w = g.a / dl ∧ n = (f.b - g.b) / 2 ∧ sg = (f.b + g.b) / 2 / dl ∧ IsProd f g (joinF f g v w dl n al be ga) (prodP f g) 0 := by
  have b1 := (weights_ok f.a g.a).1
  have b2 := (weights_ok (weights f.a g.a).1 ((f.b + g.b) / 2)).1
  have e : prodP f g = (let x := weights f.a g.a
    let y := weights x.1 ((f.b + g.b) / 2)
    let d := y.1
    let m := (y.2.1 * (x.2.1 * f.a * g.b + x.2.2 * g.a * f.b) + y.2.2 * (f.b * g.b + disc f) / 2) / d
    let a := f.a * g.a / (d * d)
    let b := m % (2 * (a.natAbs : Int))
    ⟨a, b, (b * b - disc f) / (4 * a)⟩) := rfl
  rw [e]
  dsimp only
  generalize weights f.a g.a = x at *
  generalize weights x.1 ((f.b + g.b) / 2) = y at *
  have P := par_of hd ha b1 b2
  have Q := P.prods ha hg
  refine ⟨_, _, _, _, _, _, _, _, P, rfl, rfl, rfl, rfl, ?_⟩
  generalize f.a / y.1 = v at *
  generalize g.a / y.1 = w at *
  generalize (f.b - g.b) / 2 = n at *
  generalize (f.b + g.b) / 2 / y.1 = sg at *
  have dp := P.dp
  have e1 := P.ea
  have e2 := P.eg
  have e3 := P.eb
  have e4 := P.eh
  have eA : f.a * g.a / (y.1 * y.1) = v * w := by
    rw [e1, e2]
    have : y.1 * v * (y.1 * w) = (y.1 * y.1) * (v * w) := by grind
    rw [this]
    exact Int.mul_ediv_cancel_left _ (by have := Int.mul_pos dp dp; omega)
  have hq : f.b * g.b + disc f = 2 * (y.1 * sg * g.b - 2 * (g.a * g.c)) := by
    have h1 : f.b + g.b = 2 * (y.1 * sg) := by omega
    have h2 : disc f = g.b * g.b - 4 * (g.a * g.c) := by
      rw [hd]
      unfold disc
      rw [Int.mul_assoc]
    rw [h2]
    have : f.b * g.b + (g.b * g.b - 4 * (g.a * g.c)) = g.b * (f.b + g.b) - 4 * (g.a * g.c) := by grind
    rw [this, h1]
    grind
  have eh : y.2.2 * (f.b * g.b + disc f) / 2 = y.2.2 * (y.1 * sg * g.b - 2 * (g.a * g.c)) := by
    rw [hq]
    have : y.2.2 * (2 * (y.1 * sg * g.b - 2 * (g.a * g.c))) = 2 * (y.2.2 * (y.1 * sg * g.b - 2 * (g.a * g.c))) := by grind
    rw [this]
    exact Int.mul_ediv_cancel_left _ (by omega)
  have em : (y.2.1 * (x.2.1 * f.a * g.b + x.2.2 * g.a * f.b) + y.2.2 * (f.b * g.b + disc f) / 2) / y.1 = g.b + 2 * w * parX g n (y.2.1 * x.2.2) y.2.2 := by
    rw [eh]
    have : y.2.1 * (x.2.1 * f.a * g.b + x.2.2 * g.a * f.b) + y.2.2 * (y.1 * sg * g.b - 2 * (g.a * g.c)) = y.1 * (g.b + 2 * w * parX g n (y.2.1 * x.2.2) y.2.2) := by
      have h1 := P.one
      have h3 : f.b = g.b + 2 * n := by omega
      have h4 : g.b * (y.2.1 * x.2.1 * v + y.2.1 * x.2.2 * w + y.2.2 * sg) = g.b := by rw [h1, Int.mul_one]
      have h5 : y.1 * (g.b + 2 * w * parX g n (y.2.1 * x.2.2) y.2.2) = y.1 * (g.b * (y.2.1 * x.2.1 * v + y.2.1 * x.2.2 * w + y.2.2 * sg) + 2 * w * parX g n (y.2.1 * x.2.2) y.2.2) := by rw [h4]
      rw [h5, h3, e1, e2]
      unfold parX
      grind
    rw [this]
    exact Int.mul_ediv_cancel_left _ (by omega)
  rw [em, eA]
  have hj : (joinF f g v w y.1 n (y.2.1 * x.2.1) (y.2.1 * x.2.2) y.2.2).b = g.b + 2 * w * parX g n (y.2.1 * x.2.2) y.2.2 := rfl
  have ha' : (joinF f g v w y.1 n (y.2.1 * x.2.1) (y.2.1 * x.2.2) y.2.2).a = v * w := rfl
  have ja := Q.ja
  have jd := Q.hd
  generalize joinF f g v w y.1 n (y.2.1 * x.2.1) (y.2.1 * x.2.2) y.2.2 = j at *
  rw [← hj, ← ha']
  have hm := Int.emod_add_mul_ediv j.b (2 * (j.a.natAbs : Int))
  have m0 := Int.emod_nonneg j.b (show 2 * (j.a.natAbs : Int) ≠ 0 by omega)
  have m1 := Int.emod_lt_of_pos j.b (show 0 < 2 * (j.a.natAbs : Int) by omega)
  generalize j.b % (2 * (j.a.natAbs : Int)) = r at *
  generalize j.b / (2 * (j.a.natAbs : Int)) = q at *
  obtain ⟨s1, s2⟩ := shift_prod (b := r) jd ja (by
    rcases abs_cases j.a with c | c
    · exact ⟨-q, by rw [c] at hm; grind⟩
    · exact ⟨q, by rw [c] at hm; grind⟩)
  exact ⟨s1, rfl, by show (r.natAbs : Int) ≤ _; omega, s2⟩
/-- the product of the program's is the specification's, up to a shift -/
theorem prods_same {f g : Form} (hd : disc f = disc g) (ha : f.a ≠ 0) (hg : g.a ≠ 0) (h1 : f.a.natAbs < 2 ^ 90) (h2 : ((f.b + g.b) / 2).natAbs < 2 ^ 90) : ∃ j j', Prods f g j ∧ Prods f g j' ∧ Eqv j j' ∧ IsProd f g j (product f g) g.b.natAbs ∧ IsProd f g j' (prodP f g) 0 := by
  obtain ⟨v, w, dl, sg, n, al, be, ga, P, ev, ew, en, es, I⟩ := spec_prod hd ha hg h1 h2
  obtain ⟨v', w', dl', sg', n', al', be', ga', P', ev', ew', en', es', I'⟩ := prog_prod hd ha hg
  have ed : dl = dl' := by
    have k : ∀ {v w dl sg n al be ga v' w' dl' sg' al' be' ga' : Int}, Par f g v w dl sg n al be ga → Par f g v' w' dl' sg' n al' be' ga' → dl ∣ dl' := fun {v w dl sg n al be ga v' w' dl' sg' al' be' ga'} P P' => by
      have a1 : dl * sg = dl' * sg' := by
        have := P.eb
        have := P'.eb
        omega
      have a2 := P.ea.symm.trans P'.ea
      have a3 := P.eg.symm.trans P'.eg
      refine ⟨al' * v + be' * w + ga' * sg, ?_⟩
      have := P'.one
      have : dl * (al' * v + be' * w + ga' * sg) = al' * (dl * v) + be' * (dl * w) + ga' * (dl * sg) := by grind
      rw [this, a1, a2, a3]
      have : al' * (dl' * v') + be' * (dl' * w') + ga' * (dl' * sg') = dl' * (al' * v' + be' * w' + ga' * sg') := by grind
      rw [this, P'.one, Int.mul_one]
    have hnn : n = n' := by rw [en, en']
    subst hnn
    exact Int.dvd_antisymm (by have := P.dp; omega) (by have := P'.dp; omega) (k P P') (k P' P)
  subst ed
  have hv : v = v' := by rw [ev, ev']
  have hw : w = w' := by rw [ew, ew']
  have hs : sg = sg' := by rw [es, es']
  have hn : n = n' := by rw [en, en']
  subst hv hw hs hn
  refine ⟨_, _, P.prods ha hg, P'.prods ha hg, ?_, I, I'⟩
  obtain ⟨k, hk⟩ := P.other P'
  have Q := P.prods ha hg
  have Q' := P'.prods ha hg
  refine ⟨⟨1, k, 0, 1⟩, isCh_shift _, ?_⟩
  rw [changed_shift]
  have hb : (joinF f g v w dl n al be ga).b + 2 * (joinF f g v w dl n al be ga).a * k = (joinF f g v w dl n al' be' ga').b := by
    show g.b + 2 * w * parX g n be ga + 2 * (v * w) * k = g.b + 2 * w * parX g n be' ga'
    rw [hk]
    grind
  have hd1 := Q.hd
  have hd2 := Q'.hd
  have hsd := disc_changed (f := joinF f g v w dl n al be ga) (isCh_shift k)
  rw [changed_shift] at hsd
  have ja := Q.ja
  have ja2 : (joinF f g v w dl n al be ga).a = (joinF f g v w dl n al' be' ga').a := rfl
  refine form_ext rfl hb ?_
  have hx : disc ⟨(joinF f g v w dl n al be ga).a, (joinF f g v w dl n al be ga).b + 2 * (joinF f g v w dl n al be ga).a * k, (joinF f g v w dl n al be ga).a * k * k + (joinF f g v w dl n al be ga).b * k + (joinF f g v w dl n al be ga).c⟩ = disc (joinF f g v w dl n al' be' ga') := by rw [hsd, hd1, hd2]
  unfold disc at hx
  dsimp only at hx
  rw [hb, ← ja2] at hx
  have : (4 * (joinF f g v w dl n al be ga).a) * ((joinF f g v w dl n al be ga).a * k * k + (joinF f g v w dl n al be ga).b * k + (joinF f g v w dl n al be ga).c) = (4 * (joinF f g v w dl n al be ga).a) * (joinF f g v w dl n al' be' ga').c := by omega
  exact Int.eq_of_mul_eq_mul_left (by omega) this
end Fk

set_option Elab.async false
set_option linter.all false
/-! Composition of forms by cubes: it is one up to Eqv. -/
namespace Fk
open Fc
structure IsCube (f g h : Form) (p0 p1 p2 p3 q0 q1 q2 q3 : Int) : Prop where
  fa : p0 * q1 - p1 * q0 = f.a
  fb : (p0 * q3 - p3 * q0) - (p1 * q2 - p2 * q1) = f.b
  fc : p2 * q3 - p3 * q2 = f.c
  ga : p0 * q2 - p2 * q0 = g.a
  gb : (p0 * q3 - p3 * q0) + (p1 * q2 - p2 * q1) = g.b
  gc : p1 * q3 - p3 * q1 = g.c
  ha : h.a = q1 * q2 - q0 * q3
  hb : h.b = p0 * q3 + q0 * p3 - p1 * q2 - p2 * q1
  hc : h.c = p1 * p2 - p0 * p3
def Comp (f g h : Form) : Prop := ∃ p0 p1 p2 p3 q0 q1 q2 q3, IsCube f g h p0 p1 p2 p3 q0 q1 q2 q3
theorem Comp.comm {f g h : Form} (c : Comp f g h) : Comp g f h := by
  obtain ⟨p0, p1, p2, p3, q0, q1, q2, q3, ⟨fa, fb, fc, ga, gb, gc, ha, hb, hc⟩⟩ := c
  exact ⟨p0, p2, p1, p3, q0, q2, q1, q3, ⟨ga, by rw [← gb]; grind, gc, fa, by rw [← fb]; grind, fc, by rw [ha]; grind, by rw [hb]; grind, by rw [hc]; grind⟩⟩
theorem Comp.left {f g h : Form} (c : Comp f g h) {t : Change} (ht : IsCh t) : Comp (changed f t) g h := by
  obtain ⟨p0, p1, p2, p3, q0, q1, q2, q3, ⟨fa, fb, fc, ga, gb, gc, ha, hb, hc⟩⟩ := c
  obtain ⟨p, q, r, s⟩ := t
  have hd : p * s - q * r = 1 := ht
  refine ⟨p * p0 + r * p2, p * p1 + r * p3, q * p0 + s * p2, q * p1 + s * p3, p * q0 + r * q2, p * q1 + r * q3, q * q0 + s * q2, q * q1 + s * q3, ⟨?_, ?_, ?_, ?_, ?_, ?_, ?_, ?_, ?_⟩⟩
  · simp only [changed, value]
    rw [← fa, ← fb, ← fc]
    grind
  · simp only [changed]
    rw [← fa, ← fb, ← fc]
    grind
  · simp only [changed, value]
    rw [← fa, ← fb, ← fc]
    grind
  · have : (p * p0 + r * p2) * (q * q0 + s * q2) - (q * p0 + s * p2) * (p * q0 + r * q2) = (p * s - q * r) * (p0 * q2 - p2 * q0) := by grind
    rw [this, hd, Int.one_mul, ga]
  · have : ((p * p0 + r * p2) * (q * q1 + s * q3) - (q * p1 + s * p3) * (p * q0 + r * q2)) + ((p * p1 + r * p3) * (q * q0 + s * q2) - (q * p0 + s * p2) * (p * q1 + r * q3)) = (p * s - q * r) * ((p0 * q3 - p3 * q0) + (p1 * q2 - p2 * q1)) := by grind
    rw [this, hd, Int.one_mul, gb]
  · have : (p * p1 + r * p3) * (q * q1 + s * q3) - (q * p1 + s * p3) * (p * q1 + r * q3) = (p * s - q * r) * (p1 * q3 - p3 * q1) := by grind
    rw [this, hd, Int.one_mul, gc]
  · have : (p * q1 + r * q3) * (q * q0 + s * q2) - (p * q0 + r * q2) * (q * q1 + s * q3) = (p * s - q * r) * (q1 * q2 - q0 * q3) := by grind
    rw [this, hd, Int.one_mul, ha]
  · have : (p * p0 + r * p2) * (q * q1 + s * q3) + (p * q0 + r * q2) * (q * p1 + s * p3) - (p * p1 + r * p3) * (q * q0 + s * q2) - (q * p0 + s * p2) * (p * q1 + r * q3) = (p * s - q * r) * (p0 * q3 + q0 * p3 - p1 * q2 - p2 * q1) := by grind
    rw [this, hd, Int.one_mul, hb]
  · have : (p * p1 + r * p3) * (q * p0 + s * p2) - (p * p0 + r * p2) * (q * p1 + s * p3) = (p * s - q * r) * (p1 * p2 - p0 * p3) := by grind
    rw [this, hd, Int.one_mul, hc]
theorem Comp.eqv {f g h f' g' : Form} (c : Comp f g h) (ef : Eqv f f') (eg : Eqv g g') : Comp f' g' h := by
  obtain ⟨t, ht, rfl⟩ := ef
  obtain ⟨u, hu, rfl⟩ := eg
  exact ((c.left ht).comm.left hu).comm
/-- the third is one, up to a change -/
theorem Comp.unique {f g h h' : Form} {u v w : Int} (c : Comp f g h) (c' : Comp f g h') (e : u * f.a + v * f.b + w * f.c = 1) : Eqv h h' := by
  obtain ⟨p0, p1, p2, p3, q0, q1, q2, q3, ⟨fa, fb, fc, ga, gb, gc, ha, hb, hc⟩⟩ := c
  obtain ⟨r0, r1, r2, r3, s0, s1, s2, s3, ⟨fa', fb', fc', ga', gb', gc', ha', hb', hc'⟩⟩ := c'
  have m01 : p0 * q1 - p1 * q0 = r0 * s1 - r1 * s0 := by omega
  have m23 : p2 * q3 - p3 * q2 = r2 * s3 - r3 * s2 := by omega
  have m02 : p0 * q2 - p2 * q0 = r0 * s2 - r2 * s0 := by omega
  have m13 : p1 * q3 - p3 * q1 = r1 * s3 - r3 * s1 := by omega
  have m03 : p0 * q3 - p3 * q0 = r0 * s3 - r3 * s0 := by omega
  have m12 : p1 * q2 - p2 * q1 = r1 * s2 - r2 * s1 := by omega
  have one : u * (r0 * s1 - r1 * s0) + v * ((r0 * s3 - r3 * s0) - (r1 * s2 - r2 * s1)) + w * (r2 * s3 - r3 * s2) = 1 := by rw [fa', fb', fc', e]
  -- the change of rows
  obtain ⟨A, hA⟩ : ∃ A, A = u * (r0 * q1 - r1 * q0) + v * ((r0 * q3 - r3 * q0) - (r1 * q2 - r2 * q1)) + w * (r2 * q3 - r3 * q2) := ⟨_, rfl⟩
  obtain ⟨B, hB⟩ : ∃ B, B = u * (r1 * p0 - r0 * p1) + v * ((r3 * p0 - r0 * p3) - (r2 * p1 - r1 * p2)) + w * (r3 * p2 - r2 * p3) := ⟨_, rfl⟩
  obtain ⟨G, hG⟩ : ∃ G, G = u * (s0 * q1 - s1 * q0) + v * ((s0 * q3 - s3 * q0) - (s1 * q2 - s2 * q1)) + w * (s2 * q3 - s3 * q2) := ⟨_, rfl⟩
  obtain ⟨D, hD⟩ : ∃ D, D = u * (s1 * p0 - s0 * p1) + v * ((s3 * p0 - s0 * p3) - (s2 * p1 - s1 * p2)) + w * (s3 * p2 - s2 * p3) := ⟨_, rfl⟩
  have row : ∀ (pk qk rk sk : Int), pk * q0 - p0 * qk = rk * s0 - r0 * sk → pk * q1 - p1 * qk = rk * s1 - r1 * sk → pk * q2 - p2 * qk = rk * s2 - r2 * sk → pk * q3 - p3 * qk = rk * s3 - r3 * sk → A * pk + B * qk = rk ∧ G * pk + D * qk = sk := fun pk qk rk sk h0 h1 h2 h3 => by
    have k : ∀ x0 x1 x2 x3 : Int, (u * (x0 * q1 - x1 * q0) + v * ((x0 * q3 - x3 * q0) - (x1 * q2 - x2 * q1)) + w * (x2 * q3 - x3 * q2)) * pk + (u * (x1 * p0 - x0 * p1) + v * ((x3 * p0 - x0 * p3) - (x2 * p1 - x1 * p2)) + w * (x3 * p2 - x2 * p3)) * qk
        = u * (x0 * (pk * q1 - p1 * qk) - x1 * (pk * q0 - p0 * qk)) + v * ((x0 * (pk * q3 - p3 * qk) - x3 * (pk * q0 - p0 * qk)) - (x1 * (pk * q2 - p2 * qk) - x2 * (pk * q1 - p1 * qk))) + w * (x2 * (pk * q3 - p3 * qk) - x3 * (pk * q2 - p2 * qk)) := fun x0 x1 x2 x3 => by grind
    constructor
    · rw [hA, hB, k, h0, h1, h2, h3]
      have : u * (r0 * (rk * s1 - r1 * sk) - r1 * (rk * s0 - r0 * sk)) + v * ((r0 * (rk * s3 - r3 * sk) - r3 * (rk * s0 - r0 * sk)) - (r1 * (rk * s2 - r2 * sk) - r2 * (rk * s1 - r1 * sk))) + w * (r2 * (rk * s3 - r3 * sk) - r3 * (rk * s2 - r2 * sk)) = rk * (u * (r0 * s1 - r1 * s0) + v * ((r0 * s3 - r3 * s0) - (r1 * s2 - r2 * s1)) + w * (r2 * s3 - r3 * s2)) := by grind
      rw [this, one, Int.mul_one]
    · rw [hG, hD, k, h0, h1, h2, h3]
      have : u * (s0 * (rk * s1 - r1 * sk) - s1 * (rk * s0 - r0 * sk)) + v * ((s0 * (rk * s3 - r3 * sk) - s3 * (rk * s0 - r0 * sk)) - (s1 * (rk * s2 - r2 * sk) - s2 * (rk * s1 - r1 * sk))) + w * (s2 * (rk * s3 - r3 * sk) - s3 * (rk * s2 - r2 * sk)) = sk * (u * (r0 * s1 - r1 * s0) + v * ((r0 * s3 - r3 * s0) - (r1 * s2 - r2 * s1)) + w * (r2 * s3 - r3 * s2)) := by grind
      rw [this, one, Int.mul_one]
  obtain ⟨R0, S0⟩ := row p0 q0 r0 s0 (by grind) (by grind) (by grind) (by grind)
  obtain ⟨R1, S1⟩ := row p1 q1 r1 s1 (by grind) (by grind) (by grind) (by grind)
  obtain ⟨R2, S2⟩ := row p2 q2 r2 s2 (by grind) (by grind) (by grind) (by grind)
  obtain ⟨R3, S3⟩ := row p3 q3 r3 s3 (by grind) (by grind) (by grind) (by grind)
  clear hA hB hG hD row
  have det : A * D - B * G = 1 := by
    have k : ∀ {a b c d a' b' c' d' : Int}, A * a + B * c = a' → A * b + B * d = b' → G * a + D * c = c' → G * b + D * d = d' → a' * d' - b' * c' = (A * D - B * G) * (a * d - b * c) := fun h1 h2 h3 h4 => by
      rw [← h1, ← h2, ← h3, ← h4]
      grind
    have k01 := k R0 R1 S0 S1
    have k03 := k R0 R3 S0 S3
    have k12 := k R1 R2 S1 S2
    have k23 := k R2 R3 S2 S3
    have one' : u * (p0 * q1 - p1 * q0) + v * ((p0 * q3 - p3 * q0) - (p1 * q2 - p2 * q1)) + w * (p2 * q3 - p3 * q2) = 1 := by rw [fa, fb, fc, e]
    have : u * (r0 * s1 - r1 * s0) + v * ((r0 * s3 - r3 * s0) - (r1 * s2 - r2 * s1)) + w * (r2 * s3 - r3 * s2) = (A * D - B * G) * (u * (p0 * q1 - p1 * q0) + v * ((p0 * q3 - p3 * q0) - (p1 * q2 - p2 * q1)) + w * (p2 * q3 - p3 * q2)) := by
      rw [k01, k03, k12, k23]
      grind
    rw [one, one', Int.mul_one] at this
    exact this.symm
  refine ⟨⟨D, -B, -G, A⟩, ?_, ?_⟩
  · show D * A - -B * -G = 1
    rw [Int.neg_mul_neg]
    rw [Int.mul_comm D A]
    exact det
  · apply form_ext
    · simp only [changed, value]
      rw [ha', ha, hb, hc, ← S0, ← S1, ← S2, ← S3]
      grind
    · simp only [changed]
      rw [hb', ha, hb, hc, ← S0, ← S1, ← S2, ← S3, ← R0, ← R1, ← R2, ← R3]
      grind
    · simp only [changed, value]
      rw [hc', ha, hb, hc, ← R0, ← R1, ← R2, ← R3]
      grind
/-- the product of the formulas is one -/
theorem Par.comp {f g : Form} {v w dl sg n al be ga : Int} (P : Par f g v w dl sg n al be ga) : Comp f g (joinF f g v w dl n al be ga) := by
  have h1 := P.xy
  have h2 := P.cw
  have h3 := P.rel
  have e1 := P.ea
  have e2 := P.eg
  have e3 := P.eb
  have e4 := P.eh
  have hz : g.c + sg * parX g n be ga = v * parZ f g al be := by
    have h0 := P.one
    have e : g.c * (al * v + be * w + ga * sg) = g.c := by rw [h0, Int.mul_one]
    unfold parX parZ
    grind
  unfold joinF
  generalize parX g n be ga = X at *
  generalize parY f n al ga = Y at *
  generalize parZ f g al be = Z at *
  refine ⟨dl, -X, -Y, -Z, 0, v, w, sg, ⟨?_, ?_, ?_, ?_, ?_, ?_, ?_, ?_, ?_⟩⟩
  · rw [e1]
    grind
  · rw [e3]
    grind
  · grind
  · rw [e2]
    grind
  · rw [e4]
    grind
  · grind
  · dsimp only
    grind
  · dsimp only
    rw [e4]
    grind
  · dsimp only
    grind
/-- united forms -/
theorem comp_united (a1 a2 B C : Int) : Comp ⟨a1, B, a2 * C⟩ ⟨a2, B, a1 * C⟩ ⟨a1 * a2, B, C⟩ := by
  refine ⟨1, 0, 0, -C, 0, a1, a2, B, ⟨?_, ?_, ?_, ?_, ?_, ?_, ?_, ?_, ?_⟩⟩ <;> dsimp only <;> grind
end Fk

set_option Elab.async false
set_option linter.all false
/-! Least forms are small; products are of the same class. -/
namespace Fkw
open Fk (Eqv RedI Rt itn IsProd Prods prodP)
/-- forms that may be multiplied -/
structure Fit (f : Fc.Form) : Prop where
  ok : LeastOk f
  lo : -20000 ≤ Fc.disc f
  fa : f.a.natAbs ≤ 8192
  fb : f.b.natAbs ≤ 8192
theorem Fit.hi {f : Fc.Form} (h : Fit f) : Fc.disc f ≤ 20000 := by
  rcases h.ok with k | k
  · omega
  · exact k.2.2.1
theorem LeastOk.a0 {f : Fc.Form} (h : LeastOk f) : f.a ≠ 0 := by
  rcases h with k | k
  · omega
  · exact Fk.a_ne' k.2.2.2
theorem LeastOk.sm {f : Fc.Form} (h : LeastOk f) : SmF f := by
  rcases h with k | k
  · exact k.1
  · exact k.1
theorem LeastOk.move {f g : Fc.Form} (h : LeastOk f) (hd : Fc.disc g = Fc.disc f) (hs : SmF g) (hp : Fc.disc f < 0 → 0 < f.a → 0 < g.a) : LeastOk g := by
  rcases h with ⟨_, k2, k3⟩ | k
  · exact .inl ⟨hs, by omega, hp k2 k3⟩
  · refine .inr ⟨hs, ?_⟩
    rw [hd]
    exact k.2
theorem c_small {a b c d A B : Int} (ha : 1 ≤ A) (haA : (a.natAbs : Int) = A) (hA : A ≤ 67108864) (hb : (b.natAbs : Int) ≤ B + 2 * A) (hB : 0 ≤ B) (hB2 : B ≤ 8192) (hd : -20000 ≤ d ∧ d ≤ 20000) (e : b * b - d = 4 * a * c) : c.natAbs ≤ 150000000 := by
  by_cases k : c.natAbs ≤ 150000000
  · exact k
  · exfalso
    have h1 : ((b * b - d).natAbs : Int) ≤ (B + 2 * A) * (B + 2 * A) + 20000 := by
      have h2 := Fk.sq_le (x := (b.natAbs : Int)) (y := B + 2 * A) (by omega) hb
      have h3 : (b.natAbs : Int) * b.natAbs = b * b := by
        rcases Fk.abs_cases b with q | q <;> rw [q]
        grind
      have h4 := Fk.sq_nonneg b
      omega
    rw [e] at h1
    have h5 : ((4 * a * c).natAbs : Int) = 4 * (A * c.natAbs) := by
      rw [Int.natAbs_mul, Int.natAbs_mul, Int.natCast_mul, Int.natCast_mul, haA]
      exact Int.mul_assoc _ _ _
    rw [h5] at h1
    have h6 := Int.mul_le_mul_of_nonneg_left (show (150000001 : Int) ≤ c.natAbs by omega) (show 0 ≤ A by omega)
    have h7 := Int.mul_le_mul_of_nonneg_left hA (show 0 ≤ A by omega)
    have h8 := Int.mul_le_mul_of_nonneg_left hB2 (show 0 ≤ A by omega)
    have h9 := Fk.sq_le hB hB2
    have e2 : (B + 2 * A) * (B + 2 * A) = B * B + 4 * (A * B) + 4 * (A * A) := by grind
    omega
theorem prod_ok {f g j p : Fc.Form} {B : Int} (hf : Fit f) (hg : Fit g) (hd : Fc.disc f = Fc.disc g) (Q : Prods f g j) (I : IsProd f g j p B) (h0 : 0 ≤ B) (hB : B ≤ 8192) : LeastOk p := by
  have hA : ((j.a.natAbs : Nat) : Int) ≤ 67108864 := by
    have h1 := Q.jle
    have h2 : (f.a.natAbs : Int) * g.a.natAbs ≤ 8192 * 8192 := Int.mul_le_mul (by have := hf.fa; omega) (by have := hg.fa; omega) (by omega) (by omega)
    omega
  have ja := Q.ja
  have hdp : Fc.disc p = Fc.disc f := by rw [← I.ej.disc, Q.hd]
  refine hf.ok.move hdp ?_ fun h1 h2 => ?_
  · have c := c_small (a := j.a) (A := (j.a.natAbs : Int)) (by omega) rfl hA I.pb h0 hB ⟨hf.lo, hf.hi⟩ I.pc
    have hb := I.pb
    have ha := I.pa
    rw [smF_iff]
    omega
  · rw [I.pa]
    refine Q.pos h2 ?_
    rcases hg.ok with k | k
    · exact k.2.2
    · have := k.2.1
      omega
theorem times_prog {f g : Fc.Form} (hf : Fit f) (hg : Fit g) (hd : Fc.disc f = Fc.disc g) : LeastOk (prodP f g) ∧ LeastOk (Fc.product f g) ∧ Fc.least (prodP f g) = Fc.times f g := by
  have h1 := hf.fa
  have h2 := hf.fb
  have h3 := hg.fb
  have hb : ((f.b + g.b) / 2).natAbs ≤ 8192 := by omega
  have e : 8192 < 2 ^ 90 := by decide
  obtain ⟨j, j', Q, Q', ej, I, I'⟩ := Fk.prods_same hd hf.ok.a0 hg.ok.a0 (by omega) (by omega)
  have k := prod_ok hf hg hd Q I (by omega) (by omega)
  have k' := prod_ok hf hg hd Q' I' (by omega) (by omega)
  exact ⟨k', k, least_same k' k (I'.ej.symm.trans (ej.symm.trans I.ej))⟩
/-- least forms are small -/
theorem small_of_a {f : Fc.Form} (hd : -20000 ≤ Fc.disc f ∧ Fc.disc f ≤ 20000) (h0 : f.a ≠ 0) (h1 : f.a.natAbs ≤ 100) (h2 : f.b.natAbs ≤ f.a.natAbs) : f.c.natAbs ≤ 8192 := by
  have e : f.b * f.b - Fc.disc f = 4 * f.a * f.c := by
    unfold Fc.disc
    grind
  by_cases k : f.c.natAbs ≤ 8192
  · exact k
  · exfalso
    have h3 := Fk.sq_le (x := (f.b.natAbs : Int)) (y := (f.a.natAbs : Int)) (by omega) (by omega)
    have h4 := Int.mul_le_mul_of_nonneg_left (show (f.a.natAbs : Int) ≤ 100 by omega) (show (0 : Int) ≤ f.a.natAbs by omega)
    have h5 : ((4 * f.a * f.c).natAbs : Int) = 4 * ((f.a.natAbs : Int) * f.c.natAbs) := by
      rw [Int.natAbs_mul, Int.natAbs_mul, Int.natCast_mul, Int.natCast_mul]
      exact Int.mul_assoc _ _ _
    have h6 := Int.mul_le_mul_of_nonneg_left (show (8193 : Int) ≤ f.c.natAbs by omega) (show (0 : Int) ≤ f.a.natAbs by omega)
    have h7 : (f.b.natAbs : Int) * f.b.natAbs = f.b * f.b := by
      rcases Fk.abs_cases f.b with q | q <;> rw [q]
      grind
    have h8 := Fk.sq_nonneg f.b
    rw [← e] at h5
    omega
theorem least_bounds {f : Fc.Form} (h : LeastOk f) (lo : -20000 ≤ Fc.disc f) : (Fc.least f).a ≠ 0 ∧ 3 * ((Fc.least f).a.natAbs * (Fc.least f).a.natAbs) ≤ (Fc.disc f).natAbs ∧ -((Fc.least f).a.natAbs : Int) < (Fc.least f).b ∧ (Fc.least f).b ≤ ((Fc.least f).a.natAbs : Int) ∧ (Fc.disc f < 0 → 0 < (Fc.least f).a) := by
  have he := least_eqv h
  rcases h with ⟨_, h1, h2⟩ | h
  · rw [least_neg h1]
    obtain ⟨⟨⟨l1, l2⟩, l3, l4⟩, p, _, _, _⟩ := Fk.down_spec h1 h2
    have r := Fk.red_disc ⟨⟨l1, l2⟩, l3, l4⟩ p
    have hd : Fc.disc (Fc.down f).1 = Fc.disc f := (Fk.down_eqv h1 h2).disc.symm
    generalize (Fc.down f).1 = g at *
    have m := Int.mul_le_mul_of_nonneg_left l3 (show 0 ≤ g.a by omega)
    have e : ((g.a.natAbs * g.a.natAbs : Nat) : Int) = g.a * g.a := by
      rw [Int.natCast_mul, show (g.a.natAbs : Int) = g.a by omega]
    exact ⟨by omega, by omega, by omega, by omega, fun _ => p⟩
  · obtain ⟨⟨x, hx, e⟩, hm⟩ := least_is h
    have hcx := (mem_circ h x).mp hx
    have hdx : Fc.disc x = Fc.disc f := hcx.2.disc.symm
    have hn := h.2.2.2
    have R := Fk.rt_of h.2.1 (by have := h.2.2.1; omega) hn
    have xa : x.a ≠ 0 := Fk.a_ne' (by rw [hdx]; exact hn)
    have cb := Fk.cb_bound xa
    have ea : (Fc.least f).a = x.a := by rw [e]; rfl
    have eb : (Fc.least f).b = Fk.cb x := by rw [e]; rfl
    have hpos := h.2.1
    refine ⟨by rw [ea]; exact xa, ?_, by rw [ea, eb]; exact cb.1, by rw [ea, eb]; exact cb.2, fun z => by omega⟩
    obtain ⟨hneg, hdd⟩ := Fk.red_neg R hdx hcx.1
    -- the next one's first coefficient is this one's last
    have hnx : Fc.next (Fc.rootOf (Fc.disc f).toNat : Int) (Fc.disc f) x ∈ circ f := by
      refine (mem_circ h _).mpr ⟨Fk.red_next R hn hdx hcx.1, ?_⟩
      have := Fk.eqv_next (w := (Fc.rootOf (Fc.disc f).toNat : Int)) (f := x) (Fk.c_ne (by rw [hdx]; exact hn))
      rw [hdx] at this
      exact hcx.2.trans this
    have hb := hm _ hnx
    have hle : (Fc.least f).a.natAbs ≤ x.c.natAbs := by
      by_cases c : (Fc.least f).a.natAbs ≤ x.c.natAbs
      · exact c
      · have : Fc.before (Fc.centred (Fc.disc f) (Fc.next (Fc.rootOf (Fc.disc f).toNat : Int) (Fc.disc f) x)) (Fc.least f) = true := Fk.before_iff.mpr (.inl (by show x.c.natAbs < _; omega))
        rw [hb] at this
        cases this
    rw [ea] at hle ⊢
    have m : x.a.natAbs * x.a.natAbs ≤ x.a.natAbs * x.c.natAbs := Nat.mul_le_mul_left _ hle
    have e2 : ((x.a.natAbs * x.c.natAbs : Nat) : Int) = (x.a.natAbs : Int) * x.c.natAbs := Int.natCast_mul _ _
    have e3 := Fk.sq_nonneg x.b
    omega
theorem least_fits {f : Fc.Form} (h : LeastOk f) (lo : -20000 ≤ Fc.disc f) : Fit (Fc.least f) ∧ (Fc.least f).c.natAbs ≤ 8192 ∧ Fc.disc (Fc.least f) = Fc.disc f := by
  have hd := (least_eqv h).disc
  obtain ⟨b1, b2, b3, b4, b5⟩ := least_bounds h lo
  have hi : Fc.disc f ≤ 20000 := by
    rcases h with k | k
    · omega
    · exact k.2.2.1
  have ha : (Fc.least f).a.natAbs ≤ 100 := by
    by_cases c : (Fc.least f).a.natAbs ≤ 100
    · exact c
    · exfalso
      have := Nat.mul_le_mul (show 101 ≤ (Fc.least f).a.natAbs by omega) (show 101 ≤ (Fc.least f).a.natAbs by omega)
      omega
  have hc := small_of_a (f := Fc.least f) (by omega) b1 ha (by omega)
  have hs : SmF (Fc.least f) := by
    rw [smF_iff]
    omega
  exact ⟨⟨h.move hd.symm hs fun h1 _ => b5 h1, by omega, by omega, by omega⟩, hc, hd.symm⟩
theorem fit_may {f : Fc.Form} (h : Wrform.may f = true) : Fit f := by
  obtain ⟨_, h2, _, h4, _⟩ := may_ok h
  have hf : fits f.a f.b f.c = true := by
    unfold Wrform.may at h
    rw [Bool.and_eq_true] at h
    exact h.1
  have := fits_iff.mp hf
  exact ⟨h2, (disc_facts h4).1.1, by omega, by omega⟩
end Fkw

set_option Elab.async false
set_option linter.all false
/-! The classes of a discriminant: as the program finds them, as the specification lists them. -/
namespace Fkw
open Fk (Eqv RedI Rt itn)
/-! ### the reduced forms -/
def candF (d a b : Int) : Fc.Form := ⟨a, b, (b * b - d) / (4 * a)⟩
theorem cand_disc {d a b : Int} (h : (b * b - d) % (4 * a) = 0) : Fc.disc (candF d a b) = d := by
  have := Int.mul_ediv_cancel' (Int.dvd_of_emod_eq_zero h)
  have e : Fc.disc (candF d a b) = b * b - 4 * a * ((b * b - d) / (4 * a)) := rfl
  omega
theorem cand_of {f : Fc.Form} (ha : f.a ≠ 0) : f = candF (Fc.disc f) f.a f.b ∧ (f.b * f.b - Fc.disc f) % (4 * f.a) = 0 := by
  have e : f.b * f.b - Fc.disc f = 4 * f.a * f.c := by
    unfold Fc.disc
    grind
  constructor
  · refine Fk.form_ext rfl rfl ?_
    show f.c = (f.b * f.b - Fc.disc f) / (4 * f.a)
    rw [e, Int.mul_ediv_cancel_left _ (by omega)]
  · rw [e]
    exact Int.mul_emod_right _ _
def cellA (d a b : Int) : List Fc.Form := if (b * b - d) % (4 * a) = 0 ∧ (a ≤ (candF d a b).c ∧ (a < (candF d a b).c ∨ 0 ≤ b) ∧ Fc.plain (candF d a b) = true) then [candF d a b] else []
def rowA (d a : Int) : List Fc.Form := (List.range (a + 1 - (1 - a)).toNat).flatMap fun (j : Nat) => cellA d a (1 - a + (j : Int))
def topA (d : Int) : Int := Fk.rootI ((0 - d).fdiv 3)
def FA (d : Int) : List Fc.Form := (List.range (topA d + 1 - 1).toNat).flatMap fun (i : Nat) => rowA d (1 + (i : Int))
def pickB (w d b x : Int) : List Fc.Form := if Fc.reduced w (candF d x b) = true ∧ Fc.plain (candF d x b) = true then [candF d x b] else []
def cellB (w d b a : Int) : List Fc.Form := if (b * b - d) % (4 * a) = 0 then pickB w d b a ++ pickB w d b (0 - a) else []
def rowB (w d b : Int) : List Fc.Form := (List.range (w + 1 - 1).toNat).flatMap fun (j : Nat) => cellB w d b (1 + (j : Int))
def FB (w d : Int) : List Fc.Form := (List.range (w + 1 - 1).toNat).flatMap fun (i : Nat) => rowB w d (1 + (i : Int))
def setF (d : Int) : List Fc.Form := if 0 < d then FB (Fc.rootOf d.toNat : Int) d else FA d
theorem topA_root {d : Int} (hd : d < 0) (lo : -20000 ≤ d) : 0 ≤ topA d ∧ topA d ≤ 81 ∧ 3 * (topA d * topA d) ≤ -d ∧ ∀ x : Int, 0 ≤ x → 3 * (x * x) ≤ -d → x ≤ topA d := by
  have e : (0 - d).fdiv 3 = (-d) / 3 := by
    rw [Int.zero_sub]
    exact Int.fdiv_eq_ediv_of_nonneg _ (by decide)
  have h0 : 0 ≤ (-d) / 3 := by omega
  unfold topA
  rw [e, Fk.rootI_nn h0]
  obtain ⟨r1, r2⟩ := Fk.rootOf_root (n := ((-d) / 3).toNat) (Nat.lt_of_lt_of_le (show ((-d) / 3).toNat < 2 ^ 58 by omega) (Nat.pow_le_pow_right (by decide) (by decide)))
  generalize Fc.rootOf ((-d) / 3).toNat = r at *
  have c1 : ((r * r : Nat) : Int) = (r : Int) * r := Int.natCast_mul _ _
  have c2 : (((r + 1) * (r + 1) : Nat) : Int) = ((r : Int) + 1) * ((r : Int) + 1) := by
    rw [Int.natCast_mul]
    rfl
  have hle : (r : Int) * r ≤ (-d) / 3 := by omega
  refine ⟨by omega, ?_, by omega, fun x hx h => ?_⟩
  · by_cases c : (r : Int) ≤ 81
    · exact c
    · exfalso
      have := Fk.sq_le (x := 82) (y := (r : Int)) (by omega) (by omega)
      omega
  · have hlt : x * x < ((r : Int) + 1) * ((r : Int) + 1) := by omega
    have := Fk.lt_sq (x := x) (y := (r : Int) + 1) (by omega) hlt
    omega
/-- a form of the discriminant, whose class is told -/
structure Good (d : Int) (f : Fc.Form) : Prop where
  ok : LeastOk f
  hd : Fc.disc f = d
  pl : Fc.plain f = true
theorem mem_FA {d : Int} (hd : d < 0) (lo : -20000 ≤ d) {f : Fc.Form} (h : f ∈ FA d) : Good d f := by
  obtain ⟨t0, t1, t2, _⟩ := topA_root hd lo
  obtain ⟨i, hi, h⟩ := List.mem_flatMap.mp h
  obtain ⟨j, hj, h⟩ := List.mem_flatMap.mp h
  rw [List.mem_range] at hi hj
  unfold cellA at h
  split at h
  · rename_i c
    obtain ⟨c1, c2, c3, c4⟩ := c
    have hf := List.mem_singleton.mp h
    subst hf
    have hdd := cand_disc c1
    have hb : ((1 - (1 + (i : Int)) + (j : Int)).natAbs) ≤ (1 + (i : Int)).natAbs := by omega
    refine ⟨.inl ⟨?_, by omega, by show 0 < 1 + (i : Int); omega⟩, hdd, c4⟩
    have := small_of_a (f := candF d (1 + (i : Int)) (1 - (1 + (i : Int)) + (j : Int))) (by omega) (by show 1 + (i : Int) ≠ 0; omega) (by show (1 + (i : Int)).natAbs ≤ 100; omega) hb
    rw [smF_iff]
    refine ⟨by show (1 + (i : Int)).natAbs ≤ _; omega, by show (1 - (1 + (i : Int)) + (j : Int)).natAbs ≤ _; omega, by omega⟩
  · exact absurd h List.not_mem_nil
theorem FA_mem {d : Int} (hd : d < 0) (lo : -20000 ≤ d) {f : Fc.Form} (hf : Fc.disc f = d) (ha : 0 < f.a) (hr : Fk.Red f) (hp : Fc.plain f = true) : f ∈ FA d := by
  obtain ⟨t0, t1, t2, t3⟩ := topA_root hd lo
  have hrd := Fk.red_disc hr ha
  obtain ⟨⟨l1, l2⟩, l3, l4⟩ := hr
  have hle : f.a ≤ topA d := by
    refine t3 f.a (by omega) ?_
    have := Int.mul_le_mul_of_nonneg_left l3 (show 0 ≤ f.a by omega)
    omega
  obtain ⟨e1, e2⟩ := cand_of (f := f) (by omega)
  rw [hf] at e1 e2
  refine List.mem_flatMap.mpr ⟨(f.a - 1).toNat, List.mem_range.mpr (by omega), List.mem_flatMap.mpr ⟨(f.b - 1 + f.a).toNat, List.mem_range.mpr (by omega), ?_⟩⟩
  have ea : 1 + ((f.a - 1).toNat : Int) = f.a := by omega
  have eb : 1 - f.a + ((f.b - 1 + f.a).toNat : Int) = f.b := by omega
  rw [ea, eb]
  unfold cellA
  rw [← e1, if_pos ⟨e2, l3, by
    by_cases c : f.a = f.c
    · exact .inr (l4 c)
    · exact .inl (by omega), hp⟩]
  exact .head _
theorem mem_pickB {w d b x : Int} {f : Fc.Form} (h : f ∈ pickB w d b x) : f = candF d x b ∧ RedI w f ∧ Fc.plain f = true := by
  unfold pickB at h
  split at h
  · rename_i c
    have hf := List.mem_singleton.mp h
    subst hf
    exact ⟨rfl, Fk.reduced_iff.mp c.1, c.2⟩
  · exact absurd h List.not_mem_nil
theorem mem_FB {w d : Int} (R : Rt d w) (hn : ∀ r : Int, r * r ≠ d) (h0 : 0 < d) (h20 : d ≤ 20000) {f : Fc.Form} (h : f ∈ FB w d) : Good d f ∧ RedI w f := by
  have hw := Fk.w_le R h20
  obtain ⟨i, hi, h⟩ := List.mem_flatMap.mp h
  obtain ⟨j, hj, h⟩ := List.mem_flatMap.mp h
  rw [List.mem_range] at hi hj
  unfold cellB at h
  split at h
  · rename_i c
    obtain ⟨x, hx, hf, hr, hp⟩ : ∃ x : Int, (x = 1 + (j : Int) ∨ x = 0 - (1 + (j : Int))) ∧ f = candF d x (1 + (i : Int)) ∧ RedI w f ∧ Fc.plain f = true := by
      rcases List.mem_append.mp h with h | h
      · obtain ⟨h1, h2, h3⟩ := mem_pickB h
        exact ⟨_, .inl rfl, h1, h2, h3⟩
      · obtain ⟨h1, h2, h3⟩ := mem_pickB h
        exact ⟨_, .inr rfl, h1, h2, h3⟩
    have hdv : ((1 + (i : Int)) * (1 + (i : Int)) - d) % (4 * x) = 0 := by
      rcases hx with rfl | rfl
      · exact c
      · rw [show 4 * (0 - (1 + (j : Int))) = -(4 * (1 + (j : Int))) by omega, Int.emod_neg]
        exact c
    have hdd : Fc.disc f = d := by
      rw [hf]
      exact cand_disc hdv
    have s := Fk.red_sym R hn hdd hr
    have a1 := hr.hi
    have a2 := hr.bw
    have a3 := hr.b0
    exact ⟨⟨.inr ⟨by rw [smF_iff]; omega, by omega, by omega, by rw [hdd]; exact hn⟩, hdd, hp⟩, hr⟩
  · exact absurd h List.not_mem_nil
theorem FB_mem {w d : Int} (R : Rt d w) (hn : ∀ r : Int, r * r ≠ d) {f : Fc.Form} (hd : Fc.disc f = d) (hr : RedI w f) (hp : Fc.plain f = true) : f ∈ FB w d := by
  have a1 := hr.hi
  have a2 := hr.bw
  have a3 := hr.b0
  have ha : f.a ≠ 0 := Fk.a_ne' (by rw [hd]; exact hn)
  obtain ⟨e1, e2⟩ := cand_of (f := f) ha
  rw [hd] at e1 e2
  refine List.mem_flatMap.mpr ⟨(f.b - 1).toNat, List.mem_range.mpr (by omega), List.mem_flatMap.mpr ⟨f.a.natAbs - 1, List.mem_range.mpr (by omega), ?_⟩⟩
  have eb : 1 + ((f.b - 1).toNat : Int) = f.b := by omega
  rw [eb]
  have hk : ∀ x : Int, x = f.a → f ∈ pickB w d f.b x := fun x hx => by
    rw [hx]
    unfold pickB
    rw [← e1, if_pos ⟨Fk.reduced_iff.mpr hr, hp⟩]
    exact .head _
  unfold cellB
  rcases Fk.abs_cases f.a with c | c
  · have ea : 1 + ((f.a.natAbs - 1 : Nat) : Int) = f.a := by omega
    rw [ea, if_pos e2]
    exact List.mem_append.mpr (.inl (hk _ rfl))
  · have ea : 1 + ((f.a.natAbs - 1 : Nat) : Int) = -f.a := by omega
    rw [ea, if_pos (by rw [show 4 * -f.a = -(4 * f.a) by omega, Int.emod_neg]; exact e2)]
    exact List.mem_append.mpr (.inr (hk _ (by omega)))
end Fkw

set_option Elab.async false
set_option linter.all false
namespace Fkw
open Fk (Eqv RedI Rt itn)
open PySem.W (dataLt dataLe)
/-! ### rows that rise strictly -/
def Up (l : List Fc.Form) : Prop := l.Pairwise fun f g => Fc.before f g = true
theorem up_eq : ∀ {l m : List Fc.Form}, Up l → Up m → (∀ x, x ∈ l ↔ x ∈ m) → l = m
  | [], [], _, _, _ => rfl
  | [], y :: m, _, _, h => absurd ((h y).mpr (.head _)) List.not_mem_nil
  | x :: l, [], _, _, h => absurd ((h x).mp (.head _)) List.not_mem_nil
  | x :: l, y :: m, hl, hm, h => by
    obtain ⟨l1, l2⟩ := List.pairwise_cons.mp hl
    obtain ⟨m1, m2⟩ := List.pairwise_cons.mp hm
    have e : x = y := by
      rcases List.mem_cons.mp ((h x).mp (.head _)) with e | hx
      · exact e
      · rcases List.mem_cons.mp ((h y).mpr (.head _)) with e | hy
        · exact e.symm
        · have a := m1 x hx
          have b := l1 y hy
          rw [before_asy a] at b
          cases b
    subst e
    have irr : ∀ {k : List Fc.Form}, (∀ z ∈ k, Fc.before x z = true) → x ∉ k := fun h hx => by
      have := h x hx
      rw [Fk.before_irrefl] at this
      cases this
    rw [up_eq l2 m2 fun z => ?_]
    have hz := h z
    rw [List.mem_cons, List.mem_cons] at hz
    constructor
    · intro q
      rcases hz.mp (.inr q) with e | q2
      · rw [e] at q
        exact absurd q (irr l1)
      · exact q2
    · intro q
      rcases hz.mpr (.inr q) with e | q2
      · rw [e] at q
        exact absurd q (irr m1)
      · exact q2
theorem mem_insert {f x : Fc.Form} : ∀ {l : List Fc.Form}, x ∈ Fc.insertF f l ↔ x = f ∨ x ∈ l
  | [] => by
    show x ∈ [f] ↔ _
    simp
  | g :: l => by
    unfold Fc.insertF
    split
    · rw [List.mem_cons]
    · rw [List.mem_cons, mem_insert, List.mem_cons]
      constructor
      · rintro (h | h | h)
        · exact .inr (.inl h)
        · exact .inl h
        · exact .inr (.inr h)
      · rintro (h | h | h)
        · exact .inr (.inl h)
        · exact .inl h
        · exact .inr (.inr h)
theorem up_insert {f : Fc.Form} : ∀ {l : List Fc.Form}, Up l → (∀ g ∈ l, Fc.before f g = true ∨ Fc.before g f = true) → Up (Fc.insertF f l)
  | [], _, _ => List.pairwise_singleton _ _
  | g :: l, h, ht => by
    obtain ⟨h1, h2⟩ := List.pairwise_cons.mp h
    unfold Fc.insertF
    by_cases c : Fc.before f g = true
    · rw [if_pos c]
      refine List.pairwise_cons.mpr ⟨fun x hx => ?_, h⟩
      rcases List.mem_cons.mp hx with e | hx
      · rw [e]
        exact c
      · exact Fk.before_trans c (h1 x hx)
    · rw [if_neg c]
      refine List.pairwise_cons.mpr ⟨fun x hx => ?_, up_insert h2 fun z hz => ht z (.tail _ hz)⟩
      rcases mem_insert.mp hx with e | hx
      · rw [e]
        rcases ht g (.head _) with q | q
        · exact absurd q c
        · exact q
      · exact h1 x hx
theorem up_fold : ∀ (l acc : List Fc.Form), Up acc → l.Pairwise (fun f g => Fc.before f g = true ∨ Fc.before g f = true) → (∀ f ∈ l, ∀ g ∈ acc, Fc.before f g = true ∨ Fc.before g f = true) →
    Up (l.foldl (fun l f => Fc.insertF f l) acc) ∧ ∀ x, x ∈ l.foldl (fun l f => Fc.insertF f l) acc ↔ x ∈ l ∨ x ∈ acc
  | [], acc, h, _, _ => ⟨h, fun x => by simp⟩
  | f :: l, acc, h, hp, ht => by
    obtain ⟨p1, p2⟩ := List.pairwise_cons.mp hp
    obtain ⟨a, b⟩ := up_fold l (Fc.insertF f acc) (up_insert h (ht f (.head _))) p2 fun x hx g hg => by
      rcases mem_insert.mp hg with e | hg
      · rw [e]
        exact (p1 x hx).symm
      · exact ht x (.tail _ hx) g hg
    refine ⟨a, fun x => ?_⟩
    show x ∈ l.foldl _ (Fc.insertF f acc) ↔ _
    rw [b x, mem_insert, List.mem_cons]
    constructor
    · rintro (h | h | h)
      · exact .inl (.inr h)
      · exact .inl (.inl h)
      · exact .inr h
    · rintro ((h | h) | h)
      · exact .inr (.inl h)
      · exact .inl h
      · exact .inr (.inr h)
theorem before_or {f g : Fc.Form} (hd : Fc.disc f = Fc.disc g) (ha : g.a ≠ 0) (hn : f ≠ g) : Fc.before f g = true ∨ Fc.before g f = true := by
  by_cases c : Fc.before f g = true
  · exact .inl c
  · by_cases c2 : Fc.before g f = true
    · exact .inr c2
    · exfalso
      obtain ⟨h1, h2⟩ := Fk.before_total (before_f.mpr c) (before_f.mpr c2)
      refine hn (Fk.form_ext h1 h2 ?_)
      unfold Fc.disc at hd
      rw [h1, h2] at hd
      have : (4 * g.a) * f.c = (4 * g.a) * g.c := by omega
      exact Int.eq_of_mul_eq_mul_left (by omega) this
/-! ### the specification's row -/
theorem classy_good {d : Int} (hd : Fc.isDisc d = true) {f : Fc.Form} (h : Fc.classy f = true) (e : Fc.disc f = d) : Fc.plain f = true ∧ (d < 0 → 0 < f.a) := by
  unfold Fc.classy Fc.above Fc.both at h
  simp only [Bool.and_eq_true, Bool.or_eq_true, decide_eq_true_eq] at h
  exact ⟨h.1, fun z => by omega⟩
theorem good_classy {d : Int} (hd : Fc.isDisc d = true) {f : Fc.Form} (h : Good d f) : Fc.classy f = true := by
  unfold Fc.classy Fc.above Fc.both
  rw [h.pl, h.hd, hd]
  obtain ⟨_, _, hn, h0⟩ := disc_facts hd
  rcases h.ok with k | k
  · rw [h.hd] at k
    simp [k.2.1, k.2.2]
  · have := k.2.1
    rw [h.hd] at this
    simp [this]
theorem good_least {d : Int} (hd : Fc.isDisc d = true) {f : Fc.Form} (h : Good d f) : Good d (Fc.least f) ∧ Fc.least (Fc.least f) = Fc.least f := by
  obtain ⟨h20, _, hn, h0⟩ := disc_facts hd
  have lo : -20000 ≤ Fc.disc f := by
    rw [h.hd]
    exact h20.1
  obtain ⟨k1, k2, k3⟩ := least_fits h.ok lo
  have he := least_eqv h.ok
  refine ⟨⟨k1.ok, by rw [k3, h.hd], ?_⟩, (least_same h.ok k1.ok he).symm⟩
  obtain ⟨p1, p2⟩ := Fk.plain_iff.mp h.pl
  exact Fk.plain_iff.mpr ⟨by rw [← he.content]; exact p1, by rw [← he.disc]; exact p2⟩
/-- the least forms of all classes -/
def IsLeast (d : Int) (x : Fc.Form) : Prop := Good d x ∧ Fc.least x = x
theorem set_mem {d : Int} (hd : Fc.isDisc d = true) (x : Fc.Form) : (∃ f ∈ setF d, x = Fc.least f) ↔ IsLeast d x := by
  obtain ⟨h20, _, hn, h0⟩ := disc_facts hd
  unfold setF
  by_cases c : 0 < d
  · rw [if_pos c]
    have R := Fk.rt_of c (by omega) hn
    constructor
    · rintro ⟨f, hf, rfl⟩
      exact good_least hd (mem_FB R hn c h20.2 hf).1
    · rintro ⟨hx, he⟩
      rcases hx.ok with k | k
      · have := k.2.1
        rw [hx.hd] at this
        omega
      · obtain ⟨y, l, hyl⟩ : ∃ y l, circ x = y :: l := by
          cases q : circ x with
          | nil => exact absurd q (circ_ne k)
          | cons y l => exact ⟨y, l, rfl⟩
        have hy : y ∈ circ x := by
          rw [hyl]
          exact .head _
        obtain ⟨r1, r2⟩ := (mem_circ k y).mp hy
        rw [hx.hd] at r1
        have hdy : Fc.disc y = d := by rw [← r2.disc, hx.hd]
        obtain ⟨p1, p2⟩ := Fk.plain_iff.mp hx.pl
        have hpy : Fc.plain y = true := Fk.plain_iff.mpr ⟨by rw [← r2.content]; exact p1, by rw [← r2.disc]; exact p2⟩
        have hyF := FB_mem R hn hdy r1 hpy
        refine ⟨y, hyF, ?_⟩
        rw [← he]
        exact least_same hx.ok (mem_FB R hn c h20.2 hyF).1.ok r2
  · rw [if_neg c]
    have hneg : d < 0 := by omega
    constructor
    · rintro ⟨f, hf, rfl⟩
      exact good_least hd (mem_FA hneg h20.1 hf)
    · rintro ⟨hx, he⟩
      refine ⟨x, ?_, he.symm⟩
      have ha : 0 < x.a := by
        rcases hx.ok with k | k
        · exact k.2.2
        · have := k.2.1
          rw [hx.hd] at this
          omega
      refine FA_mem hneg h20.1 hx.hd ha ?_ hx.pl
      rw [least_neg (by rw [hx.hd]; exact hneg)] at he
      rw [← he]
      exact (Fk.down_spec (by rw [hx.hd]; exact hneg) ha).1
theorem specRow {d : Int} (hd : Fc.isDisc d = true) : Up (Fc.classes d) ∧ ∀ x, x ∈ Fc.classes d ↔ IsLeast d x := by
  obtain ⟨h20, _, hn, h0⟩ := disc_facts hd
  have e : Fc.classes d = (((((List.range (Fc.rootOf (d.natAbs / 3) + 1)).flatMap fun k => [((k + 1 : Nat) : Int), -((k + 1 : Nat) : Int)]).flatMap fun (a : Int) => (List.range (2 * a.natAbs)).filterMap fun (i : Nat) =>
      if (((i : Int) + 1 - (a.natAbs : Int)) * ((i : Int) + 1 - (a.natAbs : Int)) - d) % (4 * a) = 0 then some (candF d a ((i : Int) + 1 - (a.natAbs : Int))) else none).filter fun f => Fc.classy f && Fc.alike (Fc.least f) f).foldl (fun l f => Fc.insertF f l) []) := rfl
  rw [e]
  generalize hfs : (((List.range (Fc.rootOf (d.natAbs / 3) + 1)).flatMap fun k => [((k + 1 : Nat) : Int), -((k + 1 : Nat) : Int)]).flatMap fun (a : Int) => (List.range (2 * a.natAbs)).filterMap fun (i : Nat) =>
      if (((i : Int) + 1 - (a.natAbs : Int)) * ((i : Int) + 1 - (a.natAbs : Int)) - d) % (4 * a) = 0 then some (candF d a ((i : Int) + 1 - (a.natAbs : Int))) else none) = fs
  have hm : ∀ x, x ∈ fs ↔ ∃ (a : Int) (i : Nat), (∃ k, k < Fc.rootOf (d.natAbs / 3) + 1 ∧ (a = ((k + 1 : Nat) : Int) ∨ a = -((k + 1 : Nat) : Int))) ∧ i < 2 * a.natAbs ∧ (((i : Int) + 1 - (a.natAbs : Int)) * ((i : Int) + 1 - (a.natAbs : Int)) - d) % (4 * a) = 0 ∧ x = candF d a ((i : Int) + 1 - (a.natAbs : Int)) := fun x => by
    rw [← hfs]
    constructor
    · intro h
      obtain ⟨a, ha, h⟩ := List.mem_flatMap.mp h
      obtain ⟨k, hk, ha⟩ := List.mem_flatMap.mp ha
      obtain ⟨i, hi, h⟩ := List.mem_filterMap.mp h
      rw [List.mem_range] at hk hi
      split at h
      · rename_i c
        refine ⟨a, i, ⟨k, hk, ?_⟩, hi, c, (Option.some.inj h).symm⟩
        simpa using ha
      · cases h
    · rintro ⟨a, i, ⟨k, hk, ha⟩, hi, c, rfl⟩
      refine List.mem_flatMap.mpr ⟨a, List.mem_flatMap.mpr ⟨k, List.mem_range.mpr hk, by simpa using ha⟩, List.mem_filterMap.mpr ⟨i, List.mem_range.mpr hi, ?_⟩⟩
      rw [if_pos c]
  have hdisc : ∀ x ∈ fs, Fc.disc x = d ∧ x.a ≠ 0 := fun x hx => by
    obtain ⟨a, i, ⟨k, hk, ha⟩, hi, c, rfl⟩ := (hm x).mp hx
    exact ⟨cand_disc c, by show a ≠ 0; omega⟩
  have hnd : fs.Pairwise fun f g => f ≠ g := by
    rw [← hfs]
    refine List.pairwise_flatMap.mpr ⟨fun a _ => ?_, ?_⟩
    · refine List.pairwise_filterMap.mpr (List.nodup_range.imp fun {i j} hij b hb b' hb' e => ?_)
      split at hb <;> split at hb'
      · have e1 := Option.some.inj hb
        have e2 := Option.some.inj hb'
        rw [← e1, ← e2] at e
        have : (i : Int) + 1 - (a.natAbs : Int) = (j : Int) + 1 - (a.natAbs : Int) := congrArg Fc.Form.b e
        exact hij (by omega)
      · cases hb'
      · cases hb
      · cases hb
    · have h1 : ((List.range (Fc.rootOf (d.natAbs / 3) + 1)).flatMap fun k => [((k + 1 : Nat) : Int), -((k + 1 : Nat) : Int)]).Pairwise fun x y => x ≠ y := by
        refine List.pairwise_flatMap.mpr ⟨fun k _ => ?_, List.nodup_range.imp fun {i j} hij x hx y hy e => ?_⟩
        · refine List.pairwise_cons.mpr ⟨fun y hy => ?_, List.pairwise_singleton _ _⟩
          rw [List.mem_singleton] at hy
          omega
        · simp only [List.mem_cons, List.not_mem_nil, or_false] at hx hy
          omega
      refine h1.imp fun {a b} hab x hx y hy e => ?_
      obtain ⟨i, _, hx⟩ := List.mem_filterMap.mp hx
      obtain ⟨j, _, hy⟩ := List.mem_filterMap.mp hy
      split at hx <;> split at hy
      · have e1 := Option.some.inj hx
        have e2 := Option.some.inj hy
        rw [← e1, ← e2] at e
        exact hab (congrArg Fc.Form.a e)
      · cases hy
      · cases hx
      · cases hx
  have hp : (fs.filter fun f => Fc.classy f && Fc.alike (Fc.least f) f).Pairwise fun f g => Fc.before f g = true ∨ Fc.before g f = true := by
    refine List.Pairwise.filter _ ?_
    refine List.Pairwise.imp_of_mem (R := fun f g => f ≠ g) ?_ hnd
    intro f g hf hg hne
    exact before_or (by rw [(hdisc f hf).1, (hdisc g hg).1]) (hdisc g hg).2 hne
  obtain ⟨u1, u2⟩ := up_fold _ [] List.Pairwise.nil hp fun f _ g hg => absurd hg List.not_mem_nil
  refine ⟨u1, fun x => ?_⟩
  rw [u2 x, List.mem_filter]
  constructor
  · rintro (⟨h1, h2⟩ | h)
    · rw [Bool.and_eq_true] at h2
      have hxd := (hdisc x h1).1
      obtain ⟨c1, c2⟩ := classy_good hd h2.1 hxd
      have he := Fk.alike_iff.mp h2.2
      have hok : LeastOk x := by
        refine leastOk_of ?_ (by rw [hxd]; exact hd) fun z => c2 (by rw [← hxd]; exact z)
        obtain ⟨a, i, ⟨k, hk, ha⟩, hi, c, e⟩ := (hm x).mp h1
        have hr := Fk.rootOf_root (n := d.natAbs / 3) (Nat.lt_of_lt_of_le (show d.natAbs / 3 < 2 ^ 58 by omega) (Nat.pow_le_pow_right (by decide) (by decide)))
        have hk2 : k ≤ 81 := by
          by_cases q : k ≤ 81
          · exact q
          · exfalso
            have := Nat.mul_le_mul (show 82 ≤ Fc.rootOf (d.natAbs / 3) by omega) (show 82 ≤ Fc.rootOf (d.natAbs / 3) by omega)
            have := hr.1
            omega
        have hxa : x.a = a := congrArg Fc.Form.a e
        have hxb : x.b = (i : Int) + 1 - (a.natAbs : Int) := congrArg Fc.Form.b e
        have := small_of_a (f := x) (by omega) (by omega) (by omega) (by omega)
        rw [smF_iff]
        omega
      exact ⟨⟨hok, hxd, c1⟩, he⟩
    · exact absurd h List.not_mem_nil
  · rintro ⟨hg, he⟩
    left
    refine ⟨?_, ?_⟩
    · obtain ⟨b1, b2, b3, b4, b5⟩ := least_bounds hg.ok (by rw [hg.hd]; exact h20.1)
      rw [he, hg.hd] at *
      have hr := Fk.rootOf_root (n := d.natAbs / 3) (Nat.lt_of_lt_of_le (show d.natAbs / 3 < 2 ^ 58 by omega) (Nat.pow_le_pow_right (by decide) (by decide)))
      have hle : x.a.natAbs ≤ Fc.rootOf (d.natAbs / 3) := by
        by_cases q : x.a.natAbs ≤ Fc.rootOf (d.natAbs / 3)
        · exact q
        · exfalso
          have := Nat.mul_le_mul (show Fc.rootOf (d.natAbs / 3) + 1 ≤ x.a.natAbs by omega) (show Fc.rootOf (d.natAbs / 3) + 1 ≤ x.a.natAbs by omega)
          have := hr.2
          omega
      obtain ⟨e1, e2⟩ := cand_of b1
      rw [hg.hd] at e1 e2
      have eb : ((x.b - 1 + (x.a.natAbs : Int)).toNat : Int) + 1 - (x.a.natAbs : Int) = x.b := by omega
      refine (hm x).mpr ⟨x.a, (x.b - 1 + (x.a.natAbs : Int)).toNat, ⟨x.a.natAbs - 1, by omega, by omega⟩, by omega, ?_, ?_⟩
      · rw [eb]
        exact e2
      · rw [eb]
        exact e1
    · rw [good_classy hd hg, he, Fk.alike_iff.mpr rfl]
      rfl
end Fkw

set_option Elab.async false
set_option linter.all false
namespace Fkw
open PySem PySem.Spec PyProof.Rows L2 Evl
open PySem.W (dataLt dataLe)
def toL (f : Fc.Form) : List Int := [f.a, f.b, f.c]
def ofL : List Int → Fc.Form
  | [a, b, c] => ⟨a, b, c⟩
  | _ => ⟨0, 0, 0⟩
theorem ofL_toL (f : Fc.Form) : ofL (toL f) = f := rfl
def keysP (d : Int) : List (List Int) := firsts ((setF d).map fun f => toL (Fc.least f))
def placeL (k : List Int) : PyData := dPl (ofL k)
theorem firsts_go {α : Type} [DecidableEq α] : ∀ (l acc : List α), acc.Nodup → (l.foldl (fun acc k => if k ∈ acc then acc else acc ++ [k]) acc).Nodup ∧ ∀ x, x ∈ l.foldl (fun acc k => if k ∈ acc then acc else acc ++ [k]) acc ↔ x ∈ acc ∨ x ∈ l
  | [], acc, h => ⟨h, fun x => by simp⟩
  | k :: l, acc, h => by
    by_cases c : k ∈ acc
    · obtain ⟨a, b⟩ := firsts_go l acc h
      rw [List.foldl_cons, if_pos c]
      refine ⟨a, fun x => ?_⟩
      rw [b x, List.mem_cons]
      constructor
      · rintro (q | q)
        · exact .inl q
        · exact .inr (.inr q)
      · rintro (q | q | q)
        · exact .inl q
        · rw [q]
          exact .inl c
        · exact .inr q
    · have hn : (acc ++ [k]).Nodup := List.nodup_append.mpr ⟨h, by simp, fun a ha b hb e => by
        rw [List.mem_singleton] at hb
        rw [e, hb] at ha
        exact c ha⟩
      obtain ⟨a, b⟩ := firsts_go l (acc ++ [k]) hn
      rw [List.foldl_cons, if_neg c]
      refine ⟨a, fun x => ?_⟩
      rw [b x, List.mem_append, List.mem_singleton, List.mem_cons, or_assoc]
theorem firsts_nodup {α : Type} [DecidableEq α] (l : List α) : (firsts l).Nodup := (firsts_go l [] List.nodup_nil).1
theorem firsts_mem {α : Type} [DecidableEq α] (l : List α) (x : α) : x ∈ firsts l ↔ x ∈ l := by
  have := (firsts_go l [] List.nodup_nil).2 x
  rw [show firsts l = l.foldl (fun acc k => if k ∈ acc then acc else acc ++ [k]) [] from rfl, this]
  simp
theorem keys_form {d : Int} {k : List Int} (h : k ∈ keysP d) : ∃ f ∈ setF d, k = toL (Fc.least f) := by
  obtain ⟨f, hf, e⟩ := List.mem_map.mp ((firsts_mem _ _).mp h)
  exact ⟨f, hf, e.symm⟩
theorem rowP {d : Int} (hd : Fc.isDisc d = true) : ((((keysP d).map dTu).zip ((keysP d).map placeL)).mergeSort (dataLe false (·.2))).map (·.1) = (Fc.classes d).map dFm := by
  -- the forms of the keys
  obtain ⟨_, _, hn, h0⟩ := disc_facts hd
  have hk : keysP d = ((keysP d).map ofL).map toL := by
    rw [List.map_map]
    conv => lhs; rw [← List.map_id (keysP d)]
    refine List.map_congr_left fun k h => ?_
    obtain ⟨f, _, e⟩ := keys_form h
    rw [e]
    rfl
  have hnd := firsts_nodup ((setF d).map fun f => toL (Fc.least f))
  have hmem : ∀ x, x ∈ (keysP d).map ofL ↔ IsLeast d x := fun x => by
    rw [← set_mem hd]
    constructor
    · intro h
      obtain ⟨k, hk, e⟩ := List.mem_map.mp h
      obtain ⟨f, hf, e2⟩ := keys_form hk
      exact ⟨f, hf, by rw [← e, e2, ofL_toL]⟩
    · rintro ⟨f, hf, e⟩
      exact List.mem_map.mpr ⟨toL (Fc.least f), (firsts_mem _ _).mpr (List.mem_map.mpr ⟨f, hf, rfl⟩), by rw [ofL_toL, e]⟩
  have hG : ((keysP d).map ofL).Nodup := by
    have h2 : (((keysP d).map ofL).map toL).Nodup := by
      rw [← hk]
      exact hnd
    exact List.Pairwise.imp (fun {a b} h e => h (by rw [e])) (List.pairwise_map.mp h2)
  rw [hk]
  generalize (keysP d).map ofL = G at *
  have e1 : (G.map toL).map dTu = G.map dFm := by
    rw [List.map_map]
    rfl
  have e2 : (G.map toL).map placeL = G.map dPl := by
    rw [List.map_map]
    rfl
  rw [e1, e2, List.zip_map', ← List.map_mergeSort (r := fun f g => !Fc.before g f) (fun a _ b _ => ?_), List.map_map]
  · have hperm := List.mergeSort_perm G (fun f g => !Fc.before g f)
    have hsorted := List.pairwise_mergeSort (le := fun f g => !Fc.before g f) (fun a b c h1 h2 => by
      rw [Bool.not_eq_true'] at *
      exact before_ntr h2 h1) (fun a b => by
      cases c : Fc.before b a with
      | false => rfl
      | true =>
        rw [before_asy c]
        rfl) G
    have hnd2 := hperm.nodup_iff.mpr hG
    have hm2 : ∀ x, x ∈ G.mergeSort (fun f g => !Fc.before g f) ↔ IsLeast d x := fun x => by
      rw [hperm.mem_iff]
      exact hmem x
    generalize G.mergeSort (fun f g => !Fc.before g f) = S at *
    have hup : Up S := by
      refine List.Pairwise.imp_of_mem (R := fun f g => (!Fc.before g f) = true ∧ f ≠ g) ?_ (hsorted.and hnd2)
      intro f g hf hg hh
      have gf := (hm2 f).mp hf
      have gg := (hm2 g).mp hg
      rcases before_or (by rw [gf.1.hd, gg.1.hd]) gg.1.ok.a0 hh.2 with q | q
      · exact q
      · have := hh.1
        rw [q] at this
        cases this
    obtain ⟨u1, u2⟩ := specRow hd
    have : S = Fc.classes d := up_eq hup u1 fun x => by rw [hm2, u2]
    rw [this]
    rfl
  · show (!Fc.before b a) = dataLe false (fun p : PyData × PyData => p.2) (dFm a, dPl a) (dFm b, dPl b)
    rw [PySem.W.dataLe_eq]
    show (!Fc.before b a) = !dataLt (dPl b) (dPl a)
    rw [place_lt]
end Fkw

set_option Elab.async false
set_option linter.all false
/-! Times is well told on classes. -/
namespace Fk
open Fc
theorem Comp.out {f g h : Form} (c : Comp f g h) {t : Change} (ht : IsCh t) : Comp f g (changed h t) := by
  obtain ⟨p0, p1, p2, p3, q0, q1, q2, q3, ⟨fa, fb, fc, ga, gb, gc, ha, hb, hc⟩⟩ := c
  obtain ⟨p, q, r, s⟩ := t
  have hd : p * s - q * r = 1 := ht
  have k : ∀ x y z w : Int, (s * x - q * y) * (p * w - r * z) - (s * z - q * w) * (p * y - r * x) = (p * s - q * r) * (x * w - z * y) := fun x y z w => by grind
  have k2 : ∀ x y z w : Int, (s * x - q * y) * (p * w - r * z) - (s * z - q * w) * (p * y - r * x) = x * w - z * y := fun x y z w => by rw [k, hd, Int.one_mul]
  refine ⟨s * p0 - q * q0, s * p1 - q * q1, s * p2 - q * q2, s * p3 - q * q3, p * q0 - r * p0, p * q1 - r * p1, p * q2 - r * p2, p * q3 - r * p3, ⟨?_, ?_, ?_, ?_, ?_, ?_, ?_, ?_, ?_⟩⟩
  · rw [k2, fa]
  · rw [k2, k2, fb]
  · rw [k2, fc]
  · rw [k2, ga]
  · rw [k2, k2, gb]
  · rw [k2, gc]
  · simp only [changed, value]
    rw [ha, hb, hc]
    grind
  · simp only [changed]
    rw [ha, hb, hc]
    grind
  · simp only [changed, value]
    rw [ha, hb, hc]
    grind
theorem Comp.to {f g h h' : Form} (c : Comp f g h) (e : Eqv h h') : Comp f g h' := by
  obtain ⟨t, ht, rfl⟩ := e
  exact c.out ht
theorem bez3 {f : Form} (h : content f = 1) : ∃ u v w : Int, u * f.a + v * f.b + w * f.c = 1 := by
  have b1 := (weights_ok f.a f.b).1
  have b2 := (weights_ok (weights f.a f.b).1 f.c).1
  generalize weights f.a f.b = x at *
  generalize weights x.1 f.c = y at *
  refine ⟨y.2.1 * x.2.1, y.2.1 * x.2.2, y.2.2, ?_⟩
  have e : y.2.1 * x.2.1 * f.a + y.2.1 * x.2.2 * f.b + y.2.2 * f.c = y.1 := by
    rw [← b2.eq, ← b1.eq]
    grind
  rw [e]
  have hd : y.1.toNat ∣ content f := by
    have hn := b2.nn
    have ey : ((y.1.toNat : Nat) : Int) = y.1 := by omega
    exact dvd_content (by rw [ey]; exact Int.dvd_trans b2.da b1.da) (by rw [ey]; exact Int.dvd_trans b2.da b1.db) (by rw [ey]; exact b2.db)
  rw [h] at hd
  have := Nat.dvd_one.mp hd
  have := b2.nn
  omega
theorem Comp.same {f g h f' g' h' : Form} (c : Comp f g h) (c' : Comp f' g' h') (ef : Eqv f f') (eg : Eqv g g') (hp : content f = 1) : Eqv h h' := by
  obtain ⟨u, v, w, e⟩ := bez3 (f := f') (by rw [← ef.content]; exact hp)
  exact (c.eqv ef eg).unique c' e
end Fk
namespace Fkw
open Fk (Eqv Comp)
theorem prod_comp {f g : Fc.Form} (hf : Fit f) (hg : Fit g) (hd : Fc.disc f = Fc.disc g) : Comp f g (Fc.product f g) := by
  have h1 := hf.fa
  have h2 := hf.fb
  have h3 := hg.fb
  have hb : ((f.b + g.b) / 2).natAbs ≤ 8192 := by omega
  have e : 8192 < 2 ^ 90 := by decide
  obtain ⟨v, w, dl, sg, n, al, be, ga, P, _, _, _, _, I⟩ := Fk.spec_prod hd hf.ok.a0 hg.ok.a0 (by omega) (by omega)
  exact P.comp.to I.ej
theorem times_comp {f g : Fc.Form} (hf : Fit f) (hg : Fit g) (hd : Fc.disc f = Fc.disc g) : Comp f g (Fc.times f g) :=
  (prod_comp hf hg hd).to (least_eqv (times_prog hf hg hd).2.1)
theorem Fit.least {f : Fc.Form} (h : Fit f) : Fit (Fc.least f) := (least_fits h.ok h.lo).1
theorem prod_disc {f g : Fc.Form} (hf : Fit f) (hg : Fit g) (hd : Fc.disc f = Fc.disc g) : Fc.disc (Fc.product f g) = Fc.disc f := by
  have h1 := hf.fa
  have h2 := hf.fb
  have h3 := hg.fb
  have hb : ((f.b + g.b) / 2).natAbs ≤ 8192 := by omega
  have e : 8192 < 2 ^ 90 := by decide
  obtain ⟨j, j', Q, _, _, I, _⟩ := Fk.prods_same hd hf.ok.a0 hg.ok.a0 (by omega) (by omega)
  rw [← I.ej.disc, Q.hd]
theorem times_fit {f g : Fc.Form} (hf : Fit f) (hg : Fit g) (hd : Fc.disc f = Fc.disc g) : Fit (Fc.times f g) ∧ Fc.disc (Fc.times f g) = Fc.disc f ∧ Fc.least (Fc.times f g) = Fc.times f g := by
  have hk := (times_prog hf hg hd).2.1
  have hdp := prod_disc hf hg hd
  obtain ⟨k1, k2, k3⟩ := least_fits hk (by rw [hdp]; exact hf.lo)
  exact ⟨k1, by show Fc.disc (Fc.least _) = _; rw [k3, hdp], (least_same hk k1.ok (least_eqv hk)).symm⟩
/-- the same classes, the same product -/
theorem times_same {f g f' g' : Fc.Form} (hf : Fit f) (hg : Fit g) (hf' : Fit f') (hg' : Fit g') (hd : Fc.disc f = Fc.disc g) (hp : Fk.content f = 1) (ef : Eqv f f') (eg : Eqv g g') : Fc.times f g = Fc.times f' g' := by
  have hd' : Fc.disc f' = Fc.disc g' := by rw [← ef.disc, ← eg.disc, hd]
  have e := (times_comp hf hg hd).same (times_comp hf' hg' hd') ef eg hp
  obtain ⟨a1, _, a3⟩ := times_fit hf hg hd
  obtain ⟨b1, _, b3⟩ := times_fit hf' hg' hd'
  rw [← a3, ← b3]
  exact least_same a1.ok b1.ok e
end Fkw

set_option Elab.async false
set_option linter.all false
/-! Numbers prime to a given one; forms with one middle; the group law of composition. -/
namespace Fk
open Fc
def Pr (p : Nat) : Prop := 1 < p ∧ ∀ k, k ∣ p → k = 1 ∨ k = p
theorem pr_of : ∀ n : Nat, 1 < n → ∃ p, Pr p ∧ p ∣ n
  | n, h => by
    by_cases c : Pr n
    · exact ⟨n, c, Nat.dvd_refl n⟩
    · have : ∃ k, k ∣ n ∧ k ≠ 1 ∧ k ≠ n := Classical.byContradiction fun z => c ⟨h, fun k hk => Classical.byContradiction fun y => z ⟨k, hk, fun e => y (.inl e), fun e => y (.inr e)⟩⟩
      obtain ⟨k, k1, k2, k3⟩ := this
      have hk0 : 0 < k := Nat.pos_of_dvd_of_pos k1 (by omega)
      have hle := Nat.le_of_dvd (by omega) k1
      obtain ⟨p, p1, p2⟩ := pr_of k (by omega)
      exact ⟨p, p1, Nat.dvd_trans p2 k1⟩
termination_by n => n
theorem Pr.coprime {p a : Nat} (h : Pr p) (ha : ¬ p ∣ a) : Nat.Coprime p a := by
  rcases h.2 (Nat.gcd p a) (Nat.gcd_dvd_left p a) with e | e
  · exact e
  · exact absurd (e ▸ Nat.gcd_dvd_right p a) ha
theorem Pr.mul {p a b : Nat} (h : Pr p) (hd : p ∣ a * b) : p ∣ a ∨ p ∣ b := by
  by_cases c : p ∣ a
  · exact .inl c
  · exact .inr ((h.coprime c).dvd_of_dvd_mul_left hd)
theorem coprime_of {a b : Nat} (hb : 0 < b) (h : ∀ p, Pr p → p ∣ a → ¬ p ∣ b) : Nat.Coprime a b := by
  by_cases c : Nat.gcd a b = 1
  · exact c
  · exfalso
    have h0 : 0 < Nat.gcd a b := Nat.gcd_pos_of_pos_right a hb
    obtain ⟨p, p1, p2⟩ := pr_of (Nat.gcd a b) (by omega)
    exact h p p1 (Nat.dvd_trans p2 (Nat.gcd_dvd_left a b)) (Nat.dvd_trans p2 (Nat.gcd_dvd_right a b))
theorem not_both {p a b : Nat} (hp : Pr p) (h : Nat.Coprime a b) (ha : p ∣ a) : ¬ p ∣ b := fun hb => by
  have := Nat.dvd_gcd ha hb
  rw [show Nat.gcd a b = 1 from h] at this
  have := Nat.dvd_one.mp this
  have := hp.1
  omega
/-- the part of m that is prime to a -/
theorem cop (a : Nat) : ∀ m : Nat, 0 < m → ∃ t, 0 < t ∧ t ∣ m ∧ Nat.Coprime t a ∧ ∀ p, Pr p → p ∣ m → ¬ p ∣ a → p ∣ t
  | m, hm => by
    by_cases c : Nat.gcd m a = 1
    · exact ⟨m, hm, Nat.dvd_refl m, c, fun p _ h _ => h⟩
    · have g0 : 0 < Nat.gcd m a := Nat.gcd_pos_of_pos_left a hm
      obtain ⟨k, hk⟩ := Nat.gcd_dvd_left m a
      have k0 : 0 < k := by
        rcases Nat.eq_zero_or_pos k with e | e
        · rw [e, Nat.mul_zero] at hk
          omega
        · exact e
      have hlt : k < m := by
        have := Nat.mul_le_mul_right k (show 2 ≤ Nat.gcd m a by omega)
        omega
      obtain ⟨t, t0, t1, t2, t3⟩ := cop a k k0
      refine ⟨t, t0, Nat.dvd_trans t1 ⟨Nat.gcd m a, by rw [Nat.mul_comm]; exact hk⟩, t2, fun p hp h1 h2 => ?_⟩
      rw [hk] at h1
      rcases hp.mul h1 with q | q
      · exact absurd (Nat.dvd_trans q (Nat.gcd_dvd_right m a)) h2
      · exact t3 p hp q h2
termination_by m => m
theorem pr_int {p : Nat} (hp : Pr p) {a b : Int} (h : (p : Int) ∣ a * b) : (p : Int) ∣ a ∨ (p : Int) ∣ b := by
  rw [Int.ofNat_dvd_left, Int.natAbs_mul] at h
  rw [Int.ofNat_dvd_left, Int.ofNat_dvd_left]
  exact hp.mul h
/-- a form without a common divisor takes a number prime to m -/
theorem rep {f : Form} (h : content f = 1) {m : Nat} (hm : 0 < m) : ∃ x y : Int, Int.gcd x y = 1 ∧ Nat.Coprime (value f x y).natAbs m := by
  obtain ⟨M1, a0, a1, a2, a3⟩ := cop f.a.natAbs m hm
  obtain ⟨M2, b0, b1, b2, b3⟩ := cop (f.c.natAbs * M1) m hm
  have hc12 : Nat.Coprime M2 M1 := Nat.Coprime.coprime_mul_left_right b2
  refine ⟨(M2 : Int), (M1 : Int), hc12, coprime_of hm fun p hp hv hpm => ?_⟩
  have hv' : (p : Int) ∣ value f (M2 : Int) (M1 : Int) := Int.ofNat_dvd_left.mpr hv
  have ev : value f (M2 : Int) (M1 : Int) = f.a * ((M2 : Int) * M2) + (f.b * ((M2 : Int) * M1) + f.c * ((M1 : Int) * M1)) := by
    unfold value
    grind
  rw [ev] at hv'
  by_cases ca : p ∣ f.a.natAbs
  · have n1 : ¬ p ∣ M1 := fun q => not_both hp a2 q ca
    have ca' : (p : Int) ∣ f.a := Int.ofNat_dvd_left.mpr ca
    by_cases cc : p ∣ f.c.natAbs
    · have n2 : ¬ p ∣ M2 := fun q => not_both hp b2 q (Nat.dvd_trans cc (Nat.dvd_mul_right _ _))
      have cc' : (p : Int) ∣ f.c := Int.ofNat_dvd_left.mpr cc
      have h1 : (p : Int) ∣ f.b * ((M2 : Int) * M1) := by
        have k1 : (p : Int) ∣ f.a * ((M2 : Int) * M2) := Int.dvd_mul_of_dvd_left ca'
        have k2 : (p : Int) ∣ f.c * ((M1 : Int) * M1) := Int.dvd_mul_of_dvd_left cc'
        have k3 := Int.dvd_sub hv' k1
        have k4 := Int.dvd_sub k3 k2
        have e : f.a * ((M2 : Int) * M2) + (f.b * ((M2 : Int) * M1) + f.c * ((M1 : Int) * M1)) - f.a * ((M2 : Int) * M2) - f.c * ((M1 : Int) * M1) = f.b * ((M2 : Int) * M1) := by omega
        rw [e] at k4
        exact k4
      rcases pr_int hp h1 with q | q
      · have := dvd_content ca' q cc'
        rw [h] at this
        have := Nat.dvd_one.mp this
        have := hp.1
        omega
      · rcases pr_int hp q with q | q
        · exact n2 (Int.natCast_dvd_natCast.mp q)
        · exact n1 (Int.natCast_dvd_natCast.mp q)
    · have q2 : p ∣ M2 := b3 p hp hpm fun z => by
        rcases hp.mul z with z | z
        · exact cc z
        · exact n1 z
      have q2' : (p : Int) ∣ (M2 : Int) := Int.natCast_dvd_natCast.mpr q2
      have h1 : (p : Int) ∣ f.c * ((M1 : Int) * M1) := by
        have k1 : (p : Int) ∣ f.a * ((M2 : Int) * M2) := Int.dvd_mul_of_dvd_left ca'
        have k2 : (p : Int) ∣ f.b * ((M2 : Int) * M1) := Int.dvd_mul_of_dvd_right (Int.dvd_mul_of_dvd_left q2')
        have k3 := Int.dvd_sub hv' k1
        have k4 := Int.dvd_sub k3 k2
        have e : f.a * ((M2 : Int) * M2) + (f.b * ((M2 : Int) * M1) + f.c * ((M1 : Int) * M1)) - f.a * ((M2 : Int) * M2) - f.b * ((M2 : Int) * M1) = f.c * ((M1 : Int) * M1) := by omega
        rw [e] at k4
        exact k4
      rcases pr_int hp h1 with q | q
      · exact cc (Int.ofNat_dvd_left.mp q)
      · rcases pr_int hp q with q | q <;> exact n1 (Int.natCast_dvd_natCast.mp q)
  · have q1 : p ∣ M1 := a3 p hp hpm ca
    have n2 : ¬ p ∣ M2 := fun q => not_both hp hc12 q q1
    have q1' : (p : Int) ∣ (M1 : Int) := Int.natCast_dvd_natCast.mpr q1
    have h1 : (p : Int) ∣ f.a * ((M2 : Int) * M2) := by
      have k1 : (p : Int) ∣ f.b * ((M2 : Int) * M1) + f.c * ((M1 : Int) * M1) := Int.dvd_add (Int.dvd_mul_of_dvd_right (Int.dvd_mul_of_dvd_right q1')) (Int.dvd_mul_of_dvd_right (Int.dvd_mul_of_dvd_left q1'))
      have k3 := Int.dvd_sub hv' k1
      have e : f.a * ((M2 : Int) * M2) + (f.b * ((M2 : Int) * M1) + f.c * ((M1 : Int) * M1)) - (f.b * ((M2 : Int) * M1) + f.c * ((M1 : Int) * M1)) = f.a * ((M2 : Int) * M2) := by omega
      rw [e] at k3
      exact k3
    rcases pr_int hp h1 with q | q
    · exact ca (Int.ofNat_dvd_left.mp q)
    · rcases pr_int hp q with q | q <;> exact n2 (Int.natCast_dvd_natCast.mp q)
end Fk

set_option Elab.async false
set_option linter.all false
/-! Forms with one middle; composition is associative. -/
namespace Fk
open Fc
theorem to_middle {f : Form} {B C : Int} (ha : f.a ≠ 0) (hb : ∃ k, B = f.b + 2 * f.a * k) (hc : B * B - disc f = 4 * f.a * C) : Eqv f ⟨f.a, B, C⟩ := by
  obtain ⟨h1, h2⟩ := shift_is (f := f) (d := disc f) rfl ha hb
  have e : (B * B - disc f) / (4 * f.a) = C := div_exact ha hc
  rw [e] at h1
  exact ⟨_, isCh_shift _, h1.symm⟩
/-- of a form of content 1: one of its class whose first coefficient is prime to m -/
theorem with_first {f : Form} (h : content f = 1) {m : Nat} (hm : 0 < m) : ∃ g, Eqv f g ∧ Nat.Coprime g.a.natAbs m := by
  obtain ⟨x, y, hxy, hc⟩ := rep h hm
  have b := (weights_ok x y).1
  generalize weights x y = w at *
  have hg : w.1 = 1 := by
    have h1 : (w.1.toNat : Int) ∣ x := by
      have := b.nn
      rw [show (w.1.toNat : Int) = w.1 by omega]
      exact b.da
    have h2 : (w.1.toNat : Int) ∣ y := by
      have := b.nn
      rw [show (w.1.toNat : Int) = w.1 by omega]
      exact b.db
    have h3 : w.1.toNat ∣ Int.gcd x y := Nat.dvd_gcd (Int.ofNat_dvd_left.mp h1) (Int.ofNat_dvd_left.mp h2)
    rw [hxy] at h3
    have := Nat.dvd_one.mp h3
    have := b.nn
    omega
  have he := b.eq
  rw [hg] at he
  refine ⟨changed f ⟨x, -w.2.2, y, w.2.1⟩, ⟨_, ?_, rfl⟩, hc⟩
  show x * w.2.1 - -w.2.2 * y = 1
  rw [Int.neg_mul, Int.sub_neg, Int.mul_comm x]
  exact he
/-- two forms with prime first coefficients have one middle -/
theorem unite {f g : Form} (hd : disc f = disc g) (ha : f.a ≠ 0) (hg : g.a ≠ 0) (hc : Nat.Coprime f.a.natAbs g.a.natAbs) : ∃ B C, (∃ k, B = f.b + 2 * f.a * k) ∧ (∃ k, B = g.b + 2 * g.a * k) ∧ B * B - disc f = 4 * f.a * (g.a * C) := by
  have b := (weights_ok f.a g.a).1
  generalize weights f.a g.a = w at *
  have h1 : w.1 = 1 := by
    have q1 : (w.1.toNat : Int) ∣ f.a := by
      have := b.nn
      rw [show (w.1.toNat : Int) = w.1 by omega]
      exact b.da
    have q2 : (w.1.toNat : Int) ∣ g.a := by
      have := b.nn
      rw [show (w.1.toNat : Int) = w.1 by omega]
      exact b.db
    have q3 : w.1.toNat ∣ Nat.gcd f.a.natAbs g.a.natAbs := Nat.dvd_gcd (Int.ofNat_dvd_left.mp q1) (Int.ofNat_dvd_left.mp q2)
    rw [show Nat.gcd f.a.natAbs g.a.natAbs = 1 from hc] at q3
    have := Nat.dvd_one.mp q3
    have := b.nn
    omega
  have he := b.eq
  rw [h1] at he
  obtain ⟨_, hn, hfb, hgb⟩ := half_of hd
  generalize (f.b + g.b) / 2 = s at *
  generalize (f.b - g.b) / 2 = n at *
  generalize w.2.1 = u at *
  generalize w.2.2 = v at *
  have hB : f.b + 2 * f.a * (-(n * u)) = g.b + 2 * g.a * (n * v) := by
    have e : n * (u * f.a + v * g.a) = n := by rw [he, Int.mul_one]
    grind
  obtain ⟨c1, e1⟩ : ∃ c1, (f.b + 2 * f.a * (-(n * u))) * (f.b + 2 * f.a * (-(n * u))) - disc f = 4 * f.a * c1 := ⟨_, (shift_is (f := f) (d := disc f) rfl ha ⟨_, rfl⟩).2⟩
  obtain ⟨c2, e2⟩ : ∃ c2, (g.b + 2 * g.a * (n * v)) * (g.b + 2 * g.a * (n * v)) - disc g = 4 * g.a * c2 := ⟨_, (shift_is (f := g) (d := disc g) rfl hg ⟨_, rfl⟩).2⟩
  rw [← hB, ← hd] at e2
  generalize hBB : f.b + 2 * f.a * (-(n * u)) = B at *
  have h3 : f.a * c1 = g.a * c2 := by
    have : 4 * f.a * c1 = 4 * g.a * c2 := by omega
    have k1 : 4 * f.a * c1 = 4 * (f.a * c1) := Int.mul_assoc _ _ _
    have k2 : 4 * g.a * c2 = 4 * (g.a * c2) := Int.mul_assoc _ _ _
    omega
  refine ⟨B, u * c2 + v * c1, ⟨_, hBB.symm⟩, ⟨_, hB⟩, ?_⟩
  rw [e1]
  have : g.a * (u * c2 + v * c1) = c1 := by
    have e : c1 * (u * f.a + v * g.a) = c1 := by rw [he, Int.mul_one]
    grind
  rw [this]
/-- three forms, side by side -/
theorem three_forms {f g h : Form} {d : Int} (hn : ∀ r : Int, r * r ≠ d) (hf : disc f = d) (hg : disc g = d) (hh : disc h = d) (pg : content g = 1) (ph : content h = 1) :
    ∃ a1 a2 a3 B C : Int, Eqv f ⟨a1, B, a2 * (a3 * C)⟩ ∧ Eqv g ⟨a2, B, a1 * (a3 * C)⟩ ∧ Eqv h ⟨a3, B, (a1 * a2) * C⟩ := by
  have ha : f.a ≠ 0 := a_ne' (by rw [hf]; exact hn)
  obtain ⟨g', eg, cg⟩ := with_first pg (m := f.a.natAbs) (by omega)
  have hg' : disc g' = d := by rw [← eg.disc, hg]
  have hga : g'.a ≠ 0 := a_ne' (by rw [hg']; exact hn)
  obtain ⟨B0, C0, ⟨k1, b1⟩, ⟨k2, b2⟩, e0⟩ := unite (f := f) (g := g') (by rw [hf, hg']) ha hga cg.symm
  have hfg : f.a * g'.a ≠ 0 := Int.mul_ne_zero ha hga
  obtain ⟨h', eh, ch⟩ := with_first ph (m := (f.a * g'.a).natAbs) (by omega)
  have hh' : disc h' = d := by rw [← eh.disc, hh]
  have hha : h'.a ≠ 0 := a_ne' (by rw [hh']; exact hn)
  have hk : disc ⟨f.a * g'.a, B0, C0⟩ = d := by
    rw [hf] at e0
    show B0 * B0 - 4 * (f.a * g'.a) * C0 = d
    have : 4 * (f.a * g'.a) * C0 = 4 * f.a * (g'.a * C0) := by grind
    omega
  obtain ⟨B, C, ⟨k3, b3⟩, ⟨k4, b4⟩, e1⟩ := unite (f := ⟨f.a * g'.a, B0, C0⟩) (g := h') (by rw [hk, hh']) hfg hha ch.symm
  rw [hk] at e1
  dsimp only at b3 e1
  refine ⟨f.a, g'.a, h'.a, B, C, ?_, eg.trans ?_, eh.trans ?_⟩
  · refine to_middle ha ⟨k1 + g'.a * k3, by rw [b3, b1]; grind⟩ ?_
    rw [hf, e1]
    grind
  · refine to_middle hga ⟨k2 + f.a * k3, by rw [b3, b2]; grind⟩ ?_
    rw [hg', e1]
    grind
  · refine to_middle hha ⟨k4, b4⟩ ?_
    rw [hh', e1]
    grind
end Fk

set_option Elab.async false
set_option linter.all false
/-! The group law, up to changes. -/
namespace Fk
open Fc
section
variable {f g h k l m m' : Form} {d : Int}
/-- two forms, side by side -/
theorem two_forms (hn : ∀ r : Int, r * r ≠ d) (hf : disc f = d) (hg : disc g = d) (pg : content g = 1) : ∃ a1 a2 B C : Int, Eqv f ⟨a1, B, a2 * C⟩ ∧ Eqv g ⟨a2, B, a1 * C⟩ := by
  have ha : f.a ≠ 0 := a_ne' (by rw [hf]; exact hn)
  obtain ⟨g', eg, cg⟩ := with_first pg (m := f.a.natAbs) (by omega)
  have hg' : disc g' = d := by rw [← eg.disc, hg]
  have hga : g'.a ≠ 0 := a_ne' (by rw [hg']; exact hn)
  obtain ⟨B, C, ⟨k1, b1⟩, ⟨k2, b2⟩, e0⟩ := unite (f := f) (g := g') (by rw [hf, hg']) ha hga cg.symm
  refine ⟨f.a, g'.a, B, C, to_middle ha ⟨k1, b1⟩ e0, eg.trans (to_middle hga ⟨k2, b2⟩ ?_)⟩
  rw [hg', ← hf, e0]
  grind
theorem content_prod (hn : ∀ r : Int, r * r ≠ d) (hf : disc f = d) (hg : disc g = d) (pf : content f = 1) (pg : content g = 1) (c : Comp f g k) : content k = 1 := by
  obtain ⟨a1, a2, B, C, e1, e2⟩ := two_forms hn hf hg pg
  have e := c.same (comp_united a1 a2 B C) e1 e2 pf
  have p1 : content ⟨a1, B, a2 * C⟩ = 1 := by rw [← e1.content]; exact pf
  have p2 : content ⟨a2, B, a1 * C⟩ = 1 := by rw [← e2.content]; exact pg
  rw [e.content]
  by_cases c1 : content ⟨a1 * a2, B, C⟩ = 1
  · exact c1
  · exfalso
    have big : ∀ q : Nat, Pr q → q ∣ content ⟨a1 * a2, B, C⟩ → False := fun q hq hd => by
      obtain ⟨d1, d2, d3⟩ := content_dvd ⟨a1 * a2, B, C⟩
      have q0 : (q : Int) ∣ (content ⟨a1 * a2, B, C⟩ : Int) := Int.natCast_dvd_natCast.mpr hd
      have q1 := Int.dvd_trans q0 d1
      have q2 := Int.dvd_trans q0 d2
      have q3 := Int.dvd_trans q0 d3
      have hq1 := hq.1
      rcases pr_int hq q1 with z | z
      · have := dvd_content (f := ⟨a1, B, a2 * C⟩) z q2 (Int.dvd_mul_of_dvd_right q3)
        rw [p1] at this
        have := Nat.dvd_one.mp this
        omega
      · have := dvd_content (f := ⟨a2, B, a1 * C⟩) z q2 (Int.dvd_mul_of_dvd_right q3)
        rw [p2] at this
        have := Nat.dvd_one.mp this
        omega
    by_cases c2 : 1 < content ⟨a1 * a2, B, C⟩
    · obtain ⟨q, q1, q2⟩ := pr_of _ c2
      exact big q q1 q2
    · have h0 : content ⟨a1 * a2, B, C⟩ = 0 := by omega
      have two : Pr 2 := ⟨by decide, fun k hk => by
        have h1 := Nat.le_of_dvd (by decide) hk
        have h2 := Nat.pos_of_dvd_of_pos hk (by decide)
        omega⟩
      exact big 2 two (by rw [h0]; exact Nat.dvd_zero _)
/-- composition is associative -/
theorem comp_assoc (hn : ∀ r : Int, r * r ≠ d) (hf : disc f = d) (hg : disc g = d) (hh : disc h = d) (pf : content f = 1) (pg : content g = 1) (ph : content h = 1)
    (c1 : Comp f g k) (c2 : Comp k h m) (c3 : Comp g h l) (c4 : Comp f l m') : Eqv m m' := by
  obtain ⟨a1, a2, a3, B, C, e1, e2, e3⟩ := three_forms hn hf hg hh pg ph
  have K := comp_united a1 a2 B (a3 * C)
  have L := comp_united a2 a3 B (a1 * C)
  have M := comp_united (a1 * a2) a3 B C
  have M' := comp_united a1 (a2 * a3) B C
  have s1 : (⟨a2, B, a3 * (a1 * C)⟩ : Form) = ⟨a2, B, a1 * (a3 * C)⟩ := by
    congr 1
    grind
  have s2 : (⟨a3, B, a2 * (a1 * C)⟩ : Form) = ⟨a3, B, (a1 * a2) * C⟩ := by
    congr 1
    grind
  have s3 : (⟨a1, B, (a2 * a3) * C⟩ : Form) = ⟨a1, B, a2 * (a3 * C)⟩ := by
    congr 1
    grind
  have s4 : (⟨a1 * (a2 * a3), B, C⟩ : Form) = ⟨a1 * a2 * a3, B, C⟩ := by
    congr 1
    grind
  rw [s1, s2] at L
  rw [s3, s4] at M'
  have ek := c1.same K e1 e2 pf
  have el := c3.same L e2 e3 pg
  have pk := content_prod hn hf hg pf pg c1
  exact (c2.same M ek e3 pk).trans (c4.same M' e1 el pf).symm
/-- the one -/
theorem comp_one (f : Form) (hb : ∃ j, f.b = disc f % 2 + 2 * j) (h4 : disc f % 4 = 0 ∨ disc f % 4 = 1) : Comp f (unit (disc f)) f := by
  have c := comp_united f.a 1 f.b f.c
  rw [Int.one_mul, Int.mul_one] at c
  refine c.eqv (Eqv.refl f) (Eqv.symm ?_)
  obtain ⟨j, hj⟩ := hb
  have hu : disc (unit (disc f)) = disc f := by
    unfold unit
    by_cases q : disc f % 4 = 0
    · rw [if_pos q]
      show 0 * 0 - 4 * 1 * (-(disc f / 4)) = disc f
      omega
    · rw [if_neg q]
      show 1 * 1 - 4 * 1 * ((1 - disc f) / 4) = disc f
      omega
  have hua : (unit (disc f)).a = 1 := by
    unfold unit
    split <;> rfl
  have hub : ∃ k, f.b = (unit (disc f)).b + 2 * (unit (disc f)).a * k := by
    rw [hua]
    unfold unit
    by_cases q : disc f % 4 = 0
    · rw [if_pos q]
      exact ⟨j, by dsimp only; omega⟩
    · rw [if_neg q]
      exact ⟨j, by dsimp only; omega⟩
  have := to_middle (f := unit (disc f)) (B := f.b) (C := f.a * f.c) (by rw [hua]; decide) hub (by
    rw [hu, hua]
    unfold disc
    grind)
  rw [hua] at this
  exact this
/-- what undoes a form -/
theorem comp_inv (f : Form) (h4 : disc f % 4 = 0 ∨ disc f % 4 = 1) : Comp f (inverse f) (unit (disc f)) := by
  have c := comp_united f.a f.c f.b 1
  rw [Int.mul_one, Int.mul_one] at c
  have e1 : Eqv (inverse f) ⟨f.c, f.b, f.a⟩ := ⟨swap, isCh_swap, by rw [changed_swap]; show (⟨f.c, - -f.b, f.a⟩ : Form) = _; rw [Int.neg_neg]⟩
  have c' := c.eqv (Eqv.refl f) e1.symm
  refine c'.to ?_
  -- (ac, b, 1) is the one
  have e2 : Eqv (⟨f.a * f.c, f.b, 1⟩ : Form) ⟨1, -f.b, f.a * f.c⟩ := ⟨swap, isCh_swap, by rw [changed_swap]⟩
  have hd : disc ⟨1, -f.b, f.a * f.c⟩ = disc f := by
    unfold disc
    dsimp only
    grind
  have hpar := par_b (f := f) (d := disc f) rfl
  refine e2.trans ?_
  have hu : ∃ B C, unit (disc f) = ⟨1, B, C⟩ ∧ (∃ j, B = -f.b + 2 * 1 * j) ∧ B * B - disc f = 4 * 1 * C := by
    unfold unit
    by_cases q : disc f % 4 = 0
    · rw [if_pos q]
      exact ⟨0, -(disc f / 4), rfl, ⟨f.b / 2, by omega⟩, by omega⟩
    · rw [if_neg q]
      exact ⟨1, (1 - disc f) / 4, rfl, ⟨(f.b + 1) / 2, by omega⟩, by omega⟩
  obtain ⟨B, C, eu, hj, hc⟩ := hu
  rw [eu]
  exact to_middle (f := ⟨1, -f.b, f.a * f.c⟩) (show (1 : Int) ≠ 0 by decide) hj (by rw [hd]; exact hc)
end
end Fk

set_option Elab.async false
set_option linter.all false
/-! The least forms of a discriminant are a group under times. -/
namespace Fkw
open Fk (Eqv Comp)
section
variable {d : Int} {x y z : Fc.Form}
theorem il_fit (hd : Fc.isDisc d = true) (h : IsLeast d x) : Fit x ∧ Fc.disc x = d ∧ Fk.content x = 1 := by
  obtain ⟨h20, _, hn, h0⟩ := disc_facts hd
  obtain ⟨hg, he⟩ := h
  have := (least_fits hg.ok (by rw [hg.hd]; exact h20.1)).1
  rw [he] at this
  exact ⟨this, hg.hd, (Fk.plain_iff.mp hg.pl).1⟩
theorem il_eq (hx : IsLeast d x) (hy : IsLeast d y) (e : Eqv x y) : x = y := by
  rw [← hx.2, ← hy.2]
  exact least_same hx.1.ok hy.1.ok e
/-- a fit plain form's least one -/
theorem il_least (hd : Fc.isDisc d = true) (hf : Fit x) (hx : Fc.disc x = d) (hp : Fk.content x = 1) : IsLeast d (Fc.least x) := by
  have hg : Good d x := ⟨hf.ok, hx, Fk.plain_iff.mpr ⟨hp, by
    rw [hx]
    unfold Fc.isDisc at hd
    simp only [Bool.and_eq_true, Bool.not_eq_true'] at hd
    exact hd.1⟩⟩
  exact good_least hd hg
theorem il_of (hd : Fc.isDisc d = true) (hf : Fit x) (hx : Fc.disc x = d) (hp : Fk.content x = 1) (he : Fc.least x = x) : IsLeast d x := by
  have := il_least hd hf hx hp
  rw [he] at this
  exact this
/-- times of two plain fit forms -/
theorem times_il (hd : Fc.isDisc d = true) (hf : Fit x) (hg : Fit y) (hx : Fc.disc x = d) (hy : Fc.disc y = d) (px : Fk.content x = 1) (py : Fk.content y = 1) : IsLeast d (Fc.times x y) := by
  obtain ⟨_, _, hn, _⟩ := disc_facts hd
  have hdd : Fc.disc x = Fc.disc y := by rw [hx, hy]
  obtain ⟨t1, t2, t3⟩ := times_fit hf hg hdd
  exact il_of hd t1 (by rw [t2, hx]) (Fk.content_prod hn hx hy px py (times_comp hf hg hdd)) t3
theorem il_times (hd : Fc.isDisc d = true) (hx : IsLeast d x) (hy : IsLeast d y) : IsLeast d (Fc.times x y) := by
  obtain ⟨fx, dx, px⟩ := il_fit hd hx
  obtain ⟨fy, dy, py⟩ := il_fit hd hy
  exact times_il hd fx fy dx dy px py
theorem il_comp (hd : Fc.isDisc d = true) (hx : IsLeast d x) (hy : IsLeast d y) : Comp x y (Fc.times x y) := by
  obtain ⟨fx, dx, px⟩ := il_fit hd hx
  obtain ⟨fy, dy, py⟩ := il_fit hd hy
  exact times_comp fx fy (by rw [dx, dy])
theorem il_comm (hd : Fc.isDisc d = true) (hx : IsLeast d x) (hy : IsLeast d y) : Fc.times x y = Fc.times y x := by
  refine il_eq (il_times hd hx hy) (il_times hd hy hx) ?_
  exact (il_comp hd hx hy).same (il_comp hd hy hx).comm (Eqv.refl x) (Eqv.refl y) (il_fit hd hx).2.2
theorem il_assoc (hd : Fc.isDisc d = true) (hx : IsLeast d x) (hy : IsLeast d y) (hz : IsLeast d z) : Fc.times (Fc.times x y) z = Fc.times x (Fc.times y z) := by
  obtain ⟨_, _, hn, _⟩ := disc_facts hd
  have hxy := il_times hd hx hy
  have hyz := il_times hd hy hz
  refine il_eq (il_times hd hxy hz) (il_times hd hx hyz) ?_
  exact Fk.comp_assoc hn (il_fit hd hx).2.1 (il_fit hd hy).2.1 (il_fit hd hz).2.1 (il_fit hd hx).2.2 (il_fit hd hy).2.2 (il_fit hd hz).2.2 (il_comp hd hx hy) (il_comp hd hxy hz) (il_comp hd hy hz) (il_comp hd hx hyz)
/-- the one -/
def oneF (d : Int) : Fc.Form := Fc.least (Fc.unit d)
theorem unit_fit (hd : Fc.isDisc d = true) : LeastOk (Fc.unit d) ∧ Fc.disc (Fc.unit d) = d ∧ Fk.content (Fc.unit d) = 1 := by
  obtain ⟨h20, h4, hn, _⟩ := disc_facts hd
  refine ⟨unit_ok hd, disc_unit h4, ?_⟩
  have : (Fc.unit d).a = 1 := by
    unfold Fc.unit
    split <;> rfl
  unfold Fk.content
  rw [this]
  simp
theorem il_one (hd : Fc.isDisc d = true) : IsLeast d (oneF d) := by
  obtain ⟨h1, h2, h3⟩ := unit_fit hd
  refine good_least hd ⟨h1, h2, Fk.plain_iff.mpr ⟨h3, ?_⟩⟩
  rw [h2]
  unfold Fc.isDisc at hd
  simp only [Bool.and_eq_true, Bool.not_eq_true'] at hd
  exact hd.1
theorem one_eqv (hd : Fc.isDisc d = true) : Eqv (Fc.unit d) (oneF d) := least_eqv (unit_fit hd).1
theorem il_mul_one (hd : Fc.isDisc d = true) (hx : IsLeast d x) : Fc.times x (oneF d) = x := by
  obtain ⟨_, h4, hn, _⟩ := disc_facts hd
  obtain ⟨fx, dx, px⟩ := il_fit hd hx
  refine il_eq (il_times hd hx (il_one hd)) hx ?_
  have hp := Fk.par_b (f := x) (d := d) dx
  have c := Fk.comp_one x ⟨x.b / 2, by rw [dx]; omega⟩ (by rw [dx]; exact h4)
  rw [dx] at c
  exact (il_comp hd hx (il_one hd)).same c (Eqv.refl x) (one_eqv hd).symm px
theorem il_one_mul (hd : Fc.isDisc d = true) (hx : IsLeast d x) : Fc.times (oneF d) x = x := by
  rw [il_comm hd (il_one hd) hx, il_mul_one hd hx]
theorem inv_fit' {g : Fc.Form} (h : Fit g) : Fit (Fc.inverse g) := ⟨inverse_ok h.ok, by rw [disc_inverse]; exact h.lo, h.fa, by
  have := h.fb
  show (-g.b).natAbs ≤ 8192
  omega⟩
theorem content_inverse (g : Fc.Form) : Fk.content (Fc.inverse g) = Fk.content g := by
  unfold Fk.content Fc.inverse
  dsimp only
  rw [Int.natAbs_neg]
def invF (x : Fc.Form) : Fc.Form := Fc.least (Fc.inverse x)
theorem il_inv (hd : Fc.isDisc d = true) (hx : IsLeast d x) : IsLeast d (invF x) := by
  obtain ⟨fx, dx, px⟩ := il_fit hd hx
  exact il_least hd (inv_fit' fx) (by rw [disc_inverse, dx]) (by rw [content_inverse, px])
theorem il_mul_inv (hd : Fc.isDisc d = true) (hx : IsLeast d x) : Fc.times x (invF x) = oneF d := by
  obtain ⟨_, h4, hn, _⟩ := disc_facts hd
  obtain ⟨fx, dx, px⟩ := il_fit hd hx
  refine il_eq (il_times hd hx (il_inv hd hx)) (il_one hd) ?_
  have c := Fk.comp_inv x (by rw [dx]; exact h4)
  rw [dx] at c
  exact ((il_comp hd hx (il_inv hd hx)).same c (Eqv.refl x) (least_eqv (inv_fit' fx).ok).symm px).trans (one_eqv hd)
end
end Fkw

set_option Elab.async false
set_option linter.all false
/-! Powers. -/
namespace Fkw
open Fk (Eqv Comp)
/-- so many times, one behind the other -/
def pw (d : Int) (x : Fc.Form) : Nat → Fc.Form
  | 0 => oneF d
  | n + 1 => Fc.times (pw d x n) x
section
variable {d : Int} {x y f g : Fc.Form}
theorem pw_il (hd : Fc.isDisc d = true) (hx : IsLeast d x) : ∀ n, IsLeast d (pw d x n)
  | 0 => il_one hd
  | n + 1 => il_times hd (pw_il hd hx n) hx
theorem pw_one (hd : Fc.isDisc d = true) (hx : IsLeast d x) : pw d x 1 = x := il_one_mul hd hx
theorem pw_add (hd : Fc.isDisc d = true) (hx : IsLeast d x) (m : Nat) : ∀ n, pw d x (m + n) = Fc.times (pw d x m) (pw d x n)
  | 0 => (il_mul_one hd (pw_il hd hx m)).symm
  | n + 1 => by
    show Fc.times (pw d x (m + n)) x = Fc.times (pw d x m) (Fc.times (pw d x n) x)
    rw [pw_add hd hx m n, il_assoc hd (pw_il hd hx m) (pw_il hd hx n) hx]
theorem pw_mul (hd : Fc.isDisc d = true) (hx : IsLeast d x) (m : Nat) : ∀ n, pw d (pw d x m) n = pw d x (m * n)
  | 0 => rfl
  | n + 1 => by
    show Fc.times (pw d (pw d x m) n) (pw d x m) = _
    rw [pw_mul hd hx m n, ← pw_add hd hx, Nat.mul_succ]
theorem pw_two (hd : Fc.isDisc d = true) (hx : IsLeast d x) : pw d x 2 = Fc.times x x := by
  show Fc.times (pw d x 1) x = _
  rw [pw_one hd hx]
/-- a fit plain form of the discriminant -/
structure Pl (d : Int) (f : Fc.Form) : Prop where
  fit : Fit f
  hd : Fc.disc f = d
  c1 : Fk.content f = 1
theorem Pl.il (hd : Fc.isDisc d = true) (h : Pl d f) : IsLeast d (Fc.least f) := il_least hd h.fit h.hd h.c1
theorem IsLeast.pl (hd : Fc.isDisc d = true) (h : IsLeast d x) : Pl d x := ⟨(il_fit hd h).1, (il_fit hd h).2.1, (il_fit hd h).2.2⟩
theorem pl_times (h : Pl d f) (k : Pl d g) (hd : Fc.isDisc d = true) : Fc.times f g = Fc.times (Fc.least f) (Fc.least g) :=
  times_same h.fit k.fit h.fit.least k.fit.least (by rw [h.hd, k.hd]) h.c1 (least_eqv h.fit.ok) (least_eqv k.fit.ok)
theorem times_pl (hd : Fc.isDisc d = true) (hx : IsLeast d x) (k : Pl d g) : Fc.times x g = Fc.times x (Fc.least g) := by
  rw [pl_times (hx.pl hd) k hd, hx.2]
/-- the specification's power -/
theorem powerBy_is (hd : Fc.isDisc d = true) (h : Pl d f) : ∀ n k : Nat, k < 2 ^ n → Fc.powerBy f n k = pw d (Fc.least f) k
  | 0, k, hk => by
    have : k = 0 := by simpa using hk
    subst this
    show Fc.least (Fc.unit (Fc.disc f)) = _
    rw [h.hd]
    rfl
  | n + 1, k, hk => by
    unfold Fc.powerBy
    by_cases z : k = 0
    · rw [if_pos z, h.hd, z]
      rfl
    · rw [if_neg z]
      have hk2 : k / 2 < 2 ^ n := by
        rw [Nat.pow_succ] at hk
        omega
      have hi := h.il hd
      dsimp only
      rw [powerBy_is hd h n (k / 2) hk2, ← pw_add hd hi]
      by_cases o : k % 2 = 1
      · rw [if_pos o, times_pl hd (pw_il hd hi _) h]
        show pw d (Fc.least f) (k / 2 + k / 2 + 1) = _
        congr 1
        omega
      · rw [if_neg o]
        congr 1
        omega
theorem power_is (hd : Fc.isDisc d = true) (h : Pl d f) (k : Nat) : Fc.power f k = pw d (Fc.least f) k := by
  refine powerBy_is hd h _ k ?_
  have := Nat.lt_log2_self (n := k)
  exact Nat.lt_trans this (Nat.pow_lt_pow_right (by decide) (by omega))
/-- a step of the program's -/
theorem pw_half (hd : Fc.isDisc d = true) (hx : IsLeast d x) (hy : IsLeast d y) (n : Nat) : Fc.times (if n % 2 = 1 then Fc.times x y else x) (pw d (Fc.times y y) (n / 2)) = Fc.times x (pw d y n) := by
  have h2 : pw d (Fc.times y y) (n / 2) = pw d y (2 * (n / 2)) := by rw [← pw_two hd hy, pw_mul hd hy]
  rw [h2]
  by_cases o : n % 2 = 1
  · rw [if_pos o, il_assoc hd hx hy (pw_il hd hy _)]
    congr 1
    have e : Fc.times y (pw d y (2 * (n / 2))) = pw d y (1 + 2 * (n / 2)) := by rw [pw_add hd hy, pw_one hd hy]
    rw [e]
    congr 1
    omega
  · rw [if_neg o]
    congr 2
    omega
end
end Fkw

set_option Elab.async false
set_option linter.all false
/-! Finite abelian groups: how many there are in a part of one. -/
namespace Fn
theorem least_nat {P : Nat → Prop} : ∀ (n : Nat), P n → ∃ m, P m ∧ m ≤ n ∧ ∀ k, k < m → ¬ P k := by
  intro n
  induction n using Nat.strongRecOn with
  | ind n ih =>
    intro h
    by_cases c : ∃ k, k < n ∧ P k
    · obtain ⟨k, k1, k2⟩ := c
      obtain ⟨m, m1, m2, m3⟩ := ih k k1 k2
      exact ⟨m, m1, by omega, m3⟩
    · exact ⟨n, h, Nat.le_refl _, fun k hk z => c ⟨k, hk, z⟩⟩
theorem flat_len {α β : Type} {f : α → List β} {n : Nat} : ∀ (l : List α), (∀ i ∈ l, (f i).length = n) → (l.flatMap f).length = l.length * n
  | [], _ => by simp
  | x :: l, h => by
    rw [List.flatMap_cons, List.length_append, flat_len l fun i hi => h i (List.mem_cons_of_mem _ hi), h x (List.mem_cons_self ..), List.length_cons, Nat.succ_mul, Nat.add_comm]
structure Ab (G : Type) where
  mul : G → G → G
  one : G
  inv : G → G
  assoc : ∀ x y z, mul (mul x y) z = mul x (mul y z)
  comm : ∀ x y, mul x y = mul y x
  om : ∀ x, mul one x = x
  im : ∀ x, mul (inv x) x = one
namespace Ab
section
variable {G : Type} {M : Ab G} {S T : List G} {x y z : G}
theorem mo (x : G) : M.mul x M.one = x := by rw [M.comm, M.om]
theorem mi (x : G) : M.mul x (M.inv x) = M.one := by rw [M.comm, M.im]
theorem inv_mul (x y : G) : M.mul (M.inv x) (M.mul x y) = y := by rw [← M.assoc, M.im, M.om]
theorem canc (h : M.mul x y = M.mul x z) : y = z := by
  have := congrArg (M.mul (M.inv x)) h
  rw [inv_mul, inv_mul] at this
  exact this
def pow (M : Ab G) (x : G) : Nat → G
  | 0 => M.one
  | n + 1 => M.mul (pow M x n) x
theorem pow_add (x : G) (m : Nat) : ∀ n, M.pow x (m + n) = M.mul (M.pow x m) (M.pow x n)
  | 0 => (mo _).symm
  | n + 1 => by
    show M.mul (M.pow x (m + n)) x = M.mul (M.pow x m) (M.mul (M.pow x n) x)
    rw [pow_add x m n, M.assoc]
theorem pow_mul (x : G) (m : Nat) : ∀ n, M.pow (M.pow x m) n = M.pow x (m * n)
  | 0 => rfl
  | n + 1 => by
    show M.mul (M.pow (M.pow x m) n) (M.pow x m) = _
    rw [pow_mul x m n, ← pow_add, Nat.mul_succ]
theorem pow_one (x : G) : M.pow x 1 = x := M.om x
theorem one_pow : ∀ n, M.pow M.one n = M.one
  | 0 => rfl
  | n + 1 => by
    show M.mul (M.pow M.one n) M.one = _
    rw [one_pow n, M.om]
theorem swap4 (a b c d : G) : M.mul (M.mul a b) (M.mul c d) = M.mul (M.mul a c) (M.mul b d) := by
  rw [M.assoc, M.assoc, ← M.assoc b, ← M.assoc c, M.comm b c]
theorem mul_pow (x y : G) : ∀ n, M.pow (M.mul x y) n = M.mul (M.pow x n) (M.pow y n)
  | 0 => (M.om _).symm
  | n + 1 => by
    show M.mul (M.pow (M.mul x y) n) (M.mul x y) = M.mul (M.mul (M.pow x n) x) (M.mul (M.pow y n) y)
    rw [mul_pow x y n, swap4]
theorem inv_pow (x : G) (n : Nat) : M.mul (M.pow x n) (M.pow (M.inv x) n) = M.one := by
  rw [← mul_pow, mi, one_pow]
/-- a part that is a group -/
structure Sub (M : Ab G) (S : List G) : Prop where
  nd : S.Nodup
  one : M.one ∈ S
  mul : ∀ {x y : G}, x ∈ S → y ∈ S → M.mul x y ∈ S
  inv : ∀ {x : G}, x ∈ S → M.inv x ∈ S
theorem Sub.div (h : Sub M S) (hx : x ∈ S) (hy : M.mul x y ∈ S) : y ∈ S := by
  have := h.mul (h.inv hx) hy
  rwa [inv_mul] at this
theorem Sub.pow (h : Sub M S) (hx : x ∈ S) : ∀ n, M.pow x n ∈ S
  | 0 => h.one
  | n + 1 => h.mul (h.pow hx n) hx
theorem Sub.mod (h : Sub M S) {t n : Nat} (ht : M.pow y t ∈ S) (hn : M.pow y n ∈ S) : M.pow y (n % t) ∈ S := by
  have e : M.pow y n = M.mul (M.pow (M.pow y t) (n / t)) (M.pow y (n % t)) := by
    rw [pow_mul, ← pow_add, Nat.div_add_mod]
  rw [e] at hn
  exact h.div (h.pow ht _) hn
/-- the part with one more -/
def more (M : Ab G) (S : List G) (y : G) (t : Nat) : List G := (List.range t).flatMap fun i => S.map (M.mul (M.pow y i))
theorem mem_more {t : Nat} : x ∈ more M S y t ↔ ∃ i s, i < t ∧ s ∈ S ∧ x = M.mul (M.pow y i) s := by
  unfold more
  rw [List.mem_flatMap]
  constructor
  · rintro ⟨i, hi, hx⟩
    obtain ⟨s, hs, rfl⟩ := List.mem_map.mp hx
    exact ⟨i, s, List.mem_range.mp hi, hs, rfl⟩
  · rintro ⟨i, s, hi, hs, rfl⟩
    exact ⟨i, List.mem_range.mpr hi, List.mem_map.mpr ⟨s, hs, rfl⟩⟩
theorem more_len (t : Nat) : (more M S y t).length = t * S.length := by
  unfold more
  rw [flat_len (n := S.length) _ fun i _ => List.length_map _, List.length_range]
theorem more_sub (h : Sub M S) {t : Nat} (t0 : 0 < t) (ht : M.pow y t ∈ S) (hl : ∀ k, 0 < k → k < t → M.pow y k ∉ S) : Sub M (more M S y t) := by
  have inn : ∀ i s, s ∈ S → M.mul (M.pow y i) s ∈ more M S y t := fun i s hs => by
    have e : M.mul (M.pow y i) s = M.mul (M.pow y (i % t)) (M.mul (M.pow (M.pow y t) (i / t)) s) := by
      rw [← M.assoc, pow_mul, ← pow_add, Nat.mod_add_div]
    rw [e]
    exact mem_more.mpr ⟨i % t, _, Nat.mod_lt _ t0, h.mul (h.pow ht _) hs, rfl⟩
  refine ⟨?_, ?_, ?_, ?_⟩
  · unfold more
    refine List.pairwise_flatMap.mpr ⟨fun i _ => List.Pairwise.map _ (fun a b hab z => hab (canc z)) h.nd, ?_⟩
    refine List.Pairwise.imp_of_mem (R := fun a b => a < b) (fun {i j} hi hj hij x hx z hz e => ?_) (List.pairwise_lt_range)
    obtain ⟨s, hs, rfl⟩ := List.mem_map.mp hx
    obtain ⟨s', hs', rfl⟩ := List.mem_map.mp hz
    have e2 : M.pow y j = M.mul (M.pow y i) (M.pow y (j - i)) := by
      rw [← pow_add]
      congr 1
      omega
    rw [e2, M.assoc] at e
    have e3 := canc e
    have := h.div (x := s') hs' (y := M.pow y (j - i)) (by rw [M.comm, ← e3]; exact hs)
    have hj := List.mem_range.mp hj
    exact hl (j - i) (by omega) (by omega) this
  · have := inn 0 M.one h.one
    rwa [show M.pow y 0 = M.one from rfl, M.om] at this
  · intro a b ha hb
    obtain ⟨i, s, hi, hs, rfl⟩ := mem_more.mp ha
    obtain ⟨j, s', hj, hs', rfl⟩ := mem_more.mp hb
    rw [swap4, ← pow_add]
    exact inn _ _ (h.mul hs hs')
  · intro a ha
    obtain ⟨i, s, hi, hs, rfl⟩ := mem_more.mp ha
    have e : M.inv (M.mul (M.pow y i) s) = M.mul (M.pow y (t - i)) (M.mul (M.inv (M.pow y t)) (M.inv s)) := by
      refine canc (M := M) (x := M.mul (M.pow y i) s) ?_
      have e2 : M.mul s (M.mul (M.inv (M.pow y t)) (M.inv s)) = M.inv (M.pow y t) := by
        rw [M.comm, M.assoc, M.im, mo]
      rw [mi, swap4, ← pow_add, show i + (t - i) = t by omega, e2, mi]
    rw [e]
    exact inn _ _ (h.mul (h.inv ht) (h.inv hs))
theorem sub_more {t : Nat} (t0 : 0 < t) : S ⊆ more M S y t := fun s hs => mem_more.mpr ⟨0, s, t0, hs, (M.om s).symm⟩
theorem more_in (hT : Sub M T) (hS : S ⊆ T) (hy : y ∈ T) (t : Nat) : more M S y t ⊆ T := fun a ha => by
  obtain ⟨i, s, hi, hs, rfl⟩ := mem_more.mp ha
  exact hT.mul (hT.pow hy i) (hS hs)
/-- from a part to a greater one, step by step -/
theorem chain {P : Nat → Prop} (h1 : P 1) (hm : ∀ {a b}, P a → P b → P (a * b)) (hT : Sub M T) (step : ∀ S, Sub M S → S ⊆ T → ∀ y, y ∈ T → y ∉ S → ∃ x t, x ∈ T ∧ x ∉ S ∧ 0 < t ∧ P t ∧ M.pow x t ∈ S ∧ ∀ k, 0 < k → k < t → M.pow x k ∉ S) :
    ∀ (n : Nat) (S : List G), T.length - S.length = n → Sub M S → S ⊆ T → ∃ m, P m ∧ T.length = m * S.length := by
  intro n
  induction n using Nat.strongRecOn with
  | ind n ih =>
    intro S hn hS hin
    by_cases c : ∃ y, y ∈ T ∧ y ∉ S
    · obtain ⟨y, y1, y2⟩ := c
      obtain ⟨x, t, x1, x2, t0, pt, xt, xl⟩ := step S hS hin y y1 y2
      have t1 : t ≠ 1 := fun z => by
        rw [z, pow_one] at xt
        exact x2 xt
      have k1 := more_sub hS t0 xt xl
      have k2 := more_in (y := x) hT hin x1 t
      have k3 := more_len (M := M) (S := S) (y := x) t
      have k4 := k1.nd.length_le_of_subset k2
      have s0 : 0 < S.length := List.length_pos_of_mem hS.one
      have k5 : S.length < t * S.length := by
        have : 2 * S.length ≤ t * S.length := Nat.mul_le_mul_right _ (by omega)
        omega
      obtain ⟨m, pm, hm'⟩ := ih (T.length - (more M S x t).length) (by omega) (more M S x t) rfl k1 k2
      exact ⟨m * t, hm pm pt, by rw [hm', k3, Nat.mul_assoc]⟩
    · have hle : T ⊆ S := fun y hy => by
        by_cases d : y ∈ S
        · exact d
        · exact absurd ⟨y, hy, d⟩ c
      have a1 := hT.nd.length_le_of_subset hle
      have a2 := hS.nd.length_le_of_subset hin
      exact ⟨1, h1, by omega⟩
/-- how many there are of a part divides how many there are -/
theorem lagrange (hS : Sub M S) (hT : Sub M T) (hin : S ⊆ T) (tor : ∀ x : G, ∃ n, 0 < n ∧ M.pow x n = M.one) : S.length ∣ T.length := by
  obtain ⟨m, _, hm⟩ := chain (P := fun _ => True) trivial (fun _ _ => trivial) hT (fun S' hS' hin' y y1 y2 => by
    obtain ⟨n, n0, hn⟩ := tor y
    obtain ⟨m, m1, m2, m3⟩ := least_nat (P := fun k => 0 < k ∧ M.pow y k ∈ S') n ⟨n0, by rw [hn]; exact hS'.one⟩
    exact ⟨y, m, y1, y2, m1.1, trivial, m1.2, fun k k0 k1 z => m3 k k1 ⟨k0, z⟩⟩) _ S rfl hS hin
  exact ⟨m, by rw [hm, Nat.mul_comm]⟩
/-- where all are of orders that are powers of a prime -/
theorem p_group {p K : Nat} (hp : 2 ≤ p) (pr : ∀ q, q ∣ p → q = 1 ∨ q = p) (hS : Sub M S) (hT : Sub M T) (hin : S ⊆ T) (tor : ∀ x ∈ T, M.pow x (p ^ K) = M.one) : ∃ m, T.length = p ^ m * S.length := by
  obtain ⟨m, ⟨j, rfl⟩, hm⟩ := chain (P := fun t => ∃ j, t = p ^ j) ⟨0, rfl⟩ (fun ⟨i, hi⟩ ⟨j, hj⟩ => ⟨i + j, by rw [hi, hj, Nat.pow_add]⟩) hT (fun S' hS' hin' y y1 y2 => by
    obtain ⟨m, m1, _, m3⟩ := least_nat (P := fun k => M.pow y (p ^ k) ∈ S') K (by rw [tor y y1]; exact hS'.one)
    have m0 : m ≠ 0 := fun z => by
      rw [z, Nat.pow_zero, pow_one] at m1
      exact y2 m1
    obtain ⟨j, rfl⟩ : ∃ j, m = j + 1 := ⟨m - 1, by omega⟩
    have hx : M.pow y (p ^ j) ∉ S' := m3 j (by omega)
    have hxp : M.pow (M.pow y (p ^ j)) p ∈ S' := by
      rw [pow_mul, ← Nat.pow_succ]
      exact m1
    refine ⟨M.pow y (p ^ j), p, hT.pow y1 _, hx, by omega, ⟨1, (Nat.pow_one p).symm⟩, hxp, fun k k0 k1 z => ?_⟩
    -- the least one divides p
    obtain ⟨t, ⟨t0, ht⟩, t2, t3⟩ := least_nat (P := fun k => 0 < k ∧ M.pow (M.pow y (p ^ j)) k ∈ S') k ⟨k0, z⟩
    have hmod := hS'.mod ht hxp
    have hd : t ∣ p := by
      refine Nat.dvd_of_mod_eq_zero ?_
      by_cases c : p % t = 0
      · exact c
      · exact absurd ⟨by omega, hmod⟩ (t3 (p % t) (Nat.mod_lt _ t0))
    rcases pr t hd with e | e
    · rw [e, pow_one] at ht
      exact hx ht
    · omega) _ S rfl hS hin
  exact ⟨j, hm⟩
/-- each one's order is at most how many there are -/
theorem tor {all : List G} (h : ∀ x : G, x ∈ all) (x : G) : ∃ n, 0 < n ∧ n ≤ all.length ∧ M.pow x n = M.one := by
  refine Classical.byContradiction fun c => ?_
  have hnd : ((List.range (all.length + 1)).map (M.pow x)).Nodup := by
    refine List.pairwise_map.mpr (List.Pairwise.imp_of_mem (R := fun a b => a < b) (fun {i j} hi hj hij e => ?_) List.pairwise_lt_range)
    have hj := List.mem_range.mp hj
    have e2 : M.pow x j = M.mul (M.pow x i) (M.pow x (j - i)) := by
      rw [← pow_add]
      congr 1
      omega
    have e3 : M.mul (M.pow x i) M.one = M.mul (M.pow x i) (M.pow x (j - i)) := by
      rw [mo, ← e2, e]
    exact c ⟨j - i, by omega, by omega, (canc e3).symm⟩
  have := hnd.length_le_of_subset (l₂ := all) fun y _ => h y
  rw [List.length_map, List.length_range] at this
  omega
/-- the least power that is one divides each -/
theorem ord_dvd {o n : Nat} (h0 : 0 < o) (h1 : M.pow x o = M.one) (h2 : ∀ k, 0 < k → k < o → M.pow x k ≠ M.one) : M.pow x n = M.one ↔ n % o = 0 := by
  have e : M.pow x n = M.pow x (n % o) := by
    have : M.pow x n = M.mul (M.pow (M.pow x o) (n / o)) (M.pow x (n % o)) := by
      rw [pow_mul, ← pow_add, Nat.div_add_mod]
    rw [this, h1, one_pow, M.om]
  constructor
  · intro h
    refine Classical.byContradiction fun c => ?_
    rw [e] at h
    exact h2 (n % o) (by omega) (Nat.mod_lt _ h0) h
  · intro h
    rw [e, h]
    rfl
/-- the part of those whose n times is one -/
theorem sub_of {all : List G} (h : ∀ x : G, x ∈ all) (hnd : all.Nodup) (n : Nat) {q : G → Bool} (hq : ∀ x, q x = true ↔ M.pow x n = M.one) : Sub M (all.filter q) := by
  have mem : ∀ x, x ∈ all.filter q ↔ M.pow x n = M.one := fun x => by
    rw [List.mem_filter, hq]
    exact ⟨fun z => z.2, fun z => ⟨h x, z⟩⟩
  refine ⟨List.Pairwise.filter _ hnd, (mem _).mpr (one_pow n), fun {a b} ha hb => ?_, fun {a} ha => ?_⟩
  · rw [mem] at *
    rw [mul_pow, ha, hb, M.om]
  · rw [mem] at *
    have := inv_pow (M := M) a n
    rwa [ha, M.om] at this
end
end Ab
end Fn

set_option Elab.async false
set_option linter.all false
/-! Primes, how often they divide; rows of numbers multiplied place by place. -/
namespace Fn
def Pr (p : Nat) : Prop := 2 ≤ p ∧ ∀ q, q ∣ p → q = 1 ∨ q = p
theorem nat_sorted_ext : ∀ {xs ys : List Nat}, xs.Pairwise (· < ·) → ys.Pairwise (· < ·) → (∀ z, z ∈ xs ↔ z ∈ ys) → xs = ys
  | [], [], _, _, _ => rfl
  | [], y :: ys, _, _, h => absurd ((h y).mpr (List.mem_cons_self ..)) List.not_mem_nil
  | x :: xs, [], _, _, h => absurd ((h x).mp (List.mem_cons_self ..)) List.not_mem_nil
  | x :: xs, y :: ys, hx, hy, h => by
    obtain ⟨hx1, hx2⟩ := List.pairwise_cons.mp hx
    obtain ⟨hy1, hy2⟩ := List.pairwise_cons.mp hy
    have e : x = y := by
      rcases List.mem_cons.mp ((h x).mp (List.mem_cons_self ..)) with e | e
      · exact e
      · rcases List.mem_cons.mp ((h y).mpr (List.mem_cons_self ..)) with e' | e'
        · exact e'.symm
        · have := hx1 y e'
          have := hy1 x e
          omega
    subst e
    congr 1
    refine nat_sorted_ext hx2 hy2 fun z => ?_
    constructor
    · intro hz
      rcases List.mem_cons.mp ((h z).mp (List.mem_cons_of_mem _ hz)) with e | e
      · have := hx1 z hz
        omega
      · exact e
    · intro hz
      rcases List.mem_cons.mp ((h z).mpr (List.mem_cons_of_mem _ hz)) with e | e
      · have := hy1 z hz
        omega
      · exact e
/-- the specification's test -/
def tst (n p : Nat) : Bool := decide (2 ≤ p) && (n % p == 0 && (List.range p).all fun k => decide (k < 2) || p % k != 0)
theorem primesOf_eq (n : Nat) : Fc.primesOf n = (List.range (n + 1)).filter (tst n) := rfl
theorem tst_iff {n p : Nat} : tst n p = true ↔ Pr p ∧ p ∣ n := by
  unfold tst Pr
  simp only [Bool.and_eq_true, decide_eq_true_eq, beq_iff_eq, List.all_eq_true, List.mem_range, Bool.or_eq_true, bne_iff_ne]
  constructor
  · rintro ⟨h2, hn, ha⟩
    refine ⟨⟨h2, fun q hq => ?_⟩, Nat.dvd_of_mod_eq_zero hn⟩
    have hle := Nat.le_of_dvd (by omega) hq
    by_cases c : q = p
    · exact .inr c
    · rcases ha q (by omega) with h | h
      · have : q ≠ 0 := fun z => by
          rw [z] at hq
          have := Nat.eq_zero_of_zero_dvd hq
          omega
        omega
      · exact absurd (Nat.mod_eq_zero_of_dvd hq) h
  · rintro ⟨⟨h2, hq⟩, hd⟩
    refine ⟨h2, Nat.mod_eq_zero_of_dvd hd, fun k hk => ?_⟩
    by_cases c : k < 2
    · exact .inl c
    · refine .inr fun z => ?_
      have := hq k (Nat.dvd_of_mod_eq_zero z)
      omega
/-- each number above 1 has a prime -/
theorem has_prime : ∀ (n : Nat), 2 ≤ n → ∃ p, Pr p ∧ p ∣ n := by
  intro n
  induction n using Nat.strongRecOn with
  | ind n ih =>
    intro h
    by_cases c : Pr n
    · exact ⟨n, c, Nat.dvd_refl n⟩
    · have : ∃ q, q ∣ n ∧ q ≠ 1 ∧ q ≠ n := Classical.byContradiction fun z => c ⟨h, fun q hq => Classical.byContradiction fun w => z ⟨q, hq, fun a => w (.inl a), fun a => w (.inr a)⟩⟩
      obtain ⟨q, q1, q2, q3⟩ := this
      have hle := Nat.le_of_dvd (by omega) q1
      have q0 : q ≠ 0 := fun z => by
        rw [z] at q1
        have := Nat.eq_zero_of_zero_dvd q1
        omega
      obtain ⟨p, p1, p2⟩ := ih q (by omega) (by omega)
      exact ⟨p, p1, Nat.dvd_trans p2 q1⟩
theorem Pr.dvd_mul {p a b : Nat} (h : Pr p) (hd : p ∣ a * b) : p ∣ a ∨ p ∣ b := by
  rcases h.2 (Nat.gcd p a) (Nat.gcd_dvd_left p a) with e | e
  · right
    exact Nat.Coprime.dvd_of_dvd_mul_left e hd
  · left
    have := Nat.gcd_dvd_right p a
    rwa [e] at this
theorem Pr.dvd_pr {p q : Nat} (h : Pr p) (k : Pr q) (hd : p ∣ q) : p = q := by
  rcases k.2 p hd with e | e
  · have := h.1
    omega
  · exact e
theorem Pr.dvd_pow {p a : Nat} (h : Pr p) : ∀ k, p ∣ a ^ k → p ∣ a
  | 0, hd => by
    have := Nat.le_of_dvd (by simp) hd
    have := h.1
    simp at *
    omega
  | k + 1, hd => by
    rcases h.dvd_mul (a := a ^ k) (b := a) hd with e | e
    · exact h.dvd_pow k e
    · exact e

/-! ### the primes of a number, found one by one -/
/-- what stands before the turn of q: m is n without the primes below q -/
structure PSt (n m q : Nat) : Prop where
  m0 : 0 < m
  mn : m ≤ n
  q2 : 2 ≤ q
  pr : ∀ r, Pr r → (r ∣ m ↔ r ∣ n ∧ q ≤ r)
theorem PSt.start {n : Nat} (h : 0 < n) : PSt n n 2 := ⟨h, Nat.le_refl n, Nat.le_refl 2, fun r hr => ⟨fun h => ⟨h, hr.1⟩, fun h => h.1⟩⟩
theorem filt_succ (n q : Nat) : (List.range (q + 1)).filter (tst n) = (List.range q).filter (tst n) ++ if tst n q = true then [q] else [] := by
  rw [List.range_succ, List.filter_append]
  congr 1
  rw [List.filter_cons, List.filter_nil]
/-- q divides what is left: a prime of n -/
theorem PSt.yes {n m q : Nat} (h : PSt n m q) (hd : q ∣ m) : Pr q ∧ tst n q = true := by
  obtain ⟨p, p1, p2⟩ := has_prime q h.q2
  have := ((h.pr p p1).mp (Nat.dvd_trans p2 hd)).2
  have hle := Nat.le_of_dvd (by have := h.q2; omega) p2
  have e : p = q := by omega
  subst e
  exact ⟨p1, tst_iff.mpr ⟨p1, ((h.pr p p1).mp hd).1⟩⟩
theorem PSt.no {n m q : Nat} (h : PSt n m q) (hd : ¬ q ∣ m) : tst n q = false := by
  cases c : tst n q with
  | false => rfl
  | true =>
    obtain ⟨c1, c2⟩ := tst_iff.mp c
    exact absurd ((h.pr q c1).mpr ⟨c2, Nat.le_refl q⟩) hd
theorem PSt.skip {n m q : Nat} (h : PSt n m q) (hd : ¬ q ∣ m) : PSt n m (q + 1) := by
  refine ⟨h.m0, h.mn, by have := h.q2; omega, fun r hr => ?_⟩
  rw [h.pr r hr]
  constructor
  · rintro ⟨h1, h2⟩
    refine ⟨h1, ?_⟩
    by_cases c : r = q
    · subst c
      exact absurd ((h.pr r hr).mpr ⟨h1, h2⟩) hd
    · omega
  · rintro ⟨h1, h2⟩
    exact ⟨h1, by omega⟩
/-- within the turn: q divided out so far -/
structure PIn (m q x : Nat) : Prop where
  x0 : 0 < x
  xm : x ≤ m
  pr : ∀ r, Pr r → r ≠ q → (r ∣ x ↔ r ∣ m)
theorem PIn.start {m q : Nat} (h : 0 < m) : PIn m q m := ⟨h, Nat.le_refl m, fun _ _ _ => Iff.rfl⟩
theorem PIn.go {m q x : Nat} (h : PIn m q x) (hq : Pr q) (hd : q ∣ x) : PIn m q (x / q) ∧ x / q < x := by
  obtain ⟨y, rfl⟩ := hd
  have q2 := hq.1
  have e : q * y / q = y := Nat.mul_div_cancel_left y (by omega)
  have y0 : 0 < y := by
    rcases Nat.eq_zero_or_pos y with z | z
    · have := h.x0
      rw [z] at this
      omega
    · exact z
  have hlt : y < q * y := by
    have : 2 * y ≤ q * y := Nat.mul_le_mul_right y q2
    omega
  rw [e]
  refine ⟨⟨y0, by have := h.xm; omega, fun r hr hne => ?_⟩, hlt⟩
  rw [← h.pr r hr hne]
  constructor
  · intro h
    exact Nat.dvd_trans h (Nat.dvd_mul_left y q)
  · intro h
    rcases hr.dvd_mul h with c | c
    · exact absurd (hr.dvd_pr hq c) hne
    · exact c
theorem PIn.stop {n m q x : Nat} (h : PSt n m q) (k : PIn m q x) (hq : Pr q) (hd : ¬ q ∣ x) : PSt n x (q + 1) := by
  refine ⟨k.x0, Nat.le_trans k.xm h.mn, by have := h.q2; omega, fun r hr => ?_⟩
  by_cases c : r = q
  · subst c
    constructor
    · intro z
      exact absurd z hd
    · rintro ⟨_, z⟩
      omega
  · rw [k.pr r hr c, h.pr r hr]
    constructor
    · rintro ⟨h1, h2⟩
      exact ⟨h1, by omega⟩
    · rintro ⟨h1, h2⟩
      exact ⟨h1, by omega⟩
/-- the end: what is left is 1 or a prime -/
theorem PSt.fin {n m q : Nat} (h : PSt n m q) (hlt : m < q * q) : Fc.primesOf n = (List.range q).filter (tst n) ++ if 1 < m then [m] else [] := by
  have hm : 1 < m → Pr m ∧ m ∣ n ∧ q ≤ m := fun h1 => by
    obtain ⟨p, p1, p2⟩ := has_prime m h1
    have hp := (h.pr p p1).mp p2
    have e : p = m := by
      obtain ⟨s, hs⟩ := p2
      by_cases c : 2 ≤ s
      · exfalso
        obtain ⟨r, r1, r2⟩ := has_prime s c
        have hr := (h.pr r r1).mp (Nat.dvd_trans r2 ⟨p, by rw [hs, Nat.mul_comm]⟩)
        have hrs := Nat.le_of_dvd (by omega) r2
        have := Nat.mul_le_mul hp.2 (Nat.le_trans hr.2 hrs)
        omega
      · have s0 : s ≠ 0 := fun z => by
          rw [z] at hs
          omega
        have : s = 1 := by omega
        rw [this, Nat.mul_one] at hs
        exact hs.symm
    subst e
    exact ⟨p1, hp⟩
  rw [primesOf_eq]
  have n0 : 0 < n := Nat.lt_of_lt_of_le h.m0 h.mn
  refine nat_sorted_ext (List.Pairwise.filter _ List.pairwise_lt_range) ?_ fun z => ?_
  · refine List.pairwise_append.mpr ⟨List.Pairwise.filter _ List.pairwise_lt_range, ?_, fun a ha b hb => ?_⟩
    · split <;> simp
    · have ha := List.mem_range.mp (List.mem_filter.mp ha).1
      split at hb
      · rename_i c
        have := (hm c).2.2
        have := List.mem_singleton.mp hb
        omega
      · exact absurd hb List.not_mem_nil
  · rw [List.mem_append, List.mem_filter, List.mem_filter, List.mem_range, List.mem_range]
    constructor
    · rintro ⟨h1, h2⟩
      by_cases c : z < q
      · exact .inl ⟨c, h2⟩
      · right
        obtain ⟨t1, t2⟩ := tst_iff.mp h2
        have hd := (h.pr z t1).mpr ⟨t2, by omega⟩
        have hle := Nat.le_of_dvd h.m0 hd
        have m1 : 1 < m := by
          have := t1.1
          omega
        rw [if_pos m1, t1.dvd_pr (hm m1).1 hd]
        exact List.mem_singleton.mpr rfl
    · rintro (⟨h1, h2⟩ | h1)
      · have := Nat.le_of_dvd n0 (tst_iff.mp h2).2
        exact ⟨by omega, h2⟩
      · split at h1
        · rename_i c
          obtain ⟨m1, m2, _⟩ := hm c
          rw [List.mem_singleton.mp h1]
          have := Nat.le_of_dvd n0 m2
          exact ⟨by omega, tst_iff.mpr ⟨m1, m2⟩⟩
        · exact absurd h1 List.not_mem_nil
theorem primesOf_pr {n p : Nat} (h : p ∈ Fc.primesOf n) : Pr p ∧ p ∣ n := by
  rw [primesOf_eq] at h
  exact tst_iff.mp (List.mem_filter.mp h).2

/-! ### how often -/
theorem often_pow {p : Nat} (hp : 2 ≤ p) {u : Nat} (hu : ¬ p ∣ u) : ∀ (r f : Nat), r ≤ f → Fc.often p f (p ^ r * u) = r
  | r, 0, h => by
    have : r = 0 := by omega
    rw [this]
    rfl
  | 0, f + 1, _ => by
    unfold Fc.often
    rw [if_pos]
    right
    right
    intro z
    rw [Nat.pow_zero, Nat.one_mul] at z
    exact hu (Nat.dvd_of_mod_eq_zero z)
  | r + 1, f + 1, h => by
    unfold Fc.often
    have e : p ^ (r + 1) * u = p * (p ^ r * u) := by rw [Nat.pow_succ, Nat.mul_comm (p ^ r) p, Nat.mul_assoc]
    rw [if_neg, e, Nat.mul_div_cancel_left _ (by omega), often_pow hp hu r f (by omega)]
    rintro (z | z | z)
    · omega
    · rcases Nat.mul_eq_zero.mp z with z | z
      · have := Nat.pow_pos (n := r + 1) (show 0 < p by omega)
        omega
      · rw [z] at hu
        exact hu (Nat.dvd_zero p)
    · rw [e] at z
      exact z (Nat.mul_mod_right p _)
theorem often_p {p : Nat} (hp : 2 ≤ p) {r f : Nat} (h : r ≤ f) : Fc.often p f (p ^ r) = r := by
  have := often_pow hp (u := 1) (fun z => by have := Nat.dvd_one.mp z; omega) r f h
  rwa [Nat.mul_one] at this
/-- a number is a power times what p does not divide -/
theorem split_pow {p : Nat} (hp : 2 ≤ p) : ∀ (n : Nat), 0 < n → ∃ r u, n = p ^ r * u ∧ ¬ p ∣ u := by
  intro n
  induction n using Nat.strongRecOn with
  | ind n ih =>
    intro h
    by_cases c : p ∣ n
    · obtain ⟨y, rfl⟩ := c
      have y0 : 0 < y := by
        rcases Nat.eq_zero_or_pos y with z | z
        · rw [z] at h
          omega
        · exact z
      have : 2 * y ≤ p * y := Nat.mul_le_mul_right y hp
      obtain ⟨r, u, h1, h2⟩ := ih y (by omega) y0
      exact ⟨r + 1, u, by rw [h1, Nat.pow_succ, Nat.mul_comm (p ^ r) p, Nat.mul_assoc], h2⟩
    · exact ⟨0, n, by simp, c⟩
theorem pow_gt {p : Nat} (hp : 2 ≤ p) : ∀ r, r < p ^ r
  | 0 => by simp
  | r + 1 => by
    have := pow_gt hp r
    have : p ^ r * 2 ≤ p ^ r * p := Nat.mul_le_mul_left _ hp
    rw [Nat.pow_succ]
    omega
theorem pow_small {p n r : Nat} (hp : 2 ≤ p) (h : p ^ r ≤ n) (hn : n < 2 ^ 16) : r ≤ 15 := by
  have h1 : 2 ^ r ≤ p ^ r := Nat.pow_le_pow_left hp r
  by_cases c : r ≤ 15
  · exact c
  · have : (2 : Nat) ^ 16 ≤ 2 ^ r := Nat.pow_le_pow_right (by decide) (by omega)
    omega
theorem often_n {p n : Nat} (hp : 2 ≤ p) (n0 : 0 < n) (hn : n < 2 ^ 16) : p ^ Fc.often p 64 n ∣ n ∧ ∀ r, p ^ r ∣ n → r ≤ Fc.often p 64 n := by
  obtain ⟨r, u, rfl, hu⟩ := split_pow hp n n0
  have u0 : 0 < u := by
    rcases Nat.eq_zero_or_pos u with z | z
    · rw [z] at n0
      omega
    · exact z
  have h1 : p ^ r * 1 ≤ p ^ r * u := Nat.mul_le_mul_left _ u0
  have h2 : r ≤ 15 := pow_small hp (by omega) hn
  rw [often_pow hp hu r 64 (by omega)]
  refine ⟨Nat.dvd_mul_right _ _, fun s hs => ?_⟩
  by_cases c : s ≤ r
  · exact c
  · exfalso
    obtain ⟨t, rfl⟩ : ∃ t, s = r + (t + 1) := ⟨s - r - 1, by omega⟩
    rw [Nat.pow_add] at hs
    have := Nat.dvd_of_mul_dvd_mul_left (Nat.pow_pos (by omega)) hs
    exact hu (Nat.dvd_trans ⟨p ^ t, by rw [Nat.pow_succ, Nat.mul_comm]⟩ this)

/-! ### rows multiplied place by place -/
def mulL : List Nat → List Nat → List Nat
  | [], b => b
  | a, [] => a
  | x :: a, y :: b => x * y :: mulL a b
theorem mulL_nil : ∀ a, mulL a [] = a
  | [] => rfl
  | _ :: _ => rfl
theorem mulL_len : ∀ a b, (mulL a b).length = max a.length b.length
  | [], b => by simp [mulL]
  | x :: a, [] => by simp [mulL]
  | x :: a, y :: b => by
    show (mulL a b).length + 1 = _
    rw [mulL_len a b, List.length_cons, List.length_cons]
    omega
theorem mulL_get : ∀ (a b : List Nat) (i : Nat), (mulL a b).getD i 1 = a.getD i 1 * b.getD i 1
  | [], b, i => by simp [mulL]
  | x :: a, [], i => by simp [mulL]
  | x :: a, y :: b, 0 => by simp [mulL]
  | x :: a, y :: b, i + 1 => by
    show (mulL a b).getD i 1 = a.getD i 1 * b.getD i 1
    exact mulL_get a b i
theorem mulL_big : ∀ {a b : List Nat}, (∀ x ∈ a, 1 < x) → (∀ x ∈ b, 1 < x) → ∀ x ∈ mulL a b, 1 < x
  | [], b, _, hb, x, hx => hb x hx
  | y :: a, [], ha, _, x, hx => ha x hx
  | y :: a, z :: b, ha, hb, x, hx => by
    rcases List.mem_cons.mp hx with e | e
    · rw [e]
      have h1 := ha y (List.mem_cons_self ..)
      have h2 := hb z (List.mem_cons_self ..)
      have := Nat.mul_le_mul h1 h2
      omega
    · exact mulL_big (fun x hx => ha x (List.mem_cons_of_mem _ hx)) (fun x hx => hb x (List.mem_cons_of_mem _ hx)) x e
/-- one place more -/
theorem mulL_step : ∀ (a b : List Nat) (i : Nat), i < b.length → ∃ m, m = (if i = (mulL a (b.take i)).length then mulL a (b.take i) ++ [1] else mulL a (b.take i)) ∧ i < m.length ∧ m.set i (m.getD i 1 * b.getD i 1) = mulL a (b.take (i + 1))
  | [], b, i, h => by
    refine ⟨_, rfl, ?_⟩
    have e : ∀ k, mulL [] (b.take k) = b.take k := fun _ => rfl
    have hl : (b.take i).length = i := by rw [List.length_take]; omega
    rw [e, e, if_pos hl.symm]
    refine ⟨by rw [List.length_append, hl]; simp, ?_⟩
    have g1 : (b.take i ++ [1]).getD i 1 = 1 := by
      rw [List.getD_eq_getElem?_getD, List.getElem?_append_right (by omega), hl, Nat.sub_self]
      rfl
    rw [g1, Nat.one_mul, List.set_append_right _ _ (by omega), hl, Nat.sub_self, List.take_add_one, List.getElem?_eq_getElem h, List.getD_eq_getElem?_getD, List.getElem?_eq_getElem h]
    rfl
  | x :: a, [], i, h => absurd h (by simp)
  | x :: a, y :: b, 0, h => by
    refine ⟨_, rfl, ?_⟩
    have e : mulL (x :: a) ((y :: b).take 0) = x :: a := rfl
    rw [e, if_neg (by simp)]
    refine ⟨by simp, ?_⟩
    show x * y :: a = x * y :: mulL a (b.take 0)
    rw [List.take_zero, mulL_nil]
  | x :: a, y :: b, i + 1, h => by
    obtain ⟨m, hm, h1, h2⟩ := mulL_step a b i (by simpa using h)
    have e : mulL (x :: a) ((y :: b).take (i + 1)) = x * y :: mulL a (b.take i) := rfl
    refine ⟨x * y :: m, ?_, by simpa using h1, ?_⟩
    · rw [e, hm]
      by_cases c : i = (mulL a (b.take i)).length
      · rw [if_pos c, if_pos (by rw [List.length_cons, ← c])]
        rfl
      · rw [if_neg c, if_neg (by rw [List.length_cons]; omega)]
    · show x * y :: m.set i (m.getD i 1 * b.getD i 1) = x * y :: mulL a (b.take (i + 1))
      rw [h2]
theorem rep_get (r p i : Nat) : (List.replicate r p).getD i 1 = if i < r then p else 1 := by
  rw [List.getD_eq_getElem?_getD, List.getElem?_replicate]
  split <;> rfl
/-- the row of the ranks -/
def rowOf (p : Nat) (rs : List Nat) : List Nat := rs.foldl (fun l r => mulL l (List.replicate r p)) []
theorem row_get (p i : Nat) : ∀ (rs l : List Nat), (rs.foldl (fun l r => mulL l (List.replicate r p)) l).getD i 1 = l.getD i 1 * p ^ (rs.filter fun r => decide (i < r)).length
  | [], l => by simp
  | r :: rs, l => by
    show (rs.foldl (fun l r => mulL l (List.replicate r p)) (mulL l (List.replicate r p))).getD i 1 = _
    rw [row_get p i rs, mulL_get, rep_get, List.filter_cons]
    by_cases c : i < r
    · rw [if_pos c, if_pos (by simpa using c), List.length_cons, Nat.pow_succ, Nat.mul_comm (p ^ _) p, Nat.mul_assoc]
    · rw [if_neg c, if_neg (by simpa using c), Nat.mul_one]
theorem row_big {p : Nat} (hp : 1 < p) : ∀ (rs l : List Nat), (∀ x ∈ l, 1 < x) → ∀ x ∈ rs.foldl (fun l r => mulL l (List.replicate r p)) l, 1 < x
  | [], l, h => h
  | r :: rs, l, h => row_big hp rs _ (mulL_big h fun x hx => by rw [(List.mem_replicate.mp hx).2]; exact hp)
theorem row_len {p k : Nat} : ∀ (rs l : List Nat), (∀ r ∈ rs, r ≤ k) → l.length ≤ k → (rs.foldl (fun l r => mulL l (List.replicate r p)) l).length ≤ k
  | [], l, _, h => h
  | r :: rs, l, hr, h => row_len rs _ (fun x hx => hr x (List.mem_cons_of_mem _ hx)) (by
    rw [mulL_len, List.length_replicate]
    have := hr r (List.mem_cons_self ..)
    omega)
/-- nothing more comes of ranks that are 0 -/
theorem row_zeros {p : Nat} : ∀ (rs l : List Nat), (∀ r ∈ rs, r = 0) → rs.foldl (fun l r => mulL l (List.replicate r p)) l = l
  | [], l, _ => rfl
  | r :: rs, l, h => by
    have e := h r (List.mem_cons_self ..)
    subst e
    show rs.foldl (fun l r => mulL l (List.replicate r p)) (mulL l []) = l
    rw [mulL_nil]
    exact row_zeros rs l fun x hx => h x (List.mem_cons_of_mem _ hx)
theorem mulL_as : ∀ a b c, mulL (mulL a b) c = mulL a (mulL b c)
  | [], b, c => rfl
  | x :: a, [], c => rfl
  | x :: a, y :: b, [] => rfl
  | x :: a, y :: b, z :: c => by
    show x * y * z :: mulL (mulL a b) c = x * (y * z) :: mulL a (mulL b c)
    rw [mulL_as a b c, Nat.mul_assoc]
/-- the program's row of a group -/
def grpRow (orders : List Nat) (ps : List Nat) : List Nat := ps.foldl (fun l p => mulL l (rowOf p (Fc.ranks orders p))) []
theorem grp_get (orders : List Nat) (i : Nat) : ∀ (ps l : List Nat) (k : Nat), l.getD i 1 = k → (ps.foldl (fun l p => mulL l (rowOf p (Fc.ranks orders p))) l).getD i 1 = (ps.map fun p => p ^ ((Fc.ranks orders p).filter fun r => decide (i < r)).length).foldl (fun a b => a * b) k
  | [], l, k, h => h
  | p :: ps, l, k, h => by
    refine grp_get orders i ps _ _ ?_
    rw [mulL_get, h]
    congr 1
    unfold rowOf
    rw [row_get]
    simp
theorem grp_big (orders : List Nat) : ∀ (ps l : List Nat), (∀ p ∈ ps, 1 < p) → (∀ x ∈ l, 1 < x) → ∀ x ∈ ps.foldl (fun l p => mulL l (rowOf p (Fc.ranks orders p))) l, 1 < x
  | [], l, _, h => h
  | p :: ps, l, hp, h => grp_big orders ps _ (fun q hq => hp q (List.mem_cons_of_mem _ hq)) (mulL_big h (row_big (hp p (List.mem_cons_self ..)) _ [] fun _ z => absurd z List.not_mem_nil))
theorem grp_len (orders : List Nat) {k : Nat} : ∀ (ps l : List Nat), (∀ p ∈ ps, ∀ r ∈ Fc.ranks orders p, r ≤ k) → l.length ≤ k → (ps.foldl (fun l p => mulL l (rowOf p (Fc.ranks orders p))) l).length ≤ k
  | [], l, _, h => h
  | p :: ps, l, hp, h => grp_len orders ps _ (fun q hq => hp q (List.mem_cons_of_mem _ hq)) (by
    rw [mulL_len]
    have := row_len (p := p) (k := k) (Fc.ranks orders p) [] (hp p (List.mem_cons_self ..)) (Nat.zero_le k)
    unfold rowOf
    omega)
/-- a row of numbers above 1 told place by place -/
theorem row_told : ∀ (k : Nat) (l : List Nat), (∀ x ∈ l, 1 < x) → l.length ≤ k → ((List.range k).map fun i => l.getD i 1).filter (fun x => decide (1 < x)) = l
  | k, [], _, _ => by
    refine List.filter_eq_nil_iff.mpr fun x hx => ?_
    obtain ⟨i, _, rfl⟩ := List.mem_map.mp hx
    simp
  | 0, x :: l, _, h => absurd h (by simp)
  | k + 1, x :: l, h, hl => by
    rw [List.range_succ_eq_map, List.map_cons, List.map_map, List.filter_cons, if_pos]
    · have := row_told k l (fun y hy => h y (List.mem_cons_of_mem _ hy)) (by simpa using hl)
      show x :: ((List.range k).map fun i => l.getD i 1).filter (fun x => decide (1 < x)) = x :: l
      rw [this]
    · have := h x (List.mem_cons_self ..)
      simpa using this
theorem group_is {orders : List Nat} (h : ∀ p ∈ Fc.primesOf orders.length, ∀ r ∈ Fc.ranks orders p, r ≤ 16) : Fc.group orders = grpRow orders (Fc.primesOf orders.length) := by
  have h2 : ∀ p ∈ Fc.primesOf orders.length, 1 < p := fun p hp => (primesOf_pr hp).1.1
  have := row_told 16 (grpRow orders (Fc.primesOf orders.length)) (grp_big orders _ [] h2 fun _ z => absurd z List.not_mem_nil) (grp_len orders _ [] h (Nat.zero_le 16))
  rw [← this]
  unfold Fc.group
  dsimp only
  congr 1
  refine List.map_congr_left fun i _ => ?_
  exact (grp_get orders i _ [] 1 (by simp)).symm
end Fn

set_option Elab.async false
set_option linter.all false
/-! How many of a group have orders that divide a power of a prime. -/
namespace Fn
def cnt (orders : List Nat) (p k : Nat) : Nat := (orders.filter fun o => (p ^ k) % o == 0).length
/-- r k: how often p in the k-th step's growth -/
structure Rk (orders : List Nat) (p : Nat) (r : Nat → Nat) : Prop where
  c0 : cnt orders p 0 = 1
  c1 : ∀ k, cnt orders p (k + 1) = p ^ r k * cnt orders p k
  cd : ∀ k, cnt orders p k ∣ orders.length
  st : ∀ k, r k = 0 → r (k + 1) = 0
theorem eq_of_len {α : Type} {S T : List α} (hS : S.Nodup) (hT : T.Nodup) (h : S ⊆ T) (hl : T.length ≤ S.length) : T ⊆ S := fun x hx => by
  by_cases c : x ∈ S
  · exact c
  · have : (x :: S).Nodup := List.nodup_cons.mpr ⟨c, hS⟩
    have := this.length_le_of_subset (l₂ := T) fun y hy => by
      rcases List.mem_cons.mp hy with e | e
      · rw [e]; exact hx
      · exact h e
    rw [List.length_cons] at this
    omega
section
variable {G : Type} {M : Ab G} {all : List G} {ord : G → Nat}
theorem rk_of (h : ∀ x : G, x ∈ all) (hnd : all.Nodup) (ho : ∀ x, 0 < ord x ∧ M.pow x (ord x) = M.one ∧ ∀ k, 0 < k → k < ord x → M.pow x k ≠ M.one) {p : Nat} (hp : Pr p) : ∃ r, Rk (all.map ord) p r := by
  have hq : ∀ k x, ((p ^ k) % ord x == 0) = true ↔ M.pow x (p ^ k) = M.one := fun k x => by
    rw [beq_iff_eq]
    exact (Ab.ord_dvd (ho x).1 (ho x).2.1 (ho x).2.2).symm
  have hsub : ∀ k, Ab.Sub M (all.filter fun x => (p ^ k) % ord x == 0) := fun k => Ab.sub_of h hnd (p ^ k) (hq k)
  have hmem : ∀ k x, x ∈ (all.filter fun x => (p ^ k) % ord x == 0) ↔ M.pow x (p ^ k) = M.one := fun k x => by
    rw [List.mem_filter, hq]
    exact ⟨fun z => z.2, fun z => ⟨h x, z⟩⟩
  have hc : ∀ k, cnt (all.map ord) p k = (all.filter fun x => (p ^ k) % ord x == 0).length := fun k => by
    unfold cnt
    rw [List.filter_map, List.length_map]
    rfl
  have hin : ∀ k, (all.filter fun x => (p ^ k) % ord x == 0) ⊆ (all.filter fun x => (p ^ (k + 1)) % ord x == 0) := fun k x hx => by
    rw [hmem] at *
    rw [Nat.pow_succ, ← Ab.pow_mul, hx, Ab.one_pow]
  have step : ∀ k, ∃ j, (all.filter fun x => (p ^ (k + 1)) % ord x == 0).length = p ^ j * (all.filter fun x => (p ^ k) % ord x == 0).length := fun k =>
    Ab.p_group hp.1 hp.2 (hsub k) (hsub (k + 1)) (hin k) fun x hx => (hmem (k + 1) x).mp hx
  obtain ⟨r, hr⟩ := Classical.axiomOfChoice step
  have pp : ∀ k, 0 < p ^ k := fun k => Nat.pow_pos (by have := hp.1; omega)
  have p0 : ∀ k, 0 < (all.filter fun x => (p ^ k) % ord x == 0).length := fun k => List.length_pos_of_mem (hsub k).one
  have hall : Ab.Sub M all := ⟨hnd, h _, fun _ _ => h _, fun _ => h _⟩
  refine ⟨r, ⟨?_, fun k => by rw [hc, hc, hr], fun k => ?_, fun k hk => ?_⟩⟩
  · rw [hc]
    have h1 := (hsub 0).nd.length_le_of_subset (l₂ := [M.one]) fun x hx => by
      have := (hmem 0 x).mp hx
      rw [Nat.pow_zero, Ab.pow_one] at this
      rw [this]
      exact List.mem_singleton.mpr rfl
    have := p0 0
    rw [List.length_singleton] at h1
    omega
  · rw [hc, List.length_map]
    exact Ab.lagrange (hsub k) hall (fun x _ => h x) fun x => ⟨ord x, (ho x).1, (ho x).2.1⟩
  · have e := hr k
    rw [hk, Nat.pow_zero, Nat.one_mul] at e
    have back := eq_of_len (hsub k).nd (hsub (k + 1)).nd (hin k) (by omega)
    have back2 : (all.filter fun x => (p ^ (k + 1 + 1)) % ord x == 0) ⊆ (all.filter fun x => (p ^ (k + 1)) % ord x == 0) := fun x hx => by
      have hx := (hmem (k + 1 + 1) x).mp hx
      have : M.pow x p ∈ (all.filter fun x => (p ^ k) % ord x == 0) := back ((hmem (k + 1) _).mpr (by
        rw [Ab.pow_mul, Nat.mul_comm, ← Nat.pow_succ]
        exact hx))
      have := (hmem k _).mp this
      rw [Ab.pow_mul, Nat.mul_comm, ← Nat.pow_succ] at this
      exact (hmem (k + 1) x).mpr this
    have l1 := (hsub (k + 1 + 1)).nd.length_le_of_subset back2
    have l2 := hr (k + 1)
    rcases Nat.eq_zero_or_pos (r (k + 1)) with z | z
    · exact z
    · exfalso
      have : 2 ≤ p ^ r (k + 1) := by
        have := pow_gt hp.1 (r (k + 1))
        omega
      have := Nat.mul_le_mul_right (all.filter fun x => (p ^ (k + 1)) % ord x == 0).length this
      have := p0 (k + 1)
      omega
end
section
variable {orders : List Nat} {p : Nat} {r : Nat → Nat}
theorem Rk.pos (R : Rk orders p r) (hp : 2 ≤ p) : ∀ k, 0 < cnt orders p k
  | 0 => by
    rw [R.c0]
    decide
  | k + 1 => by
    rw [R.c1]
    exact Nat.mul_pos (Nat.pow_pos (by omega)) (R.pos hp k)
theorem Rk.le (R : Rk orders p r) (n0 : 0 < orders.length) (k : Nat) : cnt orders p k ≤ orders.length := Nat.le_of_dvd n0 (R.cd k)
/-- it grows -/
theorem Rk.more (R : Rk orders p r) (hp : 2 ≤ p) (k : Nat) : cnt orders p k < cnt orders p (k + 1) ↔ r k ≠ 0 := by
  have h := R.pos hp k
  rw [R.c1]
  constructor
  · intro c z
    rw [z, Nat.pow_zero, Nat.one_mul] at c
    omega
  · intro c
    have : 2 ≤ p ^ r k := by
      have := pow_gt hp (r k)
      omega
    have := Nat.mul_le_mul_right (cnt orders p k) this
    omega
theorem Rk.quot (R : Rk orders p r) (hp : 2 ≤ p) (k : Nat) : cnt orders p (k + 1) / cnt orders p k = p ^ r k := by
  rw [R.c1]
  exact Nat.mul_div_cancel _ (R.pos hp k)
theorem Rk.small (R : Rk orders p r) (hp : 2 ≤ p) (n0 : 0 < orders.length) (hn : orders.length < 2 ^ 16) (k : Nat) : r k ≤ 15 := by
  refine pow_small hp (n := orders.length) ?_ hn
  refine Nat.le_trans ?_ (R.le n0 (k + 1))
  rw [R.c1]
  have := Nat.mul_le_mul_left (p ^ r k) (R.pos hp k)
  omega
theorem Rk.has (R : Rk orders p r) : ∀ k, (∀ i, i < k → r i ≠ 0) → p ^ k ∣ cnt orders p k
  | 0, _ => by simp
  | k + 1, h => by
    have := R.has k fun i hi => h i (by omega)
    rw [R.c1, Nat.pow_succ, Nat.mul_comm (p ^ k)]
    refine Nat.mul_dvd_mul ?_ this
    have := h k (by omega)
    obtain ⟨j, hj⟩ : ∃ j, r k = j + 1 := ⟨r k - 1, by omega⟩
    rw [hj, Nat.pow_succ]
    exact Nat.dvd_mul_left _ _
theorem Rk.far (R : Rk orders p r) (hp : 2 ≤ p) (n0 : 0 < orders.length) (hn : orders.length < 2 ^ 16) {k : Nat} (h : ∀ i, i < k → r i ≠ 0) : k ≤ Fc.often p 64 orders.length :=
  (often_n hp n0 hn).2 k (Nat.dvd_trans (R.has k h) (R.cd k))
theorem Rk.far15 (R : Rk orders p r) (hp : 2 ≤ p) (n0 : 0 < orders.length) (hn : orders.length < 2 ^ 16) {k : Nat} (h : ∀ i, i < k → r i ≠ 0) : k ≤ 15 :=
  pow_small hp (Nat.le_of_dvd n0 (Nat.dvd_trans (R.has k h) (R.cd k))) hn
theorem Rk.ranks (R : Rk orders p r) (hp : 2 ≤ p) (n0 : 0 < orders.length) (hn : orders.length < 2 ^ 16) : Fc.ranks orders p = (List.range (Fc.often p 64 orders.length)).map r := by
  unfold Fc.ranks
  dsimp only
  refine List.map_congr_left fun k _ => ?_
  show Fc.often p 64 (cnt orders p (k + 1) / cnt orders p k) = r k
  rw [R.quot hp]
  exact often_p hp (by have := R.small hp n0 hn k; omega)
theorem Rk.zeros (R : Rk orders p r) {k : Nat} (h : r k = 0) : ∀ j, r (k + j) = 0
  | 0 => h
  | j + 1 => R.st _ (R.zeros h j)
/-- the first step without growth: all of the row is told -/
theorem Rk.row (R : Rk orders p r) (hp : 2 ≤ p) (n0 : 0 < orders.length) (hn : orders.length < 2 ^ 16) {k : Nat} (h : ∀ i, i < k → r i ≠ 0) (hk : r k = 0) : rowOf p (Fc.ranks orders p) = rowOf p ((List.range k).map r) := by
  have hf := R.far hp n0 hn h
  rw [R.ranks hp n0 hn]
  obtain ⟨j, hj⟩ : ∃ j, Fc.often p 64 orders.length = k + j := ⟨Fc.often p 64 orders.length - k, by omega⟩
  rw [hj, List.range_add, List.map_append]
  unfold rowOf
  rw [List.foldl_append]
  refine row_zeros _ _ fun x hx => ?_
  rw [List.map_map] at hx
  obtain ⟨i, _, rfl⟩ := List.mem_map.mp hx
  exact R.zeros hk i
theorem rowOf_succ (p : Nat) (r : Nat → Nat) (k : Nat) : rowOf p ((List.range (k + 1)).map r) = mulL (rowOf p ((List.range k).map r)) (List.replicate (r k) p) := by
  rw [List.range_succ, List.map_append]
  unfold rowOf
  rw [List.foldl_append]
  rfl
/-- all parts are small -/
theorem Rk.part (R : Rk orders p r) (hp : 2 ≤ p) (n0 : 0 < orders.length) (hn : orders.length < 2 ^ 16) : ∀ x ∈ rowOf p (Fc.ranks orders p), x ≤ orders.length := fun x hx => by
  obtain ⟨i, hi, rfl⟩ := List.mem_iff_getElem.mp hx
  have e := row_get p i (Fc.ranks orders p) []
  have e2 : (rowOf p (Fc.ranks orders p))[i] = (rowOf p (Fc.ranks orders p)).getD i 1 := by
    rw [List.getD_eq_getElem?_getD, List.getElem?_eq_getElem hi]
    rfl
  rw [e2]
  unfold rowOf
  rw [e]
  have hl := List.length_filter_le (fun r => decide (i < r)) (Fc.ranks orders p)
  have hr : (Fc.ranks orders p).length = Fc.often p 64 orders.length := by
    unfold Fc.ranks
    rw [List.length_map, List.length_range]
  have h1 : p ^ ((Fc.ranks orders p).filter fun r => decide (i < r)).length ≤ p ^ Fc.often p 64 orders.length := Nat.pow_le_pow_right (by omega) (by omega)
  have h2 := Nat.le_of_dvd n0 (often_n hp n0 hn).1
  rw [List.getD_nil, Nat.one_mul]
  omega
theorem Rk.len (R : Rk orders p r) (hp : 2 ≤ p) (n0 : 0 < orders.length) (hn : orders.length < 2 ^ 16) : ∀ x ∈ Fc.ranks orders p, x ≤ 16 := fun x hx => by
  rw [R.ranks hp n0 hn] at hx
  obtain ⟨i, _, rfl⟩ := List.mem_map.mp hx
  have := R.small hp n0 hn i
  omega
end
end Fn

set_option Elab.async false
set_option linter.all false
/-! Orders. -/
namespace Fkw
open Fk (Eqv Comp)
open Fn (Ab)
section
variable {d : Int} {x y z f : Fc.Form}
/-- where the least forms lie -/
def cand2 (d : Int) : List Fc.Form := (List.range 81).flatMap fun (k : Nat) => (List.range (k + 1)).flatMap fun (i : Nat) =>
  [candF d ((k : Int) + 1) (2 * (i : Int) + (d + k) % 2 - k), candF d (-((k : Int) + 1)) (2 * (i : Int) + (d + k) % 2 - k)]
theorem cand2_len (d : Int) : (cand2 d).length = 6642 := by
  unfold cand2
  rw [List.length_flatMap]
  have : (fun (k : Nat) => ((List.range (k + 1)).flatMap fun (i : Nat) => [candF d ((k : Int) + 1) (2 * (i : Int) + (d + k) % 2 - k), candF d (-((k : Int) + 1)) (2 * (i : Int) + (d + k) % 2 - k)]).length) = fun k => (k + 1) * 2 := by
    funext k
    rw [Fn.flat_len (n := 2) _ fun _ _ => rfl, List.length_range]
  rw [this]
  decide +kernel
theorem classes_nodup (hd : Fc.isDisc d = true) : (Fc.classes d).Nodup := List.Pairwise.imp (fun {a b} h e => by
    rw [e, Fk.before_irrefl] at h
    cases h) (specRow hd).1
/-- how many classes there are -/
theorem classes_few (hd : Fc.isDisc d = true) : (Fc.classes d).length ≤ 6642 := by
  obtain ⟨h20, _, hn, h0⟩ := disc_facts hd
  rw [← cand2_len d]
  refine (classes_nodup hd).length_le_of_subset fun x hx => ?_
  obtain ⟨hg, he⟩ := ((specRow hd).2 x).mp hx
  obtain ⟨b1, b2, b3, b4, _⟩ := least_bounds hg.ok (by rw [hg.hd]; exact h20.1)
  have hp := Fk.par_b (f := x) (d := d) hg.hd
  rw [he, hg.hd] at *
  have ha : x.a.natAbs ≤ 81 := by
    by_cases c : x.a.natAbs ≤ 81
    · exact c
    · exfalso
      have := Nat.mul_le_mul (show 82 ≤ x.a.natAbs by omega) (show 82 ≤ x.a.natAbs by omega)
      omega
  obtain ⟨e1, _⟩ := cand_of (f := x) b1
  rw [hg.hd] at e1
  refine List.mem_flatMap.mpr ⟨x.a.natAbs - 1, List.mem_range.mpr (by omega), List.mem_flatMap.mpr ⟨((x.b + (x.a.natAbs - 1 : Nat)) / 2).toNat, List.mem_range.mpr (by omega), ?_⟩⟩
  have eb : 2 * ((((x.b + (x.a.natAbs - 1 : Nat)) / 2).toNat : Nat) : Int) + (d + (x.a.natAbs - 1 : Nat)) % 2 - (x.a.natAbs - 1 : Nat) = x.b := by omega
  rw [eb]
  rcases Fk.abs_cases x.a with c | c
  · have ea : ((x.a.natAbs - 1 : Nat) : Int) + 1 = x.a := by omega
    rw [ea, ← e1]
    exact List.mem_cons_self ..
  · have ea : -(((x.a.natAbs - 1 : Nat) : Int) + 1) = x.a := by omega
    rw [ea, ← e1]
    exact List.mem_cons_of_mem _ (List.mem_cons_self ..)
end
/-- the classes, told by their least forms -/
abbrev Cl (d : Int) := { x : Fc.Form // IsLeast d x }
def clG {d : Int} (hd : Fc.isDisc d = true) : Ab (Cl d) where
  mul x y := ⟨Fc.times x.1 y.1, il_times hd x.2 y.2⟩
  one := ⟨oneF d, il_one hd⟩
  inv x := ⟨invF x.1, il_inv hd x.2⟩
  assoc x y z := Subtype.ext (il_assoc hd x.2 y.2 z.2)
  comm x y := Subtype.ext (il_comm hd x.2 y.2)
  om x := Subtype.ext (il_one_mul hd x.2)
  im x := Subtype.ext (by
    show Fc.times (invF x.1) x.1 = oneF d
    rw [il_comm hd (il_inv hd x.2) x.2]
    exact il_mul_inv hd x.2)
section
variable {d : Int} {x f : Fc.Form}
theorem clG_pow (hd : Fc.isDisc d = true) (x : Cl d) : ∀ n, ((clG hd).pow x n).1 = pw d x.1 n
  | 0 => rfl
  | n + 1 => by
    show Fc.times ((clG hd).pow x n).1 x.1 = Fc.times (pw d x.1 n) x.1
    rw [clG_pow hd x n]
theorem clG_one (hd : Fc.isDisc d = true) (x : Cl d) (n : Nat) : (clG hd).pow x n = (clG hd).one ↔ pw d x.1 n = oneF d := by
  rw [← clG_pow hd x n]
  exact ⟨fun h => by rw [h]; rfl, fun h => Subtype.ext h⟩
def clAll {d : Int} (hd : Fc.isDisc d = true) : List (Cl d) := (Fc.classes d).pmap (fun f h => ⟨f, h⟩) fun x hx => ((specRow hd).2 x).mp hx
theorem clAll_map (hd : Fc.isDisc d = true) : (clAll hd).map (·.1) = Fc.classes d := by
  unfold clAll
  rw [List.map_pmap]
  exact (List.pmap_eq_map ..).trans (List.map_id' _)
theorem clAll_len (hd : Fc.isDisc d = true) : (clAll hd).length = (Fc.classes d).length := by
  rw [← clAll_map hd, List.length_map]
theorem clAll_mem (hd : Fc.isDisc d = true) (x : Cl d) : x ∈ clAll hd := by
  have : x.1 ∈ (clAll hd).map (·.1) := by
    rw [clAll_map]
    exact ((specRow hd).2 x.1).mpr x.2
  obtain ⟨y, hy, e⟩ := List.mem_map.mp this
  rwa [← Subtype.ext e]
theorem clAll_nd (hd : Fc.isDisc d = true) : (clAll hd).Nodup := by
  have := classes_nodup hd
  rw [← clAll_map hd] at this
  exact List.Pairwise.imp (fun h e => h (by rw [e])) (List.pairwise_map.mp this)
/-- the order: the first power that is one -/
theorem ord_ex (hd : Fc.isDisc d = true) (hx : IsLeast d x) : ∃ o, 0 < o ∧ o ≤ 6642 ∧ pw d x o = oneF d ∧ ∀ k, 0 < k → k < o → pw d x k ≠ oneF d := by
  obtain ⟨n, n0, n1, n2⟩ := Ab.tor (M := clG hd) (clAll_mem hd) ⟨x, hx⟩
  rw [clAll_len] at n1
  have := classes_few hd
  obtain ⟨o, ⟨o1, o2⟩, o3, o4⟩ := Fn.least_nat (P := fun k => 0 < k ∧ pw d x k = oneF d) n ⟨n0, (clG_one hd ⟨x, hx⟩ n).mp n2⟩
  exact ⟨o, o1, by omega, o2, fun k k0 k1 z => o4 k k1 ⟨k0, z⟩⟩
theorem orderFrom_is (hd : Fc.isDisc d = true) (h : Pl d f) {o : Nat} (ho : pw d (Fc.least f) o = oneF d) (hl : ∀ k, 0 < k → k < o → pw d (Fc.least f) k ≠ oneF d) :
    ∀ (n k : Nat), 0 < k → k ≤ o → o ≤ k + n → Fc.orderFrom f (oneF d) n k (pw d (Fc.least f) k) = o
  | 0, k, k0, k1, k2 => by
    show k = o
    omega
  | n + 1, k, k0, k1, k2 => by
    unfold Fc.orderFrom
    by_cases c : k = o
    · subst c
      rw [ho, if_pos (Fk.alike_iff.mpr rfl)]
    · rw [if_neg (fun z => hl k k0 (by omega) (Fk.alike_iff.mp z))]
      have e : Fc.times (pw d (Fc.least f) k) f = pw d (Fc.least f) (k + 1) := times_pl hd (pw_il hd (h.il hd) k) h
      rw [e]
      exact orderFrom_is hd h ho hl n (k + 1) (by omega) (by omega) (by omega)
theorem order_is (hd : Fc.isDisc d = true) (h : Pl d f) : 0 < Fc.order f ∧ Fc.order f ≤ 6642 ∧ pw d (Fc.least f) (Fc.order f) = oneF d ∧ ∀ k, 0 < k → k < Fc.order f → pw d (Fc.least f) k ≠ oneF d := by
  obtain ⟨o, o1, o2, o3, o4⟩ := ord_ex hd (h.il hd)
  have e : Fc.order f = o := by
    unfold Fc.order
    have := orderFrom_is hd h o3 o4 Fc.FUEL 1 (by decide) (by omega) (by show o ≤ 1 + 10000; omega)
    rw [pw_one hd (h.il hd)] at this
    rw [h.hd]
    exact this
  rw [e]
  exact ⟨o1, o2, o3, o4⟩
/-- the orders of all classes -/
def ords (d : Int) : List Nat := (Fc.classes d).map Fc.order
theorem ords_all (hd : Fc.isDisc d = true) : ords d = (clAll hd).map fun x => Fc.order x.1 := by
  unfold ords
  rw [← clAll_map hd, List.map_map]
  rfl
theorem ords_len (hd : Fc.isDisc d = true) : 0 < (ords d).length ∧ (ords d).length ≤ 6642 := by
  unfold ords
  rw [List.length_map]
  exact ⟨List.length_pos_of_mem (((specRow hd).2 _).mpr (il_one hd)), classes_few hd⟩
theorem ords_rk (hd : Fc.isDisc d = true) {p : Nat} (hp : Fn.Pr p) : ∃ r, Fn.Rk (ords d) p r := by
  rw [ords_all hd]
  refine Fn.rk_of (M := clG hd) (clAll_mem hd) (clAll_nd hd) (fun x => ?_) hp
  obtain ⟨h1, _, h2, h3⟩ := order_is hd (x.2.pl hd)
  rw [x.2.2] at h2 h3
  exact ⟨h1, (clG_one hd x _).mpr h2, fun k k0 k1 z => h3 k k0 k1 ((clG_one hd x k).mp z)⟩
theorem ords_pos (hd : Fc.isDisc d = true) : ∀ o ∈ ords d, 0 < o ∧ o ≤ 6642 := fun o ho => by
  rw [ords_all hd] at ho
  obtain ⟨x, _, rfl⟩ := List.mem_map.mp ho
  obtain ⟨h1, h2, _⟩ := order_is hd (x.2.pl hd)
  exact ⟨h1, h2⟩
theorem ords_group (hd : Fc.isDisc d = true) : Fc.group (ords d) = Fn.grpRow (ords d) (Fc.primesOf (ords d).length) := by
  obtain ⟨n0, n1⟩ := ords_len hd
  refine Fn.group_is fun p hp => ?_
  obtain ⟨h1, _⟩ := Fn.primesOf_pr hp
  obtain ⟨r, R⟩ := ords_rk hd h1
  exact R.len h1.1 n0 (by omega)
end
end Fkw

set_option Elab.async false
set_option linter.all false
set_option maxRecDepth 100000
set_option maxHeartbeats 2000000
/-! Lists of ours written at a place, joined, and enumerated. -/
namespace Fkw
open PySem PySem.Spec PyProof.Rows L2 Evl
/-- xs[i], read for xs[i] op= e -/
def rGetL (K : PySem.W.Frag) : V → V → Hp → VK → Prop := fun x y H Q => ∃ p xs k v, x = .ref p ∧ y = .int ((k : Nat) : Int) ∧ SqL K H p xs ∧ xs[k]? = some v ∧ Q v H
theorem get_list {X : Cx} : PGet X (rGetL X.K) := by
  intro pins s σ H o i ov iv Q I ro ri h
  obtain ⟨p, xs, k, z, rfl, rfl, hq, he, q⟩ := h
  cases ro
  obtain ⟨t, rfl⟩ := ri
  obtain ⟨its, r, pl, hz⟩ := I.list hq
  obtain ⟨w, ew, rw'⟩ := r.get he
  have hk := (List.getElem?_eq_some_iff.mp he).1
  have hn := line63
  exact wpAny_getItem_list (x := w) pl.isList (by omega) (by omega) (by simpa using ew) ⟨z, H, I, rw', q⟩
section
variable {K : PySem.W.Frag} {σ : L2.St} {H H' : Hp} {ta tb te tl to ti : TE} {t : TT} {d : PyData} {v : V} {tas : TA} {ds es : List PyData} {tu tz : TS} {D : Ends}
theorem da_set : ∀ {xs : List V} {ds : List PyData} {y : V} {d : PyData} (i : Nat), DpAll K H xs ds → Dp K H y d → DpAll K H (xs.set i y) (ds.set i d)
  | _, _, _, _, _, .nil, _ => .nil
  | _, _, _, _, 0, .cons a b, h => .cons h b
  | _, _, _, _, i + 1, .cons a b, h => .cons a (da_set i b h)
theorem lfs_set : ∀ {ds : List PyData} {d : PyData} (i : Nat), lfs ds = true → lf d = true → lfs (ds.set i d) = true
  | [], _, _, _, _ => rfl
  | e :: ds, d, 0, h, k => by
    have h := Bool.and_eq_true_iff.mp h
    exact Bool.and_eq_true_iff.mpr ⟨k, h.2⟩
  | e :: ds, d, i + 1, h, k => by
    have h := Bool.and_eq_true_iff.mp h
    exact Bool.and_eq_true_iff.mpr ⟨h.1, lfs_set i h.2 k⟩
theorem Lst.put {H0 : Hp} {p : Addr} {xs : List V} {y : V} (h : Lst K H0 p es H') (hp : H' p = some (.lst xs)) (i : Nat) (hd : Dp K H' y d) (hl : lf d = true) : Lst K H0 p (es.set i d) (upd H' p (.lst (xs.set i y))) := by
  obtain ⟨h0, h1, h2, xs', h3, h4⟩ := h
  rw [h3] at hp
  cases hp
  exact ⟨h0, Ex.mut h1 h0, lfs_set i h2 hl, _, upd_same, DpAll_lst h3 (lfs_set i h2 hl) (da_set i h4 hd)⟩
/-- found[i] *= e -/
theorem sd_mulAt {l : Addr} {H0 : Hp} {i : Nat} {a b : Int} (L : Lst K H0 l es H) (ho : Ev to σ H (.ref l)) (hi : Ev ti σ H (.int (i : Int))) (hg : es[i]? = some (.int a)) (he : EvD K te σ H (.int b)) (hc : CMul a b)
    (k : ∀ H1, (∀ v d, lf d = true → Dp K H v d → Dp K H1 v d) → Lst K H0 l (es.set i (.int (a * b))) H1 → D.nx σ H1) : tAugS to ti te (rGetL K) (rI CMul fun i j => .int (i * j)) rSetL D σ H := by
  obtain ⟨h0, h1, h2, xs, h3, h4⟩ := id L
  obtain ⟨v, hv, hd⟩ := da_get h4 hg
  cases dp_int hd
  have hlt := (List.getElem?_eq_some_iff.mp hv).1
  refine ho H (Ex.refl H) _ fun H1 e1 => ?_
  refine hi H1 e1 _ fun H2 e2 => ?_
  refine ⟨l, xs, i, .int a, rfl, rfl, sq_of ((e1.trans e2) _ _ h3), hv, ?_⟩
  refine he H2 (e1.trans e2) _ fun y H3 e3 hy => ?_
  cases dp_int hy
  have h3' := ((e1.trans e2).trans e3) _ _ h3
  have L3 := L.mono ((e1.trans e2).trans e3)
  refine ⟨a, b, rfl, rfl, hc, l, xs, (i : Int), i, rfl, rfl, h3', ?_, ?_⟩
  · unfold ixN
    rw [if_pos (by omega), if_pos (by omega)]
    rfl
  · exact k _ (fun v d hd h => Dp_lst h3' hd (Dp_mono ((e1.trans e2).trans e3) h)) (L3.put h3' i (.int _) rfl)
theorem qd_mulAt {l : Addr} {H0 : Hp} {i : Nat} {a b : Int} (L : Lst K H0 l es H) (ho : Ev to σ H (.ref l)) (hi : Ev ti σ H (.int (i : Int))) (hg : es[i]? = some (.int a)) (he : EvD K te σ H (.int b)) (hc : CMul a b)
    (k : ∀ H1, (∀ v d, lf d = true → Dp K H v d → Dp K H1 v d) → Lst K H0 l (es.set i (.int (a * b))) H1 → tz D σ H1) : tSeq (tAugS to ti te (rGetL K) (rI CMul fun i j => .int (i * j)) rSetL) tz D σ H := sd_mulAt (D := { D with nx := tz D }) L ho hi hg he hc k
/-- if t: found.append(e) -/
theorem q_ifApp {b : Bool} {l : Addr} {H0 : Hp} (L : Lst K H0 l es H) (ht : EvT t σ H b) (ha : ∀ H1, Ev ta σ H1 (.ref l)) (he : ∀ H1, EvD K te σ H1 d) (hl : lf d = true) (hz : es.length < 100000)
    (k : ∀ H1, (∀ v d, lf d = true → Dp K H v d → Dp K H1 v d) → Lst K H0 l (if b = true then es ++ [d] else es) H1 → tz D σ H1) : tSeq (tIfS t (tDrop (tBM K "list" rAppend ta (tCons te tNil))) tNext) tz D σ H := by
  refine q_when ht (fun hb H1 e1 => ?_) (fun hb H1 e1 => ?_)
  · refine sd_app (K := K) (L.mono e1) (ha H1) (he H1) hl hz fun H2 k2 L2 => k H2 (fun v d hd h => k2 v d hd (Dp_mono e1 h)) ?_
    rw [if_pos hb]
    exact L2
  · refine k H1 (fun v d _ h => Dp_mono e1 h) ?_
    rw [if_neg (by rw [hb]; exact Bool.false_ne_true)]
    exact L.mono e1
/-- x op= e with an operator of the ints that asks something -/
theorem sd_augC {i : Nat} {c : Int → Int → Prop} {f : Int → Int → V} {a b : Int} (hx : σ[i]? = some (some (.int a))) (h : EvD K te σ H (.int b)) (hc : c a b) (k : ∀ H1, Ex H H1 → D.nx (σ.set i (some (f a b))) H1) : tAug i te (rI c f) D σ H :=
  ⟨.int a, hx, h H (Ex.refl H) _ fun y H1 e hy => by
    cases dp_int hy
    exact ⟨a, b, rfl, rfl, hc, k H1 e⟩⟩
theorem qd_augC {i : Nat} {c : Int → Int → Prop} {f : Int → Int → V} {a b : Int} (hx : σ[i]? = some (some (.int a))) (h : EvD K te σ H (.int b)) (hc : c a b) (k : ∀ H1, Ex H H1 → tz D (σ.set i (some (f a b))) H1) : tSeq (tAug i te (rI c f)) tz D σ H := sd_augC (D := { D with nx := tz D }) hx h hc k
/-! ### lists of ours as operands -/
def EvM (K : PySem.W.Frag) (te : TE) (σ : L2.St) (H : Hp) (ds : List PyData) : Prop := ∀ H1, Ex H H1 → ∀ Q : VK, (∀ p xs H2, Ex H1 H2 → H2 p = some (.lst xs) → DpAll K H2 xs ds → Q (.ref p) H2) → te σ H1 Q
theorem EvN.toM (h : EvN K te σ H ds) : EvM K te σ H ds := fun H1 e Q q => h H1 e Q fun p xs H2 _ e2 hp hd => q p xs H2 e2 hp hd
theorem EvM.toD (h : EvM K te σ H ds) : EvD K te σ H (.list ds) := fun H1 a Q q => h H1 a Q fun _ _ H2 e hp hd => q _ H2 e (.lst (sq_of hp) hd)
theorem em_var {i : Nat} {l : Addr} {H0 : Hp} (L : Lst K H0 l ds H) (h : σ[i]? = some (some (.ref l))) : EvM K (tVar i) σ H ds := fun H1 e Q q => ev_var h H1 e Q fun H2 e2 => by
  obtain ⟨_, _, _, xs, h3, h4⟩ := L
  exact q l xs H2 e2 ((e.trans e2) _ _ h3) (DpAll_mono (e.trans e2) h4)
theorem en_catM (ha : EvM K ta σ H ds) (hb : EvM K tb σ H es) (hl : ds.length + es.length ≤ 100000) : EvN K (tOp rCat ta tb) σ H (ds ++ es) := fun H1 e Q q =>
  ha H1 e _ fun p xs H2 e2 h2 hx => hb H2 (e.trans e2) _ fun p' ys H3 e3 h3 hy =>
    ⟨p, p', xs, ys, rfl, rfl, e3 p _ h2, h3, by rw [da_len hx, da_len hy]; exact sz_of hl, fun l hl' => q l _ _ (fresh_back (e2.trans e3) hl') ((e2.trans e3).trans (Ex.new hl')) upd_same
      (DpAll_mono (Ex.new hl') (da_append (DpAll_mono e3 hx) hy))⟩
/-- [x] * int(b) -/
theorem en_repB {b : Bool} (ha : EvN K ta σ H [d]) (hb : EvD K tb σ H (.int (if b then 1 else 0))) : EvN K (tOp rRep ta tb) σ H (if b = true then [d] else []) := fun H1 e Q q =>
  ha H1 e _ fun p xs H2 hp e2 h2 hx => hb H2 (e.trans e2) _ fun y H3 e3 hy => by
    cases dp_int hy
    refine ⟨p, _, xs, rfl, rfl, e3 p _ h2, ?_, ?_, ?_, fun l hl' => ?_⟩
    · cases b <;> decide
    · cases b <;> decide
    · rw [da_len hx, List.length_singleton]
      cases b <;> decide
    · refine q l _ _ (fresh_back (e2.trans e3) hl') ((e2.trans e3).trans (Ex.new hl')) upd_same ?_
      cases b with
      | true =>
        have : (List.replicate ((if true = true then 1 else 0 : Int)).toNat xs).flatten = xs := by
          show (List.replicate 1 xs).flatten = xs
          simp
        rw [this]
        exact DpAll_mono (Ex.new hl') (DpAll_mono e3 hx)
      | false => exact .nil
/-- for number, x in enumerate(a new list), while another list grows -/
theorem sd_forEnum {a b : Nat} {p : Addr} {H0 : Hp} (L : Lst K H0 p es H) (h : EvN K tl σ H ds) (hl : lfs ds = true) (k : ∀ Hb H1, Ex H0 Hb → Ex (rem H p) Hb → Ex H H1 → Lst K Hb p es H1 → ∃ Pv : Nat → L2.St → Hp → Prop, Pv 0 σ H1 ∧ (∀ i σ' H', i ≤ ds.length → Pv i σ' H' → Ex Hb H') ∧
    (∀ i d x σ' H' H'', ds[i]? = some d → Ex H' H'' → Dp K H'' x d → Pv i σ' H' → tu { D with nx := Pv (i + 1), ct := Pv (i + 1), bk := D.nx } ((σ'.set a (some (.int ((i : Nat) : Int)))).set b (some x)) H'') ∧ (∀ σ' H', Pv ds.length σ' H' → D.nx σ' H')) :
    tFor (iEnum K (tCons tl tNil)) (gTup K 2 (gCons (gName a) (gCons (gName b) gNil))) tu D σ H :=
  h H (Ex.refl H) _ fun q xs H1 hn e hp ha => by
    obtain ⟨h0, h1, h2, zs, h3, h4⟩ := id L
    have ne : q ≠ p := fun z => by
      rw [z, h3] at hn
      cases hn
    have L1 := (L.mono e).rebase
    have hp' : rem H1 p q = some (.lst xs) := by rw [rem_ne ne]; exact hp
    have e2 : Ex (rem H p) (rem H1 p) := fun b o q => by
      by_cases c : b = p
      · rw [c, rem_at] at q
        cases q
      · rw [rem_ne c] at q ⊢
        exact e b o q
    obtain ⟨Pv, h0', hk, hb, hd⟩ := k (rem H1 p) H1 (ex_rem (h1.trans e) h0) e2 e L1
    have hl' := da_len ha
    have hda : DpAll K (rem H1 p) xs ds := DpAll_rem (e _ _ h3) hl ha
    refine ⟨q, xs, rfl, sq_of hp, for_it walk_enum Pv h0' (fun i σ' H' hi w => ex_l (hk i σ' H' (by omega) w) (sq_of hp')) (fun i x σ' H' H'' hi w y => ?_) (fun σ' H' w => hd σ' H' (by rw [← hl']; exact w))⟩
    obtain ⟨T, x1, x2, rfl, hT, rfl, hx1, hx2⟩ := y
    cases hx1
    obtain ⟨d, d1, d2⟩ := da_get2 hda hx2
    refine ⟨T, _, rfl, st_of upd_same, rfl, _, _, rfl, _, _, rfl, rfl, ?_⟩
    exact hb i d x2 σ' H' _ d1 (Ex.new hT) (Dp_mono ((hk i σ' H' (by omega) w).trans (Ex.new hT)) d2) w
end
end Fkw

namespace Fkw
open PySem PySem.Spec PyProof.Rows L2 Evl
open PySem.W (Codec)
local macro_rules
  | `(tactic| walk_at "cm") => `(tactic| first | exact Or.inl ⟨by omega, by omega⟩ | exact Or.inr ⟨by omega, by omega⟩ | skip)
local macro_rules
  | `(tactic| walk_at "ed") => `(tactic| first
    | exact ed_int
    | exact ed_bl
    | exact ed_non
    | exact ed_var rfl (.int _)
    | exact ed_var rfl (by assumption)
    | (refine ed_add ?_ ?_ <;> walk_at "ed")
    | (refine ed_sub ?_ ?_ <;> walk_at "ed")
    | (refine ed_mul ?_ ?_ ?_; rotate_left 2; (case refine_1 => walk_at "ed"); (case refine_2 => walk_at "ed"))
    | (refine ed_abs ?_ <;> walk_at "ed")
    | (refine ed_neg ?_ <;> walk_at "ed")
    | (refine ed_tup ?_ <;> walk_at "ed")
    | exact eda_nil
    | (refine eda_cons ?_ ?_ <;> walk_at "ed")
    | skip)
def topS (i : Nat) : Stmt := PySem.Challenge.pw_formkinds_s15_group.main.body.getD i (.Pass ⟨0, 0, 0, 0⟩)
abbrev s_common : Stmt := topS 7
theorem sc_common : FnScope ["one", "other"] ["one", "other"] (defScope s_common) := ⟨rfl, rfl, rfl, by decide +kernel, rfl, by decide +kernel, by decide +kernel⟩
abbrev s_root_of : Stmt := topS 8
theorem sc_root_of : FnScope ["number", "here", "lower"] ["number"] (defScope s_root_of) := ⟨rfl, rfl, rfl, by decide +kernel, rfl, by decide +kernel, by decide +kernel⟩
abbrev s_is_square : Stmt := topS 9
theorem sc_is_square : FnScope ["number"] ["number"] (defScope s_is_square) := ⟨rfl, rfl, rfl, by decide +kernel, rfl, by decide +kernel, by decide +kernel⟩
abbrev s_discriminant : Stmt := topS 10
theorem sc_discriminant : FnScope ["form", "a", "b", "c"] ["form"] (defScope s_discriminant) := ⟨rfl, rfl, rfl, by decide +kernel, rfl, by decide +kernel, by decide +kernel⟩
abbrev s_kind_of : Stmt := topS 11
theorem sc_kind_of : FnScope ["form", "a", "b", "c", "d"] ["form"] (defScope s_kind_of) := ⟨rfl, rfl, rfl, by decide +kernel, rfl, by decide +kernel, by decide +kernel⟩
abbrev s_value_at : Stmt := topS 12
theorem sc_value_at : FnScope ["form", "x", "y", "a", "b", "c"] ["form", "x", "y"] (defScope s_value_at) := ⟨rfl, rfl, rfl, by decide +kernel, rfl, by decide +kernel, by decide +kernel⟩
abbrev s_changed : Stmt := topS 13
theorem sc_changed : FnScope ["form", "change", "a", "b", "c", "p", "q", "r", "s"] ["form", "change"] (defScope s_changed) := ⟨rfl, rfl, rfl, by decide +kernel, rfl, by decide +kernel, by decide +kernel⟩
abbrev s_then : Stmt := topS 14
theorem sc_then : FnScope ["change", "other", "p", "q", "r", "s", "t", "u", "v", "w"] ["change", "other"] (defScope s_then) := ⟨rfl, rfl, rfl, by decide +kernel, rfl, by decide +kernel, by decide +kernel⟩
abbrev s_is_discriminant : Stmt := topS 15
theorem sc_is_discriminant : FnScope ["d"] ["d"] (defScope s_is_discriminant) := ⟨rfl, rfl, rfl, by decide +kernel, rfl, by decide +kernel, by decide +kernel⟩
abbrev s_place : Stmt := topS 16
theorem sc_place : FnScope ["form", "a", "b", "c"] ["form"] (defScope s_place) := ⟨rfl, rfl, rfl, by decide +kernel, rfl, by decide +kernel, by decide +kernel⟩
abbrev s_reduced_above : Stmt := topS 18
theorem sc_reduced_above : FnScope ["form", "change", "a", "b", "c", "step"] ["form"] (defScope s_reduced_above) := ⟨rfl, rfl, rfl, by decide +kernel, rfl, by decide +kernel, by decide +kernel⟩
abbrev s_is_reduced : Stmt := topS 19
theorem sc_is_reduced : FnScope ["form", "root", "a", "b", "c"] ["form", "root"] (defScope s_is_reduced) := ⟨rfl, rfl, rfl, by decide +kernel, rfl, by decide +kernel, by decide +kernel⟩
abbrev s_next_form : Stmt := topS 20
theorem sc_next_form : FnScope ["form", "root", "a", "b", "c", "size", "most", "other"] ["form", "root"] (defScope s_next_form) := ⟨rfl, rfl, rfl, by decide +kernel, rfl, by decide +kernel, by decide +kernel⟩
abbrev s_cycle_of : Stmt := topS 21
theorem sc_cycle_of : FnScope ["form", "root", "found", "here"] ["form"] (defScope s_cycle_of) := ⟨rfl, rfl, rfl, by decide +kernel, rfl, by decide +kernel, by decide +kernel⟩
abbrev s_least_middle : Stmt := topS 22
theorem sc_least_middle : FnScope ["form", "a", "b", "c", "size", "other"] ["form"] (defScope s_least_middle) := ⟨rfl, rfl, rfl, by decide +kernel, rfl, by decide +kernel, by decide +kernel⟩
abbrev s_least_of : Stmt := topS 23
theorem sc_least_of : FnScope ["form", "other"] ["form"] (defScope s_least_of) := ⟨rfl, rfl, rfl, by decide +kernel, rfl, by decide +kernel, by decide +kernel⟩
abbrev s_weights : Stmt := topS 25
theorem sc_weights : FnScope ["one", "other", "u", "v", "t", "w", "many"] ["one", "other"] (defScope s_weights) := ⟨rfl, rfl, rfl, by decide +kernel, rfl, by decide +kernel, by decide +kernel⟩
abbrev s_product : Stmt := topS 26
theorem sc_product : FnScope ["form", "other", "a", "b", "c", "e", "f", "g", "d", "half", "part", "u", "v", "whole", "w", "x", "middle", "first"] ["form", "other"] (defScope s_product) := ⟨rfl, rfl, rfl, by decide +kernel, rfl, by decide +kernel, by decide +kernel⟩
abbrev s_one_of : Stmt := topS 27
theorem sc_one_of : FnScope ["d", "b"] ["d"] (defScope s_one_of) := ⟨rfl, rfl, rfl, by decide +kernel, rfl, by decide +kernel, by decide +kernel⟩
abbrev s_order_of : Stmt := topS 28
theorem sc_order_of : FnScope ["form", "one", "here", "found"] ["form"] (defScope s_order_of) := ⟨rfl, rfl, rfl, by decide +kernel, rfl, by decide +kernel, by decide +kernel⟩
abbrev s_reduced_forms_above : Stmt := topS 29
theorem sc_reduced_forms_above : FnScope ["d", "found", "a", "b", "form"] ["d"] (defScope s_reduced_forms_above) := ⟨rfl, rfl, rfl, by decide +kernel, rfl, by decide +kernel, by decide +kernel⟩
abbrev s_reduced_forms_both : Stmt := topS 30
theorem sc_reduced_forms_both : FnScope ["d", "root", "found", "b", "a", "first", "form"] ["d"] (defScope s_reduced_forms_both) := ⟨rfl, rfl, rfl, by decide +kernel, rfl, by decide +kernel, by decide +kernel⟩
abbrev s_classes_of : Stmt := topS 31
theorem sc_classes_of : FnScope ["d", "some", "known", "form"] ["d"] (defScope s_classes_of) := ⟨rfl, rfl, rfl, by decide +kernel, rfl, by decide +kernel, by decide +kernel⟩
abbrev s_primes_of : Stmt := topS 32
theorem sc_primes_of : FnScope ["number", "found", "prime"] ["number"] (defScope s_primes_of) := ⟨rfl, rfl, rfl, by decide +kernel, rfl, by decide +kernel, by decide +kernel⟩
abbrev s_parts_by : Stmt := topS 33
theorem sc_parts_by : FnScope ["orders", "prime", "found", "power", "before", "many", "place_of_part", "left", "order"] ["orders", "prime"] (defScope s_parts_by) := ⟨rfl, rfl, rfl, by decide +kernel, rfl, by decide +kernel, by decide +kernel⟩
abbrev s_group_of : Stmt := topS 34
theorem sc_group_of : FnScope ["d", "orders", "found", "prime", "number", "part", "form"] ["d"] (defScope s_group_of) := ⟨rfl, rfl, rfl, by decide +kernel, rfl, by decide +kernel, by decide +kernel⟩
abbrev s_group : Stmt := topS 37
theorem sc_group : FnScope ["d", "found"] ["d"] (defScope s_group) := ⟨rfl, rfl, rfl, by decide +kernel, rfl, by decide +kernel, by decide +kernel⟩
/-! ### what the top has written -/
structure Txt (K : PySem.W.Frag) (mg : Str → Option Value) where
  f_common : Addr
  fd_common : FuncData
  g_common : mg "common" = some (.ref f_common)
  F_common : Fun K "common" "common" s_common f_common fd_common
  b_common : L2.Binds K fd_common ["one", "other"] []
  f_root_of : Addr
  fd_root_of : FuncData
  g_root_of : mg "root_of" = some (.ref f_root_of)
  F_root_of : Fun K "root_of" "root_of" s_root_of f_root_of fd_root_of
  b_root_of : L2.Binds K fd_root_of ["number"] []
  f_is_square : Addr
  fd_is_square : FuncData
  g_is_square : mg "is_square" = some (.ref f_is_square)
  F_is_square : Fun K "is_square" "is_square" s_is_square f_is_square fd_is_square
  b_is_square : L2.Binds K fd_is_square ["number"] []
  f_discriminant : Addr
  fd_discriminant : FuncData
  g_discriminant : mg "discriminant" = some (.ref f_discriminant)
  F_discriminant : Fun K "discriminant" "discriminant" s_discriminant f_discriminant fd_discriminant
  b_discriminant : L2.Binds K fd_discriminant ["form"] []
  f_kind_of : Addr
  fd_kind_of : FuncData
  g_kind_of : mg "kind_of" = some (.ref f_kind_of)
  F_kind_of : Fun K "kind_of" "kind_of" s_kind_of f_kind_of fd_kind_of
  b_kind_of : L2.Binds K fd_kind_of ["form"] []
  f_value_at : Addr
  fd_value_at : FuncData
  g_value_at : mg "value_at" = some (.ref f_value_at)
  F_value_at : Fun K "value_at" "value_at" s_value_at f_value_at fd_value_at
  b_value_at : L2.Binds K fd_value_at ["form", "x", "y"] []
  f_changed : Addr
  fd_changed : FuncData
  g_changed : mg "changed" = some (.ref f_changed)
  F_changed : Fun K "changed" "changed" s_changed f_changed fd_changed
  b_changed : L2.Binds K fd_changed ["form", "change"] []
  f_then : Addr
  fd_then : FuncData
  g_then : mg "then" = some (.ref f_then)
  F_then : Fun K "then" "then" s_then f_then fd_then
  b_then : L2.Binds K fd_then ["change", "other"] []
  f_is_discriminant : Addr
  fd_is_discriminant : FuncData
  g_is_discriminant : mg "is_discriminant" = some (.ref f_is_discriminant)
  F_is_discriminant : Fun K "is_discriminant" "is_discriminant" s_is_discriminant f_is_discriminant fd_is_discriminant
  b_is_discriminant : L2.Binds K fd_is_discriminant ["d"] []
  f_place : Addr
  fd_place : FuncData
  g_place : mg "place" = some (.ref f_place)
  F_place : Fun K "place" "place" s_place f_place fd_place
  b_place : L2.Binds K fd_place ["form"] []
  f_reduced_above : Addr
  fd_reduced_above : FuncData
  g_reduced_above : mg "reduced_above" = some (.ref f_reduced_above)
  F_reduced_above : Fun K "reduced_above" "reduced_above" s_reduced_above f_reduced_above fd_reduced_above
  b_reduced_above : L2.Binds K fd_reduced_above ["form"] []
  f_is_reduced : Addr
  fd_is_reduced : FuncData
  g_is_reduced : mg "is_reduced" = some (.ref f_is_reduced)
  F_is_reduced : Fun K "is_reduced" "is_reduced" s_is_reduced f_is_reduced fd_is_reduced
  b_is_reduced : L2.Binds K fd_is_reduced ["form", "root"] []
  f_next_form : Addr
  fd_next_form : FuncData
  g_next_form : mg "next_form" = some (.ref f_next_form)
  F_next_form : Fun K "next_form" "next_form" s_next_form f_next_form fd_next_form
  b_next_form : L2.Binds K fd_next_form ["form", "root"] []
  f_cycle_of : Addr
  fd_cycle_of : FuncData
  g_cycle_of : mg "cycle_of" = some (.ref f_cycle_of)
  F_cycle_of : Fun K "cycle_of" "cycle_of" s_cycle_of f_cycle_of fd_cycle_of
  b_cycle_of : L2.Binds K fd_cycle_of ["form"] []
  f_least_middle : Addr
  fd_least_middle : FuncData
  g_least_middle : mg "least_middle" = some (.ref f_least_middle)
  F_least_middle : Fun K "least_middle" "least_middle" s_least_middle f_least_middle fd_least_middle
  b_least_middle : L2.Binds K fd_least_middle ["form"] []
  f_least_of : Addr
  fd_least_of : FuncData
  g_least_of : mg "least_of" = some (.ref f_least_of)
  F_least_of : Fun K "least_of" "least_of" s_least_of f_least_of fd_least_of
  b_least_of : L2.Binds K fd_least_of ["form"] []
  f_weights : Addr
  fd_weights : FuncData
  g_weights : mg "weights" = some (.ref f_weights)
  F_weights : Fun K "weights" "weights" s_weights f_weights fd_weights
  b_weights : L2.Binds K fd_weights ["one", "other"] []
  f_product : Addr
  fd_product : FuncData
  g_product : mg "product" = some (.ref f_product)
  F_product : Fun K "product" "product" s_product f_product fd_product
  b_product : L2.Binds K fd_product ["form", "other"] []
  f_one_of : Addr
  fd_one_of : FuncData
  g_one_of : mg "one_of" = some (.ref f_one_of)
  F_one_of : Fun K "one_of" "one_of" s_one_of f_one_of fd_one_of
  b_one_of : L2.Binds K fd_one_of ["d"] []
  f_order_of : Addr
  fd_order_of : FuncData
  g_order_of : mg "order_of" = some (.ref f_order_of)
  F_order_of : Fun K "order_of" "order_of" s_order_of f_order_of fd_order_of
  b_order_of : L2.Binds K fd_order_of ["form"] []
  f_reduced_forms_above : Addr
  fd_reduced_forms_above : FuncData
  g_reduced_forms_above : mg "reduced_forms_above" = some (.ref f_reduced_forms_above)
  F_reduced_forms_above : Fun K "reduced_forms_above" "reduced_forms_above" s_reduced_forms_above f_reduced_forms_above fd_reduced_forms_above
  b_reduced_forms_above : L2.Binds K fd_reduced_forms_above ["d"] []
  f_reduced_forms_both : Addr
  fd_reduced_forms_both : FuncData
  g_reduced_forms_both : mg "reduced_forms_both" = some (.ref f_reduced_forms_both)
  F_reduced_forms_both : Fun K "reduced_forms_both" "reduced_forms_both" s_reduced_forms_both f_reduced_forms_both fd_reduced_forms_both
  b_reduced_forms_both : L2.Binds K fd_reduced_forms_both ["d"] []
  f_classes_of : Addr
  fd_classes_of : FuncData
  g_classes_of : mg "classes_of" = some (.ref f_classes_of)
  F_classes_of : Fun K "classes_of" "classes_of" s_classes_of f_classes_of fd_classes_of
  b_classes_of : L2.Binds K fd_classes_of ["d"] []
  f_primes_of : Addr
  fd_primes_of : FuncData
  g_primes_of : mg "primes_of" = some (.ref f_primes_of)
  F_primes_of : Fun K "primes_of" "primes_of" s_primes_of f_primes_of fd_primes_of
  b_primes_of : L2.Binds K fd_primes_of ["number"] []
  f_parts_by : Addr
  fd_parts_by : FuncData
  g_parts_by : mg "parts_by" = some (.ref f_parts_by)
  F_parts_by : Fun K "parts_by" "parts_by" s_parts_by f_parts_by fd_parts_by
  b_parts_by : L2.Binds K fd_parts_by ["orders", "prime"] []
  f_group_of : Addr
  fd_group_of : FuncData
  g_group_of : mg "group_of" = some (.ref f_group_of)
  F_group_of : Fun K "group_of" "group_of" s_group_of f_group_of fd_group_of
  b_group_of : L2.Binds K fd_group_of ["d"] []
  f_group : Addr
  fd_group : FuncData
  g_group : mg "group" = some (.ref f_group)
  F_group : Fun K "group" "group" s_group f_group fd_group
  b_group : L2.Binds K fd_group ["d"] []
  k_GREATEST : ∃ t, mg "GREATEST" = some (.int 20000 t)
  k_NOT_PLAIN : ∃ t, mg "NOT_PLAIN" = some (.int 0 t)
  k_ABOVE : ∃ t, mg "ABOVE" = some (.int 1 t)
  k_BELOW : ∃ t, mg "BELOW" = some (.int 2 t)
  k_BOTH : ∃ t, mg "BOTH" = some (.int 3 t)
  a_SAME : Addr
  k_SAME : mg "SAME" = some (.ref a_SAME)
  l_SAME : ∀ H, SqT K H a_SAME [.int 1, .int 0, .int 0, .int 1]
  a_REFUSED : Addr
  k_REFUSED : mg "REFUSED" = some (.ref a_REFUSED)
  l_REFUSED : ∀ H, SqL K H a_REFUSED [.int (-1)]
  z_abs : mg "abs" = none
  z_dict : mg "dict" = none
  z_enumerate : mg "enumerate" = none
  z_int : mg "int" = none
  z_len : mg "len" = none
  z_list : mg "list" = none
  z_min : mg "min" = none
  z_range : mg "range" = none
  z_sorted : mg "sorted" = none
section
variable {P : Program} {w : World} {K : PySem.W.Frag} {mg : Str → Option Value} {base : Heap}
/-! ### common -/
def p_common : List PyData → PyData → Prop := fun ds d => ∃ x y : Nat, ds = [.int (x : Int), .int (y : Int)] ∧ d = .int (Nat.gcd x y : Int)
theorem len_common {ds : List PyData} {d : PyData} (h : p_common ds d) : ds.length = 2 := by
  obtain ⟨x, y, rfl, _⟩ := h
  rfl
theorem ok_common (T : Txt K mg) : FnOk P w K mg base CX0 1 T.f_common T.fd_common ["one", "other"] (spD K p_common) := by
  refine T.F_common.ok sc_common (fun vs H Q E h => ?_) (fun cdv A outer s H vs Q E hr h => ?_)
  · obtain ⟨ds, _, hv, hp, _⟩ := h
    rw [da_len hv]
    exact len_common hp
  · obtain ⟨ds, d, hv, hp, hQ⟩ := h
    obtain ⟨x, y, rfl, rfl⟩ := hp
    have hv := da_ints (ns := [(x : Int), (y : Int)]) hv
    subst hv
    refine ⟨_, (pss_cons (ps_while PassesOwn.never (pt_cmpR op_ne (pv 1) pe_int (nomark _))
          (pss_one (ps_par (i := 0) (j := 1) (by rfl) sc_common.nd rfl rfl (by decide) rfl rfl (pa_cons (pv 1) (pa_cons (pe_op op_modN (pv 0) (pv 1)) pa_nil)) (by rfl))))
          (pss_one (ps_ret (pv 0)))), ?_⟩
    refine q_while (fun m σ' H' => ∃ x' y' : Nat, σ' = [some (.int (x' : Int)), some (.int (y' : Int))] ∧ Nat.gcd x' y' = Nat.gcd x y ∧ y' = m ∧ Ex H H') y ⟨x, y, rfl, rfl, rfl, Ex.refl H⟩ ?_
    rintro m σ' H' ⟨x', y', rfl, hg, rfl, e'⟩
    refine ⟨_, et_testD (K := K) (ed_neI (ed_var rfl (.int _)) ed_int), fun hb H1 e1 => ⟨_, fun _ _ q => q, ?_⟩, fun hb H1 e1 => ?_⟩
    · have h0 : 0 < y' := by
        rcases Nat.eq_zero_or_pos y' with h | h
        · simp [h] at hb
        · exact h
      refine sd_parI (K := K) (x := (y' : Int)) (y := ((x' % y' : Nat) : Int)) ?_ fun H2 e2 => ⟨x' % y', Nat.mod_lt _ h0, y', x' % y', rfl, ?_, rfl, (e'.trans e1).trans e2⟩
      · refine eda_cons (ed_var rfl (.int _)) (eda_cons ?_ eda_nil)
        rw [← Fk.fmod_nat]
        exact ed_mod (ed_var rfl (.int _)) (ed_var rfl (.int _)) (by omega)
      · rw [← hg, Nat.gcd_comm y', ← Nat.gcd_rec y' x', Nat.gcd_comm]
    · have h0 : y' = 0 := by
        simpa using hb
      refine sd_ret (K := K) (ed_var rfl (.int _)) fun v H2 e2 hd => hQ v H2 ((e'.trans e1).trans e2) ?_
      rw [← hg, h0, Nat.gcd_zero_right]
      exact hd
/-! ### root_of -/
def p_root_of : List PyData → PyData → Prop := fun ds d => ∃ n : Int, ds = [.int n] ∧ n < 2 ^ 58 ∧ d = .int (Fk.rootI n)
theorem len_root_of {ds : List PyData} {d : PyData} (h : p_root_of ds d) : ds.length = 1 := by
  obtain ⟨n, rfl, _⟩ := h
  rfl
theorem bits_of {n : Nat} (h : 2 ≤ n) : Builtin.Int.intBits (n : Int) = n.log2 + 1 := by
  unfold Builtin.Int.intBits
  rw [if_neg (by simp; omega)]
  rfl
theorem ok_root_of (T : Txt K mg) : FnOk P w K mg base CX0 1 T.f_root_of T.fd_root_of ["number"] (spD K p_root_of) := by
  refine T.F_root_of.ok sc_root_of (fun vs H Q E h => ?_) (fun cdv A outer s H vs Q E hr h => ?_)
  · obtain ⟨ds, _, hv, hp, _⟩ := h
    rw [da_len hv]
    exact len_root_of hp
  · obtain ⟨ds, d, hv, hp, hQ⟩ := h
    obtain ⟨n, rfl, hn, rfl⟩ := hp
    have hv := da_ints (ns := [n]) hv
    subst hv
    refine ⟨_, (pss_cons (ps_if (pt_cmpR op_lt (pv 0) pe_int (nomark _))
          (pss_one (ps_ret (pv 0)))
          pss_nil)
          (pss_cons (ps_set (i := 1) sc_root_of.nd rfl (Or.inl rfl) (pe_op op_shl pe_int (pe_op op_fdivN (pe_op op_add (pe_bits (pv 0)) pe_int) pe_int)))
          (pss_cons (ps_set (i := 2) sc_root_of.nd rfl (Or.inl rfl) (pe_op op_fdivN (pe_op op_add (pv 1) (pe_op op_fdivN (pv 0) (pv 1))) pe_int))
          (pss_cons (ps_while PassesOwn.never (pt_cmpR op_lt (pv 2) (pv 1) (nomark _))
          (pss_cons (ps_set (i := 1) sc_root_of.nd rfl (Or.inl rfl) (pv 2))
          (pss_one (ps_set (i := 2) sc_root_of.nd rfl (Or.inl rfl) (pe_op op_fdivN (pe_op op_add (pv 1) (pe_op op_fdivN (pv 0) (pv 1))) pe_int)))))
          (pss_one (ps_ret (pv 1))))))), ?_⟩
    refine q_when (et_testD (K := K) (ed_lt (ed_var rfl (.int _)) ed_int)) (fun hb H1 e1 => ?_) (fun hb H1 e1 => ?_)
    · refine sd_ret (K := K) (ed_var rfl (.int _)) fun v H2 e2 hd => hQ v H2 (e1.trans e2) ?_
      rw [Fk.rootI, if_pos (of_decide_eq_true hb)]
      exact hd
    · have h2 : 2 ≤ n := by
        have := of_decide_eq_false hb
        omega
      obtain ⟨N, rfl⟩ : ∃ N : Nat, n = (N : Int) := ⟨n.toNat, by omega⟩
      have hN : 2 ≤ N := by omega
      have hN2 : N < 2 ^ 58 := by omega
      have hr2 : Fk.IsRoot N (Fc.rootOf N) := Fk.rootOf_root (Nat.lt_of_lt_of_le hN2 (Nat.pow_le_pow_right (by decide) (by decide)))
      have hrI : Fk.rootI (N : Int) = (Fc.rootOf N : Int) := by
        rw [Fk.rootI_nn (by omega)]
        rfl
      rw [hrI] at hQ
      have s0 : 0 < Fc.rootOf N := by
        rcases Nat.eq_zero_or_pos (Fc.rootOf N) with h | h
        · have := hr2.2
          rw [h] at this
          omega
        · exact h
      generalize Fc.rootOf N = s at hr2 hQ s0
      have hl : N.log2 < 58 := Fk.log2_lt hN2 (by omega)
      have hst := Fk.newton_start (Fk.newton_bits hN) hr2
      have hk : 2 ^ ((N.log2 + 2) / 2) ≤ 2 ^ 29 := Nat.pow_le_pow_right (by decide) (by omega)
      have e28 : (2 : Nat) ^ 29 = 536870912 := by decide
      have hp0 : 0 < 2 ^ ((N.log2 + 2) / 2) := Nat.pow_pos (by decide)
      have hsh : (1 : Int) * 2 ^ ((((Builtin.Int.intBits (N : Int) : Nat) : Int) + 1).fdiv 2).toNat = ((2 ^ ((N.log2 + 2) / 2) : Nat) : Int) := by
        rw [bits_of hN]
        have : ((((N.log2 + 1 : Nat) : Int) + 1).fdiv 2) = (((N.log2 + 2) / 2 : Nat) : Int) := by
          have e : (((N.log2 + 1 : Nat) : Int) + 1) = ((N.log2 + 2 : Nat) : Int) := by omega
          rw [e]
          exact Fk.fdiv_nat _ 2
        rw [this, Int.toNat_natCast, Int.one_mul]
        exact (Int.natCast_pow 2 _).symm
      have hlow : ∀ h : Nat, ((h : Int) + (N : Int).fdiv (h : Int)).fdiv 2 = (((h + N / h) / 2 : Nat) : Int) := fun h => by
        rw [Fk.fdiv_nat, ← Int.natCast_add]
        exact Fk.fdiv_nat _ 2
      have hbig : ∀ h : Nat, 0 < h → h ≤ 536870912 → CDivN (N : Int) (h : Int) := fun h h0 h1 => ⟨by omega, by omega⟩
      refine qd_asgI (K := K) (n := ((2 ^ ((N.log2 + 2) / 2) : Nat) : Int)) ?_ fun H2 e2 => ?_
      · rw [← hsh]
        refine ed_I ed_int (ed_fdiv (ed_add (ed_bits (ed_var rfl (.int _))) ed_int) ed_int ⟨by decide, by decide⟩) ⟨?_, ?_, by decide⟩ (.int _)
        · rw [bits_of hN]
          have := Fk.fdiv_nat (N.log2 + 2) 2
          have e : (((N.log2 + 1 : Nat) : Int) + 1) = ((N.log2 + 2 : Nat) : Int) := by omega
          rw [e, show (2 : Int) = ((2 : Nat) : Int) from rfl, this]
          omega
        · rw [bits_of hN]
          have := Fk.fdiv_nat (N.log2 + 2) 2
          have e : (((N.log2 + 1 : Nat) : Int) + 1) = ((N.log2 + 2 : Nat) : Int) := by omega
          rw [e, show (2 : Int) = ((2 : Nat) : Int) from rfl, this]
          omega
      generalize hh : 2 ^ ((N.log2 + 2) / 2) = h at hst hk hp0 hsh
      refine qd_asgI (K := K) (n := (((h + N / h) / 2 : Nat) : Int)) ?_ fun H3 e3 => ?_
      · rw [← hlow]
        exact ed_fdiv (ed_add (ed_var rfl (.int _)) (ed_fdiv (ed_var rfl (.int _)) (ed_var rfl (.int _)) (hbig h hp0 (by omega)))) ed_int ⟨by decide, by decide⟩
      refine q_while (fun m σ' H' => ∃ h : Nat, σ' = [some (.int (N : Int)), some (.int (h : Int)), some (.int (((h + N / h) / 2 : Nat) : Int))] ∧ 0 < h ∧ h ≤ 536870912 ∧ s ≤ h ∧ h = m ∧ Ex H H') h ⟨h, rfl, hp0, by omega, hst, rfl, (e1.trans e2).trans e3⟩ ?_
      rintro m σ' H' ⟨h, rfl, h0, h1, hs, rfl, e'⟩
      refine ⟨_, et_testD (K := K) (ed_lt (ed_var rfl (.int _)) (ed_var rfl (.int _))), fun hb H1 e1 => ⟨_, fun _ _ q => q, ?_⟩, fun hb H1 e1 => ?_⟩
      · have hlt := of_decide_eq_true hb
        have hge := Fk.newton_ge h0 hr2.1
        refine qd_asgI (K := K) (ed_var rfl (.int _)) fun H2 e2 => ?_
        refine sd_asgI (K := K) (n := ((((h + N / h) / 2 + N / ((h + N / h) / 2)) / 2 : Nat) : Int)) ?_ fun H3 e3 => ⟨(h + N / h) / 2, by omega, (h + N / h) / 2, rfl, by omega, by omega, hge, rfl, ((e'.trans e1).trans e2).trans e3⟩
        rw [← hlow ((h + N / h) / 2)]
        exact ed_fdiv (ed_add (ed_var rfl (.int _)) (ed_fdiv (ed_var rfl (.int _)) (ed_var rfl (.int _)) (hbig ((h + N / h) / 2) (by omega) (by omega)))) ed_int ⟨by decide, by decide⟩
      · have hlt := of_decide_eq_false hb
        have hend := Fk.newton_end h0 hs hr2 (by omega)
        refine sd_ret (K := K) (ed_var rfl (.int _)) fun v H2 e2 hd => hQ v H2 ((e'.trans e1).trans e2) ?_
        rw [← hend]
        exact hd
/-! ### is_square -/
def p_is_square : List PyData → PyData → Prop := fun ds d => ∃ n : Int, ds = [.int n] ∧ n < 2 ^ 58 ∧ d = .bool (Fc.isSquare n)
theorem len_is_square {ds : List PyData} {d : PyData} (h : p_is_square ds d) : ds.length = 1 := by
  obtain ⟨n, rfl, _⟩ := h
  rfl
theorem square_eq (n : Int) : (decide (0 ≤ n) && decide (Fk.rootI n * Fk.rootI n = n)) = Fc.isSquare n := by
  unfold Fc.isSquare
  by_cases h : 0 ≤ n
  · rw [Fk.rootI_nn h, decide_eq_true h, Bool.true_and, Bool.true_and, Bool.beq_eq_decide_eq]
    refine decide_eq_decide.mpr ⟨fun e => ?_, fun e => ?_⟩
    · have : ((Fc.rootOf n.toNat * Fc.rootOf n.toNat : Nat) : Int) = n := by rw [Int.natCast_mul]; exact e
      omega
    · rw [← Int.natCast_mul, e]
      omega
  · rw [decide_eq_false h, Bool.false_and, Bool.false_and]
theorem rootI_lt {n : Int} (h : n < 2 ^ 58) (h0 : 0 ≤ n) : W64 (Fk.rootI n) := by
  have h1 : (Fk.rootI n) = (Fc.rootOf n.toNat : Int) := Fk.rootI_nn h0
  have hr := (Fk.rootOf_root (n := n.toNat) (Nat.lt_of_lt_of_le (show n.toNat < 2 ^ 58 by omega) (Nat.pow_le_pow_right (by decide) (by decide)))).1
  have : Fc.rootOf n.toNat < 2 ^ 29 := Fk.lt_of_sq (by
    have e : 2 ^ 29 * 2 ^ 29 = 2 ^ 58 := by decide
    omega)
  unfold W64
  omega
theorem ok_is_square (T : Txt K mg) : FnOk P w K mg base CX0 2 T.f_is_square T.fd_is_square ["number"] (spD K p_is_square) := by
  have G_root_of := ok_root_of (P := P) (w := w) (base := base) T
  refine T.F_is_square.ok sc_is_square (fun vs H Q E h => ?_) (fun cdv A outer s H vs Q E hr h => ?_)
  · obtain ⟨ds, _, hv, hp, _⟩ := h
    rw [da_len hv]
    exact len_is_square hp
  · obtain ⟨ds, d, hv, hp, hQ⟩ := h
    obtain ⟨n, rfl, hn, rfl⟩ := hp
    have hv := da_ints (ns := [n]) hv
    subst hv
    refine ⟨_, (pss_one (ps_ret (pe_and (pe_cmpR op_ge (pv 0) pe_int (nomark _)) (pe_one (pe_cmpR op_eq (pe_op op_mul (pe_call G_root_of (hr.mono (by decide)) rfl T.g_root_of T.F_root_of.kp T.b_root_of .nil pass0 (pa_cons (pv 0) pa_nil)) (pe_call G_root_of (hr.mono (by decide)) rfl T.g_root_of T.F_root_of.kp T.b_root_of .nil pass0 (pa_cons (pv 0) pa_nil))) (pv 0) (nomark _)))))), ?_⟩
    refine sd_ret (K := K) (ed_is (ed_and (b := decide (Fk.rootI n * Fk.rootI n = n)) (ed_ge (ed_var rfl (.int _)) ed_int) fun h0 => ?_) (congrArg PyData.bool (square_eq n))) fun v H2 e2 hd => hQ v H2 e2 hd
    have h0 := of_decide_eq_true h0
    have w := rootI_lt hn h0
    exact ed_eqI (ed_mul (ed_call (eda_cons (ed_var rfl (.int _)) eda_nil) ⟨n, rfl, hn, rfl⟩) (ed_call (eda_cons (ed_var rfl (.int _)) eda_nil) ⟨n, rfl, hn, rfl⟩) (.inl w)) (ed_var rfl (.int _))
/-! ### discriminant -/
def p_discriminant : List PyData → PyData → Prop := fun ds d => ∃ f : Fc.Form, ds = [dFm f] ∧ (W64 f.b ∧ W64 f.c) ∧ d = .int (Fc.disc f)
theorem len_discriminant {ds : List PyData} {d : PyData} (h : p_discriminant ds d) : ds.length = 1 := by
  obtain ⟨f, rfl, _⟩ := h
  rfl
theorem w64_four {a : Int} : CMul 4 a := .inl ⟨by decide, by decide⟩
theorem w64_two {a : Int} : CMul 2 a := .inl ⟨by decide, by decide⟩
theorem ok_discriminant (T : Txt K mg) : FnOk P w K mg base CX0 1 T.f_discriminant T.fd_discriminant ["form"] (spD K p_discriminant) := by
  refine T.F_discriminant.ok sc_discriminant (fun vs H Q E h => ?_) (fun cdv A outer s H vs Q E hr h => ?_)
  · obtain ⟨ds, _, hv, hp, _⟩ := h
    rw [da_len hv]
    exact len_discriminant hp
  · obtain ⟨ds, d, hv, hp, hQ⟩ := h
    obtain ⟨⟨a, b, c⟩, rfl, ⟨hb, hc⟩, rfl⟩ := hp
    obtain ⟨v, _, rfl, h1, hv⟩ := da_cons hv
    cases da_nil hv
    refine ⟨_, (pss_cons (ps_asg (pv 0) (pg_tup (by rfl) (pgs_cons (pg_name (i := 1) sc_discriminant.nd rfl (Or.inl rfl)) (pgs_cons (pg_name (i := 2) sc_discriminant.nd rfl (Or.inl rfl)) (pgs_cons (pg_name (i := 3) sc_discriminant.nd rfl (Or.inl rfl)) pgs_nil)))))
          (pss_one (ps_ret (pe_op op_sub (pe_op op_mul (pv 2) (pv 2)) (pe_op op_mul (pe_op op_mul pe_int (pv 1)) (pv 3)))))), ?_⟩
    refine qd_un3 (ed_var rfl h1) fun H1 e1 => ?_
    exact sd_ret (K := K) (ed_sub (ed_mul (ed_var rfl (.int _)) (ed_var rfl (.int _)) (.inl hb)) (ed_mul (ed_mul ed_int (ed_var rfl (.int _)) w64_four) (ed_var rfl (.int _)) (.inr hc))) fun v H2 e2 hd => hQ v H2 (e1.trans e2) hd
/-! ### kind_of -/
def kindN (f : Fc.Form) : Int := if Fc.plain f = false then 0 else if 0 < Fc.disc f then 3 else if 0 < f.a then 1 else 2
def p_kind_of : List PyData → PyData → Prop := fun ds d => ∃ f : Fc.Form, ds = [dFm f] ∧ SmF f ∧ d = .int (kindN f)
theorem len_kind_of {ds : List PyData} {d : PyData} (h : p_kind_of ds d) : ds.length = 1 := by
  obtain ⟨f, rfl, _⟩ := h
  rfl
theorem plain_false {f : Fc.Form} : ((!decide ((Nat.gcd (Nat.gcd f.a.natAbs f.b.natAbs) f.c.natAbs : Int) = 1)) || Fc.isSquare (Fc.disc f)) = !Fc.plain f := by
  unfold Fc.plain
  rw [Bool.not_and, Bool.not_not, Bool.beq_eq_decide_eq]
  congr 2
  exact decide_eq_decide.mpr (by omega)
theorem ok_kind_of (T : Txt K mg) : FnOk P w K mg base CX0 3 T.f_kind_of T.fd_kind_of ["form"] (spD K p_kind_of) := by
  have G_common := ok_common (P := P) (w := w) (base := base) T
  have G_is_square := ok_is_square (P := P) (w := w) (base := base) T
  have G_discriminant := ok_discriminant (P := P) (w := w) (base := base) T
  refine T.F_kind_of.ok sc_kind_of (fun vs H Q E h => ?_) (fun cdv A outer s H vs Q E hr h => ?_)
  · obtain ⟨ds, _, hv, hp, _⟩ := h
    rw [da_len hv]
    exact len_kind_of hp
  · obtain ⟨ds, d, hv, hp, hQ⟩ := h
    obtain ⟨f, rfl, hs, rfl⟩ := hp
    obtain ⟨v, _, rfl, h1, hv⟩ := da_cons hv
    cases da_nil hv
    have hd56 := disc_lt hs
    refine ⟨_, (pss_cons (ps_asg (pv 0) (pg_tup (by rfl) (pgs_cons (pg_name (i := 1) sc_kind_of.nd rfl (Or.inl rfl)) (pgs_cons (pg_name (i := 2) sc_kind_of.nd rfl (Or.inl rfl)) (pgs_cons (pg_name (i := 3) sc_kind_of.nd rfl (Or.inl rfl)) pgs_nil)))))
          (pss_cons (ps_set (i := 4) sc_kind_of.nd rfl (Or.inl rfl) (pe_call G_discriminant (hr.mono (by decide)) rfl T.g_discriminant T.F_discriminant.kp T.b_discriminant .nil pass0 (pa_cons (pv 0) pa_nil)))
          (pss_cons (ps_if (PW.pt (pw_or (pt_cmpR op_ne (pe_call G_common (hr.mono (by decide)) rfl T.g_common T.F_common.kp T.b_common .nil pass0 (pa_cons (pe_call G_common (hr.mono (by decide)) rfl T.g_common T.F_common.kp T.b_common .nil pass0 (pa_cons (pe_callB call_abs (by rfl) T.z_abs (by decide +kernel) (pa_cons (pv 1) pa_nil)) (pa_cons (pe_callB call_abs (by rfl) T.z_abs (by decide +kernel) (pa_cons (pv 2) pa_nil)) pa_nil))) (pa_cons (pe_callB call_abs (by rfl) T.z_abs (by decide +kernel) (pa_cons (pv 3) pa_nil)) pa_nil))) pe_int (nomark _)) (pw_or1 (pt_val (pe_call G_is_square (hr.mono (by decide)) rfl T.g_is_square T.F_is_square.kp T.b_is_square .nil pass0 (pa_cons (pv 4) pa_nil))))))
          (pss_one (ps_ret (pe_glob (v := .int 0) rfl T.k_NOT_PLAIN.choose_spec ⟨_, rfl⟩)))
          pss_nil)
          (pss_cons (ps_if (pt_cmpR op_gt (pv 4) pe_int (nomark _))
          (pss_one (ps_ret (pe_glob (v := .int 3) rfl T.k_BOTH.choose_spec ⟨_, rfl⟩)))
          pss_nil)
          (pss_one (ps_ret (pe_ix ix_list (pe_lst (pa_cons (pe_glob (v := .int 2) rfl T.k_BELOW.choose_spec ⟨_, rfl⟩) (pa_cons (pe_glob (v := .int 1) rfl T.k_ABOVE.choose_spec ⟨_, rfl⟩) pa_nil))) (pe_callTy (T := "int") (r := rInt1) call_int1 (by rfl) T.z_int (by decide +kernel) (pa_cons (pe_cmpR op_gt (pv 1) pe_int (nomark _)) pa_nil)) (fun _ _ => rfl)))))))), ?_⟩
    refine qd_un3 (ed_var rfl h1) fun H1 e1 => ?_
    refine qd_asgI (K := K) (ed_call (eda_cons (ed_var rfl (Dp_mono e1 h1)) eda_nil) ⟨f, rfl, ⟨hs.2.1.wide, hs.2.2.wide⟩, rfl⟩) fun H2 e2 => ?_
    refine q_when (et_is (et_or (et_testD (K := K) (ed_neI (ed_call (eda_cons (ed_call (eda_cons (ed_abs (ed_var rfl (.int _))) (eda_cons (ed_abs (ed_var rfl (.int _))) eda_nil)) ⟨_, _, rfl, rfl⟩) (eda_cons (ed_abs (ed_var rfl (.int _))) eda_nil)) ⟨_, _, rfl, rfl⟩) ed_int)) fun _ => et_BD (K := K) (ed_call (eda_cons (ed_var rfl (.int _)) eda_nil) ⟨_, rfl, hd56, rfl⟩)) plain_false) (fun hb H3 e3 => ?_) (fun hb H3 e3 => ?_)
    · refine sd_ret (K := K) (ed_c (.int _)) fun v H4 e4 hd => hQ v H4 (((e1.trans e2).trans e3).trans e4) ?_
      rw [kindN, if_pos (by simpa using hb)]
      exact hd
    · have hp : Fc.plain f = true := by simpa using hb
      refine q_when (et_testD (K := K) (ed_gt (ed_var rfl (.int _)) ed_int)) (fun hb2 H4 e4 => ?_) (fun hb2 H4 e4 => ?_)
      · refine sd_ret (K := K) (ed_c (.int _)) fun v H5 e5 hd => hQ v H5 ((((e1.trans e2).trans e3).trans e4).trans e5) ?_
        rw [kindN, if_neg (by rw [hp]; decide), if_pos (of_decide_eq_true hb2)]
        exact hd
      · have hn := of_decide_eq_false hb2
        refine sd_ret (K := K) (d := .int (if 0 < f.a then 1 else 2)) (ed_ixL (i := if 0 < f.a then 1 else 0) (EvN.toD (en_lst (eda_cons (ed_c (.int _)) (eda_cons (ed_c (.int _)) eda_nil)))) (ed_intB (ed_gt (ed_var rfl (.int _)) ed_int)) ?_ ?_) fun v H5 e5 hd => hQ v H5 ((((e1.trans e2).trans e3).trans e4).trans e5) ?_
        · by_cases h : 0 < f.a <;> simp [h]
        · by_cases h : 0 < f.a <;> simp [h]
        · rw [kindN, if_neg (by rw [hp]; decide), if_neg hn]
          exact hd
/-! ### value_at -/
def p_value_at : List PyData → PyData → Prop := fun ds d => ∃ a b c x y, ds = [dF a b c, .int x, .int y] ∧ (W64 x ∧ W64 y) ∧ d = .int (a * x * x + b * x * y + c * y * y)
theorem len_value_at {ds : List PyData} {d : PyData} (h : p_value_at ds d) : ds.length = 3 := by
  obtain ⟨a, b, c, x, y, rfl, _⟩ := h
  rfl
theorem ok_value_at (T : Txt K mg) : FnOk P w K mg base CX0 1 T.f_value_at T.fd_value_at ["form", "x", "y"] (spD K p_value_at) := by
  refine T.F_value_at.ok sc_value_at (fun vs H Q E h => ?_) (fun cdv A outer s H vs Q E hr h => ?_)
  · obtain ⟨ds, _, hv, hp, _⟩ := h
    rw [da_len hv]
    exact len_value_at hp
  · obtain ⟨ds, d, hv, hp, hQ⟩ := h
    obtain ⟨a, b, c, x, y, rfl, ⟨⟨hx1, hx2⟩, ⟨hy1, hy2⟩⟩, rfl⟩ := hp
    obtain ⟨v, _, rfl, h1, hv⟩ := da_cons hv
    obtain ⟨vx, _, rfl, h2, hv⟩ := da_cons hv
    obtain ⟨vy, _, rfl, h3, hv⟩ := da_cons hv
    cases da_nil hv
    cases dp_int h2
    cases dp_int h3
    refine ⟨_, (pss_cons (ps_asg (pv 0) (pg_tup (by rfl) (pgs_cons (pg_name (i := 3) sc_value_at.nd rfl (Or.inl rfl)) (pgs_cons (pg_name (i := 4) sc_value_at.nd rfl (Or.inl rfl)) (pgs_cons (pg_name (i := 5) sc_value_at.nd rfl (Or.inl rfl)) pgs_nil)))))
          (pss_one (ps_ret (pe_op op_add (pe_op op_add (pe_op op_mul (pe_op op_mul (pv 3) (pv 1)) (pv 1)) (pe_op op_mul (pe_op op_mul (pv 4) (pv 1)) (pv 2))) (pe_op op_mul (pe_op op_mul (pv 5) (pv 2)) (pv 2)))))), ?_⟩
    refine qd_un3 (ed_var rfl h1) fun H1 e1 => ?_
    refine sd_ret (K := K) ?_ fun v H2 e2 hd => hQ v H2 (e1.trans e2) hd
    refine ed_add (ed_add (ed_mul (ed_mul (ed_var rfl (.int _)) (ed_var rfl (.int _)) (.inr ⟨hx1, hx2⟩)) (ed_var rfl (.int _)) (.inr ⟨hx1, hx2⟩)) (ed_mul (ed_mul (ed_var rfl (.int _)) (ed_var rfl (.int _)) (.inr ⟨hx1, hx2⟩)) (ed_var rfl (.int _)) (.inr ⟨hy1, hy2⟩))) (ed_mul (ed_mul (ed_var rfl (.int _)) (ed_var rfl (.int _)) (.inr ⟨hy1, hy2⟩)) (ed_var rfl (.int _)) (.inr ⟨hy1, hy2⟩))
/-! ### changed -/
def p_changed : List PyData → PyData → Prop := fun ds d => ∃ (f : Fc.Form) (t : Fc.Change), ds = [dFm f, dCh t] ∧ (W64 f.b ∧ W64 t.p ∧ W64 t.q ∧ W64 t.r ∧ W64 t.s) ∧ d = dFm (Fc.changed f t)
theorem len_changed {ds : List PyData} {d : PyData} (h : p_changed ds d) : ds.length = 2 := by
  obtain ⟨f, t, rfl, _⟩ := h
  rfl
theorem ok_changed (T : Txt K mg) : FnOk P w K mg base CX0 2 T.f_changed T.fd_changed ["form", "change"] (spD K p_changed) := by
  have G_value_at := ok_value_at (P := P) (w := w) (base := base) T
  refine T.F_changed.ok sc_changed (fun vs H Q E h => ?_) (fun cdv A outer s H vs Q E hr h => ?_)
  · obtain ⟨ds, _, hv, hp, _⟩ := h
    rw [da_len hv]
    exact len_changed hp
  · obtain ⟨ds, d, hv, hp, hQ⟩ := h
    obtain ⟨⟨a, b, c⟩, ⟨p, q, r, s⟩, rfl, ⟨hb, hp, hq, hr', hs⟩, rfl⟩ := hp
    obtain ⟨v, _, rfl, h1, hv⟩ := da_cons hv
    obtain ⟨vx, _, rfl, h2, hv⟩ := da_cons hv
    cases da_nil hv
    refine ⟨_, (pss_cons (ps_asg (pv 0) (pg_tup (by rfl) (pgs_cons (pg_name (i := 2) sc_changed.nd rfl (Or.inl rfl)) (pgs_cons (pg_name (i := 3) sc_changed.nd rfl (Or.inl rfl)) (pgs_cons (pg_name (i := 4) sc_changed.nd rfl (Or.inl rfl)) pgs_nil)))))
          (pss_cons (ps_asg (pv 1) (pg_tup (by rfl) (pgs_cons (pg_name (i := 5) sc_changed.nd rfl (Or.inl rfl)) (pgs_cons (pg_name (i := 6) sc_changed.nd rfl (Or.inl rfl)) (pgs_cons (pg_name (i := 7) sc_changed.nd rfl (Or.inl rfl)) (pgs_cons (pg_name (i := 8) sc_changed.nd rfl (Or.inl rfl)) pgs_nil))))))
          (pss_one (ps_ret (pe_tup (pa_cons (pe_call G_value_at (hr.mono (by decide)) rfl T.g_value_at T.F_value_at.kp T.b_value_at .nil pass0 (pa_cons (pv 0) (pa_cons (pv 5) (pa_cons (pv 7) pa_nil)))) (pa_cons (pe_op op_add (pe_op op_add (pe_op op_mul (pe_op op_mul (pe_op op_mul pe_int (pv 2)) (pv 5)) (pv 6)) (pe_op op_mul (pv 3) (pe_op op_add (pe_op op_mul (pv 5) (pv 8)) (pe_op op_mul (pv 6) (pv 7))))) (pe_op op_mul (pe_op op_mul (pe_op op_mul pe_int (pv 4)) (pv 7)) (pv 8))) (pa_cons (pe_call G_value_at (hr.mono (by decide)) rfl T.g_value_at T.F_value_at.kp T.b_value_at .nil pass0 (pa_cons (pv 0) (pa_cons (pv 6) (pa_cons (pv 8) pa_nil)))) pa_nil)))))))), ?_⟩
    refine qd_un3 (ed_var rfl h1) fun H1 e1 => ?_
    replace h1 := Dp_mono e1 h1
    refine qd_un4 (ed_var rfl (Dp_mono e1 h2)) fun H2 e2 => ?_
    replace h1 := Dp_mono e2 h1
    refine sd_ret (K := K) ?_ fun v H3 e3 hd => hQ v H3 ((e1.trans e2).trans e3) hd
    refine ed_tup (eda_cons ?_ (eda_cons ?_ (eda_cons ?_ eda_nil)))
    · exact ed_call (eda_cons (ed_var rfl h1) (by walk_at "ed")) ⟨a, b, c, p, r, rfl, ⟨hp, hr'⟩, rfl⟩
    · refine ed_add (ed_add (ed_mul (ed_mul (ed_mul ed_int (ed_var rfl (.int _)) (.inl ⟨by decide, by decide⟩)) (ed_var rfl (.int _)) (.inr hp)) (ed_var rfl (.int _)) (.inr hq)) (ed_mul (ed_var rfl (.int _)) (ed_add (ed_mul (ed_var rfl (.int _)) (ed_var rfl (.int _)) (.inr hs)) (ed_mul (ed_var rfl (.int _)) (ed_var rfl (.int _)) (.inr hr'))) (.inl hb))) (ed_mul (ed_mul (ed_mul ed_int (ed_var rfl (.int _)) (.inl ⟨by decide, by decide⟩)) (ed_var rfl (.int _)) (.inr hr')) (ed_var rfl (.int _)) (.inr hs))
    · exact ed_call (eda_cons (ed_var rfl h1) (by walk_at "ed")) ⟨a, b, c, q, s, rfl, ⟨hq, hs⟩, rfl⟩
/-! ### then -/
def p_then : List PyData → PyData → Prop := fun ds d => ∃ t u : Fc.Change, ds = [dCh t, dCh u] ∧ (W64 u.p ∧ W64 u.q ∧ W64 u.r ∧ W64 u.s) ∧ d = dCh (t.then_ u)
theorem len_then {ds : List PyData} {d : PyData} (h : p_then ds d) : ds.length = 2 := by
  obtain ⟨t, u, rfl, _⟩ := h
  rfl
theorem ok_then (T : Txt K mg) : FnOk P w K mg base CX0 1 T.f_then T.fd_then ["change", "other"] (spD K p_then) := by
  refine T.F_then.ok sc_then (fun vs H Q E h => ?_) (fun cdv A outer s H vs Q E hr h => ?_)
  · obtain ⟨ds, _, hv, hp, _⟩ := h
    rw [da_len hv]
    exact len_then hp
  · obtain ⟨ds, d, hv, hp, hQ⟩ := h
    obtain ⟨⟨p, q, r, s⟩, ⟨t, u, v, w⟩, rfl, ⟨ht, hu, hv', hw⟩, rfl⟩ := hp
    obtain ⟨v1, _, rfl, h1, hv⟩ := da_cons hv
    obtain ⟨v2, _, rfl, h2, hv⟩ := da_cons hv
    cases da_nil hv
    refine ⟨_, (pss_cons (ps_asg (pv 0) (pg_tup (by rfl) (pgs_cons (pg_name (i := 2) sc_then.nd rfl (Or.inl rfl)) (pgs_cons (pg_name (i := 3) sc_then.nd rfl (Or.inl rfl)) (pgs_cons (pg_name (i := 4) sc_then.nd rfl (Or.inl rfl)) (pgs_cons (pg_name (i := 5) sc_then.nd rfl (Or.inl rfl)) pgs_nil))))))
          (pss_cons (ps_asg (pv 1) (pg_tup (by rfl) (pgs_cons (pg_name (i := 6) sc_then.nd rfl (Or.inl rfl)) (pgs_cons (pg_name (i := 7) sc_then.nd rfl (Or.inl rfl)) (pgs_cons (pg_name (i := 8) sc_then.nd rfl (Or.inl rfl)) (pgs_cons (pg_name (i := 9) sc_then.nd rfl (Or.inl rfl)) pgs_nil))))))
          (pss_one (ps_ret (pe_tup (pa_cons (pe_op op_add (pe_op op_mul (pv 2) (pv 6)) (pe_op op_mul (pv 3) (pv 8))) (pa_cons (pe_op op_add (pe_op op_mul (pv 2) (pv 7)) (pe_op op_mul (pv 3) (pv 9))) (pa_cons (pe_op op_add (pe_op op_mul (pv 4) (pv 6)) (pe_op op_mul (pv 5) (pv 8))) (pa_cons (pe_op op_add (pe_op op_mul (pv 4) (pv 7)) (pe_op op_mul (pv 5) (pv 9))) pa_nil))))))))), ?_⟩
    refine qd_un4 (ed_var rfl h1) fun H1 e1 => ?_
    refine qd_un4 (ed_var rfl (Dp_mono e1 h2)) fun H2 e2 => ?_
    refine sd_ret (K := K) ?_ fun v H3 e3 hd => hQ v H3 ((e1.trans e2).trans e3) hd
    have m : ∀ {x y : Int}, W64 y → CMul x y := fun h => .inr h
    exact ed_tup (eda_cons (ed_add (ed_mul (ed_var rfl (.int _)) (ed_var rfl (.int _)) (m ht)) (ed_mul (ed_var rfl (.int _)) (ed_var rfl (.int _)) (m hv')))
      (eda_cons (ed_add (ed_mul (ed_var rfl (.int _)) (ed_var rfl (.int _)) (m hu)) (ed_mul (ed_var rfl (.int _)) (ed_var rfl (.int _)) (m hw)))
      (eda_cons (ed_add (ed_mul (ed_var rfl (.int _)) (ed_var rfl (.int _)) (m ht)) (ed_mul (ed_var rfl (.int _)) (ed_var rfl (.int _)) (m hv')))
      (eda_cons (ed_add (ed_mul (ed_var rfl (.int _)) (ed_var rfl (.int _)) (m hu)) (ed_mul (ed_var rfl (.int _)) (ed_var rfl (.int _)) (m hw))) eda_nil))))
/-! ### is_discriminant -/
def p_is_discriminant : List PyData → PyData → Prop := fun ds d => ∃ n : Int, ds = [.int n] ∧ d = .bool (Fc.isDisc n)
theorem len_is_discriminant {ds : List PyData} {d : PyData} (h : p_is_discriminant ds d) : ds.length = 1 := by
  obtain ⟨n, rfl, _⟩ := h
  rfl
theorem isDisc_prog (n : Int) : (decide ((n.natAbs : Int) ≤ 20000) && (decide (n.fmod 4 < 2) && !Fc.isSquare n)) = Fc.isDisc n := by
  unfold Fc.isDisc Fc.FAR
  have h1 : n.fmod 4 = n % 4 := Int.fmod_eq_emod_of_nonneg _ (by omega)
  have h2 : decide ((n.natAbs : Int) ≤ 20000) = decide (n.natAbs ≤ 20000) := decide_eq_decide.mpr (by omega)
  have h3 : decide (n % 4 < 2) = (n % 4 == 0 || n % 4 == 1) := by
    rw [Bool.eq_iff_iff]
    simp
    omega
  rw [h1, h2, h3]
  generalize Fc.isSquare n = a
  generalize decide (n.natAbs ≤ 20000) = b
  generalize (n % 4 == 0 || n % 4 == 1) = c
  cases a <;> cases b <;> cases c <;> rfl
theorem ok_is_discriminant (T : Txt K mg) : FnOk P w K mg base CX0 3 T.f_is_discriminant T.fd_is_discriminant ["d"] (spD K p_is_discriminant) := by
  have G_is_square := ok_is_square (P := P) (w := w) (base := base) T
  refine T.F_is_discriminant.ok sc_is_discriminant (fun vs H Q E h => ?_) (fun cdv A outer s H vs Q E hr h => ?_)
  · obtain ⟨ds, _, hv, hp, _⟩ := h
    rw [da_len hv]
    exact len_is_discriminant hp
  · obtain ⟨ds, d, hv, hp, hQ⟩ := h
    obtain ⟨n, rfl, rfl⟩ := hp
    have hv := da_ints (ns := [n]) hv
    subst hv
    rw [← isDisc_prog] at hQ
    refine ⟨_, (pss_one (ps_ret (pe_and (pe_cmpR op_le (pe_callB call_abs (by rfl) T.z_abs (by decide +kernel) (pa_cons (pv 0) pa_nil)) (pe_glob (v := .int 20000) rfl T.k_GREATEST.choose_spec ⟨_, rfl⟩) (nomark _)) (pe_and (pe_cmpR op_lt (pe_op op_modN (pv 0) pe_int) pe_int (nomark _)) (pe_one (pe_not (pe_call G_is_square (hr.mono (by decide)) rfl T.g_is_square T.F_is_square.kp T.b_is_square .nil pass0 (pa_cons (pv 0) pa_nil)))))))), ?_⟩
    exact sd_ret (K := K) (ed_and (ed_le (ed_abs (ed_var rfl (.int _))) (ed_c (.int _))) fun hb => ed_and (ed_lt (ed_mod (ed_var rfl (.int _)) ed_int (by decide)) ed_int) fun _ => ed_not (ed_call (eda_cons (ed_var rfl (.int _)) eda_nil) ⟨n, rfl, by have := of_decide_eq_true hb; omega, rfl⟩)) fun v H2 e2 hd => hQ v H2 e2 hd
/-! ### place -/
def p_place : List PyData → PyData → Prop := fun ds d => ∃ f : Fc.Form, ds = [dFm f] ∧ d = dPl f
theorem len_place {ds : List PyData} {d : PyData} (h : p_place ds d) : ds.length = 1 := by
  obtain ⟨f, rfl, _⟩ := h
  rfl
theorem ok_place (T : Txt K mg) : FnOk P w K mg base CX0 1 T.f_place T.fd_place ["form"] (spD K p_place) := by
  refine T.F_place.ok sc_place (fun vs H Q E h => ?_) (fun cdv A outer s H vs Q E hr h => ?_)
  · obtain ⟨ds, _, hv, hp, _⟩ := h
    rw [da_len hv]
    exact len_place hp
  · obtain ⟨ds, d, hv, hp, hQ⟩ := h
    obtain ⟨f, rfl, rfl⟩ := hp
    obtain ⟨v, _, rfl, h1, hv⟩ := da_cons hv
    cases da_nil hv
    refine ⟨_, (pss_cons (ps_asg (pv 0) (pg_tup (by rfl) (pgs_cons (pg_name (i := 1) sc_place.nd rfl (Or.inl rfl)) (pgs_cons (pg_name (i := 2) sc_place.nd rfl (Or.inl rfl)) (pgs_cons (pg_name (i := 3) sc_place.nd rfl (Or.inl rfl)) pgs_nil)))))
          (pss_one (ps_ret (pe_tup (pa_cons (pe_callB call_abs (by rfl) T.z_abs (by decide +kernel) (pa_cons (pv 1) pa_nil)) (pa_cons (pe_callTy (T := "int") (r := rInt1) call_int1 (by rfl) T.z_int (by decide +kernel) (pa_cons (pe_cmpR op_lt (pv 1) pe_int (nomark _)) pa_nil)) (pa_cons (pe_callB call_abs (by rfl) T.z_abs (by decide +kernel) (pa_cons (pv 2) pa_nil)) (pa_cons (pe_callTy (T := "int") (r := rInt1) call_int1 (by rfl) T.z_int (by decide +kernel) (pa_cons (pe_cmpR op_lt (pv 2) pe_int (nomark _)) pa_nil)) pa_nil)))))))), ?_⟩
    refine qd_un3 (ed_var rfl h1) fun H1 e1 => ?_
    refine sd_ret (K := K) ?_ fun v H3 e3 hd => hQ v H3 (e1.trans e3) hd
    refine ed_tup (ds := (plI f).map PyData.int) (eda_cons (ed_abs (ed_var rfl (.int _))) (eda_cons (ed_intB (ed_lt (ed_var rfl (.int _)) ed_int)) (eda_cons (ed_abs (ed_var rfl (.int _))) (eda_cons (ed_intB (ed_lt (ed_var rfl (.int _)) ed_int)) eda_nil)))) (by show 4 ≤ 100000; decide)
/-! ### reduced_above -/
def p_reduced_above : List PyData → PyData → Prop := fun ds d => ∃ f : Fc.Form, ds = [dFm f] ∧ (SmF f ∧ Fc.disc f < 0 ∧ 0 < f.a) ∧ d = .tuple [dFm (Fc.down f).1, dCh (Fc.down f).2]
theorem len_reduced_above {ds : List PyData} {d : PyData} (h : p_reduced_above ds d) : ds.length = 1 := by
  obtain ⟨f, rfl, _⟩ := h
  rfl
theorem c_wide {g : Fc.Form} (hd : Fc.disc g < 0) (hl : -112500000000000000 ≤ Fc.disc g) (ha : 0 < g.a) (hb : Sm g.b) : 0 < g.c ∧ W64 g.c := by
  have hc := Fk.c_pos hd ha
  refine ⟨hc, ?_⟩
  have m1 := mul_le_abs hb hb
  have e : Fc.disc g = g.b * g.b - 4 * (g.a * g.c) := by
    unfold Fc.disc
    rw [Int.mul_assoc]
  have h1 := Int.mul_le_mul_of_nonneg_right (show 1 ≤ g.a by omega) (show 0 ≤ g.c by omega)
  unfold W64
  omega
theorem ok_reduced_above (T : Txt K mg) : FnOk P w K mg base CX0 3 T.f_reduced_above T.fd_reduced_above ["form"] (spD K p_reduced_above) := by
  have G_changed := ok_changed (P := P) (w := w) (base := base) T
  have G_then := ok_then (P := P) (w := w) (base := base) T
  refine T.F_reduced_above.ok sc_reduced_above (fun vs H Q E h => ?_) (fun cdv A outer s H vs Q E hr h => ?_)
  · obtain ⟨ds, _, hv, hp, _⟩ := h
    rw [da_len hv]
    exact len_reduced_above hp
  · obtain ⟨ds, d, hv, hp, hQ⟩ := h
    obtain ⟨f, rfl, ⟨hs, hdf, haf⟩, rfl⟩ := hp
    obtain ⟨v, _, rfl, h1, hv⟩ := da_cons hv
    cases da_nil hv
    have hdl := (disc_small hs).1
    have hfa := hs.1
    refine ⟨_, (pss_cons (ps_set (i := 1) sc_reduced_above.nd rfl (Or.inl rfl) (pe_glob (v := .ref T.a_SAME) rfl T.k_SAME rfl))
          (pss_one (ps_while PassesOwn.never (pt_val pe_bl)
          (pss_cons (ps_asg (pv 0) (pg_tup (by rfl) (pgs_cons (pg_name (i := 2) sc_reduced_above.nd rfl (Or.inl rfl)) (pgs_cons (pg_name (i := 3) sc_reduced_above.nd rfl (Or.inl rfl)) (pgs_cons (pg_name (i := 4) sc_reduced_above.nd rfl (Or.inl rfl)) pgs_nil)))))
          (pss_cons (ps_if (PW.pt (pw_or (pt_cmpR op_gt (pv 3) (pv 2) (nomark _)) (pw_or1 (pt_cmpR op_le (pv 3) (pe_op op_sub pe_int (pv 2)) (nomark _)))))
          (pss_one (ps_set (i := 5) sc_reduced_above.nd rfl (Or.inl rfl) (pe_tup (pa_cons pe_int (pa_cons (pe_op op_fdivN (pe_op op_sub (pv 2) (pv 3)) (pe_op op_mul pe_int (pv 2))) (pa_cons pe_int (pa_cons pe_int pa_nil)))))))
          (pss_one (ps_if (PW.pt (pw_or (pt_cmpR op_gt (pv 2) (pv 4) (nomark _)) (pw_or1 (PW.pt (pw_and (pt_cmpR op_eq (pv 2) (pv 4) (nomark _)) (pw_and1 (pt_cmpR op_lt (pv 3) pe_int (nomark _))))))))
          (pss_one (ps_set (i := 5) sc_reduced_above.nd rfl (Or.inl rfl) (pe_tup (pa_cons pe_int (pa_cons (pe_un un_neg pe_int) (pa_cons pe_int (pa_cons pe_int pa_nil)))))))
          (pss_one (ps_ret (pe_tup (pa_cons (pv 0) (pa_cons (pv 1) pa_nil))))))))
          (pss_cons (ps_set (i := 0) sc_reduced_above.nd rfl (Or.inl rfl) (pe_call G_changed (hr.mono (by decide)) rfl T.g_changed T.F_changed.kp T.b_changed .nil pass0 (pa_cons (pv 0) (pa_cons (pv 5) pa_nil))))
          (pss_one (ps_set (i := 1) sc_reduced_above.nd rfl (Or.inl rfl) (pe_call G_then (hr.mono (by decide)) rfl T.g_then T.F_then.kp T.b_then .nil pass0 (pa_cons (pv 1) (pa_cons (pv 5) pa_nil))))))))))), ?_⟩
    refine qd_asg (K := K) (d := dCh Fc.same) (ed_c (.tup (T.l_SAME _) (.cons (.int _) (.cons (.int _) (.cons (.int _) (.cons (.int _) .nil)))))) fun vt H1 e1 ht => ?_
    refine s_while (fun m σ' H' => ∃ (g : Fc.Form) (t : Fc.Change) (n : Nat) (vf vt : V) (x1 x2 x3 x4 : Option V), σ' = [some vf, some vt, x1, x2, x3, x4] ∧ Dp K H' vf (dFm g) ∧ Dp K H' vt (dCh t) ∧ Ex H H' ∧ Fc.downFrom n g t = Fc.down f ∧ Fc.disc g = Fc.disc f ∧ (0 < g.a ∧ g.a ≤ f.a ∧ Sm g.b) ∧ (g.a.toNat + 2 ≤ n ∨ (1 ≤ n ∧ Fk.Red g)) ∧ Fk.meas g = m) (Fk.meas f)
      ⟨f, Fc.same, f.a.natAbs + 2, v, vt, none, none, none, none, rfl, Dp_mono e1 h1, ht, e1, rfl, rfl, ⟨haf, Int.le_refl _, hs.2.1⟩, .inl (by omega), rfl⟩ ?_
    rintro m σ' H' ⟨g, t, n, vf, vt, x1, x2, x3, x4, rfl, hf, ht, e', hdn, hdg, ⟨ha, haf2, hb⟩, hfu, rfl⟩
    refine ⟨true, et_BD (K := K) ed_bl, fun _ H1 e1 => ⟨_, fun _ _ q => q, ?_⟩, fun hb => Bool.noConfusion hb⟩
    replace hf := Dp_mono e1 hf
    replace ht := Dp_mono e1 ht
    replace e' := e'.trans e1
    have hgd : Fc.disc g < 0 := by omega
    obtain ⟨hc, hcw⟩ := c_wide hgd (by omega) ha hb
    have haS : Sm g.a := by
      unfold Sm at hfa ⊢
      omega
    -- a step: the rest of the turn
    have go : ∀ (u : Fc.Change) (n' : Nat) (vs : V) (x1 x2 x3 : Option V) (H2 : Hp), Ex H1 H2 → Dp K H2 vs (dCh u) → (W64 u.p ∧ W64 u.q ∧ W64 u.r ∧ W64 u.s) → Fk.IsCh u → Fc.downFrom n' (Fc.changed g u) (t.then_ u) = Fc.down f →
        (0 < (Fc.changed g u).a ∧ (Fc.changed g u).a ≤ f.a ∧ Sm (Fc.changed g u).b) → ((Fc.changed g u).a.toNat + 2 ≤ n' ∨ (1 ≤ n' ∧ Fk.Red (Fc.changed g u))) → Fk.meas (Fc.changed g u) < Fk.meas g →
        tSeq (tAsg (tCall (spD K p_changed) [] E0 (tCons (tVar 0) (tCons (tVar 5) tNil))) (gName 0)) (tAsg (tCall (spD K p_then) [] E0 (tCons (tVar 1) (tCons (tVar 5) tNil))) (gName 1)) { nx := fun σ2 H2 => ∃ m', m' < Fk.meas g ∧ (∃ (g : Fc.Form) (t : Fc.Change) (n : Nat) (vf vt : V) (x1 x2 x3 x4 : Option V), σ2 = [some vf, some vt, x1, x2, x3, x4] ∧ Dp K H2 vf (dFm g) ∧ Dp K H2 vt (dCh t) ∧ Ex H H2 ∧ Fc.downFrom n g t = Fc.down f ∧ Fc.disc g = Fc.disc f ∧ (0 < g.a ∧ g.a ≤ f.a ∧ Sm g.b) ∧ (g.a.toNat + 2 ≤ n ∨ (1 ≤ n ∧ Fk.Red g)) ∧ Fk.meas g = m'), rt := Q, ct := fun σ2 H2 => ∃ m', m' < Fk.meas g ∧ (∃ (g : Fc.Form) (t : Fc.Change) (n : Nat) (vf vt : V) (x1 x2 x3 x4 : Option V), σ2 = [some vf, some vt, x1, x2, x3, x4] ∧ Dp K H2 vf (dFm g) ∧ Dp K H2 vt (dCh t) ∧ Ex H H2 ∧ Fc.downFrom n g t = Fc.down f ∧ Fc.disc g = Fc.disc f ∧ (0 < g.a ∧ g.a ≤ f.a ∧ Sm g.b) ∧ (g.a.toNat + 2 ≤ n ∨ (1 ≤ n ∧ Fk.Red g)) ∧ Fk.meas g = m'), bk := fun x H' => Q V.non H' } [some vf, some vt, x1, x2, x3, some vs] H2 := fun u n' vs x1 x2 x3 H2 e2 hvs hw hu hrun hb2 hfu2 hm => by
      refine qd_asg (K := K) (ed_call (eda_cons (ed_var rfl (Dp_mono e2 hf)) (eda_cons (ed_var rfl hvs) eda_nil)) ⟨g, u, rfl, ⟨hb.wide, hw⟩, rfl⟩) fun v3 H3 e3 h3 => ?_
      refine sd_asg (K := K) (ed_call (eda_cons (ed_var rfl (Dp_mono (e2.trans e3) ht)) (eda_cons (ed_var rfl (Dp_mono e3 hvs)) eda_nil)) ⟨t, u, rfl, hw, rfl⟩) fun v4 H4 e4 h4 => ?_
      exact ⟨_, hm, Fc.changed g u, t.then_ u, n', v3, v4, _, _, _, _, rfl, Dp_mono e4 h3, h4, ((e'.trans e2).trans e3).trans e4, hrun, by rw [Fk.disc_changed hu, hdg], hb2, hfu2, rfl⟩
    refine qd_un3 (ed_var rfl hf) fun H2 e2 => ?_
    obtain ⟨n, rfl⟩ : ∃ k, n = k + 1 := ⟨n - 1, by omega⟩
    refine q_if (et_or (et_testD (K := K) (ed_gt (ed_var rfl (.int _)) (ed_var rfl (.int _)))) fun _ => et_testD (K := K) (ed_le (ed_var rfl (.int _)) (ed_sub ed_int (ed_var rfl (.int _))))) (fun hb1 H3 e3 => ?_) (fun hb1 H3 e3 => ?_)
    · have hnl : g.b > g.a ∨ g.b ≤ 0 - g.a := by
        rw [Bool.or_eq_true, decide_eq_true_iff, decide_eq_true_iff] at hb1
        exact hb1
      have hq : ((g.a - g.b).fdiv (2 * g.a)) = (g.a - g.b) / (2 * g.a) := Int.fdiv_eq_ediv_of_nonneg _ (by omega)
      have hqW : W64 ((g.a - g.b) / (2 * g.a)) := by
        have h1 := Int.emod_add_mul_ediv (g.a - g.b) (2 * g.a)
        have h2 := Int.emod_nonneg (g.a - g.b) (show 2 * g.a ≠ 0 by omega)
        have h3 := Int.emod_lt_of_pos (g.a - g.b) (show 0 < 2 * g.a by omega)
        generalize (g.a - g.b) / (2 * g.a) = q at *
        have : (q * (2 * g.a)).natAbs ≤ (1000000000 : Int) := by
          rw [Int.mul_comm]
          unfold Sm at haS hb
          omega
        have h4 := Int.natAbs_mul q (2 * g.a)
        have h5 : q.natAbs * 1 ≤ q.natAbs * (2 * g.a).natAbs := Nat.mul_le_mul_left _ (by omega)
        unfold W64
        omega
      refine sd_asg (K := K) (d := dCh (Fc.level g)) (ed_tup (eda_cons ed_int (eda_cons (EvD.to (ed_fdiv (ed_sub (ed_var rfl (.int _)) (ed_var rfl (.int _))) (ed_mul ed_int (ed_var rfl (.int _)) (.inl ⟨by decide, by decide⟩)) ⟨by omega, by unfold Sm at haS; omega⟩) hq) (eda_cons ed_int (eda_cons ed_int eda_nil))))) fun vs H4 e4 hvs => ?_
      refine go (Fc.level g) (n + 1) vs _ _ _ H4 ((e2.trans e3).trans e4) hvs ⟨w64_1, hqW, w64_0, w64_1⟩ (Fk.isCh_shift _) (by rw [Fk.downFrom_level ha]; exact hdn) ?_ ?_ (Fk.meas_level ha hnl)
      · have hl := Fk.level_lev ha
        have ea : (Fc.changed g (Fc.level g)).a = g.a := by
          unfold Fc.level
          rw [Fk.changed_shift]
        unfold Fk.Lev at hl
        unfold Sm at haS ⊢
        omega
      · have ea : (Fc.changed g (Fc.level g)).a = g.a := by
          unfold Fc.level
          rw [Fk.changed_shift]
        rw [ea]
        rcases hfu with h | ⟨_, h⟩
        · exact .inl h
        · exact absurd h.1 (Fk.lev_iff.mp hnl)
    · have hl : Fk.Lev g := by
        rw [Bool.or_eq_false_iff, decide_eq_false_iff_not, decide_eq_false_iff_not] at hb1
        exact Classical.byContradiction fun z => by
          rcases Fk.lev_iff.mpr z with z | z
          · exact hb1.1 z
          · exact hb1.2 z
      refine s_if (et_or (et_testD (K := K) (ed_gt (ed_var rfl (.int _)) (ed_var rfl (.int _)))) fun _ => et_and (et_testD (K := K) (ed_eqI (ed_var rfl (.int _)) (ed_var rfl (.int _)))) fun _ => et_testD (K := K) (ed_lt (ed_var rfl (.int _)) ed_int)) (fun hb2 H4 e4 => ?_) (fun hb2 H4 e4 => ?_)
      · have hsw : g.c < g.a ∨ (g.c = g.a ∧ g.b < 0) := by
          rw [Bool.or_eq_true, Bool.and_eq_true, decide_eq_true_iff, decide_eq_true_iff, decide_eq_true_iff] at hb2
          omega
        have hcs := Fk.changed_swap g
        refine sd_asg (K := K) (d := dCh Fc.swap) (ed_tup (eda_cons ed_int (eda_cons (ed_neg ed_int) (eda_cons ed_int (eda_cons ed_int eda_nil))))) fun vs H5 e5 hvs => ?_
        have hl2 := hl
        obtain ⟨l1, l2⟩ := hl2
        refine go Fc.swap n vs _ _ _ H5 (((e2.trans e3).trans e4).trans e5) hvs ⟨w64_0, w64_m1, w64_1, w64_0⟩ Fk.isCh_swap (by rw [← Fk.downFrom_swap hl hsw]; exact hdn) ?_ ?_ (Fk.meas_swap hc hl hsw)
        · rw [hcs]
          unfold Sm at haS ⊢
          dsimp only
          omega
        · rw [hcs]
          dsimp only
          rcases hfu with h | ⟨_, h⟩
          · rcases hsw with z | z
            · left
              omega
            · right
              refine ⟨by omega, ?_⟩
              unfold Fk.Red Fk.Lev
              dsimp only
              omega
          · exact absurd hsw ((Fk.red_iff hl).mpr h)
      · have hsw : ¬ (g.c < g.a ∨ (g.c = g.a ∧ g.b < 0)) := by
          rw [Bool.or_eq_false_iff, decide_eq_false_iff_not, Bool.and_eq_false_iff, decide_eq_false_iff_not, decide_eq_false_iff_not] at hb2
          omega
        have hend := Fk.downFrom_end (t := t) (n := n) hl hsw
        rw [hdn] at hend
        refine sd_ret (K := K) (ed_tup (eda_cons (ed_var rfl (Dp_mono ((e2.trans e3).trans e4) hf)) (eda_cons (ed_var rfl (Dp_mono ((e2.trans e3).trans e4) ht)) eda_nil))) fun v5 H5 e5 hd => hQ v5 H5 ((((e'.trans e2).trans e3).trans e4).trans e5) ?_
        rw [hend]
        exact hd
/-! ### is_reduced -/
def p_is_reduced : List PyData → PyData → Prop := fun ds d => ∃ (f : Fc.Form) (w : Int), ds = [dFm f, .int w] ∧ d = .bool (Fc.reduced w f)
theorem len_is_reduced {ds : List PyData} {d : PyData} (h : p_is_reduced ds d) : ds.length = 2 := by
  obtain ⟨f, w, rfl, _⟩ := h
  rfl
theorem reduced_prog (f : Fc.Form) (w : Int) : (decide (0 < f.b) && (decide (f.b ≤ w) && (decide (w < f.b + 2 * (f.a.natAbs : Int)) && decide (2 * (f.a.natAbs : Int) - f.b ≤ w)))) = Fc.reduced w f := by
  unfold Fc.reduced
  dsimp only
  have : decide (2 * (f.a.natAbs : Int) - f.b ≤ w) = decide (2 * (f.a.natAbs : Int) ≤ w + f.b) := decide_eq_decide.mpr (by omega)
  rw [this]
theorem ok_is_reduced (T : Txt K mg) : FnOk P w K mg base CX0 1 T.f_is_reduced T.fd_is_reduced ["form", "root"] (spD K p_is_reduced) := by
  refine T.F_is_reduced.ok sc_is_reduced (fun vs H Q E h => ?_) (fun cdv A outer s H vs Q E hr h => ?_)
  · obtain ⟨ds, _, hv, hp, _⟩ := h
    rw [da_len hv]
    exact len_is_reduced hp
  · obtain ⟨ds, d, hv, hp, hQ⟩ := h
    obtain ⟨f, w', rfl, rfl⟩ := hp
    obtain ⟨v, _, rfl, h1, hv⟩ := da_cons hv
    obtain ⟨vw, _, rfl, h2, hv⟩ := da_cons hv
    cases da_nil hv
    cases dp_int h2
    rw [← reduced_prog] at hQ
    have two : ∀ x : Int, CMul 2 x := fun x => .inl ⟨by decide, by decide⟩
    refine ⟨_, (pss_cons (ps_asg (pv 0) (pg_tup (by rfl) (pgs_cons (pg_name (i := 2) sc_is_reduced.nd rfl (Or.inl rfl)) (pgs_cons (pg_name (i := 3) sc_is_reduced.nd rfl (Or.inl rfl)) (pgs_cons (pg_name (i := 4) sc_is_reduced.nd rfl (Or.inl rfl)) pgs_nil)))))
          (pss_one (ps_ret (pe_and (pe_cmpR op_lt pe_int (pv 3) (nomark _)) (pe_and (pe_cmpR op_le (pv 3) (pv 1) (nomark _)) (pe_and (pe_cmpR op_gt (pe_op op_add (pv 3) (pe_op op_mul pe_int (pe_callB call_abs (by rfl) T.z_abs (by decide +kernel) (pa_cons (pv 2) pa_nil)))) (pv 1) (nomark _)) (pe_one (pe_cmpR op_le (pe_op op_sub (pe_op op_mul pe_int (pe_callB call_abs (by rfl) T.z_abs (by decide +kernel) (pa_cons (pv 2) pa_nil))) (pv 3)) (pv 1) (nomark _))))))))), ?_⟩
    refine qd_un3 (ed_var rfl h1) fun H1 e1 => ?_
    exact sd_ret (K := K) (ed_and (ed_lt ed_int (ed_var rfl (.int _))) fun _ => ed_and (ed_le (ed_var rfl (.int _)) (ed_var rfl (.int _))) fun _ => ed_and (ed_gt (ed_add (ed_var rfl (.int _)) (ed_mul ed_int (ed_abs (ed_var rfl (.int _))) (two _))) (ed_var rfl (.int _))) fun _ => ed_le (ed_sub (ed_mul ed_int (ed_abs (ed_var rfl (.int _))) (two _)) (ed_var rfl (.int _))) (ed_var rfl (.int _))) fun v H3 e3 hd => hQ v H3 (e1.trans e3) hd
/-! ### next_form -/
def p_next_form : List PyData → PyData → Prop := fun ds d => ∃ (f : Fc.Form) (w : Int), ds = [dFm f, .int w] ∧ (SmF f ∧ (0 ≤ w ∧ Sm w) ∧ f.c ≠ 0) ∧ d = dFm (Fc.next w (Fc.disc f) f)
theorem len_next_form {ds : List PyData} {d : PyData} (h : p_next_form ds d) : ds.length = 2 := by
  obtain ⟨f, w, rfl, _⟩ := h
  rfl
theorem nb_sm {f : Fc.Form} {w : Int} (hs : Sm f.c) (hw : 0 ≤ w ∧ Sm w) (hc : f.c ≠ 0) : W64 (Fk.nb w f) := by
  unfold Sm at hs hw
  unfold W64
  by_cases h : w < (f.c.natAbs : Int)
  · have := Fk.nb_big hc h
    omega
  · have := Fk.nb_small hc h
    omega
theorem ok_next_form (T : Txt K mg) : FnOk P w K mg base CX0 2 T.f_next_form T.fd_next_form ["form", "root"] (spD K p_next_form) := by
  have G_discriminant := ok_discriminant (P := P) (w := w) (base := base) T
  refine T.F_next_form.ok sc_next_form (fun vs H Q E h => ?_) (fun cdv A outer s H vs Q E hr h => ?_)
  · obtain ⟨ds, _, hv, hp, _⟩ := h
    rw [da_len hv]
    exact len_next_form hp
  · obtain ⟨ds, d, hv, hp, hQ⟩ := h
    obtain ⟨f, w', rfl, ⟨hs, hw, hc⟩, rfl⟩ := hp
    obtain ⟨v, _, rfl, h1, hv⟩ := da_cons hv
    obtain ⟨vw, _, rfl, h2, hv⟩ := da_cons hv
    cases da_nil hv
    cases dp_int h2
    have two : ∀ x : Int, CMul 2 x := fun x => .inl ⟨by decide, by decide⟩
    have hnb := Fk.nb_prog (w := w') hc
    have hnw := nb_sm hs.2.2 hw hc
    have hfd : (Fk.nb w' f * Fk.nb w' f - Fc.disc f).fdiv (4 * f.c) = (Fc.next w' (Fc.disc f) f).c := Fk.fdiv_exact hc (Fk.next_div hc)
    have hcs := hs.2.2
    refine ⟨_, (pss_cons (ps_asg (pv 0) (pg_tup (by rfl) (pgs_cons (pg_name (i := 2) sc_next_form.nd rfl (Or.inl rfl)) (pgs_cons (pg_name (i := 3) sc_next_form.nd rfl (Or.inl rfl)) (pgs_cons (pg_name (i := 4) sc_next_form.nd rfl (Or.inl rfl)) pgs_nil)))))
          (pss_cons (ps_set (i := 5) sc_next_form.nd rfl (Or.inl rfl) (pe_op op_mul pe_int (pe_callB call_abs (by rfl) T.z_abs (by decide +kernel) (pa_cons (pv 4) pa_nil))))
          (pss_cons (ps_set (i := 6) sc_next_form.nd rfl (Or.inl rfl) (pv 1))
          (pss_cons (ps_if (pt_cmpR op_gt (pe_callB call_abs (by rfl) T.z_abs (by decide +kernel) (pa_cons (pv 4) pa_nil)) (pv 1) (nomark _))
          (pss_one (ps_set (i := 6) sc_next_form.nd rfl (Or.inl rfl) (pe_callB call_abs (by rfl) T.z_abs (by decide +kernel) (pa_cons (pv 4) pa_nil))))
          pss_nil)
          (pss_cons (ps_set (i := 7) sc_next_form.nd rfl (Or.inl rfl) (pe_op op_sub (pv 6) (pe_op op_modN (pe_op op_add (pv 6) (pv 3)) (pv 5))))
          (pss_one (ps_ret (pe_tup (pa_cons (pv 4) (pa_cons (pv 7) (pa_cons (pe_op op_fdivN (pe_op op_sub (pe_op op_mul (pv 7) (pv 7)) (pe_call G_discriminant (hr.mono (by decide)) rfl T.g_discriminant T.F_discriminant.kp T.b_discriminant .nil pass0 (pa_cons (pv 0) pa_nil))) (pe_op op_mul pe_int (pv 4))) pa_nil))))))))))), ?_⟩
    refine qd_un3 (ed_var rfl h1) fun H1 e1 => ?_
    refine qd_asgI (K := K) (ed_mul ed_int (ed_abs (ed_var rfl (.int _))) (two _)) fun H2 e2 => ?_
    refine qd_asgI (K := K) (ed_var rfl (.int _)) fun H3 e3 => ?_
    have h1' := Dp_mono ((e1.trans e2).trans e3) h1
    have hm : ∀ M : Int, (M + f.b).fmod (2 * (f.c.natAbs : Int)) = (M + f.b) % (2 * (f.c.natAbs : Int)) := fun M => Int.fmod_eq_emod_of_nonneg _ (by omega)
    refine q_ifAsg (v := .int (if (f.c.natAbs : Int) > w' then (f.c.natAbs : Int) else w')) (et_testD (K := K) (ed_gt (ed_abs (ed_var rfl (.int _))) (ed_var rfl (.int _)))) (fun hb => ?_) (fun hb => ?_) fun H4 e4 => ?_
    · rw [if_pos (of_decide_eq_true hb)]
      exact (ed_abs (K := K) (ed_var rfl (.int _))).ev
    · rw [if_neg (of_decide_eq_false hb)]
      rfl
    refine qd_asgI (K := K) (n := Fk.nb w' f) ?_ fun H5 e5 => ?_
    · rw [hnb, ← hm]
      exact ed_sub (ed_var rfl (.int _)) (ed_mod (ed_add (ed_var rfl (.int _)) (ed_var rfl (.int _))) (ed_var rfl (.int _)) (by omega))
    have e6 := ((((e1.trans e2).trans e3).trans e4).trans e5)
    refine sd_ret (K := K) (ed_tup (eda_cons (ed_var rfl (.int _)) (eda_cons (ed_var rfl (.int _)) (eda_cons (EvD.to (ed_fdiv (ed_sub (ed_mul (ed_var rfl (.int _)) (ed_var rfl (.int _)) (.inl hnw)) (ed_call (eda_cons (ed_var rfl (Dp_mono (e4.trans e5) h1')) eda_nil) ⟨f, rfl, ⟨hs.2.1.wide, hs.2.2.wide⟩, rfl⟩)) (ed_mul ed_int (ed_var rfl (.int _)) (.inl ⟨by decide, by decide⟩)) ⟨by omega, by unfold Sm at hcs; omega⟩) hfd) eda_nil)))) fun v H6 e7 hd => hQ v H6 (e6.trans e7) hd
/-! ### cycle_of -/
def p_cycle_of : List PyData → List PyData → Prop := fun ds es => ∃ f : Fc.Form, ds = [dFm f] ∧ CycOk f ∧ es = (circ f).map dFm
theorem len_cycle_of {ds : List PyData} {es : List PyData} (h : p_cycle_of ds es) : ds.length = 1 := by
  obtain ⟨f, rfl, _⟩ := h
  rfl
theorem ok_cycle_of (T : Txt K mg) : FnOk P w K mg base CX0 3 T.f_cycle_of T.fd_cycle_of ["form"] (spN K p_cycle_of) := by
  have G_root_of := ok_root_of (P := P) (w := w) (base := base) T
  have G_discriminant := ok_discriminant (P := P) (w := w) (base := base) T
  have G_is_reduced := ok_is_reduced (P := P) (w := w) (base := base) T
  have G_next_form := ok_next_form (P := P) (w := w) (base := base) T
  refine T.F_cycle_of.ok sc_cycle_of (fun vs H Q E h => ?_) (fun cdv A outer s H vs Q E hr h => ?_)
  · obtain ⟨ds, _, hv, hp, _⟩ := h
    rw [da_len hv]
    exact len_cycle_of hp
  · obtain ⟨ds, d, hv, hp, hQ⟩ := h
    obtain ⟨f, rfl, ⟨hs, h0, h20, hn⟩, rfl⟩ := hp
    obtain ⟨v, _, rfl, h1, hv⟩ := da_cons hv
    cases da_nil hv
    have R := Fk.rt_of h0 (by omega) hn
    have hw := Fk.w_le R h20
    have hw0 := R.w0
    have hroot : Fk.rootI (Fc.disc f) = (Fc.rootOf (Fc.disc f).toNat : Int) := Fk.rootI_nn (by omega)
    unfold circ at hQ
    generalize hwg : (Fc.rootOf (Fc.disc f).toNat : Int) = w' at *
    generalize hdg : Fc.disc f = D at *
    have hred : Fk.RedI w' (Fc.into w' D Fc.FUEL f) := Fk.into_red R hn 28 f hdg (by
      have := (smF_iff.mp hs).2.2
      have e : 2 ^ 28 = 268435456 := by decide
      omega) Fc.FUEL (by decide)
    have hwS : 0 ≤ w' ∧ Sm w' := ⟨hw0, by unfold Sm; omega⟩
    refine ⟨_, (pss_cons (ps_set (i := 1) sc_cycle_of.nd rfl (Or.inl rfl) (pe_call G_root_of (hr.mono (by decide)) rfl T.g_root_of T.F_root_of.kp T.b_root_of .nil pass0 (pa_cons (pe_call G_discriminant (hr.mono (by decide)) rfl T.g_discriminant T.F_discriminant.kp T.b_discriminant .nil pass0 (pa_cons (pv 0) pa_nil)) pa_nil)))
          (pss_cons (ps_while PassesOwn.never (pt_not (pt_val (pe_call G_is_reduced (hr.mono (by decide)) rfl T.g_is_reduced T.F_is_reduced.kp T.b_is_reduced .nil pass0 (pa_cons (pv 0) (pa_cons (pv 1) pa_nil)))))
          (pss_one (ps_set (i := 0) sc_cycle_of.nd rfl (Or.inl rfl) (pe_call G_next_form (hr.mono (by decide)) rfl T.g_next_form T.F_next_form.kp T.b_next_form .nil pass0 (pa_cons (pv 0) (pa_cons (pv 1) pa_nil))))))
          (pss_cons (ps_set (i := 2) sc_cycle_of.nd rfl (Or.inl rfl) (pe_lst (pa_cons (pv 0) pa_nil)))
          (pss_cons (ps_set (i := 3) sc_cycle_of.nd rfl (Or.inl rfl) (pe_call G_next_form (hr.mono (by decide)) rfl T.g_next_form T.F_next_form.kp T.b_next_form .nil pass0 (pa_cons (pv 0) (pa_cons (pv 1) pa_nil))))
          (pss_cons (ps_while PassesOwn.never (pt_cmpR (op_neD hr.units) (pv 3) (pv 0) (nomark _))
          (pss_cons (ps_expr (pe_bm PySem.F.plainAttrs_list PySem.F.slot_list_append PySem.F.type_list_append mt_append (pv 2) (pa_cons (pv 3) pa_nil)))
          (pss_one (ps_set (i := 3) sc_cycle_of.nd rfl (Or.inl rfl) (pe_call G_next_form (hr.mono (by decide)) rfl T.g_next_form T.F_next_form.kp T.b_next_form .nil pass0 (pa_cons (pv 3) (pa_cons (pv 1) pa_nil)))))))
          (pss_one (ps_ret (pv 2)))))))), ?_⟩
    refine qd_asgI (K := K) (n := w') (ed_is (ed_call (eda_cons (ed_call (eda_cons (ed_var rfl h1) eda_nil) ⟨f, rfl, ⟨hs.2.1.wide, hs.2.2.wide⟩, rfl⟩) eda_nil) ⟨Fc.disc f, rfl, by omega, rfl⟩) (by rw [hdg, hroot])) fun H1 e1 => ?_
    refine q_while (fun m σ' H' => ∃ (g : Fc.Form) (vf : V), σ' = [some vf, some (.int w'), none, none] ∧ Dp K H' vf (dFm g) ∧ Ex H H' ∧ Fc.disc g = D ∧ SmF g ∧ Fc.into w' D m g = Fc.into w' D Fc.FUEL f) Fc.FUEL ⟨f, v, rfl, Dp_mono e1 h1, e1, hdg, hs, rfl⟩ ?_
    rintro m σ' H' ⟨g, vf, rfl, hf, e', hgd, hgs, hin⟩
    refine ⟨_, et_not (et_BD (K := K) (ed_call (eda_cons (ed_var rfl hf) (eda_cons (ed_var rfl (.int _)) eda_nil)) ⟨g, w', rfl, rfl⟩)), fun hb H1 e1 => ⟨_, fun _ _ q => q, ?_⟩, fun hb H1 e1 => ?_⟩
    · have hnr : ¬ Fk.RedI w' g := fun z => by
        rw [Fk.reduced_iff.mpr z] at hb
        cases hb
      have hm : m ≠ 0 := fun z => by
        rw [z] at hin
        have : g = Fc.into w' D Fc.FUEL f := hin
        rw [← this] at hred
        exact hnr hred
      obtain ⟨m, rfl⟩ : ∃ k, m = k + 1 := ⟨m - 1, by omega⟩
      rw [Fk.into_go hnr] at hin
      have hc : g.c ≠ 0 := Fk.c_ne (by rw [hgd]; exact hn)
      refine sd_asg (K := K) (ed_call (eda_cons (ed_var rfl (Dp_mono e1 hf)) (eda_cons (ed_var rfl (.int _)) eda_nil)) ⟨g, w', rfl, ⟨hgs, hwS, hc⟩, rfl⟩) fun v2 H2 e2 h2 => ?_
      rw [hgd] at h2
      exact ⟨m, by omega, Fc.next w' D g, v2, rfl, h2, (e'.trans e1).trans e2, Fk.disc_next' hn hgd, smF_iff.mpr (Fk.next_small R hn hgd h20 (smF_iff.mp hgs).2.2), hin⟩
    have hgr : Fk.RedI w' g := Fk.reduced_iff.mp (by simpa using hb)
    have hg0 : g = Fc.into w' D Fc.FUEL f := by
      rw [← hin]
      exact (Fk.into_stop hgr m).symm
    rw [← hg0] at hQ
    clear hin hg0 hred hb
    replace hf := Dp_mono e1 hf
    replace e' := e'.trans e1
    obtain ⟨p, p1, p2, p3, p4⟩ := Fk.closes R hn hgd h20 hgr
    have hall := Fk.circle_all p1 (by show p ≤ 10000; omega) p3 p4
    rw [hall] at hQ
    have hit : ∀ j, Fc.disc (Fk.itn w' D j g) = D ∧ SmF (Fk.itn w' D j g) := fun j => by
      refine ⟨(Fk.itn_red R hn hgd hgr j).1, ?_⟩
      induction j with
      | zero => exact hgs
      | succ j ih => exact smF_iff.mpr (Fk.next_small R hn (Fk.itn_red R hn hgd hgr j).1 h20 (smF_iff.mp ih).2.2)
    refine qd_asgN (K := K) (en_lst (eda_cons (ed_var rfl hf) eda_nil)) fun l xs H2 hl e2 h2 hxs => ?_
    have hlst : Lst K H1 l ((List.range 1).map fun i => dFm (Fk.itn w' D i g)) H2 := Lst.start hl e2 h2 hxs rfl
    have hc : g.c ≠ 0 := Fk.c_ne (by rw [hgd]; exact hn)
    refine qd_asg (K := K) (ed_call (eda_cons (ed_var rfl (Dp_mono e2 hf)) (eda_cons (ed_var rfl (.int _)) eda_nil)) ⟨g, w', rfl, ⟨hgs, hwS, hc⟩, rfl⟩) fun v3 H3 e3 h3 => ?_
    rw [hgd] at h3
    refine q_while (fun m σ' H' => ∃ (j : Nat) (vh : V), σ' = [some vf, some (.int w'), some (.ref l), some vh] ∧ Dp K H' vh (dFm (Fk.itn w' D j g)) ∧ Lst K H1 l ((List.range j).map fun i => dFm (Fk.itn w' D i g)) H' ∧ 1 ≤ j ∧ j ≤ p ∧ p - j = m) (p - 1) ⟨1, v3, rfl, h3, hlst.mono e3, Nat.le_refl _, p1, rfl⟩ ?_
    rintro m σ' H' ⟨j, vh, rfl, hh, L, j1, j2, rfl⟩
    have hf' := Dp_mono L.ex hf
    refine ⟨_, et_testD (K := K) (ed_neD (ed_var rfl hh) (ed_var rfl hf') (shaped_form _) (shaped_form _)), fun hb H4 e4 => ⟨_, fun _ _ q => q, ?_⟩, fun hb H4 e4 => ?_⟩
    · rw [eqv_form] at hb
      have hne : Fk.itn w' D j g ≠ g := fun z => by
        rw [z, Fk.alike_iff.mpr rfl] at hb
        cases hb
      have hjp : j ≠ p := fun z => hne (by rw [z, p3])
      refine qd_app (K := K) (L.mono e4) (ev_var rfl) (ed_var rfl (Dp_mono e4 hh)) rfl (by rw [List.length_map, List.length_range]; omega) fun H5 e5 L5 => ?_
      have hcj : (Fk.itn w' D j g).c ≠ 0 := Fk.c_ne (by rw [(hit j).1]; exact hn)
      have hhp : Dp K H5 vh (dFm (Fk.itn w' D j g)) := e5 _ _ rfl (Dp_mono e4 hh)
      refine sd_asg (K := K) (ed_call (eda_cons (ed_var rfl hhp) (eda_cons (ed_var rfl (.int _)) eda_nil)) ⟨_, w', rfl, ⟨(hit j).2, hwS, hcj⟩, rfl⟩) fun v6 H6 e6 h6 => ?_
      rw [(hit j).1] at h6
      refine ⟨p - (j + 1), by omega, j + 1, v6, rfl, h6, ?_, by omega, by omega, rfl⟩
      have : (List.range (j + 1)).map (fun i => dFm (Fk.itn w' D i g)) = ((List.range j).map fun i => dFm (Fk.itn w' D i g)) ++ [dFm (Fk.itn w' D j g)] := by
        rw [List.range_succ, List.map_append]
        rfl
      rw [this]
      exact L5.mono e6
    · rw [eqv_form] at hb
      have heq : Fk.itn w' D j g = g := Fk.alike_iff.mp (by simpa using hb)
      have hjp : j = p := by
        by_cases c : j = p
        · exact c
        · exact absurd heq (p4 j j1 (by omega))
      subst hjp
      obtain ⟨l0, l1, l2, ys, l3, l4⟩ := L.mono e4
      refine s_ret (ev_var rfl) fun H5 e5 => ?_
      refine hQ l ys H5 (fresh_back e' l0) ((e'.trans l1).trans e5) (e5 _ _ l3) ?_
      rw [List.map_map]
      exact DpAll_mono e5 l4
/-! ### least_middle -/
def p_least_middle : List PyData → PyData → Prop := fun ds d => ∃ f : Fc.Form, ds = [dFm f] ∧ (SmF f ∧ f.a ≠ 0) ∧ d = dFm (Fc.centred (Fc.disc f) f)
theorem len_least_middle {ds : List PyData} {d : PyData} (h : p_least_middle ds d) : ds.length = 1 := by
  obtain ⟨f, rfl, _⟩ := h
  rfl
theorem ok_least_middle (T : Txt K mg) : FnOk P w K mg base CX0 2 T.f_least_middle T.fd_least_middle ["form"] (spD K p_least_middle) := by
  have G_discriminant := ok_discriminant (P := P) (w := w) (base := base) T
  refine T.F_least_middle.ok sc_least_middle (fun vs H Q E h => ?_) (fun cdv A outer s H vs Q E hr h => ?_)
  · obtain ⟨ds, _, hv, hp, _⟩ := h
    rw [da_len hv]
    exact len_least_middle hp
  · obtain ⟨ds, d, hv, hp, hQ⟩ := h
    obtain ⟨f, rfl, ⟨hs, ha⟩, rfl⟩ := hp
    obtain ⟨v, _, rfl, h1, hv⟩ := da_cons hv
    cases da_nil hv
    have two : ∀ x : Int, CMul 2 x := fun x => .inl ⟨by decide, by decide⟩
    have hfd : (Fk.cb f * Fk.cb f - Fc.disc f).fdiv (4 * f.a) = (Fc.centred (Fc.disc f) f).c := Fk.fdiv_exact ha (Fk.centred_div ha)
    have hcb := Fk.cb_bound ha
    have has := hs.1
    have hcw : W64 (Fk.cb f) := by
      unfold Sm at has
      unfold W64
      omega
    have hm : f.b.fmod (2 * (f.a.natAbs : Int)) = f.b % (2 * (f.a.natAbs : Int)) := Int.fmod_eq_emod_of_nonneg _ (by omega)
    refine ⟨_, (pss_cons (ps_asg (pv 0) (pg_tup (by rfl) (pgs_cons (pg_name (i := 1) sc_least_middle.nd rfl (Or.inl rfl)) (pgs_cons (pg_name (i := 2) sc_least_middle.nd rfl (Or.inl rfl)) (pgs_cons (pg_name (i := 3) sc_least_middle.nd rfl (Or.inl rfl)) pgs_nil)))))
          (pss_cons (ps_set (i := 4) sc_least_middle.nd rfl (Or.inl rfl) (pe_op op_mul pe_int (pe_callB call_abs (by rfl) T.z_abs (by decide +kernel) (pa_cons (pv 1) pa_nil))))
          (pss_cons (ps_set (i := 5) sc_least_middle.nd rfl (Or.inl rfl) (pe_op op_modN (pv 2) (pv 4)))
          (pss_cons (ps_if (pt_cmpR op_gt (pv 5) (pe_callB call_abs (by rfl) T.z_abs (by decide +kernel) (pa_cons (pv 1) pa_nil)) (nomark _))
          (pss_one (ps_aug (i := 5) sc_least_middle.nd rfl (Or.inl rfl) (pv 4) ip_sub))
          pss_nil)
          (pss_one (ps_ret (pe_tup (pa_cons (pv 1) (pa_cons (pv 5) (pa_cons (pe_op op_fdivN (pe_op op_sub (pe_op op_mul (pv 5) (pv 5)) (pe_call G_discriminant (hr.mono (by decide)) rfl T.g_discriminant T.F_discriminant.kp T.b_discriminant .nil pass0 (pa_cons (pv 0) pa_nil))) (pe_op op_mul pe_int (pv 1))) pa_nil)))))))))), ?_⟩
    refine qd_un3 (ed_var rfl h1) fun H1 e1 => ?_
    refine qd_asgI (K := K) (ed_mul ed_int (ed_abs (ed_var rfl (.int _))) (two _)) fun H2 e2 => ?_
    refine qd_asgI (K := K) (n := f.b % (2 * (f.a.natAbs : Int))) ?_ fun H3 e3 => ?_
    · rw [← hm]
      exact ed_mod (ed_var rfl (.int _)) (ed_var rfl (.int _)) (by omega)
    have h1' := Dp_mono ((e1.trans e2).trans e3) h1
    refine q_when (et_testD (K := K) (ed_gt (ed_var rfl (.int _)) (ed_abs (ed_var rfl (.int _))))) (fun hb H4 e4 => ?_) (fun hb H4 e4 => ?_)
    · have ec : f.b % (2 * (f.a.natAbs : Int)) - 2 * (f.a.natAbs : Int) = Fk.cb f := (if_pos (of_decide_eq_true hb)).symm
      refine s_aug (a := f.b % (2 * (f.a.natAbs : Int))) (b := 2 * (f.a.natAbs : Int)) rfl (EvD.ev (K := K) (ed_var rfl (.int _))) fun H5 e5 => ?_
      rw [ec]
      refine sd_ret (K := K) (ed_tup (eda_cons (ed_var rfl (.int _)) (eda_cons (ed_var rfl (.int _)) (eda_cons (EvD.to (ed_fdiv (ed_sub (ed_mul (ed_var rfl (.int _)) (ed_var rfl (.int _)) (.inl hcw)) (ed_call (eda_cons (ed_var rfl (Dp_mono (e4.trans e5) h1')) eda_nil) ⟨f, rfl, ⟨hs.2.1.wide, hs.2.2.wide⟩, rfl⟩)) (ed_mul ed_int (ed_var rfl (.int _)) (.inl ⟨by decide, by decide⟩)) ⟨by omega, by unfold Sm at has; omega⟩) hfd) eda_nil)))) fun v H6 e7 hd => hQ v H6 (((((e1.trans e2).trans e3).trans e4).trans e5).trans e7) hd
    · have ec : f.b % (2 * (f.a.natAbs : Int)) = Fk.cb f := (if_neg (of_decide_eq_false hb)).symm
      rw [ec]
      refine sd_ret (K := K) (ed_tup (eda_cons (ed_var rfl (.int _)) (eda_cons (ed_var rfl (.int _)) (eda_cons (EvD.to (ed_fdiv (ed_sub (ed_mul (ed_var rfl (.int _)) (ed_var rfl (.int _)) (.inl hcw)) (ed_call (eda_cons (ed_var rfl (Dp_mono e4 h1')) eda_nil) ⟨f, rfl, ⟨hs.2.1.wide, hs.2.2.wide⟩, rfl⟩)) (ed_mul ed_int (ed_var rfl (.int _)) (.inl ⟨by decide, by decide⟩)) ⟨by omega, by unfold Sm at has; omega⟩) hfd) eda_nil)))) fun v H6 e7 hd => hQ v H6 ((((e1.trans e2).trans e3).trans e4).trans e7) hd
/-! ### least_of -/
def p_least_of : List PyData → PyData → Prop := fun ds d => ∃ f : Fc.Form, ds = [dFm f] ∧ LeastOk f ∧ d = dFm (Fc.least f)
theorem len_least_of {ds : List PyData} {d : PyData} (h : p_least_of ds d) : ds.length = 1 := by
  obtain ⟨f, rfl, _⟩ := h
  rfl
theorem ok_least_of (T : Txt K mg) : FnOk P w K mg base CX0 4 T.f_least_of T.fd_least_of ["form"] (spD K p_least_of) := by
  have G_discriminant := ok_discriminant (P := P) (w := w) (base := base) T
  have G_place := ok_place (P := P) (w := w) (base := base) T
  have G_reduced_above := ok_reduced_above (P := P) (w := w) (base := base) T
  have G_cycle_of := ok_cycle_of (P := P) (w := w) (base := base) T
  have G_least_middle := ok_least_middle (P := P) (w := w) (base := base) T
  refine T.F_least_of.ok sc_least_of (fun vs H Q E h => ?_) (fun cdv A outer s H vs Q E hr h => ?_)
  · obtain ⟨ds, _, hv, hp, _⟩ := h
    rw [da_len hv]
    exact len_least_of hp
  · obtain ⟨ds, d, hv, hp, hQ⟩ := h
    obtain ⟨f, rfl, hok, rfl⟩ := hp
    obtain ⟨v, _, rfl, h1, hv⟩ := da_cons hv
    cases da_nil hv
    have hs : SmF f := by
      rcases hok with h | h
      · exact h.1
      · exact h.1
    refine ⟨_, (pss_cons (ps_if (pt_cmpR op_lt (pe_call G_discriminant (hr.mono (by decide)) rfl T.g_discriminant T.F_discriminant.kp T.b_discriminant .nil pass0 (pa_cons (pv 0) pa_nil)) pe_int (nomark _))
          (pss_one (ps_ret (pe_ix ix_tup (pe_call G_reduced_above (hr.mono (by decide)) rfl T.g_reduced_above T.F_reduced_above.kp T.b_reduced_above .nil pass0 (pa_cons (pv 0) pa_nil)) pe_int (fun _ _ => rfl))))
          pss_nil)
          (pss_one (ps_ret (pe_callBK (cr_minKey rfl G_place (hr.mono (by decide)) T.b_place) (by rfl) T.z_min (by decide +kernel) (pa_cons (pe_lc (own := [("other", 1)]) (g := gName 1) (tt := tYes) rfl sc_least_of.nd (pi_list (pe_call G_cycle_of (hr.mono (by decide)) rfl T.g_cycle_of T.F_cycle_of.kp T.b_cycle_of .nil pass0 (pa_cons (pv 0) pa_nil))) (blkOk_by (own := [("other", 1)]) (N := ["form", "other"]) (sc := defScope s_least_of) (by decide +kernel)) (fun _ _ _ _ _ => pg_name (i := 1) sc_least_of.nd rfl (Or.inl rfl)) (fun _ _ _ _ _ => pts_nil) (fun _ _ _ _ _ => (pe_call G_least_middle (hr.mono (by decide)) rfl T.g_least_middle T.F_least_middle.kp T.b_least_middle .nil pass0 (pa_cons (pv 1) pa_nil)))) pa_nil) (pk_cons (pe_glob (v := .ref T.f_place) rfl T.g_place rfl) pk_nil))))), ?_⟩
    refine q_when (et_testD (K := K) (ed_lt (ed_call (eda_cons (ed_var rfl h1) eda_nil) ⟨f, rfl, ⟨hs.2.1.wide, hs.2.2.wide⟩, rfl⟩) ed_int)) (fun hb H1 e1 => ?_) (fun hb H1 e1 => ?_)
    · have hd := of_decide_eq_true hb
      have ha : 0 < f.a := by
        rcases hok with h | h
        · exact h.2.2
        · have := h.2.1
          omega
      rw [least_neg hd] at hQ
      exact sd_ret (K := K) (ed_ixT (i := 0) (ed_call (eda_cons (ed_var rfl (Dp_mono e1 h1)) eda_nil) ⟨f, rfl, ⟨hs, hd, ha⟩, rfl⟩) ed_int rfl rfl) fun v2 H2 e2 hd => hQ v2 H2 (e1.trans e2) hd
    · have hd := of_decide_eq_false hb
      have hc : CycOk f := by
        rcases hok with h | h
        · exact absurd h.2.1 hd
        · exact h
      have hn := hc.2.2.2
      rw [least_pos hc.2.1] at hQ
      obtain ⟨g, p, p1, p2, hci, hmem⟩ := circ_is hc
      obtain ⟨x, l, hxl⟩ : ∃ x l, circ f = x :: l := by
        cases q : circ f with
        | nil =>
          rw [q] at hci
          have := congrArg List.length hci
          rw [List.length_map, List.length_range] at this
          simp at this
          omega
        | cons x l => exact ⟨x, l, rfl⟩
      have hlen : (circ f).length ≤ 9941 := by
        rw [hci, List.length_map, List.length_range]
        exact p2
      have hQ2 : ∀ v H', Ex H H' → Dp K H' v (dFm (pick Fc.before (Fc.centred (Fc.disc f) x) (l.map (Fc.centred (Fc.disc f))))) → Q v H' := by
        rw [← firstOf_pick _ _ f]
        rw [hxl] at hQ
        exact hQ
      have emap : ((circ f).map dFm).map (fun d => match d with | .tuple [.int a, .int b, .int c] => dFm (Fc.centred (Fc.disc f) ⟨a, b, c⟩) | _ => .none) = (Fc.centred (Fc.disc f) x :: l.map (Fc.centred (Fc.disc f))).map dFm := by
        rw [List.map_map, hxl, List.map_cons, List.map_cons, List.map_map]
        rfl
      have hks : ∀ d ∈ ((Fc.centred (Fc.disc f) x :: l.map (Fc.centred (Fc.disc f))).map dPl), ∃ z, d = dPl z := fun d hd => by
        obtain ⟨z, _, rfl⟩ := List.mem_map.mp hd
        exact ⟨z, rfl⟩
      refine sd_ret (K := K) (ed_minKey (ks := (Fc.centred (Fc.disc f) x :: l.map (Fc.centred (Fc.disc f))).map dPl) (ed_is (EvN.toD (en_mapL (fun d => match d with | .tuple [.int a, .int b, .int c] => dFm (Fc.centred (Fc.disc f) ⟨a, b, c⟩) | _ => .none) (EvN.toD (en_call (eda_cons (ed_var rfl (Dp_mono e1 h1)) eda_nil) ⟨f, rfl, hc, rfl⟩)) (by rw [List.length_map]; omega) (fun _ => rfl) ?_ ?_)) (congrArg PyData.list emap)) (by simp) (by simp) ?_ ?_ ?_ ?_) fun v2 H2 e2 hd2 => hQ2 v2 H2 (e1.trans e2) ?_
      · intro d hd
        obtain ⟨z, _, rfl⟩ := List.mem_map.mp hd
        rfl
      · intro d y H2 hd e2 hy
        obtain ⟨z, hz, rfl⟩ := List.mem_map.mp hd
        obtain ⟨z1, z2⟩ := hmem z hz
        have za : z.a ≠ 0 := Fk.a_ne' (by rw [z2]; exact hn)
        refine ed_is (ed_call (eda_cons (ed_var rfl hy) eda_nil) ⟨z, rfl, ⟨z1, za⟩, rfl⟩) ?_
        rw [z2]
      · intro i hi
        rw [List.length_map] at hi
        refine ⟨(Fc.centred (Fc.disc f) x :: l.map (Fc.centred (Fc.disc f)))[i], ?_, ?_⟩
        · rw [List.getD_eq_getElem?_getD, List.getElem?_map, List.getElem?_eq_getElem hi]
          rfl
        · rw [List.getD_eq_getElem?_getD, List.getElem?_map, List.getElem?_eq_getElem hi]
          rfl
      · intro d hd e he
        obtain ⟨z, rfl⟩ := hks d hd
        obtain ⟨z', rfl⟩ := hks e he
        exact alike_tup rfl
      · intro d hd
        obtain ⟨z, rfl⟩ := hks d hd
        intro q
        cases q
      · intro d hd
        obtain ⟨z, rfl⟩ := hks d hd
        rw [depth_tup]
        decide
      · rw [pick_data Fc.before place_lt] at hd2
        exact hd2
/-! ### weights -/
def p_weights : List PyData → PyData → Prop := fun ds d => ∃ a e : Int, ds = [.int a, .int e] ∧ (a.natAbs < 500000000 ∧ e.natAbs < 500000000) ∧ d = .tuple [.int (Fk.weights a e).1, .int (Fk.weights a e).2.1, .int (Fk.weights a e).2.2]
theorem len_weights {ds : List PyData} {d : PyData} (h : p_weights ds d) : ds.length = 2 := by
  obtain ⟨x, y, rfl, _⟩ := h
  rfl
theorem fmod_le {x y : Int} (h : y ≠ 0) : (x - x.fdiv y * y).natAbs < y.natAbs := by
  rw [Fk.fmod_as]
  by_cases c : 0 < y
  · have := Fk.fmod_pos (x := x) c
    omega
  · have := Fk.fmod_neg (x := x) (y := y) (by omega)
    omega
theorem many_wide {x y : Int} (hx : x.natAbs < 500000000) (hy : y.natAbs < 500000000) (h : y ≠ 0) : W64 (x.fdiv y) := by
  have h1 := fmod_le (x := x) h
  have h2 : ((x.fdiv y).natAbs * y.natAbs) = (x.fdiv y * y).natAbs := (Int.natAbs_mul _ _).symm
  have h3 : (x.fdiv y).natAbs * 1 ≤ (x.fdiv y).natAbs * y.natAbs := Nat.mul_le_mul_left _ (by omega)
  unfold W64
  omega
theorem qd_un2I {K : PySem.W.Frag} {σ : L2.St} {H : Hp} {te : TE} {tz : TS} {D : Ends} {i j : Nat} {x y : Int} (h : EvD K te σ H (.tuple [.int x, .int y])) (k : ∀ H1, Ex H H1 → tz D ((σ.set i (some (.int x))).set j (some (.int y))) H1) :
    tSeq (tAsg te (gTup K 2 (gCons (gName i) (gCons (gName j) gNil)))) tz D σ H := qd_un2 h fun u v H1 e hu hv => by
  cases dp_int hu
  cases dp_int hv
  exact k H1 e
theorem ok_weights (T : Txt K mg) : FnOk P w K mg base CX0 1 T.f_weights T.fd_weights ["one", "other"] (spD K p_weights) := by
  refine T.F_weights.ok sc_weights (fun vs H Q E h => ?_) (fun cdv A outer s H vs Q E hr h => ?_)
  · obtain ⟨ds, _, hv, hp, _⟩ := h
    rw [da_len hv]
    exact len_weights hp
  · obtain ⟨ds, d, hv, hp, hQ⟩ := h
    obtain ⟨a, e, rfl, ⟨ha, he⟩, rfl⟩ := hp
    have hv := da_ints (ns := [a, e]) hv
    subst hv
    refine ⟨_, (pss_cons (ps_asg (pe_tup (pa_cons pe_int (pa_cons pe_int pa_nil))) (pg_tup (by rfl) (pgs_cons (pg_name (i := 2) sc_weights.nd rfl (Or.inl rfl)) (pgs_cons (pg_name (i := 3) sc_weights.nd rfl (Or.inl rfl)) pgs_nil))))
          (pss_cons (ps_asg (pe_tup (pa_cons pe_int (pa_cons pe_int pa_nil))) (pg_tup (by rfl) (pgs_cons (pg_name (i := 4) sc_weights.nd rfl (Or.inl rfl)) (pgs_cons (pg_name (i := 5) sc_weights.nd rfl (Or.inl rfl)) pgs_nil))))
          (pss_cons (ps_while PassesOwn.never (pt_cmpR op_ne (pv 1) pe_int (nomark _))
          (pss_cons (ps_set (i := 6) sc_weights.nd rfl (Or.inl rfl) (pe_op op_fdivN (pv 0) (pv 1)))
          (pss_cons (ps_par (i := 0) (j := 1) (by rfl) sc_weights.nd rfl rfl (by decide) rfl rfl (pa_cons (pv 1) (pa_cons (pe_op op_sub (pv 0) (pe_op op_mul (pv 6) (pv 1))) pa_nil)) (by rfl))
          (pss_cons (ps_par (i := 2) (j := 4) (by rfl) sc_weights.nd rfl rfl (by decide) rfl rfl (pa_cons (pv 4) (pa_cons (pe_op op_sub (pv 2) (pe_op op_mul (pv 6) (pv 4))) pa_nil)) (by rfl))
          (pss_one (ps_par (i := 3) (j := 5) (by rfl) sc_weights.nd rfl rfl (by decide) rfl rfl (pa_cons (pv 5) (pa_cons (pe_op op_sub (pv 3) (pe_op op_mul (pv 6) (pv 5))) pa_nil)) (by rfl)))))))
          (pss_cons (ps_if (pt_cmpR op_lt (pv 0) pe_int (nomark _))
          (pss_one (ps_ret (pe_tup (pa_cons (pe_op op_sub pe_int (pv 0)) (pa_cons (pe_op op_sub pe_int (pv 2)) (pa_cons (pe_op op_sub pe_int (pv 3)) pa_nil))))))
          pss_nil)
          (pss_one (ps_ret (pe_tup (pa_cons (pv 0) (pa_cons (pv 2) (pa_cons (pv 3) pa_nil)))))))))), ?_⟩
    refine qd_un2I (K := K) (ed_tup (eda_cons ed_int (eda_cons ed_int eda_nil))) fun H1 e1 => ?_
    refine qd_un2I (K := K) (ed_tup (eda_cons ed_int (eda_cons ed_int eda_nil))) fun H2 e2 => ?_
    refine q_while (fun m σ' H' => ∃ (n : Nat) (one other u t v w : Int) (x : Option V), σ' = [some (.int one), some (.int other), some (.int u), some (.int v), some (.int t), some (.int w), x] ∧ Fk.wt n one other u t v w = Fk.weights a e ∧ other.natAbs = m ∧ m < n ∧ one.natAbs < 500000000 ∧ other.natAbs < 500000000 ∧ Ex H H') e.natAbs ⟨e.natAbs + 1, a, e, 1, 0, 0, 1, none, rfl, rfl, rfl, by omega, ha, he, e1.trans e2⟩ ?_
    rintro m σ' H' ⟨n, one, other, u, t, v, w, x, rfl, hwt, rfl, hmn, ho1, ho2, e'⟩
    obtain ⟨n, rfl⟩ : ∃ k, n = k + 1 := ⟨n - 1, by omega⟩
    refine ⟨_, et_testD (K := K) (ed_neI (ed_var rfl (.int _)) ed_int), fun hb H1 e1 => ⟨_, fun _ _ q => q, ?_⟩, fun hb H1 e1 => ?_⟩
    · have h0 : other ≠ 0 := by simpa using hb
      have hmw := many_wide ho1 ho2 h0
      have hlt := fmod_le (x := one) h0
      refine qd_asgI (K := K) (ed_fdiv (ed_var rfl (.int _)) (ed_var rfl (.int _)) ⟨h0, by omega⟩) fun H2 e2 => ?_
      refine qd_parI (K := K) (eda_cons (ed_var rfl (.int _)) (eda_cons (ed_sub (ed_var rfl (.int _)) (ed_mul (ed_var rfl (.int _)) (ed_var rfl (.int _)) (.inl hmw))) eda_nil)) fun H3 e3 => ?_
      refine qd_parI (K := K) (eda_cons (ed_var rfl (.int _)) (eda_cons (ed_sub (ed_var rfl (.int _)) (ed_mul (ed_var rfl (.int _)) (ed_var rfl (.int _)) (.inl hmw))) eda_nil)) fun H4 e4 => ?_
      refine sd_parI (K := K) (eda_cons (ed_var rfl (.int _)) (eda_cons (ed_sub (ed_var rfl (.int _)) (ed_mul (ed_var rfl (.int _)) (ed_var rfl (.int _)) (.inl hmw))) eda_nil)) fun H5 e5 => ?_
      refine ⟨_, hlt, n, other, one - one.fdiv other * other, t, u - one.fdiv other * t, w, v - one.fdiv other * w, _, rfl, ?_, rfl, by omega, ho2, by omega, ((((e'.trans e1).trans e2).trans e3).trans e4).trans e5⟩
      rw [← hwt]
      show _ = (if other = 0 then _ else _)
      rw [if_neg h0]
    · have h0 : other = 0 := by simpa using hb
      have hend : Fk.weights a e = Fk.wtEnd one u v := by
        rw [← hwt]
        show (if other = 0 then _ else _) = _
        rw [if_pos h0]
      rw [hend] at hQ
      unfold Fk.wtEnd at hQ
      refine q_when (et_testD (K := K) (ed_lt (ed_var rfl (.int _)) ed_int)) (fun hb H2 e2 => ?_) (fun hb H2 e2 => ?_)
      · rw [if_pos (of_decide_eq_true hb)] at hQ
        exact sd_ret (K := K) (ed_tup (eda_cons (EvD.to (ed_sub ed_int (ed_var rfl (.int _))) (Int.zero_sub _)) (eda_cons (EvD.to (ed_sub ed_int (ed_var rfl (.int _))) (Int.zero_sub _)) (eda_cons (EvD.to (ed_sub ed_int (ed_var rfl (.int _))) (Int.zero_sub _)) eda_nil)))) fun v H3 e3 hd => hQ v H3 (((e'.trans e1).trans e2).trans e3) hd
      · rw [if_neg (of_decide_eq_false hb)] at hQ
        exact sd_ret (K := K) (ed_tup (eda_cons (ed_var rfl (.int _)) (eda_cons (ed_var rfl (.int _)) (eda_cons (ed_var rfl (.int _)) eda_nil)))) fun v H3 e3 hd => hQ v H3 (((e'.trans e1).trans e2).trans e3) hd
/-! ### product -/
def p_product : List PyData → PyData → Prop := fun ds d => ∃ f g : Fc.Form, ds = [dFm f, dFm g] ∧ (Fit f ∧ Fit g ∧ Fc.disc f = Fc.disc g) ∧ d = dFm (Fc.times f g)
theorem len_product {ds : List PyData} {d : PyData} (h : p_product ds d) : ds.length = 2 := by
  obtain ⟨x, y, rfl, _⟩ := h
  rfl
theorem bez_pos {a b u v g : Int} (h : Fk.Bez a b u v g) (ha : a ≠ 0) : 0 < g ∧ g.natAbs ≤ a.natAbs := by
  have h0 := h.nn
  have : g ≠ 0 := fun z => by
    have := h.da
    rw [z] at this
    exact ha (Int.zero_dvd.mp this)
  have := Nat.le_of_dvd (by omega) (Int.natAbs_dvd_natAbs.mpr h.da)
  omega
theorem q_state {t : TS} {D : Ends} {σ σ' : L2.St} {H : Hp} (e : σ = σ') (h : t D σ' H) : t D σ H := e ▸ h
theorem ok_product (T : Txt K mg) : FnOk P w K mg base CX0 5 T.f_product T.fd_product ["form", "other"] (spD K p_product) := by
  have G_discriminant := ok_discriminant (P := P) (w := w) (base := base) T
  have G_least_of := ok_least_of (P := P) (w := w) (base := base) T
  have G_weights := ok_weights (P := P) (w := w) (base := base) T
  refine T.F_product.ok sc_product (fun vs H Q E h => ?_) (fun cdv A outer s H vs Q E hr h => ?_)
  · obtain ⟨ds, _, hv, hp, _⟩ := h
    rw [da_len hv]
    exact len_product hp
  · obtain ⟨ds, d, hv, hp, hQ⟩ := h
    obtain ⟨f, g, rfl, ⟨hf, hg, hd⟩, rfl⟩ := hp
    obtain ⟨v1, _, rfl, h1, hv⟩ := da_cons hv
    obtain ⟨v2, _, rfl, h2, hv⟩ := da_cons hv
    cases da_nil hv
    obtain ⟨kp, _, ke⟩ := times_prog hf hg hd
    rw [← ke] at hQ
    have fa0 := hf.ok.a0
    have ga0 := hg.ok.a0
    have hfa := hf.fa
    have hfb := hf.fb
    have hga := hg.fa
    have hgb := hg.fb
    have hfs := hf.ok.sm
    have hlo := hf.lo
    have hhi := hf.hi
    have two : ∀ x : Int, CMul 2 x := fun x => .inl ⟨by decide, by decide⟩
    have four : ∀ x : Int, CMul 4 x := fun x => .inl ⟨by decide, by decide⟩
    obtain ⟨w1, w2, w3⟩ := Fk.weights_ok f.a g.a
    have hh : (f.b + g.b).fdiv 2 = (f.b + g.b) / 2 := Int.fdiv_eq_ediv_of_nonneg _ (by decide)
    have hhb : ((f.b + g.b) / 2).natAbs ≤ 8192 := by omega
    obtain ⟨y1, y2, y3⟩ := Fk.weights_ok (Fk.weights f.a g.a).1 ((f.b + g.b) / 2)
    obtain ⟨v, w, dl, sg, n, al, be, ga, P, ev, ew, en, es, I⟩ := Fk.prog_prod hd fa0 ga0
    have ep : Fk.prodP f g = (let x := Fk.weights f.a g.a
        let y := Fk.weights x.1 ((f.b + g.b) / 2)
        let d := y.1
        let m := (y.2.1 * (x.2.1 * f.a * g.b + x.2.2 * g.a * f.b) + y.2.2 * (f.b * g.b + Fc.disc f) / 2) / d
        let a := f.a * g.a / (d * d)
        let b := m % (2 * (a.natAbs : Int))
        ⟨a, b, (b * b - Fc.disc f) / (4 * a)⟩) := rfl
    obtain ⟨p0, p1⟩ := bez_pos w1 fa0
    obtain ⟨q0, q1⟩ := bez_pos y1 (by omega)
    have hd2 : (Fk.weights (Fk.weights f.a g.a).1 ((f.b + g.b) / 2)).1 ∣ f.a := Int.dvd_trans y1.da w1.da
    have hd3 : (Fk.weights (Fk.weights f.a g.a).1 ((f.b + g.b) / 2)).1 ∣ g.a := Int.dvd_trans y1.da w1.db
    have hfst : f.a * g.a / ((Fk.weights (Fk.weights f.a g.a).1 ((f.b + g.b) / 2)).1 * (Fk.weights (Fk.weights f.a g.a).1 ((f.b + g.b) / 2)).1) ≠ 0 ∧ ((f.a * g.a / ((Fk.weights (Fk.weights f.a g.a).1 ((f.b + g.b) / 2)).1 * (Fk.weights (Fk.weights f.a g.a).1 ((f.b + g.b) / 2)).1)).natAbs : Int) ≤ 67108864 := by
      have hm : ((f.a * g.a).natAbs : Int) ≤ 67108864 := by
        rw [Int.natAbs_mul, Int.natCast_mul]
        have : (f.a.natAbs : Int) * g.a.natAbs ≤ 8192 * 8192 := Int.mul_le_mul (by omega) (by omega) (by omega) (by omega)
        omega
      have hdv := Int.mul_dvd_mul hd2 hd3
      have := Fk.natAbs_div_le (Int.mul_pos q0 q0) hdv
      refine ⟨fun z => ?_, by omega⟩
      have h5 := Int.mul_ediv_cancel' hdv
      rw [z, Int.mul_zero] at h5
      exact Int.mul_ne_zero fa0 ga0 h5.symm
    have hc := kp.sm
    have hb0 : ((Fk.prodP f g).b.natAbs : Int) ≤ 0 + 2 * (Fk.prodP f g).a.natAbs := by
      rw [I.pa]
      exact I.pb
    have hpa : (Fk.prodP f g).a ≠ 0 := kp.a0
    have hpc : (Fk.prodP f g).b * (Fk.prodP f g).b - Fc.disc f = 4 * (Fk.prodP f g).a * (Fk.prodP f g).c := by
      rw [I.pa]
      exact I.pc
    have epa : (Fk.prodP f g).a = f.a * g.a / ((Fk.weights (Fk.weights f.a g.a).1 ((f.b + g.b) / 2)).1 * (Fk.weights (Fk.weights f.a g.a).1 ((f.b + g.b) / 2)).1) := rfl
    have epb : (Fk.prodP f g).b = (((Fk.weights (Fk.weights f.a g.a).1 ((f.b + g.b) / 2)).2.1 * ((Fk.weights f.a g.a).2.1 * f.a * g.b + (Fk.weights f.a g.a).2.2 * g.a * f.b) + (Fk.weights (Fk.weights f.a g.a).1 ((f.b + g.b) / 2)).2.2 * (f.b * g.b + Fc.disc f) / 2) / (Fk.weights (Fk.weights f.a g.a).1 ((f.b + g.b) / 2)).1) % (2 * ((Fk.prodP f g).a.natAbs : Int)) := rfl
    clear ep I P
    generalize hp : Fk.prodP f g = p at *
    rw [← epa] at hfst
    generalize hx : Fk.weights f.a g.a = x at *
    generalize hy : Fk.weights x.1 ((f.b + g.b) / 2) = y at *
    have tx : (.tuple [.int (Fk.weights f.a g.a).1, .int (Fk.weights f.a g.a).2.1, .int (Fk.weights f.a g.a).2.2] : PyData) = .tuple [.int x.1, .int x.2.1, .int x.2.2] := by rw [hx]
    have ty : (.tuple [.int (Fk.weights x.1 ((f.b + g.b) / 2)).1, .int (Fk.weights x.1 ((f.b + g.b) / 2)).2.1, .int (Fk.weights x.1 ((f.b + g.b) / 2)).2.2] : PyData) = .tuple [.int y.1, .int y.2.1, .int y.2.2] := by rw [hy]
    refine ⟨_, (pss_cons (ps_asg (pv 0) (pg_tup (by rfl) (pgs_cons (pg_name (i := 2) sc_product.nd rfl (Or.inl rfl)) (pgs_cons (pg_name (i := 3) sc_product.nd rfl (Or.inl rfl)) (pgs_cons (pg_name (i := 4) sc_product.nd rfl (Or.inl rfl)) pgs_nil)))))
          (pss_cons (ps_asg (pv 1) (pg_tup (by rfl) (pgs_cons (pg_name (i := 5) sc_product.nd rfl (Or.inl rfl)) (pgs_cons (pg_name (i := 6) sc_product.nd rfl (Or.inl rfl)) (pgs_cons (pg_name (i := 7) sc_product.nd rfl (Or.inl rfl)) pgs_nil)))))
          (pss_cons (ps_set (i := 8) sc_product.nd rfl (Or.inl rfl) (pe_call G_discriminant (hr.mono (by decide)) rfl T.g_discriminant T.F_discriminant.kp T.b_discriminant .nil pass0 (pa_cons (pv 0) pa_nil)))
          (pss_cons (ps_set (i := 9) sc_product.nd rfl (Or.inl rfl) (pe_op op_fdivN (pe_op op_add (pv 3) (pv 6)) pe_int))
          (pss_cons (ps_asg (pe_call G_weights (hr.mono (by decide)) rfl T.g_weights T.F_weights.kp T.b_weights .nil pass0 (pa_cons (pv 2) (pa_cons (pv 5) pa_nil))) (pg_tup (by rfl) (pgs_cons (pg_name (i := 10) sc_product.nd rfl (Or.inl rfl)) (pgs_cons (pg_name (i := 11) sc_product.nd rfl (Or.inl rfl)) (pgs_cons (pg_name (i := 12) sc_product.nd rfl (Or.inl rfl)) pgs_nil)))))
          (pss_cons (ps_asg (pe_call G_weights (hr.mono (by decide)) rfl T.g_weights T.F_weights.kp T.b_weights .nil pass0 (pa_cons (pv 10) (pa_cons (pv 9) pa_nil))) (pg_tup (by rfl) (pgs_cons (pg_name (i := 13) sc_product.nd rfl (Or.inl rfl)) (pgs_cons (pg_name (i := 14) sc_product.nd rfl (Or.inl rfl)) (pgs_cons (pg_name (i := 15) sc_product.nd rfl (Or.inl rfl)) pgs_nil)))))
          (pss_cons (ps_set (i := 16) sc_product.nd rfl (Or.inl rfl) (pe_op op_fdivN (pe_op op_add (pe_op op_mul (pv 14) (pe_op op_add (pe_op op_mul (pe_op op_mul (pv 11) (pv 2)) (pv 6)) (pe_op op_mul (pe_op op_mul (pv 12) (pv 5)) (pv 3)))) (pe_op op_fdivN (pe_op op_mul (pv 15) (pe_op op_add (pe_op op_mul (pv 3) (pv 6)) (pv 8))) pe_int)) (pv 13)))
          (pss_cons (ps_set (i := 17) sc_product.nd rfl (Or.inl rfl) (pe_op op_fdivN (pe_op op_mul (pv 2) (pv 5)) (pe_op op_mul (pv 13) (pv 13))))
          (pss_cons (ps_set (i := 16) sc_product.nd rfl (Or.inl rfl) (pe_op op_modN (pv 16) (pe_op op_mul pe_int (pe_callB call_abs (by rfl) T.z_abs (by decide +kernel) (pa_cons (pv 17) pa_nil)))))
          (pss_one (ps_ret (pe_call G_least_of (hr.mono (by decide)) rfl T.g_least_of T.F_least_of.kp T.b_least_of .nil pass0 (pa_cons (pe_tup (pa_cons (pv 17) (pa_cons (pv 16) (pa_cons (pe_op op_fdivN (pe_op op_sub (pe_op op_mul (pv 16) (pv 16)) (pv 8)) (pe_op op_mul pe_int (pv 17))) pa_nil)))) pa_nil))))))))))))), ?_⟩
    refine qd_un3 (ed_var rfl h1) fun H1 e1 => ?_
    refine q_state (σ' := [some v1, some v2, some (.int (f.a)), some (.int (f.b)), some (.int (f.c)), none, none, none, none, none, none, none, none, none, none, none, none, none]) rfl ?_
    refine qd_un3 (ed_var rfl (Dp_mono e1 h2)) fun H2 e2 => ?_
    refine q_state (σ' := [some v1, some v2, some (.int (f.a)), some (.int (f.b)), some (.int (f.c)), some (.int (g.a)), some (.int (g.b)), some (.int (g.c)), none, none, none, none, none, none, none, none, none, none]) rfl ?_
    refine qd_asgI (K := K) (ed_call (eda_cons (ed_var rfl (Dp_mono (e1.trans e2) h1)) eda_nil) ⟨f, rfl, ⟨hfs.2.1.wide, hfs.2.2.wide⟩, rfl⟩) fun H3 e3 => ?_
    refine qd_asgI (K := K) (n := (f.b + g.b) / 2) (ed_is (ed_fdiv (ed_add (ed_var rfl (.int _)) (ed_var rfl (.int _))) ed_int ⟨by decide, by decide⟩) (by rw [hh])) fun H4 e4 => ?_
    refine q_state (σ' := [some v1, some v2, some (.int (f.a)), some (.int (f.b)), some (.int (f.c)), some (.int (g.a)), some (.int (g.b)), some (.int (g.c)), some (.int (Fc.disc f)), some (.int ((f.b + g.b) / 2)), none, none, none, none, none, none, none, none]) rfl ?_
    refine qd_un3 (K := K) (ed_is (ed_call (eda_cons (ed_var rfl (.int _)) (eda_cons (ed_var rfl (.int _)) eda_nil)) ⟨f.a, g.a, rfl, ⟨by omega, by omega⟩, rfl⟩) tx) fun H5 e5 => ?_
    refine q_state (σ' := [some v1, some v2, some (.int (f.a)), some (.int (f.b)), some (.int (f.c)), some (.int (g.a)), some (.int (g.b)), some (.int (g.c)), some (.int (Fc.disc f)), some (.int ((f.b + g.b) / 2)), some (.int (x.1)), some (.int (x.2.1)), some (.int (x.2.2)), none, none, none, none, none]) rfl ?_
    refine qd_un3 (K := K) (ed_is (ed_call (eda_cons (ed_var rfl (.int _)) (eda_cons (ed_var rfl (.int _)) eda_nil)) ⟨x.1, (f.b + g.b) / 2, rfl, ⟨by omega, by omega⟩, rfl⟩) ty) fun H6 e6 => ?_
    refine q_state (σ' := [some v1, some v2, some (.int (f.a)), some (.int (f.b)), some (.int (f.c)), some (.int (g.a)), some (.int (g.b)), some (.int (g.c)), some (.int (Fc.disc f)), some (.int ((f.b + g.b) / 2)), some (.int (x.1)), some (.int (x.2.1)), some (.int (x.2.2)), some (.int (y.1)), some (.int (y.2.1)), some (.int (y.2.2)), none, none]) rfl ?_
    have wa : W64 f.a := by unfold W64; omega
    have wb : W64 f.b := by unfold W64; omega
    have wc : W64 g.a := by unfold W64; omega
    have wd : W64 g.b := by unfold W64; omega
    have wy : W64 y.2.1 := by unfold W64; omega
    have wz : W64 y.2.2 := by unfold W64; omega
    have wx1 : W64 x.2.1 := by unfold W64; omega
    have wx2 : W64 x.2.2 := by unfold W64; omega
    have wy1 : W64 y.1 := by unfold W64; omega
    have hM : (y.2.1 * (x.2.1 * f.a * g.b + x.2.2 * g.a * f.b) + (y.2.2 * (f.b * g.b + Fc.disc f)).fdiv 2).fdiv y.1 = (y.2.1 * (x.2.1 * f.a * g.b + x.2.2 * g.a * f.b) + y.2.2 * (f.b * g.b + Fc.disc f) / 2) / y.1 := by
      rw [Int.fdiv_eq_ediv_of_nonneg _ (show (0 : Int) ≤ y.1 by omega), Int.fdiv_eq_ediv_of_nonneg _ (show (0 : Int) ≤ 2 by decide)]
    refine qd_asgI (K := K) (EvD.to (ed_fdiv (ed_add (ed_mul (ed_var rfl (.int y.2.1)) (ed_add (ed_mul (ed_mul (ed_var rfl (.int x.2.1)) (ed_var rfl (.int f.a)) (.inl wx1)) (ed_var rfl (.int g.b)) (.inr wd)) (ed_mul (ed_mul (ed_var rfl (.int x.2.2)) (ed_var rfl (.int g.a)) (.inl wx2)) (ed_var rfl (.int f.b)) (.inr wb))) (.inl wy)) (ed_fdiv (ed_mul (ed_var rfl (.int y.2.2)) (ed_add (ed_mul (ed_var rfl (.int f.b)) (ed_var rfl (.int g.b)) (.inl wb)) (ed_var rfl (.int (Fc.disc f)))) (.inl wz)) ed_int ⟨by decide, by decide⟩)) (ed_var rfl (.int y.1)) ⟨by omega, by omega⟩) hM) fun H7 e7 => ?_
    have hyy : y.1 * y.1 ≠ 0 ∧ (y.1 * y.1).natAbs < 1073741824 := by
      refine ⟨Int.mul_ne_zero (by omega) (by omega), ?_⟩
      rw [Int.natAbs_mul]
      have := Nat.mul_le_mul (show y.1.natAbs ≤ 8192 by omega) (show y.1.natAbs ≤ 8192 by omega)
      omega
    have hA : (f.a * g.a).fdiv (y.1 * y.1) = p.a := by
      rw [epa]
      exact Int.fdiv_eq_ediv_of_nonneg _ (Int.le_of_lt (Int.mul_pos q0 q0))
    refine qd_asgI (K := K) (EvD.to (ed_fdiv (ed_mul (ed_var rfl (.int f.a)) (ed_var rfl (.int g.a)) (.inl wa)) (ed_mul (ed_var rfl (.int y.1)) (ed_var rfl (.int y.1)) (.inl wy1)) hyy) hA) fun H8 e8 => ?_
    generalize (y.2.1 * (x.2.1 * f.a * g.b + x.2.2 * g.a * f.b) + y.2.2 * (f.b * g.b + Fc.disc f) / 2) / y.1 = M at *
    have hB : M.fmod (2 * (p.a.natAbs : Int)) = p.b := by
      rw [epb]
      exact Int.fmod_eq_emod_of_nonneg _ (by omega)
    refine qd_asgI (K := K) (EvD.to (ed_mod (ed_var rfl (.int M)) (ed_mul ed_int (ed_abs (ed_var rfl (.int p.a))) (two _)) (by omega)) hB) fun H9 e9 => ?_
    have wpb : W64 p.b := by unfold W64; omega
    have hfd : (p.b * p.b - Fc.disc f).fdiv (4 * p.a) = p.c := Fk.fdiv_exact hpa hpc
    exact sd_ret (K := K) (ed_call (eda_cons (ed_tup (eda_cons (ed_var rfl (.int _)) (eda_cons (ed_var rfl (.int _)) (eda_cons (EvD.to (ed_fdiv (ed_sub (ed_mul (ed_var rfl (.int _)) (ed_var rfl (.int _)) (.inl wpb)) (ed_var rfl (.int _))) (ed_mul ed_int (ed_var rfl (.int _)) (four _)) ⟨by omega, by omega⟩) hfd) eda_nil)))) eda_nil) ⟨p, rfl, kp, rfl⟩) fun v H10 e10 hd => hQ v H10 (((((((((e1.trans e2).trans e3).trans e4).trans e5).trans e6).trans e7).trans e8).trans e9).trans e10) hd
/-! ### one_of -/
def p_one_of : List PyData → PyData → Prop := fun ds d => ∃ n : Int, ds = [.int n] ∧ Fc.isDisc n = true ∧ d = dFm (Fc.least (Fc.unit n))
theorem len_one_of {ds : List PyData} {d : PyData} (h : p_one_of ds d) : ds.length = 1 := by
  obtain ⟨n, rfl, _⟩ := h
  rfl
theorem ok_one_of (T : Txt K mg) : FnOk P w K mg base CX0 5 T.f_one_of T.fd_one_of ["d"] (spD K p_one_of) := by
  have G_least_of := ok_least_of (P := P) (w := w) (base := base) T
  refine T.F_one_of.ok sc_one_of (fun vs H Q E h => ?_) (fun cdv A outer s H vs Q E hr h => ?_)
  · obtain ⟨ds, _, hv, hp, _⟩ := h
    rw [da_len hv]
    exact len_one_of hp
  · obtain ⟨ds, d, hv, hp, hQ⟩ := h
    obtain ⟨n, rfl, hd, rfl⟩ := hp
    have hv := da_ints (ns := [n]) hv
    subst hv
    have hu := unit_ok hd
    rw [unit_prog (disc_facts hd).2.1] at hQ hu
    refine ⟨_, (pss_cons (ps_set (i := 1) sc_one_of.nd rfl (Or.inl rfl) (pe_op op_modN (pv 0) pe_int))
          (pss_one (ps_ret (pe_call G_least_of (hr.mono (by decide)) rfl T.g_least_of T.F_least_of.kp T.b_least_of .nil pass0 (pa_cons (pe_tup (pa_cons pe_int (pa_cons (pv 1) (pa_cons (pe_op op_fdivN (pe_op op_sub (pv 1) (pv 0)) pe_int) pa_nil)))) pa_nil))))), ?_⟩
    refine qd_asgI (K := K) (ed_mod (ed_var rfl (.int _)) ed_int (by decide)) fun H1 e1 => ?_
    exact sd_ret (K := K) (ed_call (eda_cons (ed_tup (eda_cons ed_int (eda_cons (ed_var rfl (.int _)) (eda_cons (ed_fdiv (ed_sub (ed_var rfl (.int _)) (ed_var rfl (.int _))) ed_int ⟨by decide, by decide⟩) eda_nil)))) eda_nil) ⟨_, rfl, hu, rfl⟩) fun v H2 e2 hd => hQ v H2 (e1.trans e2) hd
/-! ### order_of -/
def p_order_of : List PyData → PyData → Prop := fun ds d => ∃ f : Fc.Form, ds = [dFm f] ∧ (Pl (Fc.disc f) f ∧ Fc.isDisc (Fc.disc f) = true) ∧ d = .int (Fc.order f : Nat)
theorem len_order_of {ds : List PyData} {d : PyData} (h : p_order_of ds d) : ds.length = 1 := by
  obtain ⟨f, rfl, _⟩ := h
  rfl
theorem ok_order_of (T : Txt K mg) : FnOk P w K mg base CX0 6 T.f_order_of T.fd_order_of ["form"] (spD K p_order_of) := by
  have G_discriminant := ok_discriminant (P := P) (w := w) (base := base) T
  have G_least_of := ok_least_of (P := P) (w := w) (base := base) T
  have G_product := ok_product (P := P) (w := w) (base := base) T
  have G_one_of := ok_one_of (P := P) (w := w) (base := base) T
  refine T.F_order_of.ok sc_order_of (fun vs H Q E h => ?_) (fun cdv A outer s H vs Q E hr h => ?_)
  · obtain ⟨ds, _, hv, hp, _⟩ := h
    rw [da_len hv]
    exact len_order_of hp
  · obtain ⟨ds, d, hv, hp, hQ⟩ := h
    obtain ⟨f, rfl, ⟨hpl, hd⟩, rfl⟩ := hp
    obtain ⟨v1, _, rfl, h1, hv⟩ := da_cons hv
    cases da_nil hv
    have hs := hpl.fit.ok.sm
    generalize hdg : Fc.disc f = D0 at *
    obtain ⟨o1, o2, o3, o4⟩ := order_is hd hpl
    generalize Fc.order f = o at *
    have il := hpl.il hd
    refine ⟨_, (pss_cons (ps_set (i := 1) sc_order_of.nd rfl (Or.inl rfl) (pe_call G_one_of (hr.mono (by decide)) rfl T.g_one_of T.F_one_of.kp T.b_one_of .nil pass0 (pa_cons (pe_call G_discriminant (hr.mono (by decide)) rfl T.g_discriminant T.F_discriminant.kp T.b_discriminant .nil pass0 (pa_cons (pv 0) pa_nil)) pa_nil)))
          (pss_cons (ps_set (i := 2) sc_order_of.nd rfl (Or.inl rfl) (pe_call G_least_of (hr.mono (by decide)) rfl T.g_least_of T.F_least_of.kp T.b_least_of .nil pass0 (pa_cons (pv 0) pa_nil)))
          (pss_cons (ps_set (i := 3) sc_order_of.nd rfl (Or.inl rfl) pe_int)
          (pss_cons (ps_while PassesOwn.never (pt_cmpR (op_neD hr.units) (pv 2) (pv 1) (nomark _))
          (pss_cons (ps_set (i := 2) sc_order_of.nd rfl (Or.inl rfl) (pe_call G_product (hr.mono (by decide)) rfl T.g_product T.F_product.kp T.b_product .nil pass0 (pa_cons (pv 2) (pa_cons (pv 0) pa_nil))))
          (pss_one (ps_aug (i := 3) sc_order_of.nd rfl (Or.inl rfl) pe_int ip_add))))
          (pss_one (ps_ret (pv 3))))))), ?_⟩
    refine qd_asg (K := K) (d := dFm (oneF D0)) (ed_call (eda_cons (ed_call (eda_cons (ed_var rfl h1) eda_nil) ⟨f, rfl, ⟨hs.2.1.wide, hs.2.2.wide⟩, rfl⟩) eda_nil) ⟨_, rfl, by rw [hdg]; exact hd, by rw [hdg]; rfl⟩) fun vo H1 e1 ho => ?_
    refine qd_asg (K := K) (d := dFm (Fc.least f)) (ed_call (eda_cons (ed_var rfl (Dp_mono e1 h1)) eda_nil) ⟨f, rfl, hpl.fit.ok, rfl⟩) fun vh H2 e2 hh => ?_
    refine qd_asgI (K := K) (n := ((1 : Nat) : Int)) ed_int fun H3 e3 => ?_
    refine q_while (fun m σ' H' => ∃ (k : Nat) (vh : V), σ' = [some v1, some vo, some vh, some (.int (k : Int))] ∧ Dp K H' vh (dFm (pw D0 (Fc.least f) k)) ∧ 0 < k ∧ k ≤ o ∧ o - k = m ∧ Ex H1 H') (o - 1) ⟨1, vh, rfl, by rw [pw_one hd il]; exact Dp_mono e3 hh, by decide, o1, rfl, e2.trans e3⟩ ?_
    rintro m σ' H' ⟨k, vh, rfl, hh, k0, k1, rfl, e'⟩
    have ho' := Dp_mono e' ho
    refine ⟨_, et_testD (K := K) (ed_neD (ed_var rfl hh) (ed_var rfl ho') (shaped_form _) (shaped_form _)), fun hb H4 e4 => ⟨_, fun _ _ q => q, ?_⟩, fun hb H4 e4 => ?_⟩
    · rw [eqv_form] at hb
      have hne : k ≠ o := fun z => by
        rw [z, o3, Fk.alike_iff.mpr rfl] at hb
        cases hb
      have ilk := pw_il hd il k
      obtain ⟨fx, dx, px⟩ := il_fit hd ilk
      refine qd_asg (K := K) (d := dFm (Fc.times (pw D0 (Fc.least f) k) f)) (ed_call (eda_cons (ed_var rfl (Dp_mono e4 hh)) (eda_cons (ed_var rfl (Dp_mono ((e1.trans e').trans e4) h1)) eda_nil)) ⟨_, f, rfl, ⟨fx, hpl.fit, by rw [dx, hpl.hd]⟩, rfl⟩) fun v2 H5 e5 h2 => ?_
      rw [times_pl hd ilk hpl] at h2
      refine s_aug (a := (k : Int)) (b := 1) rfl (EvD.ev (K := K) ed_int) fun H6 e6 => ?_
      exact ⟨o - (k + 1), by omega, k + 1, v2, rfl, Dp_mono e6 h2, by omega, by omega, rfl, ((e'.trans e4).trans e5).trans e6⟩
    · rw [eqv_form] at hb
      have heq : pw D0 (Fc.least f) k = oneF D0 := Fk.alike_iff.mp (by simpa using hb)
      have hko : k = o := by
        by_cases c : k = o
        · exact c
        · exact absurd heq (o4 k k0 (by omega))
      rw [← hko] at hQ
      exact sd_ret (K := K) (ed_var rfl (.int _)) fun v H5 e5 hd => hQ v H5 (((e1.trans e').trans e4).trans e5) hd
/-! ### reduced_forms_above -/
def p_reduced_forms_above : List PyData → List PyData → Prop := fun ds es => ∃ d : Int, ds = [.int d] ∧ (-20000 ≤ d ∧ d ≤ 20000 ∧ d ≠ 0) ∧ es = (FA d).map dFm
theorem len_reduced_forms_above {ds : List PyData} {d : List PyData} (h : p_reduced_forms_above ds d) : ds.length = 1 := by
  obtain ⟨t, rfl, _⟩ := h
  rfl
theorem range_flat {α : Type} (f : Nat → List α) (i : Nat) : (List.range (i + 1)).flatMap f = (List.range i).flatMap f ++ f i := by
  rw [List.range_succ, List.flatMap_append]
  simp
theorem kind_one {d a b : Int} (hd : d < 0) (ha : 0 < a) (h : (b * b - d) % (4 * a) = 0) : (kindN (candF d a b) = 1) ↔ Fc.plain (candF d a b) = true := by
  have e := cand_disc h
  unfold kindN
  rw [e]
  have h2 : ¬ 0 < d := by omega
  have h3 : 0 < (candF d a b).a := ha
  cases Fc.plain (candF d a b) <;> simp [h2, h3]
theorem cellA_le (d a b : Int) : (cellA d a b).length ≤ 1 := by
  unfold cellA
  split <;> simp
theorem flat_le {α : Type} (f : Nat → List α) (m : Nat) : ∀ n, (∀ i, i < n → (f i).length ≤ m) → ((List.range n).flatMap f).length ≤ n * m
  | 0, _ => by simp
  | n + 1, h => by
    rw [range_flat, List.length_append, Nat.succ_mul]
    have h1 := flat_le f m n fun i hi => h i (by omega)
    have h2 := h n (by omega)
    omega
theorem dF_cand {d a b : Int} (ha : a ≠ 0) (h : (b * b - d) % (4 * a) = 0) : dF a b ((b * b - d).fdiv (4 * a)) = dFm (candF d a b) := by
  have h2 := Int.mul_ediv_cancel' (Int.dvd_of_emod_eq_zero h)
  have h3 : (b * b - d).fdiv (4 * a) = (b * b - d) / (4 * a) := Fk.fdiv_exact ha h2.symm
  rw [h3]
  rfl
theorem fmod_zero {x y : Int} : x.fmod y = 0 ↔ x % y = 0 := by
  rw [← Int.dvd_iff_emod_eq_zero]
  exact Int.dvd_iff_fmod_eq_zero.symm
theorem ok_reduced_forms_above (T : Txt K mg) : FnOk P w K mg base CX0 4 T.f_reduced_forms_above T.fd_reduced_forms_above ["d"] (spN K p_reduced_forms_above) := by
  have G_root_of := ok_root_of (P := P) (w := w) (base := base) T
  have G_kind_of := ok_kind_of (P := P) (w := w) (base := base) T
  refine T.F_reduced_forms_above.ok sc_reduced_forms_above (fun vs H Q E h => ?_) (fun cdv A outer s H vs Q E hr h => ?_)
  · obtain ⟨ds, _, hv, hp, _⟩ := h
    rw [da_len hv]
    exact len_reduced_forms_above hp
  · obtain ⟨ds, d, hv, hp, hQ⟩ := h
    obtain ⟨d, rfl, ⟨hlo, hhi, hd0⟩, rfl⟩ := hp
    have hv := da_ints (ns := [d]) hv
    subst hv
    have hdiv : (0 - d).fdiv 3 = (0 - d) / 3 := Int.fdiv_eq_ediv_of_nonneg _ (by decide)
    have htop : topA d ≤ 81 ∧ -20000 ≤ topA d := by
      by_cases c : d < 0
      · have := topA_root c hlo
        omega
      · unfold topA
        rw [hdiv, Fk.rootI, if_pos (by omega)]
        omega
    have hneg : ∀ i : Nat, i < (topA d + 1 - 1).toNat → d < 0 := fun i hi => by
      by_cases c : d < 0
      · exact c
      · exfalso
        have : topA d = (0 - d) / 3 := by
          unfold topA
          rw [hdiv, Fk.rootI, if_pos (by omega)]
        omega
    have four : ∀ x : Int, CMul 4 x := fun x => .inl ⟨by decide, by decide⟩
    refine ⟨_, (pss_cons (ps_set (i := 1) sc_reduced_forms_above.nd rfl (Or.inl rfl) (pe_lst pa_nil))
          (pss_cons (ps_for PassesOwn.never rfl (pi_range2 (by rfl) T.z_range (pa_cons pe_int (pa_cons (pe_op op_add (pe_call G_root_of (hr.mono (by decide)) rfl T.g_root_of T.F_root_of.kp T.b_root_of .nil pass0 (pa_cons (pe_op op_fdivN (pe_op op_sub pe_int (pv 0)) pe_int) pa_nil)) pe_int) pa_nil))) (pg_name (i := 2) sc_reduced_forms_above.nd rfl (Or.inl rfl))
          (pss_one (ps_for PassesOwn.never rfl (pi_range2 (by rfl) T.z_range (pa_cons (pe_op op_sub pe_int (pv 2)) (pa_cons (pe_op op_add (pv 2) pe_int) pa_nil))) (pg_name (i := 3) sc_reduced_forms_above.nd rfl (Or.inl rfl))
          (pss_one (ps_if (pt_cmpR op_eq (pe_op op_modN (pe_op op_sub (pe_op op_mul (pv 3) (pv 3)) (pv 0)) (pe_op op_mul pe_int (pv 2))) pe_int (nomark _))
          (pss_cons (ps_set (i := 4) sc_reduced_forms_above.nd rfl (Or.inl rfl) (pe_tup (pa_cons (pv 2) (pa_cons (pv 3) (pa_cons (pe_op op_fdivN (pe_op op_sub (pe_op op_mul (pv 3) (pv 3)) (pv 0)) (pe_op op_mul pe_int (pv 2))) pa_nil)))))
          (pss_one (ps_if (PW.pt (pw_and (pt_cmpR op_ge (pe_ix ix_tup (pv 4) pe_int (fun _ _ => rfl)) (pv 2) (nomark _)) (pw_and (PW.pt (pw_or (pt_cmpR op_gt (pe_ix ix_tup (pv 4) pe_int (fun _ _ => rfl)) (pv 2) (nomark _)) (pw_or1 (pt_cmpR op_ge (pv 3) pe_int (nomark _))))) (pw_and1 (pt_cmpR op_eq (pe_call G_kind_of (hr.mono (by decide)) rfl T.g_kind_of T.F_kind_of.kp T.b_kind_of .nil pass0 (pa_cons (pv 4) pa_nil)) (pe_glob (v := .int 1) rfl T.k_ABOVE.choose_spec ⟨_, rfl⟩) (nomark _))))))
          (pss_one (ps_expr (pe_bm PySem.F.plainAttrs_list PySem.F.slot_list_append PySem.F.type_list_append mt_append (pv 1) (pa_cons (pv 4) pa_nil))))
          pss_nil)))
          pss_nil)))))
          (pss_one (ps_ret (pv 1))))), ?_⟩
    refine qd_asgN (K := K) (en_lst eda_nil) fun l xs H1 hl e1 hp1 hxs => ?_
    have hL : Lst K H l [] H1 := Lst.start hl e1 hp1 hxs rfl
    refine qd_forR2 (K := K) (lo := 1) (n := topA d + 1) (eda_cons ed_int (eda_cons (ed_add (ed_call (eda_cons (ed_fdiv (ed_sub ed_int (ed_var rfl (.int _))) ed_int ⟨by decide, by decide⟩) eda_nil) ⟨_, rfl, by rw [hdiv]; omega, rfl⟩) ed_int) eda_nil)) ⟨by decide, by decide, by omega, by omega⟩ fun H2 e2 => ?_
    refine ⟨fun i σ' H' => ∃ x2 x3 x4 : Option V, σ' = [some (.int d), some (.ref l), x2, x3, x4] ∧ Lst K H l (((List.range i).flatMap fun (i : Nat) => rowA d (1 + (i : Int))).map dFm) H', ⟨none, none, none, rfl, hL.mono e2⟩, ?_, ?_⟩
    · rintro i σ' H' hi ⟨x2, x3, x4, rfl, L⟩
      have hdn := hneg i hi
      have hpl : ((List.range i).flatMap fun (i : Nat) => rowA d (1 + (i : Int))).length ≤ i * 200 := flat_le _ 200 i fun k hk => by
        have := flat_le (fun (j : Nat) => cellA d (1 + (k : Int)) (1 - (1 + (k : Int)) + (j : Int))) 1 ((1 + (k : Int)) + 1 - (1 - (1 + (k : Int)))).toNat fun j _ => cellA_le _ _ _
        have e : rowA d (1 + (k : Int)) = (List.range ((1 + (k : Int)) + 1 - (1 - (1 + (k : Int)))).toNat).flatMap fun (j : Nat) => cellA d (1 + (k : Int)) (1 - (1 + (k : Int)) + (j : Int)) := rfl
        rw [e]
        omega
      have erow : rowA d (1 + (i : Int)) = (List.range ((1 + (i : Int)) + 1 - (1 - (1 + (i : Int)))).toNat).flatMap fun (j : Nat) => cellA d (1 + (i : Int)) (1 - (1 + (i : Int)) + (j : Int)) := rfl
      have hrow := range_flat (fun (i : Nat) => rowA d (1 + (i : Int))) i
      rw [erow] at hrow
      generalize (List.range i).flatMap (fun (i : Nat) => rowA d (1 + (i : Int))) = P0 at *
      have ha0 : 0 < 1 + (i : Int) := by omega
      have ha1 : 1 + (i : Int) ≤ 81 := by omega
      clear erow
      generalize 1 + (i : Int) = a at *
      refine sd_forR2 (K := K) (lo := 1 - a) (n := a + 1) (eda_cons (ed_sub ed_int (ed_var rfl (.int a))) (eda_cons (ed_add (ed_var rfl (.int a)) ed_int) eda_nil)) ⟨by omega, by omega, by omega, by omega⟩ fun H3 e3 => ?_
      refine ⟨fun j σ' H' => ∃ x3 x4 : Option V, σ' = [some (.int d), some (.ref l), some (.int a), x3, x4] ∧ Lst K H l ((P0 ++ (List.range j).flatMap fun (j : Nat) => cellA d a (1 - a + (j : Int))).map dFm) H', ⟨_, _, rfl, by rw [show (List.range 0).flatMap (fun (j : Nat) => cellA d a (1 - a + (j : Int))) = [] from rfl, List.append_nil]; exact L.mono e3⟩, ?_, fun σ' H' => ?_⟩
      · rintro j σ' H' hj ⟨x3, x4, rfl, L⟩
        have hcl := flat_le (fun (j : Nat) => cellA d a (1 - a + (j : Int))) 1 j fun _ _ => cellA_le _ _ _
        have hst : (P0 ++ (List.range (j + 1)).flatMap fun (j : Nat) => cellA d a (1 - a + (j : Int))).map dFm = (P0 ++ (List.range j).flatMap fun (j : Nat) => cellA d a (1 - a + (j : Int))).map dFm ++ (cellA d a (1 - a + (j : Int))).map dFm := by
          rw [range_flat, ← List.append_assoc, List.map_append]
        generalize hP1 : P0 ++ (List.range j).flatMap (fun (j : Nat) => cellA d a (1 - a + (j : Int))) = P1 at *
        have hlen : P1.length ≤ 90000 := by
          rw [← hP1, List.length_append]
          omega
        have hb1 : (1 - a + (j : Int)).natAbs ≤ a.natAbs := by omega
        have hbw : W64 (1 - a + (j : Int)) := by
          unfold W64
          omega
        generalize 1 - a + (j : Int) = b at *
        refine s_when (et_testD (K := K) (ed_eqI (ed_mod (ed_sub (ed_mul (ed_var rfl (.int b)) (ed_var rfl (.int b)) (.inl hbw)) (ed_var rfl (.int d))) (ed_mul ed_int (ed_var rfl (.int a)) (four _)) (by omega)) ed_int)) (fun hb H4 e4 => ?_) (fun hb H4 e4 => ?_)
        · have hdv : (b * b - d) % (4 * a) = 0 := fmod_zero.mp (of_decide_eq_true hb)
          have hsz : (candF d a b).c.natAbs ≤ 8192 := small_of_a (f := candF d a b) (by rw [cand_disc hdv]; omega) (by show a ≠ 0; omega) (by show a.natAbs ≤ 100; omega) hb1
          have hsm : SmF (candF d a b) := by
            rw [smF_iff]
            exact ⟨by show a.natAbs ≤ _; omega, by show b.natAbs ≤ _; omega, by omega⟩
          refine qd_asg (K := K) (d := dFm (candF d a b)) (ed_is (ed_tup (eda_cons (ed_var rfl (.int a)) (eda_cons (ed_var rfl (.int b)) (eda_cons (ed_fdiv (ed_sub (ed_mul (ed_var rfl (.int b)) (ed_var rfl (.int b)) (.inl hbw)) (ed_var rfl (.int d))) (ed_mul ed_int (ed_var rfl (.int a)) (four _)) ⟨by omega, by omega⟩) eda_nil)))) (dF_cand (by omega) hdv)) fun vf H5 e5 hf => ?_
          have hkd := kind_one (b := b) hdn ha0 hdv
          refine s_when (b := decide (a ≤ (candF d a b).c) && ((decide (a < (candF d a b).c) || decide (0 ≤ b)) && decide (kindN (candF d a b) = 1))) (et_and (et_testD (K := K) (ed_ge (ed_ixT (i := 2) (ed_var rfl hf) ed_int rfl rfl) (ed_var rfl (.int a)))) fun _ => et_and (et_or (et_testD (K := K) (ed_gt (ed_ixT (i := 2) (ed_var rfl hf) ed_int rfl rfl) (ed_var rfl (.int a)))) fun _ => et_testD (K := K) (ed_ge (ed_var rfl (.int b)) ed_int)) fun _ => et_testD (K := K) (ed_eqI (ed_call (eda_cons (ed_var rfl hf) eda_nil) ⟨_, rfl, hsm, rfl⟩) (ed_c (.int _)))) (fun hb2 H6 e6 => ?_) (fun hb2 H6 e6 => ?_)
          · have hcell : cellA d a b = [candF d a b] := by
              rw [Bool.and_eq_true, Bool.and_eq_true, Bool.or_eq_true, decide_eq_true_iff, decide_eq_true_iff, decide_eq_true_iff, decide_eq_true_iff] at hb2
              unfold cellA
              rw [if_pos ⟨hdv, hb2.1, hb2.2.1, hkd.mp hb2.2.2⟩]
            rw [hcell] at hst
            refine sd_app (K := K) (((L.mono e4).mono e5).mono e6) (ev_var rfl) (ed_var rfl (Dp_mono e6 hf)) rfl (by rw [List.length_map]; omega) fun H7 e7 L7 => ⟨_, _, rfl, by rw [hst]; exact L7⟩
          · have hcell : cellA d a b = [] := by
              unfold cellA
              rw [if_neg]
              rintro ⟨_, c1, c2, c3⟩
              rw [Bool.eq_false_iff] at hb2
              refine hb2 ?_
              rw [Bool.and_eq_true, Bool.and_eq_true, Bool.or_eq_true, decide_eq_true_iff, decide_eq_true_iff, decide_eq_true_iff, decide_eq_true_iff]
              exact ⟨c1, c2, hkd.mpr c3⟩
            rw [hcell, List.map_nil, List.append_nil] at hst
            exact ⟨_, _, rfl, by rw [hst]; exact ((L.mono e4).mono e5).mono e6⟩
        · have hcell : cellA d a b = [] := by
            unfold cellA
            rw [if_neg]
            rintro ⟨c0, _⟩
            exact (of_decide_eq_false hb) (fmod_zero.mpr c0)
          rw [hcell, List.map_nil, List.append_nil] at hst
          exact ⟨_, _, rfl, by rw [hst]; exact L.mono e4⟩
      · rintro ⟨x3, x4, rfl, L⟩
        exact ⟨_, _, _, rfl, by rw [hrow]; exact L⟩
    · rintro σ' H' ⟨x2, x3, x4, rfl, L⟩
      have L : Lst K H l ((FA d).map dFm) H' := L
      obtain ⟨l0, l1, l2, ys, l3, l4⟩ := L
      exact s_ret (ev_var rfl) fun H5 e5 => hQ l ys H5 l0 (l1.trans e5) (e5 _ _ l3) (DpAll_mono e5 l4)
/-! ### reduced_forms_both -/
def p_reduced_forms_both : List PyData → List PyData → Prop := fun ds es => ∃ d : Int, ds = [.int d] ∧ (0 < d ∧ d ≤ 20000 ∧ ∀ r : Int, r * r ≠ d) ∧ es = (FB (Fc.rootOf d.toNat : Int) d).map dFm
theorem len_reduced_forms_both {ds : List PyData} {d : List PyData} (h : p_reduced_forms_both ds d) : ds.length = 1 := by
  obtain ⟨t, rfl, _⟩ := h
  rfl
theorem pickB_le (w d b x : Int) : (pickB w d b x).length ≤ 1 := by
  unfold pickB
  split <;> simp
theorem cellB_le (w d b a : Int) : (cellB w d b a).length ≤ 2 := by
  unfold cellB
  have h1 := pickB_le w d b a
  have h2 := pickB_le w d b (0 - a)
  split
  · rw [List.length_append]
    omega
  · simp
theorem kind_zero (f : Fc.Form) (h : 0 < Fc.disc f) : (!decide (kindN f = 0)) = Fc.plain f := by
  unfold kindN
  cases Fc.plain f <;> simp [h]
theorem ok_reduced_forms_both (T : Txt K mg) : FnOk P w K mg base CX0 4 T.f_reduced_forms_both T.fd_reduced_forms_both ["d"] (spN K p_reduced_forms_both) := by
  have G_root_of := ok_root_of (P := P) (w := w) (base := base) T
  have G_kind_of := ok_kind_of (P := P) (w := w) (base := base) T
  have G_is_reduced := ok_is_reduced (P := P) (w := w) (base := base) T
  refine T.F_reduced_forms_both.ok sc_reduced_forms_both (fun vs H Q E h => ?_) (fun cdv A outer s H vs Q E hr h => ?_)
  · obtain ⟨ds, _, hv, hp, _⟩ := h
    rw [da_len hv]
    exact len_reduced_forms_both hp
  · obtain ⟨ds, d, hv, hp, hQ⟩ := h
    obtain ⟨d, rfl, ⟨h0, h20, hn⟩, rfl⟩ := hp
    have hv := da_ints (ns := [d]) hv
    subst hv
    have R := Fk.rt_of h0 (by omega) hn
    have hroot : Fk.rootI d = (Fc.rootOf d.toNat : Int) := Fk.rootI_nn (by omega)
    generalize (Fc.rootOf d.toNat : Int) = w' at *
    have hw := Fk.w_le R h20
    have hw0 := R.w0
    have four : ∀ x : Int, CMul 4 x := fun x => .inl ⟨by decide, by decide⟩
    refine ⟨_, (pss_cons (ps_set (i := 1) sc_reduced_forms_both.nd rfl (Or.inl rfl) (pe_call G_root_of (hr.mono (by decide)) rfl T.g_root_of T.F_root_of.kp T.b_root_of .nil pass0 (pa_cons (pv 0) pa_nil)))
          (pss_cons (ps_set (i := 2) sc_reduced_forms_both.nd rfl (Or.inl rfl) (pe_lst pa_nil))
          (pss_cons (ps_for PassesOwn.never rfl (pi_range2 (by rfl) T.z_range (pa_cons pe_int (pa_cons (pe_op op_add (pv 1) pe_int) pa_nil))) (pg_name (i := 3) sc_reduced_forms_both.nd rfl (Or.inl rfl))
          (pss_one (ps_for PassesOwn.never rfl (pi_range2 (by rfl) T.z_range (pa_cons pe_int (pa_cons (pe_op op_add (pv 1) pe_int) pa_nil))) (pg_name (i := 4) sc_reduced_forms_both.nd rfl (Or.inl rfl))
          (pss_one (ps_if (pt_cmpR op_eq (pe_op op_modN (pe_op op_sub (pe_op op_mul (pv 3) (pv 3)) (pv 0)) (pe_op op_mul pe_int (pv 4))) pe_int (nomark _))
          (pss_one (ps_for PassesOwn.never rfl (pi_tup (pe_tup (pa_cons (pv 4) (pa_cons (pe_op op_sub pe_int (pv 4)) pa_nil)))) (pg_name (i := 5) sc_reduced_forms_both.nd rfl (Or.inl rfl))
          (pss_cons (ps_set (i := 6) sc_reduced_forms_both.nd rfl (Or.inl rfl) (pe_tup (pa_cons (pv 5) (pa_cons (pv 3) (pa_cons (pe_op op_fdivN (pe_op op_sub (pe_op op_mul (pv 3) (pv 3)) (pv 0)) (pe_op op_mul pe_int (pv 5))) pa_nil)))))
          (pss_one (ps_if (PW.pt (pw_and (pt_val (pe_call G_is_reduced (hr.mono (by decide)) rfl T.g_is_reduced T.F_is_reduced.kp T.b_is_reduced .nil pass0 (pa_cons (pv 6) (pa_cons (pv 1) pa_nil)))) (pw_and1 (pt_cmpR op_ne (pe_call G_kind_of (hr.mono (by decide)) rfl T.g_kind_of T.F_kind_of.kp T.b_kind_of .nil pass0 (pa_cons (pv 6) pa_nil)) pe_int (nomark _)))))
          (pss_one (ps_expr (pe_bm PySem.F.plainAttrs_list PySem.F.slot_list_append PySem.F.type_list_append mt_append (pv 2) (pa_cons (pv 6) pa_nil))))
          pss_nil)))))
          pss_nil)))))
          (pss_one (ps_ret (pv 2)))))), ?_⟩
    refine qd_asgI (K := K) (n := w') (ed_is (ed_call (eda_cons (ed_var rfl (.int _)) eda_nil) ⟨d, rfl, by omega, rfl⟩) (by rw [hroot])) fun H0 e0 => ?_
    refine qd_asgN (K := K) (en_lst eda_nil) fun l xs H1 hl e1 hp1 hxs => ?_
    have hL : Lst K H0 l [] H1 := Lst.start hl e1 hp1 hxs rfl
    refine qd_forR2 (K := K) (lo := 1) (n := w' + 1) (eda_cons ed_int (eda_cons (ed_add (ed_var rfl (.int w')) ed_int) eda_nil)) ⟨by decide, by decide, by omega, by omega⟩ fun H2 e2 => ?_
    refine ⟨fun i σ' H' => ∃ x3 x4 x5 x6 : Option V, σ' = [some (.int d), some (.int w'), some (.ref l), x3, x4, x5, x6] ∧ Lst K H0 l (((List.range i).flatMap fun (i : Nat) => rowB w' d (1 + (i : Int))).map dFm) H', ⟨none, none, none, none, rfl, hL.mono e2⟩, ?_, ?_⟩
    · rintro i σ' H' hi ⟨x3, x4, x5, x6, rfl, L⟩
      have erow : ∀ k : Nat, rowB w' d (1 + (k : Int)) = (List.range (w' + 1 - 1).toNat).flatMap fun (j : Nat) => cellB w' d (1 + (k : Int)) (1 + (j : Int)) := fun k => rfl
      have hpl : ((List.range i).flatMap fun (i : Nat) => rowB w' d (1 + (i : Int))).length ≤ i * 282 := flat_le _ 282 i fun k hk => by
        have := flat_le (fun (j : Nat) => cellB w' d (1 + (k : Int)) (1 + (j : Int))) 2 (w' + 1 - 1).toNat fun j _ => cellB_le _ _ _ _
        rw [erow]
        omega
      have hrow := range_flat (fun (i : Nat) => rowB w' d (1 + (i : Int))) i
      rw [erow] at hrow
      generalize (List.range i).flatMap (fun (i : Nat) => rowB w' d (1 + (i : Int))) = P0 at *
      have hb0 : 0 < 1 + (i : Int) := by omega
      have hb1 : 1 + (i : Int) ≤ w' := by omega
      clear erow
      generalize 1 + (i : Int) = b at *
      have hbw : W64 b := by
        unfold W64
        omega
      refine sd_forR2 (K := K) (lo := 1) (n := w' + 1) (eda_cons ed_int (eda_cons (ed_add (ed_var rfl (.int w')) ed_int) eda_nil)) ⟨by decide, by decide, by omega, by omega⟩ fun H3 e3 => ?_
      refine ⟨fun j σ' H' => ∃ x4 x5 x6 : Option V, σ' = [some (.int d), some (.int w'), some (.ref l), some (.int b), x4, x5, x6] ∧ Lst K H0 l ((P0 ++ (List.range j).flatMap fun (j : Nat) => cellB w' d b (1 + (j : Int))).map dFm) H', ⟨_, _, _, rfl, by rw [show (List.range 0).flatMap (fun (j : Nat) => cellB w' d b (1 + (j : Int))) = [] from rfl, List.append_nil]; exact L.mono e3⟩, ?_, fun σ' H' => ?_⟩
      · rintro j σ' H' hj ⟨x4, x5, x6, rfl, L⟩
        have hcl := flat_le (fun (j : Nat) => cellB w' d b (1 + (j : Int))) 2 j fun _ _ => cellB_le _ _ _ _
        have hst : (P0 ++ (List.range (j + 1)).flatMap fun (j : Nat) => cellB w' d b (1 + (j : Int))).map dFm = (P0 ++ (List.range j).flatMap fun (j : Nat) => cellB w' d b (1 + (j : Int))).map dFm ++ (cellB w' d b (1 + (j : Int))).map dFm := by
          rw [range_flat, ← List.append_assoc, List.map_append]
        generalize hP1 : P0 ++ (List.range j).flatMap (fun (j : Nat) => cellB w' d b (1 + (j : Int))) = P1 at *
        have hlen : P1.length ≤ 90000 := by
          rw [← hP1, List.length_append]
          omega
        have ha0 : 0 < 1 + (j : Int) := by omega
        have ha1 : 1 + (j : Int) ≤ w' := by omega
        generalize 1 + (j : Int) = a at *
        refine s_when (et_testD (K := K) (ed_eqI (ed_mod (ed_sub (ed_mul (ed_var rfl (.int b)) (ed_var rfl (.int b)) (.inl hbw)) (ed_var rfl (.int d))) (ed_mul ed_int (ed_var rfl (.int a)) (four _)) (by omega)) ed_int)) (fun hb H4 e4 => ?_) (fun hb H4 e4 => ?_)
        · have hdv : (b * b - d) % (4 * a) = 0 := fmod_zero.mp (of_decide_eq_true hb)
          have hcell : cellB w' d b a = pickB w' d b a ++ pickB w' d b (0 - a) := if_pos hdv
          rw [hcell] at hst
          refine sd_forTup (K := K) (L.mono e4) (ed_tup (eda_cons (ed_var rfl (.int a)) (eda_cons (ed_sub ed_int (ed_var rfl (.int a))) eda_nil))) rfl fun Hb H5 eb1 eb2 e5 L5 => ?_
          refine ⟨fun n σ' H' => ∃ x5 x6 : Option V, σ' = [some (.int d), some (.int w'), some (.ref l), some (.int b), some (.int a), x5, x6] ∧ Lst K Hb l (P1.map dFm ++ ((if 0 < n then pickB w' d b a else []).map dFm ++ (if 1 < n then pickB w' d b (0 - a) else []).map dFm)) H', ⟨_, _, rfl, by rw [if_neg (by omega), if_neg (by omega), List.map_nil, List.append_nil, List.append_nil]; exact L5⟩, fun n σ' H' _ ⟨_, _, _, L⟩ => L.ex, ?_, fun σ' H' => ?_⟩
          · rintro n dx x σ' H' hdx hx ⟨x5, x6, rfl, L⟩
            obtain ⟨f, hx', hst2, f0, f1, hdf⟩ : ∃ f : Int, x = .int f ∧ (P1.map dFm ++ ((if 0 < n + 1 then pickB w' d b a else []).map dFm ++ (if 1 < n + 1 then pickB w' d b (0 - a) else []).map dFm) = (P1.map dFm ++ ((if 0 < n then pickB w' d b a else []).map dFm ++ (if 1 < n then pickB w' d b (0 - a) else []).map dFm)) ++ (pickB w' d b f).map dFm) ∧ f ≠ 0 ∧ (f.natAbs : Int) ≤ w' ∧ (b * b - d) % (4 * f) = 0 := by
              match n, hdx with
              | 0, hdx =>
                cases hdx
                cases dp_int hx
                exact ⟨a, rfl, by simp, by omega, by omega, hdv⟩
              | 1, hdx =>
                cases hdx
                cases dp_int hx
                refine ⟨0 - a, rfl, by simp, by omega, by omega, ?_⟩
                rw [show 4 * (0 - a) = -(4 * a) by omega, Int.emod_neg]
                exact hdv
              | n + 2, hdx => simp at hdx
            subst hx'
            have hpl2 : (P1.map dFm ++ ((if 0 < n then pickB w' d b a else []).map dFm ++ (if 1 < n then pickB w' d b (0 - a) else []).map dFm)).length ≤ 95000 := by
              have h1 := pickB_le w' d b a
              have h2 := pickB_le w' d b (0 - a)
              rw [List.length_append, List.length_append, List.length_map, List.length_map, List.length_map]
              split <;> split <;> (try simp only [List.length_nil]) <;> omega
            generalize P1.map dFm ++ ((if 0 < n then pickB w' d b a else []).map dFm ++ (if 1 < n then pickB w' d b (0 - a) else []).map dFm) = P2 at *
            have hdd := cand_disc hdf
            refine qd_asg (K := K) (d := dFm (candF d f b)) (ed_is (ed_tup (eda_cons (ed_var rfl (.int f)) (eda_cons (ed_var rfl (.int b)) (eda_cons (ed_fdiv (ed_sub (ed_mul (ed_var rfl (.int b)) (ed_var rfl (.int b)) (.inl hbw)) (ed_var rfl (.int d))) (ed_mul ed_int (ed_var rfl (.int f)) (four _)) ⟨by omega, by omega⟩) eda_nil)))) (dF_cand f0 hdf)) fun vf H6 e6 hf => ?_
            refine s_when (b := Fc.reduced w' (candF d f b) && Fc.plain (candF d f b)) (et_and (et_BD (K := K) (ed_call (eda_cons (ed_var rfl hf) (eda_cons (ed_var rfl (.int w')) eda_nil)) ⟨_, _, rfl, rfl⟩)) fun hr => ?_) (fun hb2 H7 e7 => ?_) (fun hb2 H7 e7 => ?_)
            · have hred := Fk.reduced_iff.mp hr
              have hsy := Fk.red_sym R hn hdd hred
              have q1 := hred.hi
              have q2 := hred.bw
              have q3 := hred.b0
              have hsm : SmF (candF d f b) := by
                rw [smF_iff]
                omega
              exact et_is (et_testD (K := K) (ed_neI (ed_call (eda_cons (ed_var rfl hf) eda_nil) ⟨_, rfl, hsm, rfl⟩) ed_int)) (kind_zero _ (by rw [hdd]; exact h0))
            · have hpk : pickB w' d b f = [candF d f b] := by
                rw [Bool.and_eq_true] at hb2
                exact if_pos hb2
              rw [hpk] at hst2
              exact sd_app (K := K) ((L.mono e6).mono e7) (ev_var rfl) (ed_var rfl (Dp_mono e7 hf)) rfl (by omega) fun H8 e8 L8 => ⟨_, _, rfl, by rw [hst2]; exact L8⟩
            · have hpk : pickB w' d b f = [] := if_neg fun z => by
                rw [z.1, z.2] at hb2
                cases hb2
              rw [hpk, List.map_nil, List.append_nil] at hst2
              exact ⟨_, _, rfl, by rw [hst2]; exact (L.mono e6).mono e7⟩
          · rintro ⟨x5, x6, rfl, L⟩
            refine ⟨_, _, _, rfl, ?_⟩
            rw [hst, List.map_append]
            exact L.back eb1
        · have hcell : cellB w' d b a = [] := if_neg fun c0 => (of_decide_eq_false hb) (fmod_zero.mpr c0)
          rw [hcell, List.map_nil, List.append_nil] at hst
          exact ⟨_, _, _, rfl, by rw [hst]; exact L.mono e4⟩
      · rintro ⟨x4, x5, x6, rfl, L⟩
        exact ⟨_, _, _, _, rfl, by rw [hrow]; exact L⟩
    · rintro σ' H' ⟨x3, x4, x5, x6, rfl, L⟩
      have L : Lst K H0 l ((FB w' d).map dFm) H' := L
      obtain ⟨l0, l1, l2, ys, l3, l4⟩ := L
      exact s_ret (ev_var rfl) fun H5 e5 => hQ l ys H5 (fresh_back e0 l0) ((e0.trans l1).trans e5) (e5 _ _ l3) (DpAll_mono e5 l4)
/-! ### classes_of -/
def p_classes_of : List PyData → List PyData → Prop := fun ds es => ∃ d : Int, ds = [.int d] ∧ Fc.isDisc d = true ∧ es = (Fc.classes d).map dFm
theorem len_classes_of {ds : List PyData} {d : List PyData} (h : p_classes_of ds d) : ds.length = 1 := by
  obtain ⟨t, rfl, _⟩ := h
  rfl
theorem setF_len {d : Int} (hd : Fc.isDisc d = true) : (setF d).length ≤ 40000 := by
  obtain ⟨h20, _, hn, h0⟩ := disc_facts hd
  unfold setF
  split
  · rename_i c
    have R := Fk.rt_of c (by omega) hn
    have hw := Fk.w_le R h20.2
    generalize (Fc.rootOf d.toNat : Int) = w at *
    have := flat_le (fun (i : Nat) => rowB w d (1 + (i : Int))) 282 (w + 1 - 1).toNat fun i _ => by
      have := flat_le (fun (j : Nat) => cellB w d (1 + (i : Int)) (1 + (j : Int))) 2 (w + 1 - 1).toNat fun j _ => cellB_le _ _ _ _
      have e : rowB w d (1 + (i : Int)) = (List.range (w + 1 - 1).toNat).flatMap fun (j : Nat) => cellB w d (1 + (i : Int)) (1 + (j : Int)) := rfl
      rw [e]
      omega
    have e : FB w d = (List.range (w + 1 - 1).toNat).flatMap fun (i : Nat) => rowB w d (1 + (i : Int)) := rfl
    rw [e]
    omega
  · have ht := topA_root (d := d) (by omega) h20.1
    have := flat_le (fun (i : Nat) => rowA d (1 + (i : Int))) 200 (topA d + 1 - 1).toNat fun i hi => by
      have := flat_le (fun (j : Nat) => cellA d (1 + (i : Int)) (1 - (1 + (i : Int)) + (j : Int))) 1 ((1 + (i : Int)) + 1 - (1 - (1 + (i : Int)))).toNat fun j _ => cellA_le _ _ _
      have e : rowA d (1 + (i : Int)) = (List.range ((1 + (i : Int)) + 1 - (1 - (1 + (i : Int)))).toNat).flatMap fun (j : Nat) => cellA d (1 + (i : Int)) (1 - (1 + (i : Int)) + (j : Int)) := rfl
      rw [e]
      omega
    have e : FA d = (List.range (topA d + 1 - 1).toNat).flatMap fun (i : Nat) => rowA d (1 + (i : Int)) := rfl
    rw [e]
    omega
theorem set_good {d : Int} (hd : Fc.isDisc d = true) {f : Fc.Form} (h : f ∈ setF d) : Good d f := by
  obtain ⟨h20, _, hn, h0⟩ := disc_facts hd
  unfold setF at h
  split at h
  · rename_i c
    exact (mem_FB (Fk.rt_of c (by omega) hn) hn c h20.2 h).1
  · exact mem_FA (by omega) h20.1 h
theorem classes_len {d : Int} (hd : Fc.isDisc d = true) : (Fc.classes d).length ≤ 26896 := by
  obtain ⟨h20, _, hn, h0⟩ := disc_facts hd
  obtain ⟨u1, u2⟩ := specRow hd
  have hnd : (Fc.classes d).Nodup := List.Pairwise.imp (fun {a b} h e => by
    rw [e, Fk.before_irrefl] at h
    cases h) u1
  have hl := flat_le (fun (k : Nat) => (List.range 164).map (fun (i : Nat) => candF d ((k : Int) + 1) ((i : Int) - 81)) ++ (List.range 164).map (fun (i : Nat) => candF d (-((k : Int) + 1)) ((i : Int) - 81))) 328 82 fun k _ => by
    rw [List.length_append, List.length_map, List.length_map, List.length_range]
    decide
  refine Nat.le_trans (List.Nodup.length_le_of_subset hnd fun x hx => ?_) hl
  obtain ⟨hg, he⟩ := (u2 x).mp hx
  obtain ⟨b1, b2, b3, b4, _⟩ := least_bounds hg.ok (by rw [hg.hd]; exact h20.1)
  rw [he, hg.hd] at *
  have ha : x.a.natAbs ≤ 81 := by
    by_cases c : x.a.natAbs ≤ 81
    · exact c
    · exfalso
      have := Nat.mul_le_mul (show 82 ≤ x.a.natAbs by omega) (show 82 ≤ x.a.natAbs by omega)
      omega
  obtain ⟨e1, _⟩ := cand_of (f := x) b1
  rw [hg.hd] at e1
  refine List.mem_flatMap.mpr ⟨x.a.natAbs - 1, List.mem_range.mpr (by omega), List.mem_append.mpr ?_⟩
  have eb : (((x.b + 81).toNat : Nat) : Int) - 81 = x.b := by omega
  rcases Fk.abs_cases x.a with c | c
  · left
    have ea : ((x.a.natAbs - 1 : Nat) : Int) + 1 = x.a := by omega
    exact List.mem_map.mpr ⟨(x.b + 81).toNat, List.mem_range.mpr (by omega), by rw [ea, eb, ← e1]⟩
  · right
    have ea : -(((x.a.natAbs - 1 : Nat) : Int) + 1) = x.a := by omega
    exact List.mem_map.mpr ⟨(x.b + 81).toNat, List.mem_range.mpr (by omega), by rw [ea, eb, ← e1]⟩
def pairG : PyData → PyData := fun d => match d with
  | .tuple [.int a, .int b, .int c] => .tuple [dTu (toL (Fc.least ⟨a, b, c⟩)), .bool true]
  | _ => .none
theorem sd_asgN {K : PySem.W.Frag} {σ : L2.St} {H : Hp} {te : TE} {D : Ends} {ds : List PyData} {i : Nat} (h : EvN K te σ H ds) (k : ∀ p xs H1, H p = none → Ex H H1 → H1 p = some (.lst xs) → DpAll K H1 xs ds → D.nx (σ.set i (some (.ref p))) H1) : tAsg te (gName i) D σ H := h H (Ex.refl H) _ fun p xs H2 hn e hp hv => k p xs H2 hn e hp hv
theorem ed_sortD {K : PySem.W.Frag} {σ : L2.St} {H : Hp} {te : TE} {f d : Addr} {pre : List PyData → PyData → Prop} {xs : List V} {us : List Value} {ds ks : List PyData} (h : Ev te σ H (.ref d)) (hd : H d = some (KeyD d us)) (hxs : Vals xs us) (hds : DpAll K H xs ds) (hlen : ks.length = ds.length)
    (hp : ∀ i, i < ds.length → pre [ds.getD i .none] (ks.getD i .none)) (ha : PySem.W.AllAlike ks) (hsk : PySem.W.Sortable ks) (hdep : ∀ d ∈ ks, d.depth ≤ 8) :
    EvN K (tCKw (rSortD K f pre) (tCons te tNil) (tCons (tC (.ref f)) tNil)) σ H (((ds.zip ks).mergeSort (PySem.W.dataLe false (·.2))).map (·.1)) := fun H1 e Q q =>
  h H1 e _ fun H2 e2 => ⟨d, xs, us, ds, ks, rfl, rfl, (e.trans e2) _ _ hd, hxs, DpAll_mono (e.trans e2) hds, hlen, hp, ha, hsk, hdep, fun p out H' hp e3 ho dd => q p out H' (fresh_back e2 hp) (e2.trans e3) ho dd⟩
theorem qd_dictT {K : PySem.W.Frag} {σ : L2.St} {H : Hp} {te : TE} {tz : TS} {D : Ends} {i : Nat} {ks : List (List Int)} {d : PyData} (h : EvD K te σ H d) (hd : d = .list (ks.map fun k => .tuple [dTu k, .bool true])) (k : ∀ p us vs H1, Ex H H1 → H1 p = some (KeyD p us) → Vals vs us → DpAll K H1 vs ((firsts ks).map dTu) → tz D (σ.set i (some (.ref p))) H1) :
    tSeq (tAsg (tCB (rDictT K) (tCons te tNil)) (gName i)) tz D σ H := h H (Ex.refl H) _ fun v H2 e hv => by
  subst hd
  obtain ⟨a, xs, rfl, hs, ha⟩ := dp_list hv
  exact ⟨a, ks, rfl, hv, fun p us vs hp hvs hda => k p us vs _ (e.trans (Ex.new hp)) upd_same hvs hda⟩
theorem ok_classes_of (T : Txt K mg) : FnOk P w K mg base CX0 5 T.f_classes_of T.fd_classes_of ["d"] (spN K p_classes_of) := by
  have G_place := ok_place (P := P) (w := w) (base := base) T
  have G_least_of := ok_least_of (P := P) (w := w) (base := base) T
  have G_reduced_forms_above := ok_reduced_forms_above (P := P) (w := w) (base := base) T
  have G_reduced_forms_both := ok_reduced_forms_both (P := P) (w := w) (base := base) T
  refine T.F_classes_of.ok sc_classes_of (fun vs H Q E h => ?_) (fun cdv A outer s H vs Q E hr h => ?_)
  · obtain ⟨ds, _, hv, hp, _⟩ := h
    rw [da_len hv]
    exact len_classes_of hp
  · obtain ⟨ds, d, hv, hp, hQ⟩ := h
    obtain ⟨d, rfl, hd, rfl⟩ := hp
    have hv := da_ints (ns := [d]) hv
    subst hv
    obtain ⟨h20, _, hn, h0⟩ := disc_facts hd
    have hrow := rowP hd
    refine ⟨_, (pss_cons (ps_set (i := 1) sc_classes_of.nd rfl (Or.inl rfl) (pe_call G_reduced_forms_above (hr.mono (by decide)) rfl T.g_reduced_forms_above T.F_reduced_forms_above.kp T.b_reduced_forms_above .nil pass0 (pa_cons (pv 0) pa_nil)))
          (pss_cons (ps_if (pt_cmpR op_gt (pv 0) pe_int (nomark _))
          (pss_one (ps_set (i := 1) sc_classes_of.nd rfl (Or.inl rfl) (pe_call G_reduced_forms_both (hr.mono (by decide)) rfl T.g_reduced_forms_both T.F_reduced_forms_both.kp T.b_reduced_forms_both .nil pass0 (pa_cons (pv 0) pa_nil))))
          pss_nil)
          (pss_cons (ps_set (i := 2) sc_classes_of.nd rfl (Or.inl rfl) (pe_callTy (T := "dict") (r := rDictT K) (cr_dictT (k := 0) rfl (hr.mono (by decide))) (by rfl) T.z_dict (by decide +kernel) (pa_cons (pe_lc (own := [("form", 3)]) (g := gName 3) (tt := tYes) rfl sc_classes_of.nd (pi_list (pv 1)) (blkOk_by (own := [("form", 3)]) (N := ["d", "some", "known", "form"]) (sc := defScope s_classes_of) (by decide +kernel)) (fun _ _ _ _ _ => pg_name (i := 3) sc_classes_of.nd rfl (Or.inl rfl)) (fun _ _ _ _ _ => pts_nil) (fun _ _ _ _ _ => (pe_tup (pa_cons (pe_call G_least_of (hr.mono (by decide)) rfl T.g_least_of T.F_least_of.kp T.b_least_of .nil pass0 (pa_cons (pv 3) pa_nil)) (pa_cons pe_bl pa_nil))))) pa_nil)))
          (pss_one (ps_ret (pe_callBK (cr_sortD rfl G_place (hr.mono (by decide)) T.b_place) (by rfl) T.z_sorted (by decide +kernel) (pa_cons (pv 2) pa_nil) (pk_cons (pe_glob (v := .ref T.f_place) rfl T.g_place rfl) pk_nil))))))), ?_⟩
    refine qd_asgN (K := K) (en_call (eda_cons (ed_var rfl (.int d)) eda_nil) ⟨d, rfl, ⟨h20.1, h20.2, h0⟩, rfl⟩) fun l xs H1 hl e1 hp1 hxs => ?_
    have go : ∀ (v : V) (H2 : Hp), Ex H H2 → Dp K H2 v (.list ((setF d).map dFm)) → tSeq (tAsg (tCB (rDictT K) (tCons (tLc (iList K (tVar 1)) (gName 3) tYes (tTup (tCons (tCall (spD K p_least_of) [] E0 (tCons (tVar 3) tNil)) (tCons (tC (.bl true)) tNil))) [3]) tNil)) (gName 2)) (tRet (tCKw (rSortD K T.f_place p_place) (tCons (tVar 2) tNil) (tCons (tC (.ref T.f_place)) tNil))) { nx := fun x H' => Q V.non H', rt := Q } [some (.int d), some v, none, none] H2 := fun v H2 e2 hv => by
      refine qd_dictT (K := K) (ks := (setF d).map fun f => toL (Fc.least f)) (EvN.toD (en_mapL pairG (ed_var rfl hv) (by rw [List.length_map]; exact setF_len hd) (fun _ => rfl) ?_ ?_)) ?_ fun p us vs H3 e3 hp hvs hda => ?_
      · intro x hx
        obtain ⟨z, _, rfl⟩ := List.mem_map.mp hx
        rfl
      · intro x y H3 hx e3 hy
        obtain ⟨z, hz, rfl⟩ := List.mem_map.mp hx
        exact ed_tup (eda_cons (ed_call (eda_cons (ed_var rfl hy) eda_nil) ⟨z, rfl, (set_good hd hz).ok, rfl⟩) (eda_cons ed_bl eda_nil))
      · rw [List.map_map, List.map_map]
        rfl
      · have hk : ∀ k ∈ keysP d, ∃ f, k = toL f := fun k hk => by
          obtain ⟨f, _, e⟩ := keys_form hk
          exact ⟨_, e⟩
        have hda : DpAll K H3 vs ((keysP d).map dTu) := hda
        refine sd_retN (K := K) (ed_sortD (ks := (keysP d).map placeL) (ev_var rfl) hp hvs hda (by rw [List.length_map, List.length_map]) ?_ ?_ ?_ ?_) fun q ys H4 hq e4 h4 h5 => ?_
        · intro i hi
          rw [List.length_map] at hi
          obtain ⟨f, hf⟩ := hk _ (List.getElem_mem hi)
          refine ⟨f, ?_, ?_⟩
          · rw [List.getD_eq_getElem?_getD, List.getElem?_map, List.getElem?_eq_getElem hi]
            show [dTu (keysP d)[i]] = _
            rw [hf]
            rfl
          · rw [List.getD_eq_getElem?_getD, List.getElem?_map, List.getElem?_eq_getElem hi]
            show placeL (keysP d)[i] = _
            rw [hf]
            rfl
        · intro x hx y hy
          obtain ⟨k, _, rfl⟩ := List.mem_map.mp hx
          obtain ⟨k', _, rfl⟩ := List.mem_map.mp hy
          exact alike_tup rfl
        · refine .inl fun x hx => ?_
          obtain ⟨k, _, rfl⟩ := List.mem_map.mp hx
          exact ⟨_, _, rfl⟩
        · intro x hx
          obtain ⟨k, _, rfl⟩ := List.mem_map.mp hx
          unfold placeL
          rw [depth_tup]
          decide
        · rw [hrow] at h5
          exact hQ q ys H4 (fresh_back (e2.trans e3) hq) ((e2.trans e3).trans e4) h4 h5
    refine q_if (et_testD (K := K) (ed_gt (ed_var rfl (.int d)) ed_int)) (fun hb H2 e2 => ?_) (fun hb H2 e2 => ?_)
    · have hpos := of_decide_eq_true hb
      refine sd_asgN (K := K) (en_call (eda_cons (ed_var rfl (.int d)) eda_nil) ⟨d, rfl, ⟨hpos, h20.2, hn⟩, rfl⟩) fun l3 xs3 H3 hl3 e3 hp3 hxs3 => ?_
      refine go _ H3 ((e1.trans e2).trans e3) ?_
      rw [show setF d = FB (Fc.rootOf d.toNat : Int) d from if_pos hpos]
      exact .lst (sq_of hp3) hxs3
    · have hneg := of_decide_eq_false hb
      refine go _ H2 (e1.trans e2) ?_
      rw [show setF d = FA d from if_neg hneg]
      exact Dp_mono e2 (.lst (sq_of hp1) hxs)
/-! ### primes_of -/
abbrev dN (n : Nat) : PyData := .int (n : Int)
theorem lfs_nats (l : List Nat) : lfs (l.map dN) = true := lfs_of fun d h => by
  obtain ⟨n, _, rfl⟩ := List.mem_map.mp h
  rfl
def p_primes_of : List PyData → List PyData → Prop := fun ds es => ∃ n : Nat, ds = [dN n] ∧ (0 < n ∧ n ≤ 65536) ∧ es = (Fc.primesOf n).map dN
theorem len_primes_of {ds : List PyData} {d : List PyData} (h : p_primes_of ds d) : ds.length = 1 := by
  obtain ⟨n, rfl, _⟩ := h
  rfl
theorem filt_le (f : Nat → Bool) (q : Nat) : ((List.range q).filter f).length ≤ q := by
  have := List.length_filter_le f (List.range q)
  rwa [List.length_range] at this
theorem ok_primes_of (T : Txt K mg) : FnOk P w K mg base CX0 1 T.f_primes_of T.fd_primes_of ["number"] (spN K p_primes_of) := by
  refine T.F_primes_of.ok sc_primes_of (fun vs H Q E h => ?_) (fun cdv A outer s H vs Q E hr h => ?_)
  · obtain ⟨ds, _, hv, hp, _⟩ := h
    rw [da_len hv]
    exact len_primes_of hp
  · obtain ⟨ds, d, hv, hp, hQ⟩ := h
    obtain ⟨n, rfl, ⟨n0, n1⟩, rfl⟩ := hp
    have hv := da_ints (ns := [(n : Int)]) hv
    subst hv
    refine ⟨_, (pss_cons (ps_set (i := 1) sc_primes_of.nd rfl (Or.inl rfl) (pe_lst pa_nil))
          (pss_cons (ps_set (i := 2) sc_primes_of.nd rfl (Or.inl rfl) pe_int)
          (pss_cons (ps_while PassesOwn.never (pt_cmpR op_le (pe_op op_mul (pv 2) (pv 2)) (pv 0) (nomark _))
          (pss_cons (ps_if (pt_cmpR op_eq (pe_op op_modN (pv 0) (pv 2)) pe_int (nomark _))
          (pss_cons (ps_expr (pe_bm PySem.F.plainAttrs_list PySem.F.slot_list_append PySem.F.type_list_append mt_append (pv 1) (pa_cons (pv 2) pa_nil)))
          (pss_one (ps_while PassesOwn.never (pt_cmpR op_eq (pe_op op_modN (pv 0) (pv 2)) pe_int (nomark _))
          (pss_one (ps_aug (i := 0) sc_primes_of.nd rfl (Or.inl rfl) (pv 2) iop_fdiv)))))
          pss_nil)
          (pss_one (ps_aug (i := 2) sc_primes_of.nd rfl (Or.inl rfl) pe_int ip_add))))
          (pss_one (ps_ret (pe_op op_cat (pv 1) (pe_op op_rep (pe_lst (pa_cons (pv 0) pa_nil)) (pe_callTy (T := "int") (r := rInt1) call_int1 (by rfl) T.z_int (by decide +kernel) (pa_cons (pe_cmpR op_gt (pv 0) pe_int (nomark _)) pa_nil))))))))), ?_⟩
    refine qd_asgN (K := K) (en_lst eda_nil) fun l xs H1 hl e1 hp1 hxs => ?_
    have hL : Lst K H l [] H1 := Lst.start hl e1 hp1 hxs rfl
    refine qd_asgI (K := K) (n := ((2 : Nat) : Int)) ed_int fun H2 e2 => ?_
    refine q_while (fun m σ' H' => ∃ x q : Nat, σ' = [some (.int (x : Int)), some (.ref l), some (.int (q : Int))] ∧ Fn.PSt n x q ∧ q ≤ n + 2 ∧ Lst K H l (((List.range q).filter (Fn.tst n)).map dN) H' ∧ n + 2 - q = m) n ⟨n, 2, rfl, Fn.PSt.start n0, by omega, hL.mono e2, by omega⟩ ?_
    rintro m σ' H' ⟨x, q, rfl, P, hq, L, rfl⟩
    have q2 := P.q2
    have hxn := P.mn
    have cm : CMul (q : Int) (q : Int) := .inl ⟨by omega, by omega⟩
    have hm : ∀ y : Nat, decide (((y : Int).fmod (q : Int)) = 0) = decide (y % q = 0) := fun y => by
      rw [Fk.fmod_nat]
      exact decide_eq_decide.mpr (by omega)
    refine ⟨_, et_testD (K := K) (ed_le (ed_mul (ed_var rfl (.int _)) (ed_var rfl (.int _)) cm) (ed_var rfl (.int _))), fun hb H3 e3 => ⟨_, fun _ _ q => q, ?_⟩, fun hb H3 e3 => ?_⟩
    · have hle : q * q ≤ x := by
        have := of_decide_eq_true hb
        rw [← Int.natCast_mul] at this
        omega
      have hqx : q ≤ x := Nat.le_trans (Nat.le_mul_of_pos_right q (by omega)) hle
      refine q_when (b := decide (x % q = 0)) (et_is (et_testD (K := K) (ed_eqI (ed_mod (ed_var rfl (.int (x : Int))) (ed_var rfl (.int (q : Int))) (by omega)) ed_int)) (hm x)) (fun hb2 H4 e4 => ?_) (fun hb2 H4 e4 => ?_)
      · have dv := Nat.dvd_of_mod_eq_zero (of_decide_eq_true hb2)
        obtain ⟨pq, tq⟩ := P.yes dv
        have hmore : ((List.range (q + 1)).filter (Fn.tst n)).map dN = ((List.range q).filter (Fn.tst n)).map dN ++ [dN q] := by
          rw [Fn.filt_succ, tq, if_pos rfl, List.map_append]
          rfl
        refine qd_app (K := K) ((L.mono e3).mono e4) (ev_var rfl) (d := dN q) (ed_var rfl (.int _)) rfl ?_ fun H5 e5 L5 => ?_
        · rw [List.length_map]
          have := filt_le (Fn.tst n) q
          omega
        rw [← hmore] at L5
        refine s_while (fun m σ' H' => ∃ y : Nat, σ' = [some (.int (y : Int)), some (.ref l), some (.int (q : Int))] ∧ Fn.PIn x q y ∧ Lst K H l (((List.range (q + 1)).filter (Fn.tst n)).map dN) H' ∧ y = m) x ⟨x, rfl, Fn.PIn.start P.m0, L5, rfl⟩ ?_
        rintro m σ' H' ⟨y, rfl, I, L, rfl⟩
        refine ⟨decide (y % q = 0), et_is (et_testD (K := K) (ed_eqI (ed_mod (ed_var rfl (.int (y : Int))) (ed_var rfl (.int (q : Int))) (by omega)) ed_int)) (hm y), fun hb3 H6 e6 => ⟨_, fun _ _ q => q, ?_⟩, fun hb3 H6 e6 => ?_⟩
        · obtain ⟨I2, lt⟩ := I.go pq (Nat.dvd_of_mod_eq_zero (of_decide_eq_true hb3))
          exact sd_augC (K := K) (a := (y : Int)) (b := (q : Int)) rfl (ed_var rfl (.int _)) ⟨by omega, by omega⟩ fun H7 e7 => ⟨y / q, lt, y / q, rfl, I2, (L.mono e6).mono e7, rfl⟩
        · have nd : ¬ q ∣ y := fun z => (of_decide_eq_false hb3) (Nat.mod_eq_zero_of_dvd z)
          exact s_aug (a := (q : Int)) (b := 1) rfl (EvD.ev (K := K) ed_int) fun H7 e7 => ⟨n + 2 - (q + 1), by omega, y, q + 1, rfl, I.stop P pq nd, by omega, (L.mono e6).mono e7, rfl⟩
      · have nd : ¬ q ∣ x := fun z => (of_decide_eq_false hb2) (Nat.mod_eq_zero_of_dvd z)
        have hmore : (List.range (q + 1)).filter (Fn.tst n) = (List.range q).filter (Fn.tst n) := by
          rw [Fn.filt_succ, P.no nd, if_neg Bool.false_ne_true, List.append_nil]
        exact s_aug (a := (q : Int)) (b := 1) rfl (EvD.ev (K := K) ed_int) fun H7 e7 => ⟨n + 2 - (q + 1), by omega, x, q + 1, rfl, P.skip nd, by omega, by rw [hmore]; exact ((L.mono e3).mono e4).mono e7, rfl⟩
    · have hlt : x < q * q := by
        have := of_decide_eq_false hb
        rw [← Int.natCast_mul] at this
        omega
      have hes : (Fc.primesOf n).map dN = ((List.range q).filter (Fn.tst n)).map dN ++ (if decide (1 < x) = true then [dN x] else []) := by
        rw [P.fin hlt, List.map_append]
        congr 1
        by_cases c : 1 < x
        · rw [if_pos c, if_pos (decide_eq_true c)]
          rfl
        · rw [if_neg c, if_neg (by rw [decide_eq_false c]; exact Bool.false_ne_true)]
          rfl
      rw [hes] at hQ
      have hgt : decide ((1 : Int) < (x : Int)) = decide (1 < x) := decide_eq_decide.mpr (by omega)
      refine sd_retN (K := K) (en_catM (em_var (L.mono e3) rfl) (EvN.toM (en_repB (b := decide (1 < x)) (en_lst (eda_cons (ed_var rfl (.int (x : Int))) eda_nil)) (ed_intB (ed_is (ed_gt (ed_var rfl (.int (x : Int))) ed_int) (congrArg PyData.bool hgt))))) ?_) fun p ys H4 hn e4 hp4 hd => ?_
      · have := filt_le (Fn.tst n) q
        rw [List.length_map]
        split <;> simp <;> omega
      · exact hQ p ys H4 (fresh_back (L.ex.trans e3) hn) ((L.ex.trans e3).trans e4) hp4 hd
/-! ### parts_by -/
structure PartsOk (os : List Nat) (p : Nat) : Prop where
  pr : Fn.Pr p
  ps : p ≤ 65535
  n0 : 0 < os.length
  n1 : os.length ≤ 6642
  pos : ∀ o ∈ os, 0 < o
  rk : ∃ r, Fn.Rk os p r
def p_parts_by : List PyData → List PyData → Prop := fun ds es => ∃ (os : List Nat) (p : Nat), ds = [.list (os.map dN), dN p] ∧ PartsOk os p ∧ es = (Fn.rowOf p (Fc.ranks os p)).map dN
theorem len_parts_by {ds : List PyData} {d : List PyData} (h : p_parts_by ds d) : ds.length = 2 := by
  obtain ⟨n, q, rfl, _⟩ := h
  rfl
theorem kept_cnt (q : Nat) : ∀ os : List Nat, (Kept (fun d => match d with | .int n => decide (((q : Int).fmod n) = 0) | _ => false) (fun d => d) (os.map dN)).length = (os.filter fun o => q % o == 0).length
  | [] => rfl
  | o :: os => by
    have ih := kept_cnt q os
    unfold Kept at *
    rw [List.length_map] at *
    rw [List.map_cons, List.filter_cons, List.filter_cons]
    have e : (match dN o with | .int n => decide (((q : Int).fmod n) = 0) | _ => false) = (q % o == 0) := by
      show decide (((q : Int).fmod (o : Int)) = 0) = (q % o == 0)
      rw [Fk.fmod_nat, Bool.beq_eq_decide_eq]
      exact decide_eq_decide.mpr (by omega)
    rw [e]
    cases (q % o == 0) with
    | true =>
      rw [if_pos rfl, if_pos rfl, List.length_cons, List.length_cons, ih]
    | false =>
      rw [if_neg Bool.false_ne_true, if_neg Bool.false_ne_true, ih]
/-- len([order for order in orders if power % order == 0]) -/
theorem ed_count {K : PySem.W.Frag} {H : Hp} {vo : V} {os : List Nat} {q : Nat} {a1 a2 a4 a5 a6 a7 a8 : Option V} (hv : Dp K H vo (.list (os.map dN))) (hz : os.length ≤ 40000) (hp : ∀ o ∈ os, 0 < o) :
    EvD K (tCB (rLenS K) (tCons (tLc (iList K (tVar 0)) (gName 8) (tTest (tOp rEq (tOp (rI (fun _ j => j ≠ 0) fun i j => .int (i.fmod j)) (tVar 3) (tVar 8)) (tC (.int 0)))) (tVar 8) [8]) tNil)) [some vo, a1, a2, some (.int (q : Int)), a4, a5, a6, a7, a8] H (dN (os.filter fun o => q % o == 0).length) := by
  refine ed_is (ed_len (EvN.toD (en_lcL (fun d => match d with | .int n => decide (((q : Int).fmod n) = 0) | _ => false) (fun d => d) (ed_var rfl hv) (by rw [List.length_map]; exact hz) (fun _ => rfl) ?_ ?_ ?_)) (.inl rfl)) (by rw [kept_cnt])
  · intro d hd
    obtain ⟨o, _, rfl⟩ := List.mem_map.mp hd
    rfl
  · intro d x H1 hd e1 hx
    obtain ⟨o, ho, rfl⟩ := List.mem_map.mp hd
    have := hp o ho
    exact et_testD (K := K) (ed_eqI (ed_mod (ed_var rfl (.int (q : Int))) (ed_var rfl hx) (by omega)) ed_int)
  · intro d x H1 hd e1 hx _
    exact ed_var rfl hx
theorem ok_parts_by (T : Txt K mg) : FnOk P w K mg base CX0 1 T.f_parts_by T.fd_parts_by ["orders", "prime"] (spN K p_parts_by) := by
  refine T.F_parts_by.ok sc_parts_by (fun vs H Q E h => ?_) (fun cdv A outer s H vs Q E hr h => ?_)
  · obtain ⟨ds, _, hv, hp, _⟩ := h
    rw [da_len hv]
    exact len_parts_by hp
  · obtain ⟨ds, d, hv, hp, hQ⟩ := h
    obtain ⟨os, p, rfl, ⟨pr, ps, n0, n1, pos, ⟨r, R⟩⟩, rfl⟩ := hp
    obtain ⟨vo, _, rfl, ho, hv⟩ := da_cons hv
    obtain ⟨v2, _, rfl, h2, hv⟩ := da_cons hv
    cases da_nil hv
    cases dp_int h2
    have p2 := pr.1
    have hn : os.length < 2 ^ 16 := by omega
    have cle : ∀ k, Fn.cnt os p k ≤ 6642 := fun k => Nat.le_trans (R.le n0 k) n1
    refine ⟨_, (pss_cons (ps_set (i := 2) sc_parts_by.nd rfl (Or.inl rfl) (pe_lst pa_nil))
          (pss_cons (ps_set (i := 3) sc_parts_by.nd rfl (Or.inr rfl) (pv 1))
          (pss_cons (ps_set (i := 4) sc_parts_by.nd rfl (Or.inl rfl) pe_int)
          (pss_cons (ps_set (i := 5) sc_parts_by.nd rfl (Or.inl rfl) (pe_callB call_len_seq (by rfl) T.z_len (by decide +kernel) (pa_cons (pe_lc (own := [("order", 8)]) (g := gName 8) rfl sc_parts_by.nd (pi_list (pv 0)) (blkOk_by (own := [("order", 8)]) (N := ["orders", "prime", "found", "power", "before", "many", "place_of_part", "left", "order"]) (sc := defScope s_parts_by) (by decide +kernel)) (fun _ _ _ _ _ => pg_name (i := 8) sc_parts_by.nd rfl (Or.inl rfl)) (fun _ _ _ _ _ => (pts_one (pt_cmpR op_eq (pe_op op_modN (pv 3) (pv 8)) pe_int (nomark _)))) (fun _ _ _ _ _ => (pv 8))) pa_nil)))
          (pss_cons (ps_while PassesOwn.never (pt_cmpR op_gt (pv 5) (pv 4) (nomark _))
          (pss_cons (ps_set (i := 6) sc_parts_by.nd rfl (Or.inl rfl) pe_int)
          (pss_cons (ps_set (i := 7) sc_parts_by.nd rfl (Or.inl rfl) (pe_op op_fdivN (pv 5) (pv 4)))
          (pss_cons (ps_while PassesOwn.never (pt_cmpR op_gt (pv 7) pe_int (nomark _))
          (pss_cons (ps_if (pt_cmpR op_eq (pv 6) (pe_callB call_len_seq (by rfl) T.z_len (by decide +kernel) (pa_cons (pv 2) pa_nil)) (nomark _))
          (pss_one (ps_expr (pe_bm PySem.F.plainAttrs_list PySem.F.slot_list_append PySem.F.type_list_append mt_append (pv 2) (pa_cons pe_int pa_nil))))
          pss_nil)
          (pss_cons (ps_augS (pv 2) (pv 6) get_list (pv 1) iop_mul set_list)
          (pss_cons (ps_aug (i := 6) sc_parts_by.nd rfl (Or.inl rfl) pe_int ip_add)
          (pss_one (ps_aug (i := 7) sc_parts_by.nd rfl (Or.inl rfl) (pv 1) iop_fdiv))))))
          (pss_cons (ps_set (i := 4) sc_parts_by.nd rfl (Or.inl rfl) (pv 5))
          (pss_cons (ps_aug (i := 3) sc_parts_by.nd rfl (Or.inr rfl) (pv 1) iop_mul)
          (pss_one (ps_set (i := 5) sc_parts_by.nd rfl (Or.inl rfl) (pe_callB call_len_seq (by rfl) T.z_len (by decide +kernel) (pa_cons (pe_lc (own := [("order", 8)]) (g := gName 8) rfl sc_parts_by.nd (pi_list (pv 0)) (blkOk_by (own := [("order", 8)]) (N := ["orders", "prime", "found", "power", "before", "many", "place_of_part", "left", "order"]) (sc := defScope s_parts_by) (by decide +kernel)) (fun _ _ _ _ _ => pg_name (i := 8) sc_parts_by.nd rfl (Or.inl rfl)) (fun _ _ _ _ _ => (pts_one (pt_cmpR op_eq (pe_op op_modN (pv 3) (pv 8)) pe_int (nomark _)))) (fun _ _ _ _ _ => (pv 8))) pa_nil))))))))))
          (pss_one (ps_ret (pv 2)))))))), ?_⟩
    refine qd_asgN (K := K) (en_lst eda_nil) fun l xs H1 hl e1 hp1 hxs => ?_
    have hL : Lst K H l [] H1 := Lst.start hl e1 hp1 hxs rfl
    refine qd_asgI (K := K) (ed_var rfl (.int (p : Int))) fun H2 e2 => ?_
    refine qd_asgI (K := K) (n := ((1 : Nat) : Int)) ed_int fun H3 e3 => ?_
    have L3 := (hL.mono e2).mono e3
    have c1 : (os.filter fun o => p % o == 0).length = Fn.cnt os p 1 := by
      unfold Fn.cnt
      rw [Nat.pow_one]
    refine qd_asgI (K := K) (n := ((Fn.cnt os p 1 : Nat) : Int)) (c1 ▸ ed_count (q := p) (Dp_mono L3.ex ho) (by omega) pos) fun H4 e4 => ?_
    refine q_while (fun m σ' H' => ∃ (k : Nat) (x6 x7 x8 : Option V), σ' = [some vo, some (.int (p : Int)), some (.ref l), some (.int ((p ^ (k + 1) : Nat) : Int)), some (.int ((Fn.cnt os p k : Nat) : Int)), some (.int ((Fn.cnt os p (k + 1) : Nat) : Int)), x6, x7, x8] ∧ (∀ i, i < k → r i ≠ 0) ∧ Lst K H l ((Fn.rowOf p ((List.range k).map r)).map dN) H' ∧ 16 - k = m) 16 ⟨0, none, none, none, by rw [R.c0, Nat.zero_add, Nat.pow_one]; rfl, fun i hi => absurd hi (Nat.not_lt_zero i), L3.mono e4, rfl⟩ ?_
    rintro m σ' H' ⟨k, x6, x7, x8, rfl, hr, L, rfl⟩
    have k15 := R.far15 p2 n0 hn hr
    have cpos := R.pos p2 k
    refine ⟨_, et_testD (K := K) (ed_gt (ed_var rfl (.int _)) (ed_var rfl (.int _))), fun hb H5 e5 => ⟨_, fun _ _ q => q, ?_⟩, fun hb H5 e5 => ?_⟩
    · have rk0 : r k ≠ 0 := (R.more p2 k).mp (by
        have := of_decide_eq_true hb
        omega)
      have rs := R.small p2 n0 hn k
      have hr' : ∀ i, i < k + 1 → r i ≠ 0 := fun i hi => by
        by_cases c : i = k
        · rw [c]; exact rk0
        · exact hr i (by omega)
      have k15' := R.far15 p2 n0 hn hr'
      refine qd_asgI (K := K) (n := ((0 : Nat) : Int)) ed_int fun H6 e6 => ?_
      refine qd_asgI (K := K) (n := ((p ^ (r k - 0) : Nat) : Int)) ?_ fun H7 e7 => ?_
      · refine EvD.to (ed_fdiv (ed_var rfl (.int ((Fn.cnt os p (k + 1) : Nat) : Int))) (ed_var rfl (.int ((Fn.cnt os p k : Nat) : Int))) ⟨by omega, by have := cle k; omega⟩) ?_
        rw [Fk.fdiv_nat, R.quot p2, Nat.sub_zero]
      have L7 := ((L.mono e5).mono e6).mono e7
      have hrl : (Fn.rowOf p ((List.range k).map r)).length ≤ 16 := Fn.row_len _ _ (fun x hx => by
        obtain ⟨j, _, rfl⟩ := List.mem_map.mp hx
        have := R.small p2 n0 hn j
        omega) (Nat.zero_le _)
      generalize hrow : Fn.rowOf p ((List.range k).map r) = row at *
      refine q_while (fun m σ' H' => ∃ (i : Nat), σ' = [some vo, some (.int (p : Int)), some (.ref l), some (.int ((p ^ (k + 1) : Nat) : Int)), some (.int ((Fn.cnt os p k : Nat) : Int)), some (.int ((Fn.cnt os p (k + 1) : Nat) : Int)), some (.int (i : Int)), some (.int ((p ^ (r k - i) : Nat) : Int)), x8] ∧ i ≤ r k ∧ Lst K H l ((Fn.mulL row ((List.replicate (r k) p).take i)).map dN) H' ∧ r k - i = m) (r k) ⟨0, rfl, Nat.zero_le _, by rw [List.take_zero, Fn.mulL_nil]; exact L7, rfl⟩ ?_
      rintro m σ' H' ⟨i, rfl, hi, L, rfl⟩
      refine ⟨_, et_testD (K := K) (ed_gt (ed_var rfl (.int _)) ed_int), fun hb H8 e8 => ⟨_, fun _ _ q => q, ?_⟩, fun hb H8 e8 => ?_⟩
      · have hlt : i < r k := by
          have := of_decide_eq_true hb
          by_cases c : i < r k
          · exact c
          · exfalso
            have e0 : r k - i = 0 := by omega
            rw [e0, Nat.pow_zero] at this
            omega
        obtain ⟨j, hj⟩ : ∃ j, r k - i = j + 1 := ⟨r k - i - 1, by omega⟩
        obtain ⟨mm, hmm, hm1, hm2⟩ := Fn.mulL_step row (List.replicate (r k) p) i (by rw [List.length_replicate]; exact hlt)
        have hg : (List.replicate (r k) p).getD i 1 = p := by rw [Fn.rep_get, if_pos hlt]
        rw [hg] at hm2
        have hcl : (Fn.mulL row ((List.replicate (r k) p).take i)).length ≤ 16 := by
          rw [Fn.mulL_len, List.length_take, List.length_replicate]
          omega
        generalize hcur : Fn.mulL row ((List.replicate (r k) p).take i) = cur at *
        refine q_ifApp (K := K) (d := dN 1) (L.mono e8) (et_testD (K := K) (ed_eqI (ed_var rfl (.int (i : Int))) (ed_len (EvM.toD (em_var (L.mono e8) rfl)) (.inl rfl)))) (fun _ => ev_var rfl) (fun _ => ed_int) rfl ?_ fun H9 _ L9 => ?_
        · rw [List.length_map]
          omega
        have hes : (if decide ((i : Int) = ((cur.map dN).length : Nat)) = true then cur.map dN ++ [dN 1] else cur.map dN) = mm.map dN := by
          rw [hmm, List.length_map]
          by_cases c : i = cur.length
          · rw [if_pos c, if_pos (decide_eq_true (by omega)), List.map_append]
            rfl
          · rw [if_neg c, if_neg (fun z => c (by have := of_decide_eq_true z; omega))]
        rw [hes] at L9
        have hget : (mm.map dN)[i]? = some (.int ((mm.getD i 1 : Nat) : Int)) := by
          rw [List.getElem?_map, List.getElem?_eq_getElem hm1, List.getD_eq_getElem?_getD, List.getElem?_eq_getElem hm1]
          rfl
        refine qd_mulAt (K := K) (i := i) L9 (ev_var rfl) (ev_var rfl) hget (ed_var rfl (.int (p : Int))) (.inr ⟨by omega, by omega⟩) fun H10 _ L10 => ?_
        have hset : (mm.map dN).set i (.int (((mm.getD i 1 : Nat) : Int) * (p : Int))) = (Fn.mulL row ((List.replicate (r k) p).take (i + 1))).map dN := by
          rw [← hm2, List.map_set]
          rfl
        rw [hset] at L10
        refine q_aug (a := (i : Int)) (b := 1) rfl (EvD.ev (K := K) ed_int) fun H11 e11 => ?_
        refine sd_augC (K := K) (a := ((p ^ (r k - i) : Nat) : Int)) (b := (p : Int)) rfl (ed_var rfl (.int _)) ⟨by omega, by omega⟩ fun H12 e12 => ⟨r k - (i + 1), by omega, i + 1, ?_, by omega, (L10.mono e11).mono e12, rfl⟩
        have hq : p ^ (r k - i) / p = p ^ (r k - (i + 1)) := by
          rw [hj, show r k - (i + 1) = j by omega, Nat.pow_succ]
          exact Nat.mul_div_cancel _ (by omega)
        rw [← hq]
        rfl
      · have hie : i = r k := by
          have := of_decide_eq_false hb
          by_cases c : i = r k
          · exact c
          · exfalso
            obtain ⟨j, hj⟩ : ∃ j, r k - i = j + 1 := ⟨r k - i - 1, by omega⟩
            rw [hj] at this
            have := Fn.pow_gt p2 (j + 1)
            omega
        have L8 := L.mono e8
        have hfull : Fn.mulL row ((List.replicate (r k) p).take i) = Fn.rowOf p ((List.range (k + 1)).map r) := by
          rw [hie, Fn.rowOf_succ, hrow, List.take_of_length_le (by rw [List.length_replicate]; exact Nat.le_refl _)]
        rw [hfull] at L8
        refine qd_asgI (K := K) (ed_var rfl (.int ((Fn.cnt os p (k + 1) : Nat) : Int))) fun H9 e9 => ?_
        refine qd_augC (K := K) (a := ((p ^ (k + 1) : Nat) : Int)) (b := (p : Int)) rfl (ed_var rfl (.int _)) (.inr ⟨by omega, by omega⟩) fun H10 e10 => ?_
        have L10 := (L8.mono e9).mono e10
        have hpw : ((p ^ (k + 1) : Nat) : Int) * (p : Int) = ((p ^ (k + 1 + 1) : Nat) : Int) := by
          rw [Nat.pow_succ p (k + 1), Int.natCast_mul]
        rw [hpw]
        refine sd_asgI (K := K) (n := ((Fn.cnt os p (k + 1 + 1) : Nat) : Int)) (ed_count (q := p ^ (k + 1 + 1)) (Dp_mono L10.ex ho) (by omega) pos) fun H11 e11 => ?_
        exact ⟨16 - (k + 1), by omega, k + 1, _, _, _, rfl, hr', L10.mono e11, rfl⟩
    · have rk0 : r k = 0 := by
        by_cases c : r k = 0
        · exact c
        · have := (R.more p2 k).mpr c
          have := of_decide_eq_false hb
          omega
      rw [R.row p2 n0 hn hr rk0] at hQ
      obtain ⟨l0, l1, l2, ys, l3, l4⟩ := L.mono e5
      refine s_ret (ev_var rfl) fun H6 e6 => ?_
      exact hQ l ys H6 l0 (l1.trans e6) (e6 _ _ l3) (DpAll_mono e6 l4)
/-! ### group_of -/
def p_group_of : List PyData → List PyData → Prop := fun ds es => ∃ d : Int, ds = [.int d] ∧ Fc.isDisc d = true ∧ es = (Fc.group (ords d)).map dN
theorem len_group_of {ds : List PyData} {d : List PyData} (h : p_group_of ds d) : ds.length = 1 := by
  obtain ⟨n, rfl, _⟩ := h
  rfl
def ordG : PyData → PyData := fun d => match d with
  | .tuple [.int a, .int b, .int c] => dN (Fc.order ⟨a, b, c⟩)
  | _ => .none
theorem grpRow_more (os : List Nat) (ps : List Nat) (i : Nat) (p : Nat) (h : ps[i]? = some p) : Fn.grpRow os (ps.take (i + 1)) = Fn.mulL (Fn.grpRow os (ps.take i)) (Fn.rowOf p (Fc.ranks os p)) := by
  rw [List.take_add_one, h]
  unfold Fn.grpRow
  rw [List.foldl_append]
  rfl
theorem ok_group_of (T : Txt K mg) : FnOk P w K mg base CX0 7 T.f_group_of T.fd_group_of ["d"] (spN K p_group_of) := by
  have G_order_of := ok_order_of (P := P) (w := w) (base := base) T
  have G_classes_of := ok_classes_of (P := P) (w := w) (base := base) T
  have G_primes_of := ok_primes_of (P := P) (w := w) (base := base) T
  have G_parts_by := ok_parts_by (P := P) (w := w) (base := base) T
  refine T.F_group_of.ok sc_group_of (fun vs H Q E h => ?_) (fun cdv A outer s H vs Q E hr h => ?_)
  · obtain ⟨ds, _, hv, hp, _⟩ := h
    rw [da_len hv]
    exact len_group_of hp
  · obtain ⟨ds, d, hv, hp, hQ⟩ := h
    obtain ⟨d, rfl, hd, rfl⟩ := hp
    have hv := da_ints (ns := [d]) hv
    subst hv
    have hfew := classes_few hd
    obtain ⟨n0, n1⟩ := ords_len hd
    have hpos := ords_pos hd
    have em : ((Fc.classes d).map dFm).map ordG = (ords d).map dN := by
      unfold ords
      rw [List.map_map, List.map_map]
      rfl
    refine ⟨_, (pss_cons (ps_setLc (own := [("form", 6)]) (g := gName 6) (tt := tYes) (i := 1) rfl sc_group_of.nd rfl rfl (sw_true rfl rfl rfl (by decide +kernel)) (pi_list (pe_call G_classes_of (hr.mono (by decide)) rfl T.g_classes_of T.F_classes_of.kp T.b_classes_of .nil pass0 (pa_cons (pv 0) pa_nil))) (blkOk_by (own := [("form", 6)]) (N := ["d", "orders", "found", "prime", "number", "part", "form"]) (sc := defScope s_group_of) (by decide +kernel)) (fun _ _ _ _ _ => pg_name (i := 6) sc_group_of.nd rfl (Or.inl rfl)) (fun _ _ _ _ _ => pts_nil) (fun _ _ _ _ _ => (pe_call G_order_of (hr.mono (by decide)) rfl T.g_order_of T.F_order_of.kp T.b_order_of .nil pass0 (pa_cons (pv 6) pa_nil))))
          (pss_cons (ps_set (i := 2) sc_group_of.nd rfl (Or.inl rfl) (pe_lst pa_nil))
          (pss_cons (ps_for PassesOwn.never rfl (pi_list (pe_call G_primes_of (hr.mono (by decide)) rfl T.g_primes_of T.F_primes_of.kp T.b_primes_of .nil pass0 (pa_cons (pe_callB call_len_seq (by rfl) T.z_len (by decide +kernel) (pa_cons (pv 1) pa_nil)) pa_nil))) (pg_name (i := 3) sc_group_of.nd rfl (Or.inl rfl))
          (pss_one (ps_for PassesOwn.never rfl (pi_enum (by rfl) T.z_enumerate (pa_cons (pe_call G_parts_by (hr.mono (by decide)) rfl T.g_parts_by T.F_parts_by.kp T.b_parts_by .nil pass0 (pa_cons (pv 1) (pa_cons (pv 3) pa_nil))) pa_nil)) (pg_tup (by rfl) (pgs_cons (pg_name (i := 4) sc_group_of.nd rfl (Or.inl rfl)) (pgs_cons (pg_name (i := 5) sc_group_of.nd rfl (Or.inl rfl)) pgs_nil)))
          (pss_cons (ps_if (pt_cmpR op_eq (pv 4) (pe_callB call_len_seq (by rfl) T.z_len (by decide +kernel) (pa_cons (pv 2) pa_nil)) (nomark _))
          (pss_one (ps_expr (pe_bm PySem.F.plainAttrs_list PySem.F.slot_list_append PySem.F.type_list_append mt_append (pv 2) (pa_cons pe_int pa_nil))))
          pss_nil)
          (pss_one (ps_augS (pv 2) (pv 4) get_list (pv 5) iop_mul set_list))))))
          (pss_one (ps_ret (pv 2)))))), ?_⟩
    refine qd_asgN (K := K) (en_mapL ordG (EvN.toD (en_call (eda_cons (ed_var rfl (.int d)) eda_nil) ⟨d, rfl, hd, rfl⟩)) (by rw [List.length_map]; omega) (fun _ => rfl) ?_ ?_) fun lo xo H1 hlo e1 h1 hxo => ?_
    · intro x hx
      obtain ⟨z, _, rfl⟩ := List.mem_map.mp hx
      rfl
    · intro x y H3 hx e3 hy
      obtain ⟨z, hz, rfl⟩ := List.mem_map.mp hx
      have hz := (((specRow hd).2 z).mp hz).pl hd
      exact ed_call (eda_cons (ed_var rfl hy) eda_nil) ⟨z, rfl, ⟨by rw [hz.hd]; exact hz, by rw [hz.hd]; exact hd⟩, rfl⟩
    rw [em] at hxo
    rw [ords_group hd] at hQ
    have hrk : ∀ p ∈ Fc.primesOf (ords d).length, PartsOk (ords d) p := fun p hp => by
      obtain ⟨pr, pd⟩ := Fn.primesOf_pr hp
      have := Nat.le_of_dvd n0 pd
      exact ⟨pr, by omega, n0, n1, fun o ho => (hpos o ho).1, ords_rk hd pr⟩
    generalize hos : ords d = os at *
    have hvo : Dp K H1 (.ref lo) (.list (os.map dN)) := .lst (sq_of h1) hxo
    refine qd_asgN (K := K) (en_lst eda_nil) fun l xs H2 hl e2 hp2 hxs => ?_
    have hL : Lst K H1 l [] H2 := Lst.start hl e2 hp2 hxs rfl
    have elen : (((os.map dN).length : Nat) : Int) = (os.length : Int) := by rw [List.length_map]
    have hvo2 := Dp_mono e2 hvo
    refine qd_forN (K := K) (ds := (Fc.primesOf os.length).map dN) hL (en_call (eda_cons (ed_is (ed_len (ed_var rfl hvo2) (.inl rfl)) (congrArg PyData.int elen)) eda_nil) ⟨os.length, rfl, ⟨n0, by omega⟩, rfl⟩) (lfs_nats _) fun Hb H3 eb _ e3 L3 => ?_
    have hvb := Dp_mono eb hvo
    refine ⟨fun i σ' H' => ∃ x3 x4 x5 x6 : Option V, σ' = [some (.int d), some (.ref lo), some (.ref l), x3, x4, x5, x6] ∧ Lst K Hb l ((Fn.grpRow os ((Fc.primesOf os.length).take i)).map dN) H', ⟨_, _, _, _, rfl, L3⟩, fun i σ' H' _ ⟨_, _, _, _, _, L⟩ => L.ex, ?_, ?_⟩
    · rintro i x v σ' H' hx hv ⟨x3, x4, x5, x6, rfl, L⟩
      rw [List.getElem?_map] at hx
      obtain ⟨p, hp, rfl⟩ := Option.map_eq_some_iff.mp hx
      have hok := hrk p (List.mem_of_getElem? hp)
      cases dp_int hv
      have hmore := grpRow_more os _ i p hp
      have hpl : ∀ x ∈ Fn.rowOf p (Fc.ranks os p), x ≤ os.length := by
        obtain ⟨r, R⟩ := hok.rk
        exact R.part hok.pr.1 n0 (by omega)
      have hplen : (Fn.rowOf p (Fc.ranks os p)).length ≤ 16 := by
        obtain ⟨r, R⟩ := hok.rk
        exact Fn.row_len _ _ (R.len hok.pr.1 n0 (by omega)) (Nat.zero_le _)
      have hglen : (Fn.grpRow os ((Fc.primesOf os.length).take i)).length ≤ 16 := Fn.grp_len os _ [] (fun q hq => by
        have hok := hrk q (List.mem_of_mem_take hq)
        obtain ⟨r, R⟩ := hok.rk
        exact R.len hok.pr.1 n0 (by omega)) (Nat.zero_le _)
      have hpart := en_call (E := E0) (pre := p_parts_by) (eda_cons (ed_var (i := 1) (σ := [some (.int d), some (.ref lo), some (.ref l), some (.int (p : Int)), x4, x5, x6]) rfl (Dp_mono L.ex hvb)) (eda_cons (ed_var (i := 3) rfl (.int (p : Int))) eda_nil)) ⟨os, p, rfl, hok, rfl⟩
      generalize hrow : Fn.grpRow os ((Fc.primesOf os.length).take i) = row at *
      generalize hprt : Fn.rowOf p (Fc.ranks os p) = prt at *
      show tFor _ _ _ _ [some (.int d), some (.ref lo), some (.ref l), some (.int (p : Int)), x4, x5, x6] H'
      refine sd_forEnum (K := K) L hpart (lfs_nats _) fun Hc H4 ec _ e4 L4 => ?_
      refine ⟨fun j σ' H' => ∃ x4 x5 x6 : Option V, σ' = [some (.int d), some (.ref lo), some (.ref l), some (.int (p : Int)), x4, x5, x6] ∧ Lst K Hc l ((Fn.mulL row (prt.take j)).map dN) H', ⟨_, _, _, rfl, by rw [List.take_zero, Fn.mulL_nil]; exact L4⟩, fun j σ' H' _ ⟨_, _, _, _, L⟩ => L.ex, ?_, ?_⟩
      · rintro j y w σ' H5 H6 hy e6 hw ⟨x4, x5, x6, rfl, L⟩
        rw [List.getElem?_map] at hy
        obtain ⟨c, hc, rfl⟩ := Option.map_eq_some_iff.mp hy
        cases dp_int hw
        have hj := (List.getElem?_eq_some_iff.mp hc).1
        have hcb := hpl c (List.mem_of_getElem? hc)
        obtain ⟨mm, hmm, hm1, hm2⟩ := Fn.mulL_step row prt j hj
        have hg : prt.getD j 1 = c := by
          rw [List.getD_eq_getElem?_getD, hc]
          rfl
        rw [hg] at hm2
        have L6 := L.mono e6
        have hcl : (Fn.mulL row (prt.take j)).length ≤ 16 := by
          rw [Fn.mulL_len, List.length_take]
          omega
        generalize hcur : Fn.mulL row (prt.take j) = cur at *
        refine q_ifApp (K := K) (d := dN 1) L6 (et_testD (K := K) (ed_eqI (ed_var rfl (.int (j : Int))) (ed_len (EvM.toD (em_var L6 rfl)) (.inl rfl)))) (fun _ => ev_var rfl) (fun _ => ed_int) rfl ?_ fun H9 _ L9 => ?_
        · rw [List.length_map]
          omega
        have hes : (if decide ((j : Int) = ((cur.map dN).length : Nat)) = true then cur.map dN ++ [dN 1] else cur.map dN) = mm.map dN := by
          rw [hmm, List.length_map]
          by_cases c : j = cur.length
          · rw [if_pos c, if_pos (decide_eq_true (by omega)), List.map_append]
            rfl
          · rw [if_neg c, if_neg (fun z => c (by have := of_decide_eq_true z; omega))]
        rw [hes] at L9
        have hget : (mm.map dN)[j]? = some (.int ((mm.getD j 1 : Nat) : Int)) := by
          rw [List.getElem?_map, List.getElem?_eq_getElem hm1, List.getD_eq_getElem?_getD, List.getElem?_eq_getElem hm1]
          rfl
        refine sd_mulAt (K := K) (i := j) L9 (ev_var rfl) (ev_var rfl) hget (ed_var rfl (.int (c : Int))) (.inr ⟨by omega, by omega⟩) fun H10 _ L10 => ?_
        have hset : (mm.map dN).set j (.int (((mm.getD j 1 : Nat) : Int) * (c : Int))) = (Fn.mulL row (prt.take (j + 1))).map dN := by
          rw [← hm2, List.map_set]
          rfl
        rw [hset] at L10
        exact ⟨_, _, _, rfl, L10⟩
      · rintro σ' H' ⟨x4, x5, x6, rfl, L⟩
        rw [List.length_map, List.take_length] at L
        exact ⟨_, _, _, _, rfl, by rw [hmore]; exact L.back ec⟩
    · rintro σ' H' ⟨x3, x4, x5, x6, rfl, L⟩
      rw [List.length_map, List.take_length] at L
      obtain ⟨l0, l1, l2, ys, l3, l4⟩ := L
      refine s_ret (ev_var rfl) fun H6 e6 => ?_
      exact hQ l ys H6 (fresh_back (e1.trans eb) l0) (((e1.trans eb).trans l1).trans e6) (e6 _ _ l3) (DpAll_mono e6 l4)
/-! ### group -/
def p_group : List PyData → PyData → Prop := fun ds d => ∃ n : Int, ds = [.int n] ∧ In64 n ∧ d = .list ((PyWrform.group n).map PyData.int)
theorem len_group {ds : List PyData} {d : PyData} (h : p_group ds d) : ds.length = 1 := by
  obtain ⟨n, rfl, _⟩ := h
  rfl
theorem group_law (n : Int) : PyWrform.group n = if Fc.isDisc n = true then 0 :: ((Fc.group (ords n)).length : Int) :: (Fc.group (ords n)).map (fun (n : Nat) => (n : Int)) else [-1] := by
  show WrformNeutral.told (Wrform.when (Fc.isDisc n) fun _ => .nums (((Fc.group (ords n)).length : Int) :: (Fc.group (ords n)).map fun (n : Nat) => (n : Int))) = _
  cases h : Fc.isDisc n with
  | true =>
    rw [when_t rfl]
    rfl
  | false =>
    rw [when_f rfl]
    rfl
theorem group_len {d : Int} (hd : Fc.isDisc d = true) : (Fc.group (ords d)).length ≤ 16 := by
  unfold Fc.group
  dsimp only
  refine Nat.le_trans (List.length_filter_le _ _) ?_
  rw [List.length_map, List.length_range]
  exact Nat.le_refl _
theorem ok_group (T : Txt K mg) : FnOk P w K mg base CX0 8 T.f_group T.fd_group ["d"] (spD K p_group) := by
  have G_is_discriminant := ok_is_discriminant (P := P) (w := w) (base := base) T
  have G_group_of := ok_group_of (P := P) (w := w) (base := base) T
  refine T.F_group.ok sc_group (fun vs H Q E h => ?_) (fun cdv A outer s H vs Q E hr h => ?_)
  · obtain ⟨ds, _, hv, hp, _⟩ := h
    rw [da_len hv]
    exact len_group hp
  · obtain ⟨ds, d, hv, hp, hQ⟩ := h
    obtain ⟨n, rfl, _, rfl⟩ := hp
    have hv := da_ints (ns := [n]) hv
    subst hv
    rw [group_law] at hQ
    refine ⟨_, (pss_cons (ps_if (pt_not (pt_val (pe_call G_is_discriminant (hr.mono (by decide)) rfl T.g_is_discriminant T.F_is_discriminant.kp T.b_is_discriminant .nil pass0 (pa_cons (pv 0) pa_nil))))
          (pss_one (ps_ret (pe_callTy (T := "list") (r := rListS K) call_list_of (by rfl) T.z_list (by decide +kernel) (pa_cons (pe_glob (v := .ref T.a_REFUSED) rfl T.k_REFUSED rfl) pa_nil))))
          pss_nil)
          (pss_cons (ps_set (i := 1) sc_group.nd rfl (Or.inl rfl) (pe_call G_group_of (hr.mono (by decide)) rfl T.g_group_of T.F_group_of.kp T.b_group_of .nil pass0 (pa_cons (pv 0) pa_nil)))
          (pss_one (ps_ret (pe_op op_cat (pe_lst (pa_cons pe_int (pa_cons (pe_callB call_len_seq (by rfl) T.z_len (by decide +kernel) (pa_cons (pv 1) pa_nil)) pa_nil))) (pv 1)))))), ?_⟩
    refine q_when (et_not (et_BD (K := K) (ed_call (eda_cons (ed_var rfl (.int _)) eda_nil) ⟨n, rfl, rfl⟩))) (fun hb H1 e1 => ?_) (fun hb H1 e1 => ?_)
    · rw [Bool.not_eq_true'] at hb
      rw [hb] at hQ
      exact sd_ret (K := K) (EvN.toD (en_list (ed_c (.lst (T.l_REFUSED _) (.cons (.int _) .nil))) (.inl rfl))) fun v H2 e2 hd => hQ v H2 (e1.trans e2) hd
    · rw [Bool.not_eq_false'] at hb
      rw [hb, if_pos rfl] at hQ
      have hlen := group_len hb
      refine qd_asgN (K := K) (en_call (eda_cons (ed_var rfl (.int n)) eda_nil) ⟨n, rfl, hb, rfl⟩) fun l xs H2 hl e2 h2 hxs => ?_
      generalize Fc.group (ords n) = C at *
      have hL : Lst K H1 l (C.map dN) H2 := Lst.start hl e2 h2 hxs (lfs_nats C)
      have hes : (0 :: (C.length : Int) :: C.map fun (n : Nat) => (n : Int)).map PyData.int = [.int 0, .int ((C.map dN).length : Nat)] ++ C.map dN := by
        rw [List.map_cons, List.map_cons, List.map_map, List.length_map]
        rfl
      rw [hes] at hQ
      refine sd_ret (K := K) (EvN.toD (en_catM (EvN.toM (en_lst (eda_cons ed_int (eda_cons (ed_len (EvM.toD (em_var hL rfl)) (.inl rfl)) eda_nil)))) (em_var hL rfl) ?_)) fun v H3 e3 hd => hQ v H3 ((e1.trans e2).trans e3) hd
      rw [List.length_map]
      show 2 + _ ≤ _
      omega
end
theorem all_mk {P : Program} {w : World} {K : PySem.W.Frag} {h : Heap} {mg : Str → Option Value} {fa : Addr} (X : K.In h) (G : h.Ns mainGlobals mg) (hfa : mg "group" = some (.ref fa))
    {f0 f1 f2 f3 f4 f5 f6 f7 f8 f9 f10 f11 f12 f13 f14 f15 f16 f17 f18 f19 f20 f21 f22 f23 f24 f25 f26 : Addr} {od0 an0 od1 an1 od2 an2 od3 an3 od4 an4 od5 an5 od6 an6 od7 an7 od8 an8 od9 an9 od10 an10 od11 an11 od12 an12 od13 an13 od14 an14 od15 an15 od16 an16 od17 an17 od18 an18 od19 an19 od20 an20 od21 an21 od22 an22 od23 an23 od24 an24 od25 an25 od26 an26 : Option Addr} {sl0 sl1 sl2 sl3 sl4 sl5 sl6 sl7 sl8 sl9 sl10 sl11 sl12 sl13 sl14 sl15 sl16 sl17 sl18 sl19 sl20 sl21 sl22 sl23 sl24 sl25 sl26 : Array (Option Value)} {oc0 kV0 dc0 pm0 cd0 ct0 oc1 kV1 dc1 pm1 cd1 ct1 oc2 kV2 dc2 pm2 cd2 ct2 oc3 kV3 dc3 pm3 cd3 ct3 oc4 kV4 dc4 pm4 cd4 ct4 oc5 kV5 dc5 pm5 cd5 ct5 oc6 kV6 dc6 pm6 cd6 ct6 oc7 kV7 dc7 pm7 cd7 ct7 oc8 kV8 dc8 pm8 cd8 ct8 oc9 kV9 dc9 pm9 cd9 ct9 oc10 kV10 dc10 pm10 cd10 ct10 oc11 kV11 dc11 pm11 cd11 ct11 oc12 kV12 dc12 pm12 cd12 ct12 oc13 kV13 dc13 pm13 cd13 ct13 oc14 kV14 dc14 pm14 cd14 ct14 oc15 kV15 dc15 pm15 cd15 ct15 oc16 kV16 dc16 pm16 cd16 ct16 oc17 kV17 dc17 pm17 cd17 ct17 oc18 kV18 dc18 pm18 cd18 ct18 oc19 kV19 dc19 pm19 cd19 ct19 oc20 kV20 dc20 pm20 cd20 ct20 oc21 kV21 dc21 pm21 cd21 ct21 oc22 kV22 dc22 pm22 cd22 ct22 oc23 kV23 dc23 pm23 cd23 ct23 oc24 kV24 dc24 pm24 cd24 ct24 oc25 kV25 dc25 pm25 cd25 ct25 oc26 kV26 dc26 pm26 cd26 ct26 : Value}
    (a0 : PySem.W.nsIn K mainGlobals "common" = some (some (.ref f0))) (l0 : K.lookup f0 = some ⟨oc0, od0, .func (PySem.W.fnOf "common" "common" (defArgs s_common) (defBody s_common) (defScope s_common) .none kV0 dc0 pm0 an0 cd0 ct0), sl0⟩) (c0 : PySem.W.codeIn K cd0 "common" = true) (k0 : PySem.W.keepIn K (.ref f0) = true)
    (a1 : PySem.W.nsIn K mainGlobals "root_of" = some (some (.ref f1))) (l1 : K.lookup f1 = some ⟨oc1, od1, .func (PySem.W.fnOf "root_of" "root_of" (defArgs s_root_of) (defBody s_root_of) (defScope s_root_of) .none kV1 dc1 pm1 an1 cd1 ct1), sl1⟩) (c1 : PySem.W.codeIn K cd1 "root_of" = true) (k1 : PySem.W.keepIn K (.ref f1) = true)
    (a2 : PySem.W.nsIn K mainGlobals "is_square" = some (some (.ref f2))) (l2 : K.lookup f2 = some ⟨oc2, od2, .func (PySem.W.fnOf "is_square" "is_square" (defArgs s_is_square) (defBody s_is_square) (defScope s_is_square) .none kV2 dc2 pm2 an2 cd2 ct2), sl2⟩) (c2 : PySem.W.codeIn K cd2 "is_square" = true) (k2 : PySem.W.keepIn K (.ref f2) = true)
    (a3 : PySem.W.nsIn K mainGlobals "discriminant" = some (some (.ref f3))) (l3 : K.lookup f3 = some ⟨oc3, od3, .func (PySem.W.fnOf "discriminant" "discriminant" (defArgs s_discriminant) (defBody s_discriminant) (defScope s_discriminant) .none kV3 dc3 pm3 an3 cd3 ct3), sl3⟩) (c3 : PySem.W.codeIn K cd3 "discriminant" = true) (k3 : PySem.W.keepIn K (.ref f3) = true)
    (a4 : PySem.W.nsIn K mainGlobals "kind_of" = some (some (.ref f4))) (l4 : K.lookup f4 = some ⟨oc4, od4, .func (PySem.W.fnOf "kind_of" "kind_of" (defArgs s_kind_of) (defBody s_kind_of) (defScope s_kind_of) .none kV4 dc4 pm4 an4 cd4 ct4), sl4⟩) (c4 : PySem.W.codeIn K cd4 "kind_of" = true) (k4 : PySem.W.keepIn K (.ref f4) = true)
    (a5 : PySem.W.nsIn K mainGlobals "value_at" = some (some (.ref f5))) (l5 : K.lookup f5 = some ⟨oc5, od5, .func (PySem.W.fnOf "value_at" "value_at" (defArgs s_value_at) (defBody s_value_at) (defScope s_value_at) .none kV5 dc5 pm5 an5 cd5 ct5), sl5⟩) (c5 : PySem.W.codeIn K cd5 "value_at" = true) (k5 : PySem.W.keepIn K (.ref f5) = true)
    (a6 : PySem.W.nsIn K mainGlobals "changed" = some (some (.ref f6))) (l6 : K.lookup f6 = some ⟨oc6, od6, .func (PySem.W.fnOf "changed" "changed" (defArgs s_changed) (defBody s_changed) (defScope s_changed) .none kV6 dc6 pm6 an6 cd6 ct6), sl6⟩) (c6 : PySem.W.codeIn K cd6 "changed" = true) (k6 : PySem.W.keepIn K (.ref f6) = true)
    (a7 : PySem.W.nsIn K mainGlobals "then" = some (some (.ref f7))) (l7 : K.lookup f7 = some ⟨oc7, od7, .func (PySem.W.fnOf "then" "then" (defArgs s_then) (defBody s_then) (defScope s_then) .none kV7 dc7 pm7 an7 cd7 ct7), sl7⟩) (c7 : PySem.W.codeIn K cd7 "then" = true) (k7 : PySem.W.keepIn K (.ref f7) = true)
    (a8 : PySem.W.nsIn K mainGlobals "is_discriminant" = some (some (.ref f8))) (l8 : K.lookup f8 = some ⟨oc8, od8, .func (PySem.W.fnOf "is_discriminant" "is_discriminant" (defArgs s_is_discriminant) (defBody s_is_discriminant) (defScope s_is_discriminant) .none kV8 dc8 pm8 an8 cd8 ct8), sl8⟩) (c8 : PySem.W.codeIn K cd8 "is_discriminant" = true) (k8 : PySem.W.keepIn K (.ref f8) = true)
    (a9 : PySem.W.nsIn K mainGlobals "place" = some (some (.ref f9))) (l9 : K.lookup f9 = some ⟨oc9, od9, .func (PySem.W.fnOf "place" "place" (defArgs s_place) (defBody s_place) (defScope s_place) .none kV9 dc9 pm9 an9 cd9 ct9), sl9⟩) (c9 : PySem.W.codeIn K cd9 "place" = true) (k9 : PySem.W.keepIn K (.ref f9) = true)
    (a10 : PySem.W.nsIn K mainGlobals "reduced_above" = some (some (.ref f10))) (l10 : K.lookup f10 = some ⟨oc10, od10, .func (PySem.W.fnOf "reduced_above" "reduced_above" (defArgs s_reduced_above) (defBody s_reduced_above) (defScope s_reduced_above) .none kV10 dc10 pm10 an10 cd10 ct10), sl10⟩) (c10 : PySem.W.codeIn K cd10 "reduced_above" = true) (k10 : PySem.W.keepIn K (.ref f10) = true)
    (a11 : PySem.W.nsIn K mainGlobals "is_reduced" = some (some (.ref f11))) (l11 : K.lookup f11 = some ⟨oc11, od11, .func (PySem.W.fnOf "is_reduced" "is_reduced" (defArgs s_is_reduced) (defBody s_is_reduced) (defScope s_is_reduced) .none kV11 dc11 pm11 an11 cd11 ct11), sl11⟩) (c11 : PySem.W.codeIn K cd11 "is_reduced" = true) (k11 : PySem.W.keepIn K (.ref f11) = true)
    (a12 : PySem.W.nsIn K mainGlobals "next_form" = some (some (.ref f12))) (l12 : K.lookup f12 = some ⟨oc12, od12, .func (PySem.W.fnOf "next_form" "next_form" (defArgs s_next_form) (defBody s_next_form) (defScope s_next_form) .none kV12 dc12 pm12 an12 cd12 ct12), sl12⟩) (c12 : PySem.W.codeIn K cd12 "next_form" = true) (k12 : PySem.W.keepIn K (.ref f12) = true)
    (a13 : PySem.W.nsIn K mainGlobals "cycle_of" = some (some (.ref f13))) (l13 : K.lookup f13 = some ⟨oc13, od13, .func (PySem.W.fnOf "cycle_of" "cycle_of" (defArgs s_cycle_of) (defBody s_cycle_of) (defScope s_cycle_of) .none kV13 dc13 pm13 an13 cd13 ct13), sl13⟩) (c13 : PySem.W.codeIn K cd13 "cycle_of" = true) (k13 : PySem.W.keepIn K (.ref f13) = true)
    (a14 : PySem.W.nsIn K mainGlobals "least_middle" = some (some (.ref f14))) (l14 : K.lookup f14 = some ⟨oc14, od14, .func (PySem.W.fnOf "least_middle" "least_middle" (defArgs s_least_middle) (defBody s_least_middle) (defScope s_least_middle) .none kV14 dc14 pm14 an14 cd14 ct14), sl14⟩) (c14 : PySem.W.codeIn K cd14 "least_middle" = true) (k14 : PySem.W.keepIn K (.ref f14) = true)
    (a15 : PySem.W.nsIn K mainGlobals "least_of" = some (some (.ref f15))) (l15 : K.lookup f15 = some ⟨oc15, od15, .func (PySem.W.fnOf "least_of" "least_of" (defArgs s_least_of) (defBody s_least_of) (defScope s_least_of) .none kV15 dc15 pm15 an15 cd15 ct15), sl15⟩) (c15 : PySem.W.codeIn K cd15 "least_of" = true) (k15 : PySem.W.keepIn K (.ref f15) = true)
    (a16 : PySem.W.nsIn K mainGlobals "weights" = some (some (.ref f16))) (l16 : K.lookup f16 = some ⟨oc16, od16, .func (PySem.W.fnOf "weights" "weights" (defArgs s_weights) (defBody s_weights) (defScope s_weights) .none kV16 dc16 pm16 an16 cd16 ct16), sl16⟩) (c16 : PySem.W.codeIn K cd16 "weights" = true) (k16 : PySem.W.keepIn K (.ref f16) = true)
    (a17 : PySem.W.nsIn K mainGlobals "product" = some (some (.ref f17))) (l17 : K.lookup f17 = some ⟨oc17, od17, .func (PySem.W.fnOf "product" "product" (defArgs s_product) (defBody s_product) (defScope s_product) .none kV17 dc17 pm17 an17 cd17 ct17), sl17⟩) (c17 : PySem.W.codeIn K cd17 "product" = true) (k17 : PySem.W.keepIn K (.ref f17) = true)
    (a18 : PySem.W.nsIn K mainGlobals "one_of" = some (some (.ref f18))) (l18 : K.lookup f18 = some ⟨oc18, od18, .func (PySem.W.fnOf "one_of" "one_of" (defArgs s_one_of) (defBody s_one_of) (defScope s_one_of) .none kV18 dc18 pm18 an18 cd18 ct18), sl18⟩) (c18 : PySem.W.codeIn K cd18 "one_of" = true) (k18 : PySem.W.keepIn K (.ref f18) = true)
    (a19 : PySem.W.nsIn K mainGlobals "order_of" = some (some (.ref f19))) (l19 : K.lookup f19 = some ⟨oc19, od19, .func (PySem.W.fnOf "order_of" "order_of" (defArgs s_order_of) (defBody s_order_of) (defScope s_order_of) .none kV19 dc19 pm19 an19 cd19 ct19), sl19⟩) (c19 : PySem.W.codeIn K cd19 "order_of" = true) (k19 : PySem.W.keepIn K (.ref f19) = true)
    (a20 : PySem.W.nsIn K mainGlobals "reduced_forms_above" = some (some (.ref f20))) (l20 : K.lookup f20 = some ⟨oc20, od20, .func (PySem.W.fnOf "reduced_forms_above" "reduced_forms_above" (defArgs s_reduced_forms_above) (defBody s_reduced_forms_above) (defScope s_reduced_forms_above) .none kV20 dc20 pm20 an20 cd20 ct20), sl20⟩) (c20 : PySem.W.codeIn K cd20 "reduced_forms_above" = true) (k20 : PySem.W.keepIn K (.ref f20) = true)
    (a21 : PySem.W.nsIn K mainGlobals "reduced_forms_both" = some (some (.ref f21))) (l21 : K.lookup f21 = some ⟨oc21, od21, .func (PySem.W.fnOf "reduced_forms_both" "reduced_forms_both" (defArgs s_reduced_forms_both) (defBody s_reduced_forms_both) (defScope s_reduced_forms_both) .none kV21 dc21 pm21 an21 cd21 ct21), sl21⟩) (c21 : PySem.W.codeIn K cd21 "reduced_forms_both" = true) (k21 : PySem.W.keepIn K (.ref f21) = true)
    (a22 : PySem.W.nsIn K mainGlobals "classes_of" = some (some (.ref f22))) (l22 : K.lookup f22 = some ⟨oc22, od22, .func (PySem.W.fnOf "classes_of" "classes_of" (defArgs s_classes_of) (defBody s_classes_of) (defScope s_classes_of) .none kV22 dc22 pm22 an22 cd22 ct22), sl22⟩) (c22 : PySem.W.codeIn K cd22 "classes_of" = true) (k22 : PySem.W.keepIn K (.ref f22) = true)
    (a23 : PySem.W.nsIn K mainGlobals "primes_of" = some (some (.ref f23))) (l23 : K.lookup f23 = some ⟨oc23, od23, .func (PySem.W.fnOf "primes_of" "primes_of" (defArgs s_primes_of) (defBody s_primes_of) (defScope s_primes_of) .none kV23 dc23 pm23 an23 cd23 ct23), sl23⟩) (c23 : PySem.W.codeIn K cd23 "primes_of" = true) (k23 : PySem.W.keepIn K (.ref f23) = true)
    (a24 : PySem.W.nsIn K mainGlobals "parts_by" = some (some (.ref f24))) (l24 : K.lookup f24 = some ⟨oc24, od24, .func (PySem.W.fnOf "parts_by" "parts_by" (defArgs s_parts_by) (defBody s_parts_by) (defScope s_parts_by) .none kV24 dc24 pm24 an24 cd24 ct24), sl24⟩) (c24 : PySem.W.codeIn K cd24 "parts_by" = true) (k24 : PySem.W.keepIn K (.ref f24) = true)
    (a25 : PySem.W.nsIn K mainGlobals "group_of" = some (some (.ref f25))) (l25 : K.lookup f25 = some ⟨oc25, od25, .func (PySem.W.fnOf "group_of" "group_of" (defArgs s_group_of) (defBody s_group_of) (defScope s_group_of) .none kV25 dc25 pm25 an25 cd25 ct25), sl25⟩) (c25 : PySem.W.codeIn K cd25 "group_of" = true) (k25 : PySem.W.keepIn K (.ref f25) = true)
    (a26 : PySem.W.nsIn K mainGlobals "group" = some (some (.ref f26))) (l26 : K.lookup f26 = some ⟨oc26, od26, .func (PySem.W.fnOf "group" "group" (defArgs s_group) (defBody s_group) (defScope s_group) .none kV26 dc26 pm26 an26 cd26 ct26), sl26⟩) (c26 : PySem.W.codeIn K cd26 "group" = true) (k26 : PySem.W.keepIn K (.ref f26) = true)
    {t_GREATEST : Tok} (m_GREATEST : PySem.W.nsIn K mainGlobals "GREATEST" = some (some (.int 20000 t_GREATEST)))
    {t_NOT_PLAIN : Tok} (m_NOT_PLAIN : PySem.W.nsIn K mainGlobals "NOT_PLAIN" = some (some (.int 0 t_NOT_PLAIN)))
    {t_ABOVE : Tok} (m_ABOVE : PySem.W.nsIn K mainGlobals "ABOVE" = some (some (.int 1 t_ABOVE)))
    {t_BELOW : Tok} (m_BELOW : PySem.W.nsIn K mainGlobals "BELOW" = some (some (.int 2 t_BELOW)))
    {t_BOTH : Tok} (m_BOTH : PySem.W.nsIn K mainGlobals "BOTH" = some (some (.int 3 t_BOTH)))
    {aS : Addr} {tS1 tS2 tS3 tS4 : Tok} {nS : Nat} {odS : Option Addr} {slS : Array (Option Value)} (m_SAME : PySem.W.nsIn K mainGlobals "SAME" = some (some (.ref aS))) (l_SAME : K.lookup aS = some ⟨.type "tuple", odS, .seq #[.int 1 tS1, .int 0 tS2, .int 0 tS3, .int 1 tS4] nS, slS⟩)
    {aR : Addr} {tR : Tok} {nR : Nat} {slR : Array (Option Value)} (m_REFUSED : PySem.W.nsIn K mainGlobals "REFUSED" = some (some (.ref aR))) (l_REFUSED : K.lookup aR = some ⟨.type "list", none, .seq #[.int (-1) tR] nR, slR⟩)
    (z_abs : PySem.W.nsIn K mainGlobals "abs" = some none)
    (z_dict : PySem.W.nsIn K mainGlobals "dict" = some none)
    (z_enumerate : PySem.W.nsIn K mainGlobals "enumerate" = some none)
    (z_int : PySem.W.nsIn K mainGlobals "int" = some none)
    (z_len : PySem.W.nsIn K mainGlobals "len" = some none)
    (z_list : PySem.W.nsIn K mainGlobals "list" = some none)
    (z_min : PySem.W.nsIn K mainGlobals "min" = some none)
    (z_range : PySem.W.nsIn K mainGlobals "range" = some none)
    (z_sorted : PySem.W.nsIn K mainGlobals "sorted" = some none)
    : ∃ fd : FuncData, (∀ (s : Shared) (us : List Value), us.length = (["d"] : List Str).length → BindsTo s fd ⟨us, []⟩ ((["d"] : List Str).zip us)) ∧ ∀ base : Heap, K.In base → base.Ns mainGlobals mg → FnOk P w K mg base CX0 8 fa fd ["d"] (spD K p_group) := by
  have e := hfa.symm.trans (PySem.W.mg_of X G a26)
  obtain rfl : f26 = fa := by cases e; rfl
  have T : Nonempty { T : Txt K mg // T.f_group = f26 ∧ T.fd_group = PySem.W.fnOf "group" "group" (defArgs s_group) (defBody s_group) (defScope s_group) .none kV26 dc26 pm26 an26 cd26 ct26 } := ⟨⟨{
    k_GREATEST := ⟨t_GREATEST, PySem.W.mg_of X G m_GREATEST⟩
    k_NOT_PLAIN := ⟨t_NOT_PLAIN, PySem.W.mg_of X G m_NOT_PLAIN⟩
    k_ABOVE := ⟨t_ABOVE, PySem.W.mg_of X G m_ABOVE⟩
    k_BELOW := ⟨t_BELOW, PySem.W.mg_of X G m_BELOW⟩
    k_BOTH := ⟨t_BOTH, PySem.W.mg_of X G m_BOTH⟩
    a_SAME := aS
    k_SAME := PySem.W.mg_of X G m_SAME
    l_SAME := fun H => .inr ⟨_, _, _, l_SAME, rfl, rfl, (by show 4 ≤ sizeLine; decide), .cons ⟨_, rfl⟩ (.cons ⟨_, rfl⟩ (.cons ⟨_, rfl⟩ (.cons ⟨_, rfl⟩ .nil)))⟩
    a_REFUSED := aR
    k_REFUSED := PySem.W.mg_of X G m_REFUSED
    l_REFUSED := fun H => .inr ⟨_, _, _, l_REFUSED, rfl, rfl, rfl, (by show 1 ≤ sizeLine; decide), .cons ⟨_, rfl⟩ .nil⟩
    z_abs := PySem.W.mg_none_of X G z_abs
    z_dict := PySem.W.mg_none_of X G z_dict
    z_enumerate := PySem.W.mg_none_of X G z_enumerate
    z_int := PySem.W.mg_none_of X G z_int
    z_len := PySem.W.mg_none_of X G z_len
    z_list := PySem.W.mg_none_of X G z_list
    z_min := PySem.W.mg_none_of X G z_min
    z_range := PySem.W.mg_none_of X G z_range
    z_sorted := PySem.W.mg_none_of X G z_sorted
    f_common := f0
    fd_common := _
    g_common := PySem.W.mg_of X G a0
    F_common := fun_mk (st := s_common) l0 c0 k0
    b_common := (fun_mk (st := s_common) l0 c0 k0).binds (ps := ["one", "other"]) fun _ _ _ _ _ _ us hl => match us, hl with | [_, _], _ => rfl
    f_root_of := f1
    fd_root_of := _
    g_root_of := PySem.W.mg_of X G a1
    F_root_of := fun_mk (st := s_root_of) l1 c1 k1
    b_root_of := (fun_mk (st := s_root_of) l1 c1 k1).binds (ps := ["number"]) fun _ _ _ _ _ _ us hl => match us, hl with | [_], _ => rfl
    f_is_square := f2
    fd_is_square := _
    g_is_square := PySem.W.mg_of X G a2
    F_is_square := fun_mk (st := s_is_square) l2 c2 k2
    b_is_square := (fun_mk (st := s_is_square) l2 c2 k2).binds (ps := ["number"]) fun _ _ _ _ _ _ us hl => match us, hl with | [_], _ => rfl
    f_discriminant := f3
    fd_discriminant := _
    g_discriminant := PySem.W.mg_of X G a3
    F_discriminant := fun_mk (st := s_discriminant) l3 c3 k3
    b_discriminant := (fun_mk (st := s_discriminant) l3 c3 k3).binds (ps := ["form"]) fun _ _ _ _ _ _ us hl => match us, hl with | [_], _ => rfl
    f_kind_of := f4
    fd_kind_of := _
    g_kind_of := PySem.W.mg_of X G a4
    F_kind_of := fun_mk (st := s_kind_of) l4 c4 k4
    b_kind_of := (fun_mk (st := s_kind_of) l4 c4 k4).binds (ps := ["form"]) fun _ _ _ _ _ _ us hl => match us, hl with | [_], _ => rfl
    f_value_at := f5
    fd_value_at := _
    g_value_at := PySem.W.mg_of X G a5
    F_value_at := fun_mk (st := s_value_at) l5 c5 k5
    b_value_at := (fun_mk (st := s_value_at) l5 c5 k5).binds (ps := ["form", "x", "y"]) fun _ _ _ _ _ _ us hl => match us, hl with | [_, _, _], _ => rfl
    f_changed := f6
    fd_changed := _
    g_changed := PySem.W.mg_of X G a6
    F_changed := fun_mk (st := s_changed) l6 c6 k6
    b_changed := (fun_mk (st := s_changed) l6 c6 k6).binds (ps := ["form", "change"]) fun _ _ _ _ _ _ us hl => match us, hl with | [_, _], _ => rfl
    f_then := f7
    fd_then := _
    g_then := PySem.W.mg_of X G a7
    F_then := fun_mk (st := s_then) l7 c7 k7
    b_then := (fun_mk (st := s_then) l7 c7 k7).binds (ps := ["change", "other"]) fun _ _ _ _ _ _ us hl => match us, hl with | [_, _], _ => rfl
    f_is_discriminant := f8
    fd_is_discriminant := _
    g_is_discriminant := PySem.W.mg_of X G a8
    F_is_discriminant := fun_mk (st := s_is_discriminant) l8 c8 k8
    b_is_discriminant := (fun_mk (st := s_is_discriminant) l8 c8 k8).binds (ps := ["d"]) fun _ _ _ _ _ _ us hl => match us, hl with | [_], _ => rfl
    f_place := f9
    fd_place := _
    g_place := PySem.W.mg_of X G a9
    F_place := fun_mk (st := s_place) l9 c9 k9
    b_place := (fun_mk (st := s_place) l9 c9 k9).binds (ps := ["form"]) fun _ _ _ _ _ _ us hl => match us, hl with | [_], _ => rfl
    f_reduced_above := f10
    fd_reduced_above := _
    g_reduced_above := PySem.W.mg_of X G a10
    F_reduced_above := fun_mk (st := s_reduced_above) l10 c10 k10
    b_reduced_above := (fun_mk (st := s_reduced_above) l10 c10 k10).binds (ps := ["form"]) fun _ _ _ _ _ _ us hl => match us, hl with | [_], _ => rfl
    f_is_reduced := f11
    fd_is_reduced := _
    g_is_reduced := PySem.W.mg_of X G a11
    F_is_reduced := fun_mk (st := s_is_reduced) l11 c11 k11
    b_is_reduced := (fun_mk (st := s_is_reduced) l11 c11 k11).binds (ps := ["form", "root"]) fun _ _ _ _ _ _ us hl => match us, hl with | [_, _], _ => rfl
    f_next_form := f12
    fd_next_form := _
    g_next_form := PySem.W.mg_of X G a12
    F_next_form := fun_mk (st := s_next_form) l12 c12 k12
    b_next_form := (fun_mk (st := s_next_form) l12 c12 k12).binds (ps := ["form", "root"]) fun _ _ _ _ _ _ us hl => match us, hl with | [_, _], _ => rfl
    f_cycle_of := f13
    fd_cycle_of := _
    g_cycle_of := PySem.W.mg_of X G a13
    F_cycle_of := fun_mk (st := s_cycle_of) l13 c13 k13
    b_cycle_of := (fun_mk (st := s_cycle_of) l13 c13 k13).binds (ps := ["form"]) fun _ _ _ _ _ _ us hl => match us, hl with | [_], _ => rfl
    f_least_middle := f14
    fd_least_middle := _
    g_least_middle := PySem.W.mg_of X G a14
    F_least_middle := fun_mk (st := s_least_middle) l14 c14 k14
    b_least_middle := (fun_mk (st := s_least_middle) l14 c14 k14).binds (ps := ["form"]) fun _ _ _ _ _ _ us hl => match us, hl with | [_], _ => rfl
    f_least_of := f15
    fd_least_of := _
    g_least_of := PySem.W.mg_of X G a15
    F_least_of := fun_mk (st := s_least_of) l15 c15 k15
    b_least_of := (fun_mk (st := s_least_of) l15 c15 k15).binds (ps := ["form"]) fun _ _ _ _ _ _ us hl => match us, hl with | [_], _ => rfl
    f_weights := f16
    fd_weights := _
    g_weights := PySem.W.mg_of X G a16
    F_weights := fun_mk (st := s_weights) l16 c16 k16
    b_weights := (fun_mk (st := s_weights) l16 c16 k16).binds (ps := ["one", "other"]) fun _ _ _ _ _ _ us hl => match us, hl with | [_, _], _ => rfl
    f_product := f17
    fd_product := _
    g_product := PySem.W.mg_of X G a17
    F_product := fun_mk (st := s_product) l17 c17 k17
    b_product := (fun_mk (st := s_product) l17 c17 k17).binds (ps := ["form", "other"]) fun _ _ _ _ _ _ us hl => match us, hl with | [_, _], _ => rfl
    f_one_of := f18
    fd_one_of := _
    g_one_of := PySem.W.mg_of X G a18
    F_one_of := fun_mk (st := s_one_of) l18 c18 k18
    b_one_of := (fun_mk (st := s_one_of) l18 c18 k18).binds (ps := ["d"]) fun _ _ _ _ _ _ us hl => match us, hl with | [_], _ => rfl
    f_order_of := f19
    fd_order_of := _
    g_order_of := PySem.W.mg_of X G a19
    F_order_of := fun_mk (st := s_order_of) l19 c19 k19
    b_order_of := (fun_mk (st := s_order_of) l19 c19 k19).binds (ps := ["form"]) fun _ _ _ _ _ _ us hl => match us, hl with | [_], _ => rfl
    f_reduced_forms_above := f20
    fd_reduced_forms_above := _
    g_reduced_forms_above := PySem.W.mg_of X G a20
    F_reduced_forms_above := fun_mk (st := s_reduced_forms_above) l20 c20 k20
    b_reduced_forms_above := (fun_mk (st := s_reduced_forms_above) l20 c20 k20).binds (ps := ["d"]) fun _ _ _ _ _ _ us hl => match us, hl with | [_], _ => rfl
    f_reduced_forms_both := f21
    fd_reduced_forms_both := _
    g_reduced_forms_both := PySem.W.mg_of X G a21
    F_reduced_forms_both := fun_mk (st := s_reduced_forms_both) l21 c21 k21
    b_reduced_forms_both := (fun_mk (st := s_reduced_forms_both) l21 c21 k21).binds (ps := ["d"]) fun _ _ _ _ _ _ us hl => match us, hl with | [_], _ => rfl
    f_classes_of := f22
    fd_classes_of := _
    g_classes_of := PySem.W.mg_of X G a22
    F_classes_of := fun_mk (st := s_classes_of) l22 c22 k22
    b_classes_of := (fun_mk (st := s_classes_of) l22 c22 k22).binds (ps := ["d"]) fun _ _ _ _ _ _ us hl => match us, hl with | [_], _ => rfl
    f_primes_of := f23
    fd_primes_of := _
    g_primes_of := PySem.W.mg_of X G a23
    F_primes_of := fun_mk (st := s_primes_of) l23 c23 k23
    b_primes_of := (fun_mk (st := s_primes_of) l23 c23 k23).binds (ps := ["number"]) fun _ _ _ _ _ _ us hl => match us, hl with | [_], _ => rfl
    f_parts_by := f24
    fd_parts_by := _
    g_parts_by := PySem.W.mg_of X G a24
    F_parts_by := fun_mk (st := s_parts_by) l24 c24 k24
    b_parts_by := (fun_mk (st := s_parts_by) l24 c24 k24).binds (ps := ["orders", "prime"]) fun _ _ _ _ _ _ us hl => match us, hl with | [_, _], _ => rfl
    f_group_of := f25
    fd_group_of := _
    g_group_of := PySem.W.mg_of X G a25
    F_group_of := fun_mk (st := s_group_of) l25 c25 k25
    b_group_of := (fun_mk (st := s_group_of) l25 c25 k25).binds (ps := ["d"]) fun _ _ _ _ _ _ us hl => match us, hl with | [_], _ => rfl
    f_group := f26
    fd_group := _
    g_group := PySem.W.mg_of X G a26
    F_group := fun_mk (st := s_group) l26 c26 k26
    b_group := (fun_mk (st := s_group) l26 c26 k26).binds (ps := ["d"]) fun _ _ _ _ _ _ us hl => match us, hl with | [_], _ => rfl
    }, rfl, rfl⟩⟩
  obtain ⟨T, e1, e2⟩ := T
  refine ⟨T.fd_group, fun s us hu => ?_, fun base _ _ => e1 ▸ ok_group T⟩
  rw [e2]
  exact match us, hu with | [_], _ => .of_eq rfl
theorem dw_list {K : PySem.W.Frag} {H : Hp} {v : V} {ns : List Int} (h : Dp K H v (.list (ns.map PyData.int))) : Dw K H v (.list (ns.map PySem.W.WData.int)) := by
  obtain ⟨a, xs, rfl, hs, ha⟩ := dp_list h
  cases da_ints ha
  exact .lst hs (dw_ints ns)
end Fkw
open PySem PySem.W PyProof.Rows
set_option maxRecDepth 100000 in
set_option maxHeartbeats 8000000 in
theorem PySem.Challenge.cw_formkinds_s15_group_holds : PySem.Challenge.rw_formkinds_s15_group.Holds := by
  w_on; k_headS; (case hw => exact ⟨[.int 0], by decide +kernel, by decide +kernel⟩)
  k_fillS
  refine L2.walk_specK (r := PySem.Challenge.rw_formkinds_s15_group) (k := 8) (CX := L2.CX0) (ps := ["d"]) (sp := fun K => Fkw.spD K Fkw.p_group) (by decide +kernel) rfl rfl ⟨rfl, by decide, by decide⟩ (fun w h Y => PySem.W.kIn_of Y) ?F ?S (fun _ _ _ _ z => z)
  case F =>
    intro w mg fa h Y KX G hmg
    refine' Fkw.all_mk KX G hmg ?a0 ?l0 ?c0 ?k0 ?a1 ?l1 ?c1 ?k1 ?a2 ?l2 ?c2 ?k2 ?a3 ?l3 ?c3 ?k3 ?a4 ?l4 ?c4 ?k4 ?a5 ?l5 ?c5 ?k5 ?a6 ?l6 ?c6 ?k6 ?a7 ?l7 ?c7 ?k7 ?a8 ?l8 ?c8 ?k8 ?a9 ?l9 ?c9 ?k9 ?a10 ?l10 ?c10 ?k10 ?a11 ?l11 ?c11 ?k11 ?a12 ?l12 ?c12 ?k12 ?a13 ?l13 ?c13 ?k13 ?a14 ?l14 ?c14 ?k14 ?a15 ?l15 ?c15 ?k15 ?a16 ?l16 ?c16 ?k16 ?a17 ?l17 ?c17 ?k17 ?a18 ?l18 ?c18 ?k18 ?a19 ?l19 ?c19 ?k19 ?a20 ?l20 ?c20 ?k20 ?a21 ?l21 ?c21 ?k21 ?a22 ?l22 ?c22 ?k22 ?a23 ?l23 ?c23 ?k23 ?a24 ?l24 ?c24 ?k24 ?a25 ?l25 ?c25 ?k25 ?a26 ?l26 ?c26 ?k26 ?m_GREATEST ?m_NOT_PLAIN ?m_ABOVE ?m_BELOW ?m_BOTH ?m_SAME ?l_SAME ?m_REFUSED ?l_REFUSED ?z_abs ?z_dict ?z_enumerate ?z_int ?z_len ?z_list ?z_min ?z_range ?z_sorted
    (case a0 => k_is)
    (case l0 => k_is)
    (case c0 => k_is)
    (case k0 => k_is)
    (case a1 => k_is)
    (case l1 => k_is)
    (case c1 => k_is)
    (case k1 => k_is)
    (case a2 => k_is)
    (case l2 => k_is)
    (case c2 => k_is)
    (case k2 => k_is)
    (case a3 => k_is)
    (case l3 => k_is)
    (case c3 => k_is)
    (case k3 => k_is)
    (case a4 => k_is)
    (case l4 => k_is)
    (case c4 => k_is)
    (case k4 => k_is)
    (case a5 => k_is)
    (case l5 => k_is)
    (case c5 => k_is)
    (case k5 => k_is)
    (case a6 => k_is)
    (case l6 => k_is)
    (case c6 => k_is)
    (case k6 => k_is)
    (case a7 => k_is)
    (case l7 => k_is)
    (case c7 => k_is)
    (case k7 => k_is)
    (case a8 => k_is)
    (case l8 => k_is)
    (case c8 => k_is)
    (case k8 => k_is)
    (case a9 => k_is)
    (case l9 => k_is)
    (case c9 => k_is)
    (case k9 => k_is)
    (case a10 => k_is)
    (case l10 => k_is)
    (case c10 => k_is)
    (case k10 => k_is)
    (case a11 => k_is)
    (case l11 => k_is)
    (case c11 => k_is)
    (case k11 => k_is)
    (case a12 => k_is)
    (case l12 => k_is)
    (case c12 => k_is)
    (case k12 => k_is)
    (case a13 => k_is)
    (case l13 => k_is)
    (case c13 => k_is)
    (case k13 => k_is)
    (case a14 => k_is)
    (case l14 => k_is)
    (case c14 => k_is)
    (case k14 => k_is)
    (case a15 => k_is)
    (case l15 => k_is)
    (case c15 => k_is)
    (case k15 => k_is)
    (case a16 => k_is)
    (case l16 => k_is)
    (case c16 => k_is)
    (case k16 => k_is)
    (case a17 => k_is)
    (case l17 => k_is)
    (case c17 => k_is)
    (case k17 => k_is)
    (case a18 => k_is)
    (case l18 => k_is)
    (case c18 => k_is)
    (case k18 => k_is)
    (case a19 => k_is)
    (case l19 => k_is)
    (case c19 => k_is)
    (case k19 => k_is)
    (case a20 => k_is)
    (case l20 => k_is)
    (case c20 => k_is)
    (case k20 => k_is)
    (case a21 => k_is)
    (case l21 => k_is)
    (case c21 => k_is)
    (case k21 => k_is)
    (case a22 => k_is)
    (case l22 => k_is)
    (case c22 => k_is)
    (case k22 => k_is)
    (case a23 => k_is)
    (case l23 => k_is)
    (case c23 => k_is)
    (case k23 => k_is)
    (case a24 => k_is)
    (case l24 => k_is)
    (case c24 => k_is)
    (case k24 => k_is)
    (case a25 => k_is)
    (case l25 => k_is)
    (case c25 => k_is)
    (case k25 => k_is)
    (case a26 => k_is)
    (case l26 => k_is)
    (case c26 => k_is)
    (case k26 => k_is)
    (case m_GREATEST => k_is)
    (case m_NOT_PLAIN => k_is)
    (case m_ABOVE => k_is)
    (case m_BELOW => k_is)
    (case m_BOTH => k_is)
    (case m_SAME => k_is)
    (case l_SAME => k_is)
    (case m_REFUSED => k_is)
    (case l_REFUSED => k_is)
    (case z_abs => k_is)
    (case z_dict => k_is)
    (case z_enumerate => k_is)
    (case z_int => k_is)
    (case z_len => k_is)
    (case z_list => k_is)
    (case z_min => k_is)
    (case z_range => k_is)
    (case z_sorted => k_is)
  case S =>
    intro K H xs args hO hwi hask hx
    obtain ⟨x0, u⟩ := args
    cases hx with
    | cons h0 hx =>
    cases hx
    cases h0
    have q : (Codec.inInt _ _ x0 && true) = true := hwi
    simp only [Bool.and_eq_true] at q
    have q0 := Codec.inInt_iff.mp q.1
    refine ⟨_, _, .cons (.int _) (.nil), ⟨x0, rfl, ⟨q0.1, q0.2⟩, rfl⟩, fun v H' _ hd => ?_⟩
    exact Fkw.dw_list hd
#print axioms PySem.Challenge.cw_formkinds_s15_group_holds
