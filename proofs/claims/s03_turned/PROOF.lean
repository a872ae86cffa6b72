import PyProof.Rows.All
import Wide.All
import OpenK.AllK
import Wide.FinOn
import Open.SpecLaws
import KE.OsGo
import HandS.ForSpec
import HandS.TryMany
import HandS.Comp
import HandS.Evl
import HandS.WideBits
import HandS.Wide
import PySem.Challenge.RW_formkinds_s03_turned
set_option Elab.async false
set_option linter.all false
set_option maxRecDepth 100000
set_option maxHeartbeats 2000000
set_option Elab.async false
set_option linter.all false
set_option maxRecDepth 100000
set_option maxHeartbeats 2000000
/-! Walks over data: a value stands for a datum (Dp), a piece of syntax evaluates to a datum (EvD), a def keeps a promise over data (spD). -/
namespace Fkw
open PySem PySem.Spec PyProof.Rows L2 Evl
/-! ### data stay under a growing heap -/
mutual
theorem Dp_mono {K : PySem.W.Frag} {H H' : Hp} (e : Ex H H') : ∀ {v : V} {d : PyData}, Dp K H v d → Dp K H' v d
  | _, _, .non => .non
  | _, _, .bl b => .bl b
  | _, _, .int i => .int i
  | _, _, .str x => .str x
  | _, _, .lst h a => .lst (ex_l e h) (DpAll_mono e a)
  | _, _, .tup h a => .tup (ex_t e h) (DpAll_mono e a)
theorem DpAll_mono {K : PySem.W.Frag} {H H' : Hp} (e : Ex H H') : ∀ {vs : List V} {ds : List PyData}, DpAll K H vs ds → DpAll K H' vs ds
  | _, _, .nil => .nil
  | _, _, .cons a b => .cons (Dp_mono e a) (DpAll_mono e b)
end
section
variable {K : PySem.W.Frag} {H H' : Hp}
theorem dp_int {v : V} {n : Int} (h : Dp K H v (.int n)) : v = .int n := by cases h; rfl
theorem dp_bool {v : V} {b : Bool} (h : Dp K H v (.bool b)) : v = .bl b := by cases h; rfl
theorem dp_none {v : V} (h : Dp K H v .none) : v = .non := by cases h; rfl
theorem dp_list {v : V} {ds : List PyData} (h : Dp K H v (.list ds)) : ∃ a xs, v = .ref a ∧ SqL K H a xs ∧ DpAll K H xs ds := by
  cases h with
  | lst h a => exact ⟨_, _, rfl, h, a⟩
theorem dp_tup {v : V} {ds : List PyData} (h : Dp K H v (.tuple ds)) : ∃ a xs, v = .ref a ∧ SqT K H a xs ∧ DpAll K H xs ds := by
  cases h with
  | tup h a => exact ⟨_, _, rfl, h, a⟩
theorem da_nil {vs : List V} (h : DpAll K H vs []) : vs = [] := by cases h; rfl
theorem da_cons {vs : List V} {d : PyData} {ds : List PyData} (h : DpAll K H vs (d :: ds)) : ∃ v r, vs = v :: r ∧ Dp K H v d ∧ DpAll K H r ds := by
  cases h with
  | cons a b => exact ⟨_, _, rfl, a, b⟩
theorem da_len : ∀ {ds : List PyData} {vs : List V}, DpAll K H vs ds → vs.length = ds.length
  | [], _, h => by cases h; rfl
  | d :: ds, _, h => by
    cases h with
    | cons a b => rw [List.length_cons, List.length_cons, da_len b]
theorem da_append : ∀ {xs ys : List V} {ds es : List PyData}, DpAll K H xs ds → DpAll K H ys es → DpAll K H (xs ++ ys) (ds ++ es)
  | _, _, _, _, .nil, h => h
  | _, _, _, _, .cons a b, h => .cons a (da_append b h)
theorem da_get : ∀ {ds : List PyData} {vs : List V} {i : Nat} {d : PyData}, DpAll K H vs ds → ds[i]? = some d → ∃ v, vs[i]? = some v ∧ Dp K H v d
  | [], _, i, d, _, h => by simp at h
  | e :: ds, _, 0, d, .cons a b, h => ⟨_, rfl, by have : e = d := Option.some.inj h; exact this ▸ a⟩
  | e :: ds, _, i + 1, d, .cons a b, h => by
    obtain ⟨v, h1, h2⟩ := da_get (ds := ds) (i := i) (d := d) b (by simpa using h)
    exact ⟨v, by simpa using h1, h2⟩
theorem da_get2 : ∀ {ds : List PyData} {vs : List V} {i : Nat} {v : V}, DpAll K H vs ds → vs[i]? = some v → ∃ d, ds[i]? = some d ∧ Dp K H v d
  | [], _, i, d, h, e => by cases h; simp at e
  | e :: ds, _, 0, v, .cons a b, h => ⟨_, rfl, by have := Option.some.inj h; exact this ▸ a⟩
  | e :: ds, _, i + 1, v, .cons a b, h => by
    obtain ⟨d, h1, h2⟩ := da_get2 (ds := ds) (i := i) (v := v) b (by simpa using h)
    exact ⟨d, by simpa using h1, h2⟩
theorem da_ints : ∀ {ns : List Int} {vs : List V}, DpAll K H vs (ns.map PyData.int) → vs = ns.map V.int
  | [], _, h => by cases h; rfl
  | n :: ns, _, h => by
    cases h with
    | cons a b => rw [dp_int a, da_ints b]; rfl
theorem ints_da : ∀ (ns : List Int), DpAll K H (ns.map V.int) (ns.map PyData.int)
  | [] => .nil
  | _ :: ns => .cons (.int _) (ints_da ns)
theorem dp_tup3 {v : V} {x y z : PyData} (h : Dp K H v (.tuple [x, y, z])) : ∃ a p q r, v = .ref a ∧ SqT K H a [p, q, r] ∧ Dp K H p x ∧ Dp K H q y ∧ Dp K H r z := by
  obtain ⟨a, xs, rfl, hs, ha⟩ := dp_tup h
  obtain ⟨p, _, rfl, h1, ha⟩ := da_cons ha
  obtain ⟨q, _, rfl, h2, ha⟩ := da_cons ha
  obtain ⟨r, _, rfl, h3, ha⟩ := da_cons ha
  cases da_nil ha
  exact ⟨a, p, q, r, rfl, hs, h1, h2, h3⟩
end

/-! ### what evaluates to a datum -/
def EvD (K : PySem.W.Frag) (te : TE) (σ : L2.St) (H : Hp) (d : PyData) : Prop := ∀ H1, Ex H H1 → ∀ Q : VK, (∀ v H2, Ex H1 H2 → Dp K H2 v d → Q v H2) → te σ H1 Q
def EvDA (K : PySem.W.Frag) (ta : TA) (σ : L2.St) (H : Hp) (ds : List PyData) : Prop := ∀ H1, Ex H H1 → ∀ Q : List V → Hp → Prop, (∀ vs H2, Ex H1 H2 → DpAll K H2 vs ds → Q vs H2) → ta σ H1 Q
/-- a new list that may still be changed: its values stand for the data -/
def EvN (K : PySem.W.Frag) (te : TE) (σ : L2.St) (H : Hp) (ds : List PyData) : Prop := ∀ H1, Ex H H1 → ∀ Q : VK, (∀ p xs H2, H1 p = none → Ex H1 H2 → H2 p = some (.lst xs) → DpAll K H2 xs ds → Q (.ref p) H2) → te σ H1 Q
section
variable {K : PySem.W.Frag} {σ : L2.St} {H H' : Hp} {ta tb te tx : TE} {t u : TT} {d dx dy : PyData} {v : V} {r : R2} {tas : TA} {ds : List PyData}
theorem EvD.mono (e : Ex H H') (h : EvD K te σ H d) : EvD K te σ H' d := fun H1 a Q q => h H1 (e.trans a) Q q
theorem EvN.mono (e : Ex H H') (h : EvN K te σ H ds) : EvN K te σ H' ds := fun H1 a Q q => h H1 (e.trans a) Q q
theorem EvDA.mono (e : Ex H H') (h : EvDA K tas σ H ds) : EvDA K tas σ H' ds := fun H1 a Q q => h H1 (e.trans a) Q q
theorem EvN.toD (h : EvN K te σ H ds) : EvD K te σ H (.list ds) := fun H1 a Q q => h H1 a Q fun _ _ H2 _ e hp hd => q _ H2 e (.lst (sq_of hp) hd)
/-- a value known is a datum known -/
theorem EvD.ev {n : Int} (h : EvD K te σ H (.int n)) : Ev te σ H (.int n) := fun H1 a Q q => h H1 a Q fun v H2 e hv => by
  cases dp_int hv
  exact q H2 e
theorem EvD.evb {b : Bool} (h : EvD K te σ H (.bool b)) : Ev te σ H (.bl b) := fun H1 a Q q => h H1 a Q fun v H2 e hv => by
  cases dp_bool hv
  exact q H2 e
theorem ed_of (h : Ev te σ H v) (hd : Dp K H v d) : EvD K te σ H d := fun H1 a Q q => h H1 a Q fun H2 e => q v H2 e (Dp_mono (a.trans e) hd)
theorem ed_var {i : Nat} (h : σ[i]? = some (some v)) (hd : Dp K H v d) : EvD K (tVar i) σ H d := ed_of (ev_var h) hd
theorem ed_int {n : Int} : EvD K (tC (.int n)) σ H (.int n) := ed_of ev_c (.int n)
theorem ed_bl {b : Bool} : EvD K (tC (.bl b)) σ H (.bool b) := ed_of ev_c (.bl b)
theorem ed_non : EvD K (tC .non) σ H .none := ed_of ev_c .non
theorem ed_c (hd : Dp K H v d) : EvD K (tC v) σ H d := ed_of ev_c hd
theorem ed_is {e : PyData} (h : EvD K te σ H d) (q : d = e) : EvD K te σ H e := q ▸ h
theorem EvD.to {n m : Int} (h : EvD K te σ H (.int n)) (q : n = m) : EvD K te σ H (.int m) := q ▸ h
/-- two operands, one operation -/
theorem ed_op (ha : EvD K ta σ H dx) (hb : EvD K tb σ H dy) (hr : ∀ x y H1, Ex H H1 → Dp K H1 x dx → Dp K H1 y dy → ∀ Q : VK, (∀ v H2, Ex H1 H2 → Dp K H2 v d → Q v H2) → r x y H1 Q) : EvD K (tOp r ta tb) σ H d := fun H1 e Q q =>
  ha H1 e _ fun x H2 e2 hx => hb H2 (e.trans e2) _ fun y H3 e3 hy => hr x y H3 ((e.trans e2).trans e3) (Dp_mono e3 hx) hy Q fun v H4 e4 hv => q v H4 ((e2.trans e3).trans e4) hv
theorem ed_I0 {g : Int → Int → V} {i j : Int} (ha : EvD K ta σ H (.int i)) (hb : EvD K tb σ H (.int j)) (hd : Dp K H (g i j) d) : EvD K (tOp (rI0 g) ta tb) σ H d :=
  ed_op ha hb fun x y H1 e hx hy Q q => ⟨i, j, dp_int hx, dp_int hy, q _ H1 (Ex.refl H1) (Dp_mono e hd)⟩
theorem ed_I {C : Int → Int → Prop} {g : Int → Int → V} {i j : Int} (ha : EvD K ta σ H (.int i)) (hb : EvD K tb σ H (.int j)) (hc : C i j) (hd : Dp K H (g i j) d) : EvD K (tOp (rI C g) ta tb) σ H d :=
  ed_op ha hb fun x y H1 e hx hy Q q => ⟨i, j, dp_int hx, dp_int hy, hc, q _ H1 (Ex.refl H1) (Dp_mono e hd)⟩
theorem ed_add {i j : Int} (ha : EvD K ta σ H (.int i)) (hb : EvD K tb σ H (.int j)) : EvD K (tOp (rI0 fun i j => .int (i + j)) ta tb) σ H (.int (i + j)) := ed_I0 ha hb (.int _)
theorem ed_sub {i j : Int} (ha : EvD K ta σ H (.int i)) (hb : EvD K tb σ H (.int j)) : EvD K (tOp (rI0 fun i j => .int (i - j)) ta tb) σ H (.int (i - j)) := ed_I0 ha hb (.int _)
theorem ed_mul {i j : Int} (ha : EvD K ta σ H (.int i)) (hb : EvD K tb σ H (.int j)) (hc : CMul i j) : EvD K (tOp (rI CMul fun i j => .int (i * j)) ta tb) σ H (.int (i * j)) := ed_I ha hb hc (.int _)
theorem ed_fdiv {i j : Int} (ha : EvD K ta σ H (.int i)) (hb : EvD K tb σ H (.int j)) (hc : CDivN i j) : EvD K (tOp (rI CDivN fun i j => .int (i.fdiv j)) ta tb) σ H (.int (i.fdiv j)) := ed_I ha hb hc (.int _)
theorem ed_mod {i j : Int} (ha : EvD K ta σ H (.int i)) (hb : EvD K tb σ H (.int j)) (hc : j ≠ 0) : EvD K (tOp (rI (fun _ j => j ≠ 0) fun i j => .int (i.fmod j)) ta tb) σ H (.int (i.fmod j)) := ed_I ha hb hc (.int _)
theorem ed_lt {i j : Int} (ha : EvD K ta σ H (.int i)) (hb : EvD K tb σ H (.int j)) : EvD K (tOp (rI0 fun i j => .bl (decide (i < j))) ta tb) σ H (.bool (decide (i < j))) := ed_I0 ha hb (.bl _)
theorem ed_le {i j : Int} (ha : EvD K ta σ H (.int i)) (hb : EvD K tb σ H (.int j)) : EvD K (tOp (rI0 fun i j => .bl (decide (i ≤ j))) ta tb) σ H (.bool (decide (i ≤ j))) := ed_I0 ha hb (.bl _)
theorem ed_gt {i j : Int} (ha : EvD K ta σ H (.int i)) (hb : EvD K tb σ H (.int j)) : EvD K (tOp (rI0 fun i j => .bl (decide (j < i))) ta tb) σ H (.bool (decide (j < i))) := ed_I0 ha hb (.bl _)
theorem ed_ge {i j : Int} (ha : EvD K ta σ H (.int i)) (hb : EvD K tb σ H (.int j)) : EvD K (tOp (rI0 fun i j => .bl (decide (j ≤ i))) ta tb) σ H (.bool (decide (j ≤ i))) := ed_I0 ha hb (.bl _)
theorem ed_eqI {i j : Int} (ha : EvD K ta σ H (.int i)) (hb : EvD K tb σ H (.int j)) : EvD K (tOp rEq ta tb) σ H (.bool (decide (i = j))) :=
  ed_op ha hb fun x y H1 _ hx hy Q q => by
    cases dp_int hx
    cases dp_int hy
    refine ⟨rfl, q _ H1 (Ex.refl H1) ?_⟩
    have : decide (V.int i = V.int j) = decide (i = j) := by
      rw [L2.dec_int]
      rfl
    rw [this]
    exact .bl _
theorem ed_neI {i j : Int} (ha : EvD K ta σ H (.int i)) (hb : EvD K tb σ H (.int j)) : EvD K (tOp rNe ta tb) σ H (.bool (!decide (i = j))) :=
  ed_op ha hb fun x y H1 _ hx hy Q q => by
    cases dp_int hx
    cases dp_int hy
    refine ⟨rfl, q _ H1 (Ex.refl H1) ?_⟩
    have : decide (V.int i = V.int j) = decide (i = j) := by
      rw [L2.dec_int]
      rfl
    rw [this]
    exact .bl _
theorem ed_neg {i : Int} (ha : EvD K ta σ H (.int i)) : EvD K (tUn (rU fun i => .int (-i)) ta) σ H (.int (-i)) := fun H1 e Q q =>
  ha H1 e _ fun x H2 e2 hx => by
    cases dp_int hx
    exact ⟨i, rfl, q _ H2 e2 (.int _)⟩
/-! arguments, tuples, lists -/
theorem eda_nil : EvDA K tNil σ H [] := fun H1 _ _ q => q [] H1 (Ex.refl H1) .nil
theorem eda_cons {tr : TA} (h : EvD K te σ H d) (hr : EvDA K tr σ H ds) : EvDA K (tCons te tr) σ H (d :: ds) := fun H1 e _ q =>
  h H1 e _ fun x H2 e2 hx => hr H2 (e.trans e2) _ fun xs H3 e3 hxs => q _ H3 (e2.trans e3) (.cons (Dp_mono e3 hx) hxs)
theorem ed_tup (h : EvDA K tas σ H ds) (hl : ds.length ≤ 100000 := by simp) : EvD K (tTup tas) σ H (.tuple ds) := fun H1 e Q q =>
  h H1 e _ fun xs H2 e2 hx => ⟨by rw [da_len hx]; exact sz_of hl, fun p hp => q _ _ (e2.trans (Ex.new hp)) (.tup (st_of upd_same) (DpAll_mono (Ex.new hp) hx))⟩
theorem en_lst (h : EvDA K tas σ H ds) (hl : ds.length ≤ 100000 := by simp) : EvN K (tLst tas) σ H ds := fun H1 e Q q =>
  h H1 e _ fun xs H2 e2 hx => ⟨by rw [da_len hx]; exact sz_of hl, fun p hp => q p xs _ (fresh_back e2 hp) (e2.trans (Ex.new hp)) upd_same (DpAll_mono (Ex.new hp) hx)⟩
theorem en_list (h : EvD K te σ H d) (hd : d = .list ds ∨ d = .tuple ds) : EvN K (tCB (rListS K) (tCons te tNil)) σ H ds := fun H1 e Q q =>
  h H1 e _ fun x H2 e2 hx => by
    rcases hd with rfl | rfl
    · obtain ⟨a, xs, rfl, hs, ha⟩ := dp_list hx
      exact ⟨a, xs, rfl, .inl hs, fun l hl => q l xs _ (fresh_back e2 hl) (e2.trans (Ex.new hl)) upd_same (DpAll_mono (Ex.new hl) ha)⟩
    · obtain ⟨a, xs, rfl, hs, ha⟩ := dp_tup hx
      exact ⟨a, xs, rfl, .inr hs, fun l hl => q l xs _ (fresh_back e2 hl) (e2.trans (Ex.new hl)) upd_same (DpAll_mono (Ex.new hl) ha)⟩
/-- both operands of a list's +: new lists -/
theorem en_cat {es : List PyData} (ha : EvN K ta σ H ds) (hb : EvN K tb σ H es) (hl : ds.length + es.length ≤ 100000) : EvN K (tOp rCat ta tb) σ H (ds ++ es) := fun H1 e Q q =>
  ha H1 e _ fun p xs H2 hp e2 h2 hx => hb H2 (e.trans e2) _ fun p' ys H3 hp' e3 h3 hy =>
    ⟨p, p', xs, ys, rfl, rfl, e3 p _ h2, h3, by rw [da_len hx, da_len hy]; exact sz_of hl, fun l hl' => q l _ _ (fresh_back (e2.trans e3) hl') ((e2.trans e3).trans (Ex.new hl')) upd_same
      (DpAll_mono (Ex.new hl') (da_append (DpAll_mono e3 hx) hy))⟩
theorem ed_len (h : EvD K te σ H d) (hd : d = .list ds ∨ d = .tuple ds) : EvD K (tCB (rLenS K) (tCons te tNil)) σ H (.int (ds.length : Int)) := fun H1 e Q q =>
  h H1 e _ fun x H2 e2 hx => by
    rcases hd with rfl | rfl
    · obtain ⟨a, xs, rfl, hs, ha⟩ := dp_list hx
      exact ⟨a, xs, rfl, .inl hs, q _ H2 e2 (by rw [da_len ha]; exact .int _)⟩
    · obtain ⟨a, xs, rfl, hs, ha⟩ := dp_tup hx
      exact ⟨a, xs, rfl, .inr hs, q _ H2 e2 (by rw [da_len ha]; exact .int _)⟩
def rAbs : List V → Hp → VK → Prop := fun xs H Q => ∃ i, xs = [.int i] ∧ Q (.int (if i < 0 then -i else i)) H
theorem ed_abs {i : Int} (h : EvD K te σ H (.int i)) : EvD K (tCB rAbs (tCons te tNil)) σ H (.int (i.natAbs : Int)) := fun H1 e Q q =>
  h H1 e _ fun x H2 e2 hx => by
    cases dp_int hx
    refine ⟨i, rfl, q _ H2 e2 ?_⟩
    have : (if i < 0 then -i else i) = (i.natAbs : Int) := by split <;> omega
    rw [this]
    exact .int _
/-- max, min of ints that are not empty -/
theorem ed_max {n : Int} {ns : List Int} {m : Int} (h : EvD K te σ H (.list ((n :: ns).map PyData.int))) (hm : ∀ m', m' ∈ n :: ns → (∀ y, y ∈ n :: ns → y ≤ m') → m' = m) : EvD K (tCB (rMax K) (tCons te tNil)) σ H (.int m) := fun H1 e Q q =>
  h H1 e _ fun x H2 e2 hx => by
    obtain ⟨a, xs, rfl, hs, ha⟩ := dp_list hx
    cases da_ints ha
    refine ⟨a, n :: ns, rfl, hs, by simp, fun m' h1 h2 => ?_⟩
    cases hm m' h1 h2
    exact q _ H2 e2 (.int _)
/-- a tuple's item at a written place -/
theorem ed_ixT {i : Nat} {n : Int} (ha : EvD K ta σ H (.tuple ds)) (hb : EvD K tb σ H (.int n)) (hn : n = (i : Int)) (hi : ds[i]? = some d) : EvD K (tOp (rIxT K) ta tb) σ H d :=
  ed_op ha hb fun x y H1 _ hx hy Q q => by
    cases dp_int hy
    obtain ⟨a, xs, rfl, hs, hxs⟩ := dp_tup hx
    obtain ⟨v, hv, hd⟩ := da_get hxs hi
    exact ⟨a, xs, n, v, rfl, rfl, hs, by rw [hn]; exact atI_nat hv, q _ H1 (Ex.refl H1) hd⟩
theorem ed_ixL {i : Nat} {n : Int} (ha : EvD K ta σ H (.list ds)) (hb : EvD K tb σ H (.int n)) (hn : n = (i : Int)) (hi : ds[i]? = some d) : EvD K (tOp (rIxL K) ta tb) σ H d :=
  ed_op ha hb fun x y H1 _ hx hy Q q => by
    cases dp_int hy
    obtain ⟨a, xs, rfl, hs, hxs⟩ := dp_list hx
    obtain ⟨v, hv, hd⟩ := da_get hxs hi
    exact ⟨a, xs, n, v, rfl, rfl, hs, by rw [hn]; exact atI_nat hv, q _ H1 (Ex.refl H1) hd⟩
/-- and, or as values; not -/
theorem ed_and {a b : Bool} (h1 : EvD K ta σ H (.bool a)) (h2 : a = true → EvD K tb σ H (.bool b)) : EvD K (tAndV ta tb) σ H (.bool (a && b)) := fun H1 e Q q => h1 H1 e _ fun v H2 e2 hv => by
  cases dp_bool hv
  refine ⟨a, rfl, ?_⟩
  cases a with
  | true =>
    show tb σ H2 Q
    exact h2 rfl H2 (e.trans e2) Q fun v H3 e3 hv => q v H3 (e2.trans e3) hv
  | false =>
    show Q (.bl false) H2
    exact q _ H2 e2 (.bl _)
theorem ed_or {a b : Bool} (h1 : EvD K ta σ H (.bool a)) (h2 : a = false → EvD K tb σ H (.bool b)) : EvD K (tOrV ta tb) σ H (.bool (a || b)) := fun H1 e Q q => h1 H1 e _ fun v H2 e2 hv => by
  cases dp_bool hv
  refine ⟨a, rfl, ?_⟩
  cases a with
  | true =>
    show Q (.bl true) H2
    exact q _ H2 e2 (.bl _)
  | false =>
    show tb σ H2 Q
    exact h2 rfl H2 (e.trans e2) Q fun v H3 e3 hv => q v H3 (e2.trans e3) hv
theorem ed_not {a : Bool} (h1 : EvD K ta σ H (.bool a)) : EvD K (tNotV ta) σ H (.bool (!a)) := fun H1 e Q q => h1 H1 e _ fun v H2 e2 hv => by
  cases dp_bool hv
  exact ⟨a, rfl, q _ H2 e2 (.bl _)⟩
theorem et_testD {b : Bool} (h : EvD K te σ H (.bool b)) : EvT (tTest te) σ H b := et_test h.evb
theorem et_BD {b : Bool} (h : EvD K te σ H (.bool b)) : EvT (tB te) σ H b := et_B h.evb
end

/-! ### promises over data -/
def spD (K : PySem.W.Frag) (pre : List PyData → PyData → Prop) : Sp := fun vs H Q _ => ∃ ds d, DpAll K H vs ds ∧ pre ds d ∧ ∀ v H', Ex H H' → Dp K H' v d → Q v H'
/-- a def that hands back a new list, which its caller may change -/
def spN (K : PySem.W.Frag) (pre : List PyData → List PyData → Prop) : Sp := fun vs H Q _ => ∃ ds es, DpAll K H vs ds ∧ pre ds es ∧ ∀ p xs H', H p = none → Ex H H' → H' p = some (.lst xs) → DpAll K H' xs es → Q (.ref p) H'
/-- a def that hands back None or raises the error at CF -/
def spX (K : PySem.W.Frag) (CF : Addr) (pre : List PyData → Bool → Prop) : Sp := fun vs H Q E => ∃ ds b, DpAll K H vs ds ∧ pre ds b ∧ (b = true → ∀ H', Ex H H' → Q .non H') ∧ (b = false → ∀ H', Ex H H' → E (.ref CF) none H')
section
variable {K : PySem.W.Frag} {σ : L2.St} {H H' : Hp} {tas : TA} {ds : List PyData} {d : PyData} {E : XK}
theorem ed_call {pre : List PyData → PyData → Prop} (h : EvDA K tas σ H ds) (hp : pre ds d) : EvD K (tCall (spD K pre) [] E tas) σ H d := fun H1 e Q q =>
  h H1 e _ fun vs H2 e2 hv => ⟨ds, d, by rw [List.append_nil]; exact hv, hp, fun v H3 e3 hd => q v H3 (e2.trans e3) hd⟩
theorem en_call {es : List PyData} {pre : List PyData → List PyData → Prop} (h : EvDA K tas σ H ds) (hp : pre ds es) : EvN K (tCall (spN K pre) [] E tas) σ H es := fun H1 e Q q =>
  h H1 e _ fun vs H2 e2 hv => ⟨ds, es, by rw [List.append_nil]; exact hv, hp, fun p xs H3 hn e3 hl hd => q p xs H3 (fresh_back e2 hn) (e2.trans e3) hl hd⟩
end

/-! ### statements -/
section
variable {K : PySem.W.Frag} {σ : L2.St} {H H' : Hp} {te : TE} {t : TT} {tu tw tz : TS} {d : PyData} {D : Ends} {ds : List PyData}
theorem sd_asg {i : Nat} (h : EvD K te σ H d) (k : ∀ v H1, Ex H H1 → Dp K H1 v d → D.nx (σ.set i (some v)) H1) : tAsg te (gName i) D σ H := h H (Ex.refl H) _ fun v H2 e hv => k v H2 e hv
theorem qd_asg {i : Nat} (h : EvD K te σ H d) (k : ∀ v H1, Ex H H1 → Dp K H1 v d → tz D (σ.set i (some v)) H1) : tSeq (tAsg te (gName i)) tz D σ H := sd_asg (D := { D with nx := tz D }) h k
theorem qd_asgI {i : Nat} {n : Int} (h : EvD K te σ H (.int n)) (k : ∀ H1, Ex H H1 → tz D (σ.set i (some (.int n))) H1) : tSeq (tAsg te (gName i)) tz D σ H := qd_asg h fun v H1 e hv => by
  cases dp_int hv
  exact k H1 e
theorem sd_asgI {i : Nat} {n : Int} (h : EvD K te σ H (.int n)) (k : ∀ H1, Ex H H1 → D.nx (σ.set i (some (.int n))) H1) : tAsg te (gName i) D σ H := sd_asg h fun v H1 e hv => by
  cases dp_int hv
  exact k H1 e
theorem qd_asgN {i : Nat} (h : EvN K te σ H ds) (k : ∀ p xs H1, H p = none → Ex H H1 → H1 p = some (.lst xs) → DpAll K H1 xs ds → tz D (σ.set i (some (.ref p))) H1) : tSeq (tAsg te (gName i)) tz D σ H := h H (Ex.refl H) _ fun p xs H2 hn e hp hv => k p xs H2 hn e hp hv
/-- a, b, c = a tuple of three ints -/
theorem qd_un3 {i j l : Nat} {a b c : Int} (h : EvD K te σ H (.tuple [.int a, .int b, .int c])) (k : ∀ H1, Ex H H1 → tz D (((σ.set i (some (.int a))).set j (some (.int b))).set l (some (.int c))) H1) :
    tSeq (tAsg te (gTup K 3 (gCons (gName i) (gCons (gName j) (gCons (gName l) gNil))))) tz D σ H := h H (Ex.refl H) _ fun v H2 e hv => by
  obtain ⟨p, x, y, z, rfl, hs, hx, hy, hz⟩ := dp_tup3 hv
  cases dp_int hx
  cases dp_int hy
  cases dp_int hz
  exact ⟨p, _, rfl, hs, rfl, _, _, rfl, _, _, rfl, _, _, rfl, rfl, k H2 e⟩
theorem qd_un4 {i j l m : Nat} {a b c f : Int} (h : EvD K te σ H (.tuple [.int a, .int b, .int c, .int f])) (k : ∀ H1, Ex H H1 → tz D ((((σ.set i (some (.int a))).set j (some (.int b))).set l (some (.int c))).set m (some (.int f))) H1) :
    tSeq (tAsg te (gTup K 4 (gCons (gName i) (gCons (gName j) (gCons (gName l) (gCons (gName m) gNil)))))) tz D σ H := h H (Ex.refl H) _ fun v H2 e hv => by
  obtain ⟨a, xs, rfl, hs, ha⟩ := dp_tup hv
  obtain ⟨x, _, rfl, hx, ha⟩ := da_cons ha
  obtain ⟨y, _, rfl, hy, ha⟩ := da_cons ha
  obtain ⟨z, _, rfl, hz, ha⟩ := da_cons ha
  obtain ⟨w, _, rfl, hw, ha⟩ := da_cons ha
  cases da_nil ha
  cases dp_int hx
  cases dp_int hy
  cases dp_int hz
  cases dp_int hw
  exact ⟨a, _, rfl, hs, rfl, _, _, rfl, _, _, rfl, _, _, rfl, _, _, rfl, rfl, k H2 e⟩
/-- a, b = a tuple of two data -/
theorem qd_un2 {i j : Nat} {x y : PyData} (h : EvD K te σ H (.tuple [x, y])) (k : ∀ u v H1, Ex H H1 → Dp K H1 u x → Dp K H1 v y → tz D ((σ.set i (some u)).set j (some v)) H1) :
    tSeq (tAsg te (gTup K 2 (gCons (gName i) (gCons (gName j) gNil)))) tz D σ H := h H (Ex.refl H) _ fun v H2 e hv => by
  obtain ⟨a, xs, rfl, hs, ha⟩ := dp_tup hv
  obtain ⟨u, _, rfl, hx, ha⟩ := da_cons ha
  obtain ⟨w, _, rfl, hy, ha⟩ := da_cons ha
  cases da_nil ha
  exact ⟨a, _, rfl, hs, rfl, _, _, rfl, _, _, rfl, rfl, k u w H2 e hx hy⟩
/-- a, b = x, y -/
theorem qd_par {i j : Nat} {ta : TA} {x y : PyData} (h : EvDA K ta σ H [x, y]) (k : ∀ u v H1, Ex H H1 → Dp K H1 u x → Dp K H1 v y → tz D ((σ.set i (some u)).set j (some v)) H1) : tSeq (tPar i j ta) tz D σ H := h H (Ex.refl H) _ fun vs H2 e hv => by
  obtain ⟨u, _, rfl, hx, ha⟩ := da_cons hv
  obtain ⟨w, _, rfl, hy, ha⟩ := da_cons ha
  cases da_nil ha
  exact ⟨_, _, rfl, k u w H2 e hx hy⟩
theorem sd_par {i j : Nat} {ta : TA} {x y : PyData} (h : EvDA K ta σ H [x, y]) (k : ∀ u v H1, Ex H H1 → Dp K H1 u x → Dp K H1 v y → D.nx ((σ.set i (some u)).set j (some v)) H1) : tPar i j ta D σ H := h H (Ex.refl H) _ fun vs H2 e hv => by
  obtain ⟨u, _, rfl, hx, ha⟩ := da_cons hv
  obtain ⟨w, _, rfl, hy, ha⟩ := da_cons ha
  cases da_nil ha
  exact ⟨_, _, rfl, k u w H2 e hx hy⟩
theorem qd_parI {i j : Nat} {ta : TA} {x y : Int} (h : EvDA K ta σ H [.int x, .int y]) (k : ∀ H1, Ex H H1 → tz D ((σ.set i (some (.int x))).set j (some (.int y))) H1) : tSeq (tPar i j ta) tz D σ H := qd_par h fun u v H1 e hu hv => by
  cases dp_int hu
  cases dp_int hv
  exact k H1 e
theorem sd_parI {i j : Nat} {ta : TA} {x y : Int} (h : EvDA K ta σ H [.int x, .int y]) (k : ∀ H1, Ex H H1 → D.nx ((σ.set i (some (.int x))).set j (some (.int y))) H1) : tPar i j ta D σ H := sd_par h fun u v H1 e hu hv => by
  cases dp_int hu
  cases dp_int hv
  exact k H1 e
theorem sd_ret (h : EvD K te σ H d) (k : ∀ v H1, Ex H H1 → Dp K H1 v d → D.rt v H1) : tRet te D σ H := h H (Ex.refl H) _ fun v H2 e hv => k v H2 e hv
theorem sd_retN (h : EvN K te σ H ds) (k : ∀ p xs H1, H p = none → Ex H H1 → H1 p = some (.lst xs) → DpAll K H1 xs ds → D.rt (.ref p) H1) : tRet te D σ H := h H (Ex.refl H) _ k
end
end Fkw

set_option Elab.async false
set_option linter.all false
set_option maxRecDepth 100000
set_option maxHeartbeats 2000000
/-! Lists that grow: comprehensions, loops that append. -/
namespace Fkw
open PySem PySem.Spec PyProof.Rows L2 Evl
/-! ### data without a list within: they stay when a list changes -/
mutual
def lf : PyData → Bool
  | .list _ => false
  | .dict _ => false
  | .tuple ds => lfs ds
  | .none => true
  | .bool _ => true
  | .int _ => true
  | .str _ => true
def lfs : List PyData → Bool
  | [] => true
  | d :: ds => lf d && lfs ds
end
theorem lfs_append : ∀ (xs ys : List PyData), lfs (xs ++ ys) = (lfs xs && lfs ys)
  | [], ys => rfl
  | x :: xs, ys => by
    show (lf x && lfs (xs ++ ys)) = ((lf x && lfs xs) && lfs ys)
    rw [lfs_append xs ys, Bool.and_assoc]
theorem lfs_of : ∀ {ds : List PyData}, (∀ d ∈ ds, lf d = true) → lfs ds = true
  | [], _ => rfl
  | d :: ds, h => by
    show (lf d && lfs ds) = true
    rw [h d (List.mem_cons_self ..), lfs_of fun e he => h e (List.mem_cons_of_mem _ he)]
    rfl
theorem lfs_mem : ∀ {ds : List PyData}, lfs ds = true → ∀ d ∈ ds, lf d = true
  | d :: ds, h, e, he => by
    have h : (lf d && lfs ds) = true := h
    rw [Bool.and_eq_true] at h
    rcases List.mem_cons.mp he with rfl | he
    · exact h.1
    · exact lfs_mem h.2 e he
theorem lfs_ints (ns : List Int) : lfs (ns.map PyData.int) = true := lfs_of fun d h => by
  obtain ⟨n, _, rfl⟩ := List.mem_map.mp h
  rfl
mutual
theorem Dp_lst {K : PySem.W.Frag} {H : Hp} {D : Addr} {xs ys : List V} (hD : H D = some (.lst xs)) : ∀ {v : V} {d : PyData}, lf d = true → Dp K H v d → Dp K (upd H D (.lst ys)) v d
  | _, _, _, .non => .non
  | _, _, _, .bl b => .bl b
  | _, _, _, .int i => .int i
  | _, _, _, .str x => .str x
  | _, _, l, .lst h a => by cases l
  | _, _, l, .tup (a := p) h a => by
    refine .tup ?_ (DpAll_lst hD l a)
    rcases h with (h | ⟨o, h⟩) | h
    · refine .inl (.inl ?_)
      rw [upd_ne (ne_of h hD (by intro z; cases z))]
      exact h
    · refine .inl (.inr ⟨o, ?_⟩)
      rw [upd_ne (ne_of h hD (by intro z; cases z))]
      exact h
    · exact .inr h
theorem DpAll_lst {K : PySem.W.Frag} {H : Hp} {D : Addr} {xs ys : List V} (hD : H D = some (.lst xs)) : ∀ {vs : List V} {ds : List PyData}, lfs ds = true → DpAll K H vs ds → DpAll K (upd H D (.lst ys)) vs ds
  | _, _, _, .nil => .nil
  | _, _, l, .cons a b => by
    have l := Bool.and_eq_true_iff.mp l
    exact .cons (Dp_lst hD l.1 a) (DpAll_lst hD l.2 b)
end
section
variable {K : PySem.W.Frag} {σ : L2.St} {H H' : Hp} {ta tb te tl : TE} {t u : TT} {d : PyData} {v : V} {tas : TA} {ds es : List PyData}
/-- a list of ours that grows, over a heap where it was not: what it holds -/
def Lst (K : PySem.W.Frag) (H : Hp) (p : Addr) (es : List PyData) (H' : Hp) : Prop := H p = none ∧ Ex H H' ∧ lfs es = true ∧ ∃ xs, H' p = some (.lst xs) ∧ DpAll K H' xs es
theorem Lst.ex {p : Addr} (h : Lst K H p es H') : Ex H H' := h.2.1
theorem Lst.mono {p : Addr} {H2 : Hp} (h : Lst K H p es H') (e : Ex H' H2) : Lst K H p es H2 := by
  obtain ⟨h0, h1, h2, xs, h3, h4⟩ := h
  exact ⟨h0, h1.trans e, h2, xs, e _ _ h3, DpAll_mono e h4⟩
theorem Lst.push {p : Addr} {xs : List V} {y : V} (h : Lst K H p es H') (hp : H' p = some (.lst xs)) (hd : Dp K H' y d) (hl : lf d = true) : Lst K H p (es ++ [d]) (upd H' p (.lst (xs ++ [y]))) := by
  obtain ⟨h0, h1, h2, xs', h3, h4⟩ := h
  rw [h3] at hp
  cases hp
  refine ⟨h0, Ex.mut h1 h0, by rw [lfs_append, h2]; simp [lfs, hl], _, upd_same, ?_⟩
  exact DpAll_lst h3 (by rw [lfs_append, h2]; simp [lfs, hl]) (da_append h4 (.cons hd .nil))
theorem Lst.pushes {p : Addr} {xs ys : List V} {fs : List PyData} (h : Lst K H p es H') (hp : H' p = some (.lst xs)) (hd : DpAll K H' ys fs) (hl : lfs fs = true) : Lst K H p (es ++ fs) (upd H' p (.lst (xs ++ ys))) := by
  obtain ⟨h0, h1, h2, xs', h3, h4⟩ := h
  rw [h3] at hp
  cases hp
  refine ⟨h0, Ex.mut h1 h0, by rw [lfs_append, h2, hl]; rfl, _, upd_same, ?_⟩
  exact DpAll_lst h3 (by rw [lfs_append, h2, hl]; rfl) (da_append h4 hd)
theorem Lst.len {p : Addr} {xs : List V} (h : Lst K H p es H') (hp : H' p = some (.lst xs)) : xs.length = es.length := by
  obtain ⟨h0, h1, h2, xs', h3, h4⟩ := h
  rw [h3] at hp
  cases hp
  exact da_len h4
/-- a new list, empty or not -/
theorem Lst.start {p : Addr} {xs : List V} (h0 : H p = none) (e : Ex H H') (hp : H' p = some (.lst xs)) (hd : DpAll K H' xs es) (hl : lfs es = true) : Lst K H p es H' := ⟨h0, e, hl, xs, hp, hd⟩
theorem Lst.toD {p : Addr} (h : Lst K H p es H') : Dp K H' (.ref p) (.list es) := by
  obtain ⟨h0, h1, h2, xs', h3, h4⟩ := h
  exact .lst (sq_of h3) h4

/-! ### comprehensions -/
def Kept (p : PyData → Bool) (g : PyData → PyData) (ds : List PyData) : List PyData := (ds.filter p).map g
theorem kept_yes {p : PyData → Bool} {g : PyData → PyData} {i : Nat} {d : PyData} (h : ds[i]? = some d) (hp : p d = true) : Kept p g (ds.take (i + 1)) = Kept p g (ds.take i) ++ [g d] := by
  unfold Kept
  rw [List.take_add_one, h, List.filter_append, List.map_append]
  simp [hp]
theorem kept_no {p : PyData → Bool} {g : PyData → PyData} {i : Nat} {d : PyData} (h : ds[i]? = some d) (hp : p d = false) : Kept p g (ds.take (i + 1)) = Kept p g (ds.take i) := by
  unfold Kept
  rw [List.take_add_one, h, List.filter_append, List.map_append]
  simp [hp]
theorem kept_len (p : PyData → Bool) (g : PyData → PyData) (ds : List PyData) : (Kept p g ds).length ≤ ds.length := by
  unfold Kept
  rw [List.length_map]
  exact List.length_filter_le _ _
theorem kept_all {g : PyData → PyData} (ds : List PyData) : Kept (fun _ => true) g ds = ds.map g := by
  unfold Kept
  rw [List.filter_eq_self.mpr (fun _ _ => rfl)]
theorem et_yes : EvT tYes σ H true := fun H1 _ _ q => q H1 (Ex.refl H1)
/-- one turn of a comprehension -/
theorem lc_turn {p : PyData → Bool} {g : PyData → PyData} {D : Addr} {i : Nat} {x : V} {σ2 : L2.St} (L : Lst K H D (Kept p g (ds.take i)) H') (hi : ds[i]? = some d) (hn : i < 50000) (hx : Dp K H' x d)
    (ht : EvT t σ2 H' (p d)) (he : p d = true → EvD K te σ2 H' (g d)) (hl : lf (g d) = true) :
    t σ2 H' fun b H3 => if b = true then te σ2 H3 fun y H4 => ∃ acc, H4 D = some (.lst acc) ∧ acc.length < sizeLine ∧ Lst K H D (Kept p g (ds.take (i + 1))) (upd H4 D (.lst (acc ++ [y]))) else Lst K H D (Kept p g (ds.take (i + 1))) H3 := by
  refine ht H' (Ex.refl _) _ fun H3 e3 => ?_
  cases hp : p d with
  | true =>
    show te σ2 H3 fun y H4 => _
    refine he hp H3 e3 _ fun y H4 e4 hy => ?_
    have L4 := L.mono (e3.trans e4)
    obtain ⟨h0, h1, h2, xs, h3, h4⟩ := id L4
    refine ⟨xs, h3, sz_lt ?_, ?_⟩
    · rw [L4.len h3]
      have := kept_len p g (ds.take i)
      have := List.length_take_le i ds
      omega
    · rw [kept_yes hi hp]
      exact L4.push h3 hy hl
  | false =>
    show Lst K H D (Kept p g (ds.take (i + 1))) H3
    rw [kept_no hi hp]
    exact L.mono e3
theorem en_lcT {j : Nat} {vs : List Nat} (p : PyData → Bool) (g : PyData → PyData) (h : EvD K tl σ H (.tuple ds)) (hz : ds.length ≤ 40000) (hw : ∀ x, wipe ((wipe σ vs).set j (some x)) vs = wipe σ vs)
    (hl : ∀ d ∈ ds, lf (g d) = true)
    (ht : ∀ (d : PyData) (x : V) H1, d ∈ ds → Ex H H1 → Dp K H1 x d → EvT t ((wipe σ vs).set j (some x)) H1 (p d)) (he : ∀ (d : PyData) (x : V) H1, d ∈ ds → Ex H H1 → Dp K H1 x d → p d = true → EvD K te ((wipe σ vs).set j (some x)) H1 (g d)) :
    EvN K (tLc (iTup K tl) (gName j) t te vs) σ H (Kept p g ds) := fun H0 e Q q => h H0 e _ fun x H1 e1 hx => by
  obtain ⟨a, xs, rfl, hs, ha⟩ := dp_tup hx
  refine ⟨a, rfl, ⟨xs, hs⟩, fun Dl hD => ?_⟩
  refine lc_tup (xs := xs) (fun i H' => Lst K H1 Dl (Kept p g (ds.take i)) H') (Lst.start hD (Ex.new hD) upd_same .nil rfl) (fun i H' _ L => ex_t L.ex hs) (fun i x H' hi L => ⟨hw x, ?_⟩) (fun H' L => ?_)
  · obtain ⟨d, hd, hxd⟩ := da_get2 ha hi
    have hm := List.mem_of_getElem? hd
    have hi' := (List.getElem?_eq_some_iff.mp hd).1
    exact lc_turn L hd (by omega) (Dp_mono L.ex hxd) (ht d x H' hm ((e.trans e1).trans L.ex) (Dp_mono L.ex hxd)) (fun hp => he d x H' hm ((e.trans e1).trans L.ex) (Dp_mono L.ex hxd) hp) (hl d hm)
  · rw [da_len ha, List.take_length] at L
    obtain ⟨h0, h1, h2, xs, h3, h4⟩ := L
    exact q Dl xs H' (fresh_back e1 h0) (e1.trans h1) h3 h4
theorem en_lcL {j : Nat} {vs : List Nat} (p : PyData → Bool) (g : PyData → PyData) (h : EvD K tl σ H (.list ds)) (hz : ds.length ≤ 40000) (hw : ∀ x, wipe ((wipe σ vs).set j (some x)) vs = wipe σ vs)
    (hl : ∀ d ∈ ds, lf (g d) = true)
    (ht : ∀ (d : PyData) (x : V) H1, d ∈ ds → Ex H H1 → Dp K H1 x d → EvT t ((wipe σ vs).set j (some x)) H1 (p d)) (he : ∀ (d : PyData) (x : V) H1, d ∈ ds → Ex H H1 → Dp K H1 x d → p d = true → EvD K te ((wipe σ vs).set j (some x)) H1 (g d)) :
    EvN K (tLc (iList K tl) (gName j) t te vs) σ H (Kept p g ds) := fun H0 e Q q => h H0 e _ fun x H1 e1 hx => by
  obtain ⟨a, xs, rfl, hs, ha⟩ := dp_list hx
  refine ⟨a, rfl, ⟨xs, hs⟩, fun Dl hD => ?_⟩
  refine lc_list (xs := xs) (fun i H' => Lst K H1 Dl (Kept p g (ds.take i)) H') (Lst.start hD (Ex.new hD) upd_same .nil rfl) (fun i H' _ L => ex_l L.ex hs) (fun i x H' hi L => ⟨hw x, ?_⟩) (fun H' L => ?_)
  · obtain ⟨d, hd, hxd⟩ := da_get2 ha hi
    have hm := List.mem_of_getElem? hd
    have hi' := (List.getElem?_eq_some_iff.mp hd).1
    exact lc_turn L hd (by omega) (Dp_mono L.ex hxd) (ht d x H' hm ((e.trans e1).trans L.ex) (Dp_mono L.ex hxd)) (fun hp => he d x H' hm ((e.trans e1).trans L.ex) (Dp_mono L.ex hxd) hp) (hl d hm)
  · rw [da_len ha, List.take_length] at L
    obtain ⟨h0, h1, h2, xs, h3, h4⟩ := L
    exact q Dl xs H' (fresh_back e1 h0) (e1.trans h1) h3 h4
/-- without a test -/
theorem en_mapT {j : Nat} {vs : List Nat} (g : PyData → PyData) (h : EvD K tl σ H (.tuple ds)) (hz : ds.length ≤ 40000) (hw : ∀ x, wipe ((wipe σ vs).set j (some x)) vs = wipe σ vs) (hl : ∀ d ∈ ds, lf (g d) = true)
    (he : ∀ (d : PyData) (x : V) H1, d ∈ ds → Ex H H1 → Dp K H1 x d → EvD K te ((wipe σ vs).set j (some x)) H1 (g d)) : EvN K (tLc (iTup K tl) (gName j) tYes te vs) σ H (ds.map g) := by
  rw [← kept_all]
  exact en_lcT (fun _ => true) g h hz hw hl (fun _ _ _ _ _ _ => et_yes) fun d x H1 hd e hx _ => he d x H1 hd e hx
theorem en_mapL {j : Nat} {vs : List Nat} (g : PyData → PyData) (h : EvD K tl σ H (.list ds)) (hz : ds.length ≤ 40000) (hw : ∀ x, wipe ((wipe σ vs).set j (some x)) vs = wipe σ vs) (hl : ∀ d ∈ ds, lf (g d) = true)
    (he : ∀ (d : PyData) (x : V) H1, d ∈ ds → Ex H H1 → Dp K H1 x d → EvD K te ((wipe σ vs).set j (some x)) H1 (g d)) : EvN K (tLc (iList K tl) (gName j) tYes te vs) σ H (ds.map g) := by
  rw [← kept_all]
  exact en_lcL (fun _ => true) g h hz hw hl (fun _ _ _ _ _ _ => et_yes) fun d x H1 hd e hx _ => he d x H1 hd e hx

/-! ### statements over a growing list -/
variable {tu tw tz : TS} {D : Ends}
/-- found.append(e) -/
theorem qd_app {l : Addr} {H0 : Hp} (L : Lst K H0 l es H) (ha : Ev ta σ H (.ref l)) (h : EvD K te σ H d) (hl : lf d = true) (hz : es.length < 100000) (k : ∀ H1, Ex H0 H1 → Lst K H0 l (es ++ [d]) H1 → tz D σ H1) :
    tSeq (tDrop (tBM K "list" rAppend ta (tCons te tNil))) tz D σ H := by
  obtain ⟨h0, h1, h2, xs, h3, h4⟩ := id L
  refine ha H (Ex.refl H) _ fun H1 e1 => ⟨.inl ⟨rfl, xs, sq_of (e1 _ _ h3)⟩, ?_⟩
  refine h H1 e1 _ fun y H2 e2 hy => ?_
  have L2 := L.mono (e1.trans e2)
  have h3' := (e1.trans e2) _ _ h3
  exact ⟨l, xs, y, rfl, rfl, h3', sz_lt (by rw [L2.len h3']; exact hz), k _ (L2.push h3' hy hl).ex (L2.push h3' hy hl)⟩
theorem sd_app {l : Addr} {H0 : Hp} (L : Lst K H0 l es H) (ha : Ev ta σ H (.ref l)) (h : EvD K te σ H d) (hl : lf d = true) (hz : es.length < 100000) (k : ∀ H1, Ex H0 H1 → Lst K H0 l (es ++ [d]) H1 → D.nx σ H1) :
    tDrop (tBM K "list" rAppend ta (tCons te tNil)) D σ H := by
  obtain ⟨h0, h1, h2, xs, h3, h4⟩ := id L
  refine ha H (Ex.refl H) _ fun H1 e1 => ⟨.inl ⟨rfl, xs, sq_of (e1 _ _ h3)⟩, ?_⟩
  refine h H1 e1 _ fun y H2 e2 hy => ?_
  have L2 := L.mono (e1.trans e2)
  have h3' := (e1.trans e2) _ _ h3
  exact ⟨l, xs, y, rfl, rfl, h3', sz_lt (by rw [L2.len h3']; exact hz), k _ (L2.push h3' hy hl).ex (L2.push h3' hy hl)⟩
/-- found.extend(a new list) -/
theorem sd_ext {l : Addr} {H0 : Hp} {fs : List PyData} (L : Lst K H0 l es H) (ha : Ev ta σ H (.ref l)) (h : EvN K te σ H fs) (hl : lfs fs = true) (hz : es.length + fs.length ≤ 100000) (k : ∀ H1, Ex H0 H1 → Lst K H0 l (es ++ fs) H1 → D.nx σ H1) :
    tDrop (tBM K "list" rExtend ta (tCons te tNil)) D σ H := by
  obtain ⟨h0, h1, h2, xs, h3, h4⟩ := id L
  refine ha H (Ex.refl H) _ fun H1 e1 => ⟨.inl ⟨rfl, xs, sq_of (e1 _ _ h3)⟩, ?_⟩
  refine h H1 e1 _ fun q ys H2 hn e2 hq hy => ?_
  have L2 := L.mono (e1.trans e2)
  have h3' := (e1.trans e2) _ _ h3
  exact ⟨l, q, xs, ys, rfl, rfl, h3', hq, by rw [L2.len h3', da_len hy]; exact sz_of hz, k _ (L2.pushes h3' hy hl).ex (L2.pushes h3' hy hl)⟩
/-- the heap without what stands at p -/
def rem (H : Hp) (p : Addr) : Hp := fun b => if b = p then none else H b
theorem rem_at {p : Addr} : rem H p p = none := if_pos rfl
theorem rem_ne {p b : Addr} (h : b ≠ p) : rem H p b = H b := if_neg h
theorem rem_ex {p : Addr} : Ex (rem H p) H := fun a o h => by
  by_cases e : a = p
  · rw [e, rem_at] at h
    cases h
  · rwa [rem_ne e] at h
theorem ex_rem {p : Addr} {H0 : Hp} (e : Ex H0 H) (h : H0 p = none) : Ex H0 (rem H p) := fun a o q => by
  rw [rem_ne (ne_of_none q h)]
  exact e a o q
mutual
theorem Dp_rem {D : Addr} {xs : List V} (hD : H D = some (.lst xs)) : ∀ {v : V} {d : PyData}, lf d = true → Dp K H v d → Dp K (rem H D) v d
  | _, _, _, .non => .non
  | _, _, _, .bl b => .bl b
  | _, _, _, .int i => .int i
  | _, _, _, .str x => .str x
  | _, _, l, .lst h a => by cases l
  | _, _, l, .tup (a := p) h a => by
    refine .tup ?_ (DpAll_rem hD l a)
    rcases h with (h | ⟨o, h⟩) | h
    · refine .inl (.inl ?_)
      rw [rem_ne (ne_of h hD (by intro z; cases z))]
      exact h
    · refine .inl (.inr ⟨o, ?_⟩)
      rw [rem_ne (ne_of h hD (by intro z; cases z))]
      exact h
    · exact .inr h
theorem DpAll_rem {D : Addr} {xs : List V} (hD : H D = some (.lst xs)) : ∀ {vs : List V} {ds : List PyData}, lfs ds = true → DpAll K H vs ds → DpAll K (rem H D) vs ds
  | _, _, _, .nil => .nil
  | _, _, l, .cons a b => by
    have l := Bool.and_eq_true_iff.mp l
    exact .cons (Dp_rem hD l.1 a) (DpAll_rem hD l.2 b)
end
/-- all else that stands is kept by what is done with the list -/
theorem Lst.rebase {H0 : Hp} {p : Addr} (L : Lst K H0 p es H) : Lst K (rem H p) p es H := by
  obtain ⟨h0, h1, h2, xs, h3, h4⟩ := L
  exact ⟨rem_at, rem_ex, h2, xs, h3, h4⟩
theorem Lst.back {H0 H1 : Hp} {p : Addr} (L : Lst K H1 p es H) (e : Ex H0 H1) : Lst K H0 p es H := by
  obtain ⟨h0, h1, h2, xs, h3, h4⟩ := L
  exact ⟨fresh_back e h0, e.trans h1, h2, xs, h3, h4⟩

/-! ### for -/
/-- over a list of data that stands in H -/
theorem qd_forL {g : TG} (h : EvD K tl σ H (.list ds)) (k : ∀ a xs H1, Ex H H1 → SqL K H1 a xs → DpAll K H1 xs ds → ∃ Pv : Nat → L2.St → Hp → Prop, Pv 0 σ H1 ∧ (∀ i σ' H', i ≤ xs.length → Pv i σ' H' → Ex H1 H') ∧
    (∀ i d x σ' H', ds[i]? = some d → Dp K H' x d → Pv i σ' H' → g x σ' H' fun σ2 H2 => tu { D with nx := Pv (i + 1), ct := Pv (i + 1), bk := tz D } σ2 H2) ∧ (∀ σ' H', Pv ds.length σ' H' → tz D σ' H')) : tSeq (tFor (iList K tl) g tu) tz D σ H :=
  h H (Ex.refl H) _ fun v H1 e hv => by
    obtain ⟨a, xs, rfl, hs, ha⟩ := dp_list hv
    obtain ⟨Pv, h0, hk, hb, hd⟩ := k a xs H1 e hs ha
    refine ⟨a, rfl, ⟨xs, hs⟩, for_list (D := { D with nx := tz D }) Pv h0 (fun i σ' H' hi p => ex_l (hk i σ' H' hi p) hs) (fun i x σ' H' hi p => ?_) (fun σ' H' p => hd σ' H' (by rw [← da_len ha]; exact p))⟩
    obtain ⟨d, h1, h2⟩ := da_get2 ha hi
    exact hb i d x σ' H' h1 (Dp_mono (hk i σ' H' (Nat.le_of_lt (List.getElem?_eq_some_iff.mp hi).1) p) h2) p
/-- over a new list (its items without lists), while another list grows -/
theorem qd_forN {g : TG} {p : Addr} {H0 : Hp} (L : Lst K H0 p es H) (h : EvN K tl σ H ds) (hl : lfs ds = true) (k : ∀ Hb H1, Ex H0 Hb → Ex (rem H p) Hb → Ex H H1 → Lst K Hb p es H1 → ∃ Pv : Nat → L2.St → Hp → Prop, Pv 0 σ H1 ∧ (∀ i σ' H', i ≤ ds.length → Pv i σ' H' → Ex Hb H') ∧
    (∀ i d x σ' H', ds[i]? = some d → Dp K H' x d → Pv i σ' H' → g x σ' H' fun σ2 H2 => tu { D with nx := Pv (i + 1), ct := Pv (i + 1), bk := tz D } σ2 H2) ∧ (∀ σ' H', Pv ds.length σ' H' → tz D σ' H')) : tSeq (tFor (iList K tl) g tu) tz D σ H :=
  h H (Ex.refl H) _ fun a xs H1 hn e hp ha => by
    obtain ⟨h0, h1, h2, zs, h3, h4⟩ := id L
    have ne : a ≠ p := fun z => by
      rw [z, h3] at hn
      cases hn
    have L1 := (L.mono e).rebase
    have hp' : rem H1 p a = some (.lst xs) := by rw [rem_ne ne]; exact hp
    have e2 : Ex (rem H p) (rem H1 p) := fun b o q => by
      by_cases c : b = p
      · rw [c, rem_at] at q
        cases q
      · rw [rem_ne c] at q ⊢
        exact e b o q
    obtain ⟨Pv, h0', hk, hb, hd⟩ := k (rem H1 p) H1 (ex_rem (h1.trans e) h0) e2 e L1
    have hl' := da_len ha
    have hda : DpAll K (rem H1 p) xs ds := DpAll_rem (e _ _ h3) hl ha
    refine ⟨a, rfl, ⟨xs, sq_of hp⟩, for_list (D := { D with nx := tz D }) Pv h0' (fun i σ' H' hi q => ex_l (hk i σ' H' (by omega) q) (sq_of hp')) (fun i x σ' H' hi q => ?_) (fun σ' H' q => hd σ' H' (by rw [← hl']; exact q))⟩
    obtain ⟨d, h1, h2⟩ := da_get2 hda hi
    have := (List.getElem?_eq_some_iff.mp hi).1
    exact hb i d x σ' H' h1 (Dp_mono (hk i σ' H' (by omega) q) h2) q
/-- over range(n), range(lo, n) -/
theorem qd_forR1 {n : Int} {g : TG} (h : EvDA K tas σ H [.int n]) (hn : -(2 ^ 62) ≤ n ∧ n < 2 ^ 62) (k : ∀ H1, Ex H H1 → ∃ Pv : Nat → L2.St → Hp → Prop, Pv 0 σ H1 ∧
    (∀ i σ' H', i < n.toNat → Pv i σ' H' → g (.int (0 + (i : Int))) σ' H' fun σ2 H2 => tu { D with nx := Pv (i + 1), ct := Pv (i + 1), bk := tz D } σ2 H2) ∧ (∀ σ' H', Pv n.toNat σ' H' → tz D σ' H')) : tSeq (tFor (iRng1 tas) g tu) tz D σ H :=
  h H (Ex.refl H) _ fun vs H1 e hv => by
    obtain ⟨v, _, rfl, hx, hv⟩ := da_cons hv
    cases da_nil hv
    cases dp_int hx
    obtain ⟨Pv, h0, hb, hd⟩ := k H1 e
    exact ⟨n, rfl, hn.1, hn.2, for_range (D := { D with nx := tz D }) Pv h0 (fun i σ' H' hi p => hb i σ' H' hi p) hd⟩
theorem qd_forR2 {lo n : Int} {g : TG} (h : EvDA K tas σ H [.int lo, .int n]) (hn : -(2 ^ 62) ≤ lo ∧ lo < 2 ^ 62 ∧ -(2 ^ 62) ≤ n ∧ n < 2 ^ 62) (k : ∀ H1, Ex H H1 → ∃ Pv : Nat → L2.St → Hp → Prop, Pv 0 σ H1 ∧
    (∀ i σ' H', i < (n - lo).toNat → Pv i σ' H' → g (.int (lo + (i : Int))) σ' H' fun σ2 H2 => tu { D with nx := Pv (i + 1), ct := Pv (i + 1), bk := tz D } σ2 H2) ∧ (∀ σ' H', Pv (n - lo).toNat σ' H' → tz D σ' H')) : tSeq (tFor (iRng2 tas) g tu) tz D σ H :=
  h H (Ex.refl H) _ fun vs H1 e hv => by
    obtain ⟨v, _, rfl, hx, hv⟩ := da_cons hv
    obtain ⟨v', _, rfl, hx', hv⟩ := da_cons hv
    cases da_nil hv
    cases dp_int hx
    cases dp_int hx'
    obtain ⟨Pv, h0, hb, hd⟩ := k H1 e
    exact ⟨lo, n, rfl, hn, for_range (D := { D with nx := tz D }) Pv h0 (fun i σ' H' hi p => hb i σ' H' hi p) hd⟩
theorem sd_forR2 {lo n : Int} {g : TG} (h : EvDA K tas σ H [.int lo, .int n]) (hn : -(2 ^ 62) ≤ lo ∧ lo < 2 ^ 62 ∧ -(2 ^ 62) ≤ n ∧ n < 2 ^ 62) (k : ∀ H1, Ex H H1 → ∃ Pv : Nat → L2.St → Hp → Prop, Pv 0 σ H1 ∧
    (∀ i σ' H', i < (n - lo).toNat → Pv i σ' H' → g (.int (lo + (i : Int))) σ' H' fun σ2 H2 => tu { D with nx := Pv (i + 1), ct := Pv (i + 1), bk := D.nx } σ2 H2) ∧ (∀ σ' H', Pv (n - lo).toNat σ' H' → D.nx σ' H')) : tFor (iRng2 tas) g tu D σ H :=
  h H (Ex.refl H) _ fun vs H1 e hv => by
    obtain ⟨v, _, rfl, hx, hv⟩ := da_cons hv
    obtain ⟨v', _, rfl, hx', hv⟩ := da_cons hv
    cases da_nil hv
    cases dp_int hx
    cases dp_int hx'
    obtain ⟨Pv, h0, hb, hd⟩ := k H1 e
    exact ⟨lo, n, rfl, hn, for_range (D := D) Pv h0 (fun i σ' H' hi p => hb i σ' H' hi p) hd⟩
/-- over a tuple just written, while a list grows -/
theorem sd_forTup {g : TG} {p : Addr} {H0 : Hp} (L : Lst K H0 p es H) (h : EvD K tl σ H (.tuple ds)) (hl : lfs ds = true) (k : ∀ Hb H1, Ex H0 Hb → Ex (rem H p) Hb → Ex H H1 → Lst K Hb p es H1 → ∃ Pv : Nat → L2.St → Hp → Prop, Pv 0 σ H1 ∧ (∀ i σ' H', i ≤ ds.length → Pv i σ' H' → Ex Hb H') ∧
    (∀ i d x σ' H', ds[i]? = some d → Dp K H' x d → Pv i σ' H' → g x σ' H' fun σ2 H2 => tu { D with nx := Pv (i + 1), ct := Pv (i + 1), bk := D.nx } σ2 H2) ∧ (∀ σ' H', Pv ds.length σ' H' → D.nx σ' H')) : tFor (iTup K tl) g tu D σ H :=
  h H (Ex.refl H) _ fun v H1 e hv => by
    obtain ⟨h0, h1, h2, zs, h3, h4⟩ := id L
    have L1 := (L.mono e).rebase
    have e2 : Ex (rem H p) (rem H1 p) := fun b o q => by
      by_cases c : b = p
      · rw [c, rem_at] at q
        cases q
      · rw [rem_ne c] at q ⊢
        exact e b o q
    have hv' : Dp K (rem H1 p) v (.tuple ds) := Dp_rem (e _ _ h3) hl hv
    obtain ⟨a, xs, rfl, hs, ha⟩ := dp_tup hv'
    obtain ⟨Pv, h0', hk, hb, hd⟩ := k (rem H1 p) H1 (ex_rem (h1.trans e) h0) e2 e L1
    have hl' := da_len ha
    refine ⟨a, rfl, ⟨xs, ex_t rem_ex hs⟩, for_tup (D := D) Pv h0' (fun i σ' H' hi q => ex_t (hk i σ' H' (by omega) q) hs) (fun i x σ' H' hi q => ?_) (fun σ' H' q => hd σ' H' (by rw [← hl']; exact q))⟩
    obtain ⟨d, h1, h2⟩ := da_get2 ha hi
    have := (List.getElem?_eq_some_iff.mp hi).1
    exact hb i d x σ' H' h1 (Dp_mono (hk i σ' H' (by omega) q) h2) q
end
/-! ### numbers of the row; forms as data -/
abbrev dF (a b c : Int) : PyData := .tuple [.int a, .int b, .int c]
abbrev dFm (f : Fc.Form) : PyData := dF f.a f.b f.c
abbrev dCh (t : Fc.Change) : PyData := .tuple [.int t.p, .int t.q, .int t.r, .int t.s]
def W64 (n : Int) : Prop := -(2 ^ 64) < n ∧ n < 2 ^ 64
def fits (a b c : Int) : Bool := decide (a.natAbs ≤ 8192) && (decide (b.natAbs ≤ 8192) && decide (c.natAbs ≤ 8192))
theorem fits_iff {a b c : Int} : fits a b c = true ↔ (-8192 ≤ a ∧ a ≤ 8192) ∧ (-8192 ≤ b ∧ b ≤ 8192) ∧ (-8192 ≤ c ∧ c ≤ 8192) := by
  unfold fits
  simp only [Bool.and_eq_true, decide_eq_true_eq]
  omega
def In64 (n : Int) : Prop := -9223372036854775808 ≤ n ∧ n ≤ 9223372036854775807
theorem In64.wide {n : Int} (h : In64 n) : W64 n := by
  obtain ⟨h1, h2⟩ := h
  unfold W64
  omega
theorem three : ∀ l : List Int, l.length = 3 → ∃ a b c, l = [a, b, c]
  | [a, b, c], _ => ⟨a, b, c, rfl⟩
  | [], h => by cases h
  | [_], h => by cases h
  | [_, _], h => by cases h
  | _ :: _ :: _ :: _ :: _, h => by simp at h
/-- an error of the class at S is what «except S» names -/
theorem exm_self {K : PySem.W.Frag} {S : Addr} (h1 : PySem.W.subIn K (.ref S) (.type "BaseException") = some true) (h2 : PySem.W.isClsIn K S = true) (h3 : PySem.W.typeIn K (.ref S) = some (.type "type")) (h4 : PySem.W.subIn K (.ref S) (.ref S) = some true) :
    PySem.W.exmOne K (.ref S) (.ref S) = some true := by
  have e1 : (PySem.W.subIn K (.ref S) (.type "BaseException") == some true) = true := by rw [h1] <;> rfl
  have e2 : ((PySem.W.clsIn K S).isSome && PySem.W.typeIn K (.ref S) == some (.type "type")) = true := by
    have h2' : (PySem.W.clsIn K S).isSome = true := h2
    rw [h2', h3] <;> rfl
  show (if (PySem.W.subIn K (.ref S) (.type "BaseException") == some true) = true then (if ((PySem.W.clsIn K S).isSome && PySem.W.typeIn K (.ref S) == some (.type "type")) = true then PySem.W.subIn K (.ref S) (.ref S) else none) else none) = some true
  rw [if_pos e1, if_pos e2]
  exact h4
end Fkw

namespace Fkw
open PySem PySem.Spec PyProof.Rows L2 Evl
open PySem.W (Codec)
local macro_rules
  | `(tactic| walk_at "cm") => `(tactic| first | exact Or.inl ⟨by omega, by omega⟩ | exact Or.inr ⟨by omega, by omega⟩ | skip)
local macro_rules
  | `(tactic| walk_at "ed") => `(tactic| first
    | exact ed_int
    | exact ed_bl
    | exact ed_non
    | exact ed_var rfl (.int _)
    | exact ed_var rfl (by assumption)
    | (refine ed_add ?_ ?_ <;> walk_at "ed")
    | (refine ed_sub ?_ ?_ <;> walk_at "ed")
    | (refine ed_mul ?_ ?_ ?_; rotate_left 2; (case refine_1 => walk_at "ed"); (case refine_2 => walk_at "ed"))
    | (refine ed_abs ?_ <;> walk_at "ed")
    | (refine ed_neg ?_ <;> walk_at "ed")
    | (refine ed_tup ?_ <;> walk_at "ed")
    | exact eda_nil
    | (refine eda_cons ?_ ?_ <;> walk_at "ed")
    | skip)
def topS (i : Nat) : Stmt := PySem.Challenge.pw_formkinds_s03_turned.main.body.getD i (.Pass ⟨0, 0, 0, 0⟩)
abbrev s_is_form : Stmt := topS 2
theorem sc_is_form : FnScope ["form", "number"] ["form"] (defScope s_is_form) := ⟨rfl, rfl, rfl, by decide +kernel, rfl, by decide +kernel, by decide +kernel⟩
abbrev s_value_at : Stmt := topS 3
theorem sc_value_at : FnScope ["form", "x", "y", "a", "b", "c"] ["form", "x", "y"] (defScope s_value_at) := ⟨rfl, rfl, rfl, by decide +kernel, rfl, by decide +kernel, by decide +kernel⟩
abbrev s_changed : Stmt := topS 4
theorem sc_changed : FnScope ["form", "change", "a", "b", "c", "p", "q", "r", "s"] ["form", "change"] (defScope s_changed) := ⟨rfl, rfl, rfl, by decide +kernel, rfl, by decide +kernel, by decide +kernel⟩
abbrev s_turned : Stmt := topS 7
theorem sc_turned : FnScope ["a", "b", "c", "p", "q", "r", "s", "found"] ["a", "b", "c", "p", "q", "r", "s"] (defScope s_turned) := ⟨rfl, rfl, rfl, by decide +kernel, rfl, by decide +kernel, by decide +kernel⟩
/-! ### what the top has written -/
structure Txt (K : PySem.W.Frag) (mg : Str → Option Value) where
  f_is_form : Addr
  fd_is_form : FuncData
  g_is_form : mg "is_form" = some (.ref f_is_form)
  F_is_form : Fun K "is_form" "is_form" s_is_form f_is_form fd_is_form
  b_is_form : L2.Binds K fd_is_form ["form"] []
  f_value_at : Addr
  fd_value_at : FuncData
  g_value_at : mg "value_at" = some (.ref f_value_at)
  F_value_at : Fun K "value_at" "value_at" s_value_at f_value_at fd_value_at
  b_value_at : L2.Binds K fd_value_at ["form", "x", "y"] []
  f_changed : Addr
  fd_changed : FuncData
  g_changed : mg "changed" = some (.ref f_changed)
  F_changed : Fun K "changed" "changed" s_changed f_changed fd_changed
  b_changed : L2.Binds K fd_changed ["form", "change"] []
  f_turned : Addr
  fd_turned : FuncData
  g_turned : mg "turned" = some (.ref f_turned)
  F_turned : Fun K "turned" "turned" s_turned f_turned fd_turned
  b_turned : L2.Binds K fd_turned ["a", "b", "c", "p", "q", "r", "s"] []
  k_MOST : ∃ t, mg "MOST" = some (.int 8192 t)
  a_REFUSED : Addr
  k_REFUSED : mg "REFUSED" = some (.ref a_REFUSED)
  l_REFUSED : ∀ H, SqL K H a_REFUSED [.int (-1)]
  z_abs : mg "abs" = none
  z_list : mg "list" = none
  z_max : mg "max" = none
section
variable {P : Program} {w : World} {K : PySem.W.Frag} {mg : Str → Option Value} {base : Heap}
/-! ### is_form -/
def p_is_form : List PyData → PyData → Prop := fun ds d => ∃ a b c, ds = [dF a b c] ∧ d = .bool (fits a b c)
theorem len_is_form {ds : List PyData} {d : PyData} (h : p_is_form ds d) : ds.length = 1 := by
  obtain ⟨a, b, c, rfl, _⟩ := h
  rfl
theorem max3 (a b c m : Int) (hm : m ∈ [a, b, c]) (hle : ∀ y, y ∈ [a, b, c] → y ≤ m) : m = max a (max b c) := by
  have h1 := hle a (by simp)
  have h2 := hle b (by simp)
  have h3 := hle c (by simp)
  simp only [List.mem_cons, List.not_mem_nil, or_false] at hm
  omega
theorem ok_is_form (T : Txt K mg) : FnOk P w K mg base CX0 1 T.f_is_form T.fd_is_form ["form"] (spD K p_is_form) := by
  refine T.F_is_form.ok sc_is_form (fun vs H Q E h => ?_) (fun cdv A outer s H vs Q E hr h => ?_)
  · obtain ⟨ds, _, hv, hp, _⟩ := h
    rw [da_len hv]
    exact len_is_form hp
  · obtain ⟨ds, d, hv, hp, hQ⟩ := h
    obtain ⟨a, b, c, rfl, rfl⟩ := hp
    obtain ⟨v, _, rfl, h1, hv⟩ := da_cons hv
    cases da_nil hv
    refine ⟨_, (pss_one (ps_ret (pe_cmpR op_le (pe_callB (cr_max rfl) (by rfl) T.z_max (by decide +kernel) (pa_cons (pe_lc (own := [("number", 1)]) (g := gName 1) (tt := tYes) rfl sc_is_form.nd (pi_tup (pv 0)) (blkOk_by (own := [("number", 1)]) (N := ["form", "number"]) (sc := defScope s_is_form) (by decide +kernel)) (fun _ _ _ _ _ => pg_name (i := 1) sc_is_form.nd rfl (Or.inl rfl)) (fun _ _ _ _ _ => pts_nil) (fun _ _ _ _ _ => (pe_callB call_abs (by rfl) T.z_abs (by decide +kernel) (pa_cons (pv 1) pa_nil)))) pa_nil)) (pe_glob (v := .int 8192) rfl T.k_MOST.choose_spec ⟨_, rfl⟩) (nomark _)))), ?_⟩
    refine sd_ret (K := K) (d := .bool (decide (max (a.natAbs : Int) (max (b.natAbs : Int) (c.natAbs : Int)) ≤ 8192))) ?_ fun v H2 e2 hd => hQ v H2 e2 ?_
    · refine ed_le (ed_max (n := (a.natAbs : Int)) (ns := [(b.natAbs : Int), (c.natAbs : Int)]) (EvN.toD (en_mapT (ds := [.int a, .int b, .int c]) (fun d => match d with | .int n => .int (n.natAbs : Int) | _ => .none) (ed_var rfl h1) (by simp) (fun _ => rfl) ?_ ?_)) (fun m h1 h2 => max3 _ _ _ m h1 h2)) ed_int
      · intro d hd
        simp only [List.mem_cons, List.not_mem_nil, or_false] at hd
        rcases hd with rfl | rfl | rfl <;> rfl
      · intro d x H1 hd e hx
        simp only [List.mem_cons, List.not_mem_nil, or_false] at hd
        rcases hd with rfl | rfl | rfl <;> exact ed_abs (ed_var rfl hx)
    · have e : decide (max (a.natAbs : Int) (max (b.natAbs : Int) (c.natAbs : Int)) ≤ 8192) = fits a b c := by
        unfold fits
        rw [Bool.eq_iff_iff]
        simp only [decide_eq_true_eq, Bool.and_eq_true]
        omega
      rw [← e]
      exact hd
/-! ### value_at -/
def p_value_at : List PyData → PyData → Prop := fun ds d => ∃ a b c x y, ds = [dF a b c, .int x, .int y] ∧ (W64 x ∧ W64 y) ∧ d = .int (a * x * x + b * x * y + c * y * y)
theorem len_value_at {ds : List PyData} {d : PyData} (h : p_value_at ds d) : ds.length = 3 := by
  obtain ⟨a, b, c, x, y, rfl, _⟩ := h
  rfl
theorem ok_value_at (T : Txt K mg) : FnOk P w K mg base CX0 1 T.f_value_at T.fd_value_at ["form", "x", "y"] (spD K p_value_at) := by
  refine T.F_value_at.ok sc_value_at (fun vs H Q E h => ?_) (fun cdv A outer s H vs Q E hr h => ?_)
  · obtain ⟨ds, _, hv, hp, _⟩ := h
    rw [da_len hv]
    exact len_value_at hp
  · obtain ⟨ds, d, hv, hp, hQ⟩ := h
    obtain ⟨a, b, c, x, y, rfl, ⟨⟨hx1, hx2⟩, ⟨hy1, hy2⟩⟩, rfl⟩ := hp
    obtain ⟨v, _, rfl, h1, hv⟩ := da_cons hv
    obtain ⟨vx, _, rfl, h2, hv⟩ := da_cons hv
    obtain ⟨vy, _, rfl, h3, hv⟩ := da_cons hv
    cases da_nil hv
    cases dp_int h2
    cases dp_int h3
    refine ⟨_, (pss_cons (ps_asg (pv 0) (pg_tup (by rfl) (pgs_cons (pg_name (i := 3) sc_value_at.nd rfl (Or.inl rfl)) (pgs_cons (pg_name (i := 4) sc_value_at.nd rfl (Or.inl rfl)) (pgs_cons (pg_name (i := 5) sc_value_at.nd rfl (Or.inl rfl)) pgs_nil)))))
          (pss_one (ps_ret (pe_op op_add (pe_op op_add (pe_op op_mul (pe_op op_mul (pv 3) (pv 1)) (pv 1)) (pe_op op_mul (pe_op op_mul (pv 4) (pv 1)) (pv 2))) (pe_op op_mul (pe_op op_mul (pv 5) (pv 2)) (pv 2)))))), ?_⟩
    refine qd_un3 (ed_var rfl h1) fun H1 e1 => ?_
    refine sd_ret (K := K) ?_ fun v H2 e2 hd => hQ v H2 (e1.trans e2) hd
    refine ed_add (ed_add (ed_mul (ed_mul (ed_var rfl (.int _)) (ed_var rfl (.int _)) (.inr ⟨hx1, hx2⟩)) (ed_var rfl (.int _)) (.inr ⟨hx1, hx2⟩)) (ed_mul (ed_mul (ed_var rfl (.int _)) (ed_var rfl (.int _)) (.inr ⟨hx1, hx2⟩)) (ed_var rfl (.int _)) (.inr ⟨hy1, hy2⟩))) (ed_mul (ed_mul (ed_var rfl (.int _)) (ed_var rfl (.int _)) (.inr ⟨hy1, hy2⟩)) (ed_var rfl (.int _)) (.inr ⟨hy1, hy2⟩))
/-! ### changed -/
def p_changed : List PyData → PyData → Prop := fun ds d => ∃ (f : Fc.Form) (t : Fc.Change), ds = [dFm f, dCh t] ∧ (W64 f.b ∧ W64 t.p ∧ W64 t.q ∧ W64 t.r ∧ W64 t.s) ∧ d = dFm (Fc.changed f t)
theorem len_changed {ds : List PyData} {d : PyData} (h : p_changed ds d) : ds.length = 2 := by
  obtain ⟨f, t, rfl, _⟩ := h
  rfl
theorem ok_changed (T : Txt K mg) : FnOk P w K mg base CX0 2 T.f_changed T.fd_changed ["form", "change"] (spD K p_changed) := by
  have G_value_at := ok_value_at (P := P) (w := w) (base := base) T
  refine T.F_changed.ok sc_changed (fun vs H Q E h => ?_) (fun cdv A outer s H vs Q E hr h => ?_)
  · obtain ⟨ds, _, hv, hp, _⟩ := h
    rw [da_len hv]
    exact len_changed hp
  · obtain ⟨ds, d, hv, hp, hQ⟩ := h
    obtain ⟨⟨a, b, c⟩, ⟨p, q, r, s⟩, rfl, ⟨hb, hp, hq, hr', hs⟩, rfl⟩ := hp
    obtain ⟨v, _, rfl, h1, hv⟩ := da_cons hv
    obtain ⟨vx, _, rfl, h2, hv⟩ := da_cons hv
    cases da_nil hv
    refine ⟨_, (pss_cons (ps_asg (pv 0) (pg_tup (by rfl) (pgs_cons (pg_name (i := 2) sc_changed.nd rfl (Or.inl rfl)) (pgs_cons (pg_name (i := 3) sc_changed.nd rfl (Or.inl rfl)) (pgs_cons (pg_name (i := 4) sc_changed.nd rfl (Or.inl rfl)) pgs_nil)))))
          (pss_cons (ps_asg (pv 1) (pg_tup (by rfl) (pgs_cons (pg_name (i := 5) sc_changed.nd rfl (Or.inl rfl)) (pgs_cons (pg_name (i := 6) sc_changed.nd rfl (Or.inl rfl)) (pgs_cons (pg_name (i := 7) sc_changed.nd rfl (Or.inl rfl)) (pgs_cons (pg_name (i := 8) sc_changed.nd rfl (Or.inl rfl)) pgs_nil))))))
          (pss_one (ps_ret (pe_tup (pa_cons (pe_call G_value_at (hr.mono (by decide)) rfl T.g_value_at T.F_value_at.kp T.b_value_at .nil pass0 (pa_cons (pv 0) (pa_cons (pv 5) (pa_cons (pv 7) pa_nil)))) (pa_cons (pe_op op_add (pe_op op_add (pe_op op_mul (pe_op op_mul (pe_op op_mul pe_int (pv 2)) (pv 5)) (pv 6)) (pe_op op_mul (pv 3) (pe_op op_add (pe_op op_mul (pv 5) (pv 8)) (pe_op op_mul (pv 6) (pv 7))))) (pe_op op_mul (pe_op op_mul (pe_op op_mul pe_int (pv 4)) (pv 7)) (pv 8))) (pa_cons (pe_call G_value_at (hr.mono (by decide)) rfl T.g_value_at T.F_value_at.kp T.b_value_at .nil pass0 (pa_cons (pv 0) (pa_cons (pv 6) (pa_cons (pv 8) pa_nil)))) pa_nil)))))))), ?_⟩
    refine qd_un3 (ed_var rfl h1) fun H1 e1 => ?_
    replace h1 := Dp_mono e1 h1
    refine qd_un4 (ed_var rfl (Dp_mono e1 h2)) fun H2 e2 => ?_
    replace h1 := Dp_mono e2 h1
    refine sd_ret (K := K) ?_ fun v H3 e3 hd => hQ v H3 ((e1.trans e2).trans e3) hd
    refine ed_tup (eda_cons ?_ (eda_cons ?_ (eda_cons ?_ eda_nil)))
    · exact ed_call (eda_cons (ed_var rfl h1) (by walk_at "ed")) ⟨a, b, c, p, r, rfl, ⟨hp, hr'⟩, rfl⟩
    · refine ed_add (ed_add (ed_mul (ed_mul (ed_mul ed_int (ed_var rfl (.int _)) (.inl ⟨by decide, by decide⟩)) (ed_var rfl (.int _)) (.inr hp)) (ed_var rfl (.int _)) (.inr hq)) (ed_mul (ed_var rfl (.int _)) (ed_add (ed_mul (ed_var rfl (.int _)) (ed_var rfl (.int _)) (.inr hs)) (ed_mul (ed_var rfl (.int _)) (ed_var rfl (.int _)) (.inr hr'))) (.inl hb))) (ed_mul (ed_mul (ed_mul ed_int (ed_var rfl (.int _)) (.inl ⟨by decide, by decide⟩)) (ed_var rfl (.int _)) (.inr hr')) (ed_var rfl (.int _)) (.inr hs))
    · exact ed_call (eda_cons (ed_var rfl h1) (by walk_at "ed")) ⟨a, b, c, q, s, rfl, ⟨hq, hs⟩, rfl⟩
/-! ### turned -/
def p_turned : List PyData → PyData → Prop := fun ds d => ∃ a b c p q r s, ds = [.int a, .int b, .int c, .int p, .int q, .int r, .int s] ∧ (In64 a ∧ In64 b ∧ In64 c ∧ In64 p ∧ In64 q ∧ In64 r ∧ In64 s) ∧ d = .list ((PyWrform.turned a b c p q r s).map PyData.int)
theorem len_turned {ds : List PyData} {d : PyData} (h : p_turned ds d) : ds.length = 7 := by
  obtain ⟨a, b, c, p, q, r, s, rfl, _⟩ := h
  rfl
theorem turned_law (a b c p q r s : Int) : PyWrform.turned a b c p q r s = if fits a b c = true ∧ p * s - q * r = 1 ∧ fits (Fc.changed ⟨a, b, c⟩ ⟨p, q, r, s⟩).a (Fc.changed ⟨a, b, c⟩ ⟨p, q, r, s⟩).b (Fc.changed ⟨a, b, c⟩ ⟨p, q, r, s⟩).c = true then [0, (Fc.changed ⟨a, b, c⟩ ⟨p, q, r, s⟩).a, (Fc.changed ⟨a, b, c⟩ ⟨p, q, r, s⟩).b, (Fc.changed ⟨a, b, c⟩ ⟨p, q, r, s⟩).c] else [-1] := by
  show WrformNeutral.told (Wrform.when (Wrform.fits ⟨a, b, c⟩ && (Fc.isChange ⟨p, q, r, s⟩ && Wrform.fits (Fc.changed ⟨a, b, c⟩ ⟨p, q, r, s⟩))) fun _ => .form (Fc.changed ⟨a, b, c⟩ ⟨p, q, r, s⟩)) = _
  have e1 : Wrform.fits ⟨a, b, c⟩ = fits a b c := rfl
  have e2 : Wrform.fits (Fc.changed ⟨a, b, c⟩ ⟨p, q, r, s⟩) = fits (Fc.changed ⟨a, b, c⟩ ⟨p, q, r, s⟩).a (Fc.changed ⟨a, b, c⟩ ⟨p, q, r, s⟩).b (Fc.changed ⟨a, b, c⟩ ⟨p, q, r, s⟩).c := rfl
  have e3 : Fc.isChange ⟨p, q, r, s⟩ = decide (p * s - q * r = 1) := by
    show (p * s - q * r == 1) = _
    rw [Bool.beq_eq_decide_eq]
  rw [e1, e2, e3]
  generalize Fc.changed ⟨a, b, c⟩ ⟨p, q, r, s⟩ = g
  unfold Wrform.when
  by_cases h1 : fits a b c = true <;> by_cases h2 : p * s - q * r = 1 <;> by_cases h3 : fits g.a g.b g.c = true <;> simp [h1, h2, h3, WrformNeutral.told, WrformNeutral.formT]
theorem ok_turned (T : Txt K mg) : FnOk P w K mg base CX0 3 T.f_turned T.fd_turned ["a", "b", "c", "p", "q", "r", "s"] (spD K p_turned) := by
  have G_is_form := ok_is_form (P := P) (w := w) (base := base) T
  have G_changed := ok_changed (P := P) (w := w) (base := base) T
  refine T.F_turned.ok sc_turned (fun vs H Q E h => ?_) (fun cdv A outer s H vs Q E hr h => ?_)
  · obtain ⟨ds, _, hv, hp, _⟩ := h
    rw [da_len hv]
    exact len_turned hp
  · obtain ⟨ds, d, hv, hp, hQ⟩ := h
    obtain ⟨a, b, c, p, q, r, s, rfl, ⟨_, hb, _, hp, hq, hr', hs⟩, rfl⟩ := hp
    have hv := da_ints (ns := [a, b, c, p, q, r, s]) hv
    subst hv
    rw [turned_law] at hQ
    refine ⟨_, (pss_cons (ps_if (PW.pt (pw_or (pt_not (pt_val (pe_call G_is_form (hr.mono (by decide)) rfl T.g_is_form T.F_is_form.kp T.b_is_form .nil pass0 (pa_cons (pe_tup (pa_cons (pv 0) (pa_cons (pv 1) (pa_cons (pv 2) pa_nil)))) pa_nil)))) (pw_or1 (pt_cmpR op_ne (pe_op op_sub (pe_op op_mul (pv 3) (pv 6)) (pe_op op_mul (pv 4) (pv 5))) pe_int (nomark _)))))
          (pss_one (ps_ret (pe_callTy call_list_of (by rfl) T.z_list (by decide +kernel) (pa_cons (pe_glob (v := .ref T.a_REFUSED) rfl T.k_REFUSED rfl) pa_nil))))
          pss_nil)
          (pss_cons (ps_set (i := 7) sc_turned.nd rfl (Or.inl rfl) (pe_call G_changed (hr.mono (by decide)) rfl T.g_changed T.F_changed.kp T.b_changed .nil pass0 (pa_cons (pe_tup (pa_cons (pv 0) (pa_cons (pv 1) (pa_cons (pv 2) pa_nil)))) (pa_cons (pe_tup (pa_cons (pv 3) (pa_cons (pv 4) (pa_cons (pv 5) (pa_cons (pv 6) pa_nil))))) pa_nil))))
          (pss_cons (ps_if (pt_not (pt_val (pe_call G_is_form (hr.mono (by decide)) rfl T.g_is_form T.F_is_form.kp T.b_is_form .nil pass0 (pa_cons (pv 7) pa_nil))))
          (pss_one (ps_ret (pe_callTy call_list_of (by rfl) T.z_list (by decide +kernel) (pa_cons (pe_glob (v := .ref T.a_REFUSED) rfl T.k_REFUSED rfl) pa_nil))))
          pss_nil)
          (pss_one (ps_ret (pe_op op_cat (pe_lst (pa_cons pe_int pa_nil)) (pe_callTy call_list_of (by rfl) T.z_list (by decide +kernel) (pa_cons (pv 7) pa_nil)))))))), ?_⟩
    refine q_when (et_or (et_not (et_BD (K := K) (ed_call (by walk_at "ed") ⟨a, b, c, rfl, rfl⟩))) fun _ => et_testD (K := K) (ed_neI (ed_sub (ed_mul (ed_var rfl (.int _)) (ed_var rfl (.int _)) (.inr hs.wide)) (ed_mul (ed_var rfl (.int _)) (ed_var rfl (.int _)) (.inr hr'.wide))) ed_int)) (fun hb1 H1 e1 => ?_) (fun hb1 H1 e1 => ?_)
    · refine sd_ret (K := K) (EvN.toD (en_list (ed_c (.lst (T.l_REFUSED _) (.cons (.int _) .nil))) (.inl rfl))) fun v H2 e2 hd => hQ v H2 (e1.trans e2) ?_
      rw [if_neg (fun h => by simp [h.1, h.2.1] at hb1)]
      exact hd
    · simp only [Bool.or_eq_false_iff, Bool.not_eq_false', decide_eq_true_eq] at hb1
      refine qd_asg (K := K) (ed_call (by walk_at "ed") ⟨⟨a, b, c⟩, ⟨p, q, r, s⟩, rfl, ⟨hb.wide, hp.wide, hq.wide, hr'.wide, hs.wide⟩, rfl⟩) fun v H2 e2 hv2 => ?_
      refine q_when (et_not (et_BD (K := K) (ed_call (eda_cons (ed_var rfl hv2) eda_nil) ⟨_, _, _, rfl, rfl⟩))) (fun hb2 H3 e3 => ?_) (fun hb2 H3 e3 => ?_)
      · refine sd_ret (K := K) (EvN.toD (en_list (ed_c (.lst (T.l_REFUSED _) (.cons (.int _) .nil))) (.inl rfl))) fun v H4 e4 hd => hQ v H4 (((e1.trans e2).trans e3).trans e4) ?_
        rw [if_neg (fun h => by simp [h.2.2] at hb2)]
        exact hd
      · rw [Bool.not_eq_false'] at hb2
        refine sd_ret (K := K) (EvN.toD (en_cat (en_lst (eda_cons ed_int eda_nil)) (en_list (ed_var rfl (Dp_mono e3 hv2)) (.inr rfl)) (by simp))) fun v H4 e4 hd => hQ v H4 (((e1.trans e2).trans e3).trans e4) ?_
        rw [if_pos ⟨hb1.1, hb1.2, hb2⟩]
        exact hd
end
theorem all_mk {P : Program} {w : World} {K : PySem.W.Frag} {h : Heap} {mg : Str → Option Value} {fa : Addr} (X : K.In h) (G : h.Ns mainGlobals mg) (hfa : mg "turned" = some (.ref fa))
    {f0 f1 f2 f3 : Addr} {od0 an0 od1 an1 od2 an2 od3 an3 : Option Addr} {sl0 sl1 sl2 sl3 : Array (Option Value)} {oc0 kV0 dc0 pm0 cd0 ct0 oc1 kV1 dc1 pm1 cd1 ct1 oc2 kV2 dc2 pm2 cd2 ct2 oc3 kV3 dc3 pm3 cd3 ct3 : Value}
    (a0 : PySem.W.nsIn K mainGlobals "is_form" = some (some (.ref f0))) (l0 : K.lookup f0 = some ⟨oc0, od0, .func (PySem.W.fnOf "is_form" "is_form" (defArgs s_is_form) (defBody s_is_form) (defScope s_is_form) .none kV0 dc0 pm0 an0 cd0 ct0), sl0⟩) (c0 : PySem.W.codeIn K cd0 "is_form" = true) (k0 : PySem.W.keepIn K (.ref f0) = true)
    (a1 : PySem.W.nsIn K mainGlobals "value_at" = some (some (.ref f1))) (l1 : K.lookup f1 = some ⟨oc1, od1, .func (PySem.W.fnOf "value_at" "value_at" (defArgs s_value_at) (defBody s_value_at) (defScope s_value_at) .none kV1 dc1 pm1 an1 cd1 ct1), sl1⟩) (c1 : PySem.W.codeIn K cd1 "value_at" = true) (k1 : PySem.W.keepIn K (.ref f1) = true)
    (a2 : PySem.W.nsIn K mainGlobals "changed" = some (some (.ref f2))) (l2 : K.lookup f2 = some ⟨oc2, od2, .func (PySem.W.fnOf "changed" "changed" (defArgs s_changed) (defBody s_changed) (defScope s_changed) .none kV2 dc2 pm2 an2 cd2 ct2), sl2⟩) (c2 : PySem.W.codeIn K cd2 "changed" = true) (k2 : PySem.W.keepIn K (.ref f2) = true)
    (a3 : PySem.W.nsIn K mainGlobals "turned" = some (some (.ref f3))) (l3 : K.lookup f3 = some ⟨oc3, od3, .func (PySem.W.fnOf "turned" "turned" (defArgs s_turned) (defBody s_turned) (defScope s_turned) .none kV3 dc3 pm3 an3 cd3 ct3), sl3⟩) (c3 : PySem.W.codeIn K cd3 "turned" = true) (k3 : PySem.W.keepIn K (.ref f3) = true)
    {t_MOST : Tok} (m_MOST : PySem.W.nsIn K mainGlobals "MOST" = some (some (.int 8192 t_MOST)))
    {aR : Addr} {tR : Tok} {nR : Nat} {slR : Array (Option Value)} (m_REFUSED : PySem.W.nsIn K mainGlobals "REFUSED" = some (some (.ref aR))) (l_REFUSED : K.lookup aR = some ⟨.type "list", none, .seq #[.int (-1) tR] nR, slR⟩)
    (z_abs : PySem.W.nsIn K mainGlobals "abs" = some none)
    (z_list : PySem.W.nsIn K mainGlobals "list" = some none)
    (z_max : PySem.W.nsIn K mainGlobals "max" = some none)
    : ∃ fd : FuncData, (∀ (s : Shared) (us : List Value), us.length = (["a", "b", "c", "p", "q", "r", "s"] : List Str).length → BindsTo s fd ⟨us, []⟩ ((["a", "b", "c", "p", "q", "r", "s"] : List Str).zip us)) ∧ ∀ base : Heap, K.In base → base.Ns mainGlobals mg → FnOk P w K mg base CX0 3 fa fd ["a", "b", "c", "p", "q", "r", "s"] (spD K p_turned) := by
  have e := hfa.symm.trans (PySem.W.mg_of X G a3)
  obtain rfl : f3 = fa := by cases e; rfl
  have T : Nonempty { T : Txt K mg // T.f_turned = f3 ∧ T.fd_turned = PySem.W.fnOf "turned" "turned" (defArgs s_turned) (defBody s_turned) (defScope s_turned) .none kV3 dc3 pm3 an3 cd3 ct3 } := ⟨⟨{
    k_MOST := ⟨t_MOST, PySem.W.mg_of X G m_MOST⟩
    a_REFUSED := aR
    k_REFUSED := PySem.W.mg_of X G m_REFUSED
    l_REFUSED := fun H => .inr ⟨_, _, _, l_REFUSED, rfl, rfl, rfl, (by show 1 ≤ sizeLine; decide), .cons ⟨_, rfl⟩ .nil⟩
    z_abs := PySem.W.mg_none_of X G z_abs
    z_list := PySem.W.mg_none_of X G z_list
    z_max := PySem.W.mg_none_of X G z_max
    f_is_form := f0
    fd_is_form := _
    g_is_form := PySem.W.mg_of X G a0
    F_is_form := fun_mk (st := s_is_form) l0 c0 k0
    b_is_form := (fun_mk (st := s_is_form) l0 c0 k0).binds (ps := ["form"]) fun _ _ _ _ _ _ us hl => match us, hl with | [_], _ => rfl
    f_value_at := f1
    fd_value_at := _
    g_value_at := PySem.W.mg_of X G a1
    F_value_at := fun_mk (st := s_value_at) l1 c1 k1
    b_value_at := (fun_mk (st := s_value_at) l1 c1 k1).binds (ps := ["form", "x", "y"]) fun _ _ _ _ _ _ us hl => match us, hl with | [_, _, _], _ => rfl
    f_changed := f2
    fd_changed := _
    g_changed := PySem.W.mg_of X G a2
    F_changed := fun_mk (st := s_changed) l2 c2 k2
    b_changed := (fun_mk (st := s_changed) l2 c2 k2).binds (ps := ["form", "change"]) fun _ _ _ _ _ _ us hl => match us, hl with | [_, _], _ => rfl
    f_turned := f3
    fd_turned := _
    g_turned := PySem.W.mg_of X G a3
    F_turned := fun_mk (st := s_turned) l3 c3 k3
    b_turned := (fun_mk (st := s_turned) l3 c3 k3).binds (ps := ["a", "b", "c", "p", "q", "r", "s"]) fun _ _ _ _ _ _ us hl => match us, hl with | [_, _, _, _, _, _, _], _ => rfl
    }, rfl, rfl⟩⟩
  obtain ⟨T, e1, e2⟩ := T
  refine ⟨T.fd_turned, fun s us hu => ?_, fun base _ _ => e1 ▸ ok_turned T⟩
  rw [e2]
  exact match us, hu with | [_, _, _, _, _, _, _], _ => .of_eq rfl
theorem dw_list {K : PySem.W.Frag} {H : Hp} {v : V} {ns : List Int} (h : Dp K H v (.list (ns.map PyData.int))) : Dw K H v (.list (ns.map PySem.W.WData.int)) := by
  obtain ⟨a, xs, rfl, hs, ha⟩ := dp_list h
  cases da_ints ha
  exact .lst hs (dw_ints ns)
end Fkw
open PySem PySem.W PyProof.Rows
set_option maxRecDepth 100000 in
set_option maxHeartbeats 8000000 in
theorem PySem.Challenge.cw_formkinds_s03_turned_holds : PySem.Challenge.rw_formkinds_s03_turned.Holds := by
  w_on; k_headS; (case hw => exact ⟨[.int 0, .int 0, .int 0, .int 0, .int 0, .int 0, .int 0], by decide +kernel, by decide +kernel⟩)
  k_fillS
  refine L2.walk_specK (r := PySem.Challenge.rw_formkinds_s03_turned) (k := 3) (CX := L2.CX0) (ps := ["a", "b", "c", "p", "q", "r", "s"]) (sp := fun K => Fkw.spD K Fkw.p_turned) (by decide +kernel) rfl rfl ⟨rfl, by decide, by decide⟩ (fun w h Y => PySem.W.kIn_of Y) ?F ?S (fun _ _ _ _ z => z)
  case F =>
    intro w mg fa h Y KX G hmg
    refine' Fkw.all_mk KX G hmg ?a0 ?l0 ?c0 ?k0 ?a1 ?l1 ?c1 ?k1 ?a2 ?l2 ?c2 ?k2 ?a3 ?l3 ?c3 ?k3 ?m_MOST ?m_REFUSED ?l_REFUSED ?z_abs ?z_list ?z_max
    (case a0 => k_is)
    (case l0 => k_is)
    (case c0 => k_is)
    (case k0 => k_is)
    (case a1 => k_is)
    (case l1 => k_is)
    (case c1 => k_is)
    (case k1 => k_is)
    (case a2 => k_is)
    (case l2 => k_is)
    (case c2 => k_is)
    (case k2 => k_is)
    (case a3 => k_is)
    (case l3 => k_is)
    (case c3 => k_is)
    (case k3 => k_is)
    (case m_MOST => k_is)
    (case m_REFUSED => k_is)
    (case l_REFUSED => k_is)
    (case z_abs => k_is)
    (case z_list => k_is)
    (case z_max => k_is)
  case S =>
    intro K H xs args hO hwi hask hx
    obtain ⟨x0, x1, x2, x3, x4, x5, x6, u⟩ := args
    cases hx with
    | cons h0 hx =>
    cases hx with
    | cons h1 hx =>
    cases hx with
    | cons h2 hx =>
    cases hx with
    | cons h3 hx =>
    cases hx with
    | cons h4 hx =>
    cases hx with
    | cons h5 hx =>
    cases hx with
    | cons h6 hx =>
    cases hx
    cases h0
    cases h1
    cases h2
    cases h3
    cases h4
    cases h5
    cases h6
    have q : (Codec.inInt _ _ x0 && (Codec.inInt _ _ x1 && (Codec.inInt _ _ x2 && (Codec.inInt _ _ x3 && (Codec.inInt _ _ x4 && (Codec.inInt _ _ x5 && (Codec.inInt _ _ x6 && true))))))) = true := hwi
    simp only [Bool.and_eq_true] at q
    have q0 := Codec.inInt_iff.mp q.1
    have q1 := Codec.inInt_iff.mp q.2.1
    have q2 := Codec.inInt_iff.mp q.2.2.1
    have q3 := Codec.inInt_iff.mp q.2.2.2.1
    have q4 := Codec.inInt_iff.mp q.2.2.2.2.1
    have q5 := Codec.inInt_iff.mp q.2.2.2.2.2.1
    have q6 := Codec.inInt_iff.mp q.2.2.2.2.2.2.1
    refine ⟨_, _, .cons (.int _) (.cons (.int _) (.cons (.int _) (.cons (.int _) (.cons (.int _) (.cons (.int _) (.cons (.int _) (.nil))))))), ⟨x0, x1, x2, x3, x4, x5, x6, rfl, ⟨⟨q0.1, q0.2⟩, ⟨q1.1, q1.2⟩, ⟨q2.1, q2.2⟩, ⟨q3.1, q3.2⟩, ⟨q4.1, q4.2⟩, ⟨q5.1, q5.2⟩, ⟨q6.1, q6.2⟩⟩, rfl⟩, fun v H' _ hd => ?_⟩
    exact Fkw.dw_list hd
#print axioms PySem.Challenge.cw_formkinds_s03_turned_holds
