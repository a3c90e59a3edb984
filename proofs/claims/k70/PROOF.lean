import PyProof.Rows.All
import Wide.All
import OpenK.AllK
import Wide.FinOn
import HandS.ForMost
import HandS.Evl
import HandS.Style
import HandS.IsInst
import HandS.TupAny
import HandS.Wide
import HandS.SetFor
import PyProof.Rows.SortShellAny
import KE.DataMinKey
import KE.DatumOrd
import PyProof.SumAny
import HandS.Lambda
import HandS.EndTab
import KE.KNestM
import PySem.Challenge.RW_wordwright_k70_whole_mirrors_by_middles
set_option Elab.async false
set_option linter.all false
set_option maxRecDepth 100000
set_option maxHeartbeats 4000000
namespace Lyn
abbrev W := List Nat

theorem tri : ∀ a b : W, a < b ∨ a = b ∨ b < a
  | [], [] => .inr (.inl rfl)
  | [], _ :: _ => .inl (List.nil_lt_cons _ _)
  | _ :: _, [] => .inr (.inr (List.nil_lt_cons _ _))
  | x :: a, y :: b => by
    rcases Nat.lt_trichotomy x y with h | h | h
    · exact .inl (List.cons_lt_cons_iff.mpr (.inl h))
    · subst h
      rcases tri a b with h | h | h
      · exact .inl (List.cons_lt_cons_iff.mpr (.inr ⟨rfl, h⟩))
      · exact .inr (.inl (by rw [h]))
      · exact .inr (.inr (List.cons_lt_cons_iff.mpr (.inr ⟨rfl, h⟩)))
    · exact .inr (.inr (List.cons_lt_cons_iff.mpr (.inl h)))
theorem irr (a : W) : ¬ a < a := List.lt_irrefl a
theorem trans {a b c : W} (h : a < b) (h2 : b < c) : a < c := List.lt_trans h h2
theorem asymm {a b : W} (h : a < b) : ¬ b < a := fun h2 => irr a (trans h h2)
/-- ¬ b < a is a ≤ b -/
theorem le_iff {a b : W} : a ≤ b ↔ ¬ b < a := Iff.rfl
theorem le_of_lt {a b : W} (h : a < b) : a ≤ b := asymm h
theorem le_rfl {a : W} : a ≤ a := irr a
theorem le_iff_lt {a b : W} : a ≤ b ↔ a < b ∨ a = b := by
  constructor
  · intro h
    rcases tri a b with q | q | q
    · exact .inl q
    · exact .inr q
    · exact absurd q h
  · rintro (h | rfl)
    · exact le_of_lt h
    · exact le_rfl
theorem lt_of_le_of_lt {a b c : W} (h : a ≤ b) (h2 : b < c) : a < c := by
  rcases le_iff_lt.mp h with q | rfl
  · exact trans q h2
  · exact h2
theorem lt_of_lt_of_le {a b c : W} (h : a < b) (h2 : b ≤ c) : a < c := by
  rcases le_iff_lt.mp h2 with q | rfl
  · exact trans h q
  · exact h
theorem le_trans {a b c : W} (h : a ≤ b) (h2 : b ≤ c) : a ≤ c := by
  rcases le_iff_lt.mp h2 with q | rfl
  · exact le_of_lt (lt_of_le_of_lt h q)
  · exact h
theorem le_antisymm {a b : W} (h : a ≤ b) (h2 : b ≤ a) : a = b := by
  rcases le_iff_lt.mp h with q | q
  · exact absurd q h2
  · exact q
theorem not_lt {a b : W} : ¬ a < b ↔ b ≤ a := Iff.rfl
theorem not_le {a b : W} : ¬ a ≤ b ↔ b < a := by
  constructor
  · intro h
    rcases tri a b with q | q | q
    · exact absurd (le_of_lt q) h
    · exact absurd (q ▸ le_rfl) h
    · exact q
  · exact fun h h2 => h2 h

/-- they part at a letter -/
def Ml (a b : W) : Prop := ∃ p x y s t, a = p ++ x :: s ∧ b = p ++ y :: t ∧ x < y
theorem app_lt : ∀ (p : W) {c d : W}, p ++ c < p ++ d ↔ c < d
  | [], _, _ => Iff.rfl
  | x :: p, c, d => by
    rw [List.cons_append, List.cons_append, List.cons_lt_cons_iff]
    constructor
    · rintro (h | ⟨_, h⟩)
      · exact absurd h (Nat.lt_irrefl _)
      · exact (app_lt p).mp h
    · exact fun h => .inr ⟨rfl, (app_lt p).mpr h⟩
theorem app_le (p : W) {c d : W} : p ++ c ≤ p ++ d ↔ c ≤ d := not_congr (app_lt p)
theorem nil_lt {c : W} (h : c ≠ []) : ([] : W) < c := by
  cases c with
  | nil => exact absurd rfl h
  | cons x c => exact List.nil_lt_cons _ _
theorem lt_app (a : W) {c : W} (h : c ≠ []) : a < a ++ c := by
  have := (app_lt a (c := []) (d := c)).mpr (nil_lt h)
  rwa [List.append_nil] at this
theorem le_app (a c : W) : a ≤ a ++ c := by
  cases c with
  | nil => rw [List.append_nil]; exact le_rfl
  | cons x c => exact le_of_lt (lt_app a (by simp))
theorem Ml.lt {a b : W} (h : Ml a b) : a < b := by
  obtain ⟨p, x, y, s, t, rfl, rfl, h⟩ := h
  exact (app_lt p).mpr (List.cons_lt_cons_iff.mpr (.inl h))
theorem Ml.app {a b : W} (h : Ml a b) (c d : W) : Ml (a ++ c) (b ++ d) := by
  obtain ⟨p, x, y, s, t, rfl, rfl, h⟩ := h
  exact ⟨p, x, y, s ++ c, t ++ d, by simp, by simp, h⟩
theorem lt_iff : ∀ {a b : W}, a < b ↔ (∃ c, c ≠ [] ∧ b = a ++ c) ∨ Ml a b
  | a, b => by
    constructor
    · intro h
      induction a generalizing b with
      | nil =>
        refine .inl ⟨b, fun e => ?_, rfl⟩
        subst e
        exact irr _ h
      | cons x a ih =>
        cases b with
        | nil => exact absurd h (List.not_lt_nil _)
        | cons y b =>
          rcases List.cons_lt_cons_iff.mp h with q | ⟨rfl, q⟩
          · exact .inr ⟨[], x, y, a, b, rfl, rfl, q⟩
          · rcases ih _ q with ⟨c, hc, rfl⟩ | ⟨p, x', y', s, t, rfl, rfl, l⟩
            · exact .inl ⟨c, hc, rfl⟩
            · exact .inr ⟨x :: p, x', y', s, t, rfl, rfl, l⟩
    · rintro (⟨c, hc, rfl⟩ | h)
      · exact lt_app a hc
      · exact h.lt
/-- unlike words of one length part at a letter -/
theorem ml_of_len {a b : W} (h : a < b) (e : b.length ≤ a.length) : Ml a b := by
  rcases lt_iff.mp h with ⟨c, hc, rfl⟩ | h
  · rw [List.length_append] at e
    exact absurd (List.length_eq_zero_iff.mp (by omega)) hc
  · exact h

/-! ### Lyndon words -/
def L (w : W) : Prop := w ≠ [] ∧ ∀ k, 0 < k → k < w.length → w < w.drop k
theorem L.suf {w u v : W} (h : L w) (e : w = u ++ v) (hu : u ≠ []) (hv : v ≠ []) : w < v := by
  subst e
  have h1 : 0 < u.length := List.length_pos_iff.mpr hu
  have h2 : 0 < v.length := List.length_pos_iff.mpr hv
  have := h.2 u.length h1 (by rw [List.length_append]; omega)
  rwa [List.drop_left] at this
theorem L.sufle {w u v : W} (h : L w) (e : w = u ++ v) (hv : v ≠ []) : w ≤ v := by
  by_cases hu : u = []
  · subst hu
    rw [e]
    exact le_rfl
  · exact le_of_lt (h.suf e hu hv)
theorem L.of {w : W} (h0 : w ≠ []) (h : ∀ u v, w = u ++ v → u ≠ [] → v ≠ [] → w < v) : L w := by
  refine ⟨h0, fun k h1 h2 => h (w.take k) (w.drop k) (List.take_append_drop k w).symm ?_ ?_⟩
  · intro e
    have q : (w.take k).length = 0 := by rw [e]; rfl
    rw [List.length_take] at q
    omega
  · intro e
    have q : (w.drop k).length = 0 := by rw [e]; rfl
    rw [List.length_drop] at q
    omega
/-- two Lyndon words, the first one less: together one -/
theorem L.mul {u v : W} (hu : L u) (hv : L v) (h : u < v) : L (u ++ v) := by
  have huv : u ++ v < v := by
    rcases lt_iff.mp h with ⟨c, hc, e⟩ | m
    · -- v = u c; then v < c
      have h1 : v < c := hv.suf e hu.1 hc
      rw [e] at h1 ⊢
      exact (app_lt u).mpr h1
    · have := (m.app v []).lt
      rwa [List.append_nil] at this
  refine L.of (fun e => hu.1 (List.append_eq_nil_iff.mp e).1) fun x y e hx hy => ?_
  rcases List.append_eq_append_iff.mp e with ⟨a, rfl, e2⟩ | ⟨a, rfl, e2⟩
  · -- v = a ++ y
    by_cases ha : a = []
    · subst ha
      rw [List.nil_append] at e2
      rw [e2] at huv ⊢
      exact huv
    · exact trans huv (hv.suf e2 ha hy)
  · -- u = x ++ a, y = a ++ v
    subst e2
    by_cases ha : a = []
    · subst ha
      rw [List.nil_append]
      exact huv
    · have h1 : x ++ a < a := hu.suf rfl hx ha
      have m := ml_of_len h1 (by rw [List.length_append]; omega)
      exact (m.app v v).lt

/-- a cut: Lyndon words, none greater than the one ahead -/
def Fac : List W → Prop
  | [] => True
  | [u] => L u
  | u :: v :: r => L u ∧ v ≤ u ∧ Fac (v :: r)
theorem Fac.head {u : W} {r : List W} (h : Fac (u :: r)) : L u := by
  cases r with
  | nil => exact h
  | cons v r => exact h.1
theorem Fac.tail {u : W} {r : List W} (h : Fac (u :: r)) : Fac r := by
  cases r with
  | nil => trivial
  | cons v r => exact h.2.2
theorem Fac.le {u : W} : ∀ {r : List W}, Fac (u :: r) → ∀ v ∈ r, v ≤ u
  | [], _, _, hv => nomatch hv
  | x :: r, h, v, hv => by
    rcases List.mem_cons.mp hv with rfl | hv
    · exact h.2.1
    · exact le_trans (Fac.le (u := x) h.2.2 v hv) h.2.1
theorem Fac.cons {u : W} {r : List W} (hu : L u) (hr : Fac r) (h : ∀ v ∈ r, v ≤ u) : Fac (u :: r) := by
  cases r with
  | nil => exact hu
  | cons v r => exact ⟨hu, h v List.mem_cons_self, hr⟩
theorem Fac.cons' {u : W} {r : List W} (hu : L u) (hr : Fac r) (h : ∀ v, r.head? = some v → v ≤ u) : Fac (u :: r) := by
  cases r with
  | nil => exact hu
  | cons v r => exact ⟨hu, h v rfl, hr⟩
theorem Fac.all : ∀ {r : List W}, Fac r → ∀ v ∈ r, L v
  | [], _, _, hv => nomatch hv
  | x :: r, h, v, hv => by
    rcases List.mem_cons.mp hv with rfl | hv
    · exact h.head
    · exact Fac.all h.tail v hv
theorem Fac.append_left : ∀ {a b : List W}, Fac (a ++ b) → Fac a
  | [], _, _ => trivial
  | x :: a, b, h => Fac.cons h.head (Fac.append_left (Fac.tail (u := x) h)) fun v hv => Fac.le (u := x) h v (List.mem_append_left _ hv)
theorem Fac.append_right : ∀ {a b : List W}, Fac (a ++ b) → Fac b
  | [], _, h => h
  | x :: a, b, h => Fac.append_right (a := a) (Fac.tail (u := x) h)

/-- the first part of a cut is the longest Lyndon beginning -/
theorem Fac.first {u : W} {r : List W} (h : Fac (u :: r)) {p s : W} (e : (u :: r).flatten = p ++ s) (hp : L p) : p.length ≤ u.length := by
  rcases Nat.lt_or_ge u.length p.length with hl | hl
  · exfalso
    -- p = u ++ a, a nonempty, r.flatten = a ++ s
    rw [List.flatten_cons] at e
    rcases List.append_eq_append_iff.mp e with ⟨a, rfl, e2⟩ | ⟨a, e1, e2⟩
    · have ha : a ≠ [] := fun z => by subst z; simp at hl
      -- the last part that a reaches
      have key : ∀ (r : List W) (a : W), Fac (u :: r) → r.flatten = a ++ s → a ≠ [] → ∃ x y, a = x ++ y ∧ y ≠ [] ∧ y ≤ u := by
        intro r
        induction r with
        | nil =>
          intro a _ e ha
          rw [List.flatten_nil] at e
          exact absurd (List.append_eq_nil_iff.mp e.symm).1 ha
        | cons v r ih =>
          intro a hf e ha
          rw [List.flatten_cons] at e
          have hvu : v ≤ u := hf.2.1
          rcases List.append_eq_append_iff.mp e with ⟨b, rfl, e2⟩ | ⟨b, e1, e2⟩
          · -- a = v ++ b
            by_cases hb : b = []
            · subst hb
              exact ⟨[], v, by simp, hf.2.2.head.1, hvu⟩
            · obtain ⟨x, y, rfl, hy, hyu⟩ := ih b (Fac.cons hf.1 (Fac.tail (u := v) hf.2.2) fun z hz => Fac.le hf z (List.mem_cons_of_mem _ hz)) e2 hb
              exact ⟨v ++ x, y, by simp, hy, hyu⟩
          · -- v = a ++ b
            refine ⟨[], a, by simp, ha, le_trans ?_ hvu⟩
            rw [e1]
            exact le_app a b
      obtain ⟨x, y, rfl, hy, hyu⟩ := key r a h e2 ha
      have h1 : u ++ (x ++ y) < y := hp.suf (u := u ++ x) (by simp) (fun z => h.head.1 (List.append_eq_nil_iff.mp z).1) hy
      exact irr _ (lt_of_lt_of_le h1 (le_trans hyu (le_app u _)))
    · rw [e1, List.length_append] at hl
      omega
  · exact hl
/-- there is just one -/
theorem Fac.uniq : ∀ {a b : List W}, Fac a → Fac b → a.flatten = b.flatten → a = b
  | [], [], _, _, _ => rfl
  | [], v :: b, _, hb, e => by
    rw [List.flatten_nil, List.flatten_cons] at e
    exact absurd (List.append_eq_nil_iff.mp e.symm).1 hb.head.1
  | u :: a, [], ha, _, e => by
    rw [List.flatten_nil, List.flatten_cons] at e
    exact absurd (List.append_eq_nil_iff.mp e).1 ha.head.1
  | u :: a, v :: b, ha, hb, e => by
    have h1 := ha.first (p := v) (s := b.flatten) (by rw [e, List.flatten_cons]) hb.head
    have h2 := hb.first (p := u) (s := a.flatten) (by rw [← e, List.flatten_cons]) ha.head
    rw [List.flatten_cons, List.flatten_cons] at e
    obtain ⟨e1, e2⟩ := List.append_inj e (by omega)
    rw [e1, Fac.uniq ha.tail hb.tail e2]
/-- the last part is the least end -/
theorem Fac.last {l : W} : ∀ {r : List W}, Fac (r ++ [l]) → ∀ x y, (r ++ [l]).flatten = x ++ y → y ≠ [] → l ≤ y
  | [], h, x, y, e, hy => by
    rw [List.nil_append, List.flatten_singleton] at e
    exact L.sufle h e hy
  | u :: r, h, x, y, e, hy => by
    rw [List.cons_append, List.flatten_cons] at e
    rcases List.append_eq_append_iff.mp e with ⟨a, rfl, e2⟩ | ⟨a, e1, e2⟩
    · exact Fac.last (r := r) (Fac.tail (u := u) h) a y e2 hy
    · have hl : l ≤ u := Fac.le (u := u) h l (by simp)
      by_cases ha : a = []
      · subst ha
        rw [List.nil_append] at e2
        exact Fac.last (r := r) (Fac.tail (u := u) h) [] y (by rw [e2]; rfl) hy
      · refine le_trans hl (le_trans ((Fac.head h).sufle e1 ha) ?_)
        rw [e2]
        exact le_app a _
theorem fac_one {w : W} (h : L w) : Fac [w] := h
theorem fac_two {u v : W} (hu : L u) (hv : L v) (h : v ≤ u) : Fac [u, v] := ⟨hu, h, hv⟩
end Lyn
namespace Lyn
/-! ### powers -/
def rep (k : Nat) (u : W) : W := (List.replicate k u).flatten
theorem rep_zero (u : W) : rep 0 u = [] := rfl
theorem rep_succ (k : Nat) (u : W) : rep (k + 1) u = u ++ rep k u := by
  unfold rep
  rw [List.replicate_succ, List.flatten_cons]
theorem rep_one (u : W) : rep 1 u = u := by rw [rep_succ, rep_zero, List.append_nil]
theorem rep_add (u : W) : ∀ i j : Nat, rep (i + j) u = rep i u ++ rep j u
  | 0, j => by rw [Nat.zero_add, rep_zero, List.nil_append]
  | i + 1, j => by rw [show i + 1 + j = (i + j) + 1 by omega, rep_succ, rep_add u i j, rep_succ, List.append_assoc]
theorem rep_succ' (k : Nat) (u : W) : rep (k + 1) u = rep k u ++ u := by rw [rep_add, rep_one]
theorem rep_len (u : W) : ∀ k : Nat, (rep k u).length = k * u.length
  | 0 => by simp [rep_zero]
  | k + 1 => by rw [rep_succ, List.length_append, rep_len u k, Nat.succ_mul]; omega

/-! ### turns -/
def rot (w : W) (k : Nat) : W := w.drop k ++ w.take k
theorem rot_len (w : W) (k : Nat) : (rot w k).length = w.length := by
  unfold rot
  rw [List.length_append, List.length_drop, List.length_take]
  omega
theorem rot_app (u v : W) : rot (u ++ v) u.length = v ++ u := by
  unfold rot
  rw [List.drop_left, List.take_left]
theorem rot_zero (w : W) : rot w 0 = w := by simp [rot]
theorem rot_full (w : W) : rot w w.length = w := by simp [rot]
theorem split3 (w : W) (i j : Nat) (h : i + j ≤ w.length) : ∃ a b c, w = a ++ b ++ c ∧ a.length = i ∧ b.length = j := by
  refine ⟨w.take i, (w.drop i).take j, (w.drop i).drop j, ?_, by simp; omega, by simp; omega⟩
  rw [List.append_assoc, List.take_append_drop, List.take_append_drop]
theorem rot_rot (w : W) (i j : Nat) (h : i + j ≤ w.length) : rot (rot w i) j = rot w (i + j) := by
  obtain ⟨a, b, c, rfl, rfl, rfl⟩ := split3 w i j h
  rw [show rot (a ++ b ++ c) a.length = (b ++ c) ++ a by rw [List.append_assoc]; exact rot_app _ _]
  rw [show rot (b ++ c ++ a) b.length = (c ++ a) ++ b by rw [List.append_assoc]; exact rot_app _ _]
  rw [show a.length + b.length = (a ++ b).length by simp, rot_app]
  simp
theorem rot_rot' (w : W) (i j : Nat) (hi : i ≤ w.length) (hj : j ≤ w.length) (h : w.length ≤ i + j) : rot (rot w i) j = rot w (i + j - w.length) := by
  have e1 := rot_rot w i (w.length - i) (by omega)
  rw [show i + (w.length - i) = w.length by omega, rot_full] at e1
  have e2 := rot_rot (rot w i) (w.length - i) (j - (w.length - i)) (by rw [rot_len]; omega)
  rw [e1, show w.length - i + (j - (w.length - i)) = j by omega] at e2
  rw [← e2]
  congr 1
  omega
/-- any two turns, one after the other -/
theorem rot_any (w : W) (hw : 0 < w.length) (i j : Nat) (hi : i < w.length) (hj : j < w.length) : ∃ k, k < w.length ∧ rot (rot w i) j = rot w k := by
  by_cases h : i + j < w.length
  · exact ⟨i + j, h, rot_rot w i j (by omega)⟩
  · exact ⟨i + j - w.length, by omega, rot_rot' w i j (by omega) (by omega) (by omega)⟩
theorem rot_back (w : W) (i : Nat) (hi : i ≤ w.length) : rot (rot w i) (w.length - i) = w := by
  rw [rot_rot w i _ (by omega), show i + (w.length - i) = w.length by omega, rot_full]
theorem rot_comm (w : W) (i k : Nat) (hi : i < w.length) (hk : k < w.length) : rot (rot w i) k = rot (rot w k) i := by
  by_cases h : i + k ≤ w.length
  · rw [rot_rot w i k h, rot_rot w k i (by omega), Nat.add_comm]
  · rw [rot_rot' w i k (by omega) (by omega) (by omega), rot_rot' w k i (by omega) (by omega) (by omega), Nat.add_comm]

/-- words that go together -/
theorem comm (n : Nat) : ∀ u v : W, u.length + v.length ≤ n → u ++ v = v ++ u → u ≠ [] → v ≠ [] → ∃ z i j, z ≠ [] ∧ 0 < i ∧ 0 < j ∧ u = rep i z ∧ v = rep j z := by
  induction n with
  | zero =>
    intro u v h _ hu _
    exact absurd (List.length_eq_zero_iff.mp (by omega)) hu
  | succ n ih =>
    intro u v h e hu hv
    have pu : 0 < u.length := List.length_pos_iff.mpr hu
    have pv : 0 < v.length := List.length_pos_iff.mpr hv
    rcases List.append_eq_append_iff.mp e with ⟨a, e1, e2⟩ | ⟨a, e1, e2⟩
    · -- v = u ++ a, v = a ++ u
      by_cases ha : a = []
      · subst ha
        rw [List.append_nil] at e1
        exact ⟨u, 1, 1, hu, by decide, by decide, (rep_one u).symm, by rw [e1, rep_one]⟩
      · have hl : v.length = u.length + a.length := by rw [e1, List.length_append]
        obtain ⟨z, i, j, hz, hi, hj, r1, r2⟩ := ih u a (by omega) (by rw [← e1, ← e2]) hu ha
        exact ⟨z, i, i + j, hz, hi, by omega, r1, by rw [e1, rep_add, ← r1, ← r2]⟩
    · -- u = v ++ a
      by_cases ha : a = []
      · subst ha
        rw [List.append_nil] at e1
        exact ⟨v, 1, 1, hv, by decide, by decide, by rw [e1, rep_one], (rep_one v).symm⟩
      · have hl : u.length = v.length + a.length := by rw [e1, List.length_append]
        obtain ⟨z, i, j, hz, hi, hj, r1, r2⟩ := ih v a (by omega) (by rw [← e1, ← e2]) hv ha
        exact ⟨z, i + j, i, hz, by omega, hi, by rw [e1, rep_add, ← r1, ← r2], r1⟩

/-! ### roots -/
def rootOk (w : W) (d : Nat) : Bool := w.length % d == 0 && rep (w.length / d) (w.take d) == w
def rootD (w : W) : Nat := ((List.range' 1 w.length).find? (rootOk w)).getD w.length
def root (w : W) : W := w.take (rootD w)
theorem rootOk_len {w : W} (h : w ≠ []) : rootOk w w.length = true := by
  have p : 0 < w.length := List.length_pos_iff.mpr h
  unfold rootOk
  rw [Nat.mod_self, Nat.div_self p, rep_one, List.take_length]
  simp
theorem rootD_spec {w : W} (h : w ≠ []) : 0 < rootD w ∧ rootD w ≤ w.length ∧ rootOk w (rootD w) = true ∧ ∀ d, 0 < d → d < rootD w → rootOk w d = false := by
  have p : 0 < w.length := List.length_pos_iff.mpr h
  unfold rootD
  cases e : (List.range' 1 w.length).find? (rootOk w) with
  | none =>
    have q := List.find?_eq_none.mp e w.length (by simp [List.mem_range'_1]; omega)
    exact absurd (rootOk_len h) q
  | some d =>
    obtain ⟨h1, l1, l2, h2, h3⟩ := List.find?_eq_some_iff_append.mp e
    have hm : d ∈ List.range' 1 w.length := by rw [h2]; simp
    rw [List.mem_range'_1] at hm
    refine ⟨by simpa using (show 0 < d by omega), by simpa using (show d ≤ w.length by omega), by simpa using h1, fun d' h4 h5 => ?_⟩
    have h5 : d' < d := h5
    have hd : d = 1 + l1.length := by
      have q : (List.range' 1 w.length)[l1.length]? = some d := by rw [h2]; simp
      rw [List.getElem?_range' (by have := congrArg List.length h2; simp at this; omega)] at q
      have := Option.some.inj q
      omega
    have hmem : d' ∈ l1 := by
      have q : (List.range' 1 w.length)[d' - 1]? = l1[d' - 1]? := by
        rw [h2, List.getElem?_append_left (by omega)]
      rw [List.getElem?_range' (by omega)] at q
      exact List.mem_of_getElem? (i := d' - 1) (by rw [← q]; congr 1; omega)
    simpa using h3 d' hmem
def isPrim (w : W) : Bool := decide (0 < w.length) && root w == w
def Prim (w : W) : Prop := w ≠ [] ∧ ∀ k, 0 < k → k < w.length → rot w k ≠ w
theorem rootOk_rot {w : W} {d : Nat} (h0 : 0 < d) (h1 : d < w.length) (h : rootOk w d = true) : rot w d = w := by
  unfold rootOk at h
  simp only [Bool.and_eq_true, beq_iff_eq] at h
  obtain ⟨h2, h3⟩ := h
  have hd : (w.take d).length = d := by rw [List.length_take]; omega
  obtain ⟨m, hm⟩ : ∃ m, w.length / d = m + 1 := ⟨w.length / d - 1, by have := Nat.div_pos (Nat.le_of_lt h1) h0; omega⟩
  rw [hm] at h3
  generalize w.take d = z at h3 hd
  rw [← h3, rep_succ, ← hd, rot_app, ← rep_succ', rep_succ]
theorem rot_rootOk {w : W} {k : Nat} (h0 : 0 < k) (h1 : k < w.length) (h : rot w k = w) : ∃ d, 0 < d ∧ d < w.length ∧ rootOk w d = true := by
  have e : w.take k ++ w.drop k = w := List.take_append_drop k w
  have q : w.take k ++ w.drop k = w.drop k ++ w.take k := e.trans h.symm
  have n1 : w.take k ≠ [] := fun z => by
    have q : (w.take k).length = 0 := by rw [z]; rfl
    rw [List.length_take] at q
    omega
  have n2 : w.drop k ≠ [] := fun z => by
    have q : (w.drop k).length = 0 := by rw [z]; rfl
    rw [List.length_drop] at q
    omega
  obtain ⟨z, i, j, hz, hi, hj, r1, r2⟩ := comm _ _ _ (Nat.le_refl _) q n1 n2
  have ew : w = rep (i + j) z := by rw [rep_add, ← r1, ← r2, e]
  have pz : 0 < z.length := List.length_pos_iff.mpr hz
  have el : w.length = (i + j) * z.length := by rw [ew, rep_len]
  obtain ⟨m, hm⟩ : ∃ m, i + j = m + 1 := ⟨i + j - 1, by omega⟩
  have hm1 : 1 ≤ m := by omega
  have et : w.take z.length = z := by rw [ew, hm, rep_succ, List.take_left]
  refine ⟨z.length, pz, ?_, ?_⟩
  · rw [el, hm, Nat.succ_mul]
    have : 1 * z.length ≤ m * z.length := Nat.mul_le_mul_right _ hm1
    omega
  · unfold rootOk
    rw [et, el, Nat.mul_mod_left, Nat.mul_div_cancel _ pz, ← ew]
    simp
theorem isPrim_iff {w : W} : isPrim w = true ↔ Prim w := by
  unfold isPrim
  constructor
  · intro h
    simp only [Bool.and_eq_true, decide_eq_true_eq, beq_iff_eq] at h
    obtain ⟨h0, h1⟩ := h
    have hw : w ≠ [] := List.length_pos_iff.mp h0
    obtain ⟨s1, s2, s3, s4⟩ := rootD_spec hw
    refine ⟨hw, fun k k0 k1 e => ?_⟩
    obtain ⟨d, d0, d1, d2⟩ := rot_rootOk k0 k1 e
    have e2 : rootD w = w.length := by
      have q := congrArg List.length h1
      unfold root at q
      rw [List.length_take] at q
      omega
    rw [s4 d d0 (by omega)] at d2
    cases d2
  · rintro ⟨hw, h⟩
    have p : 0 < w.length := List.length_pos_iff.mpr hw
    obtain ⟨s1, s2, s3, s4⟩ := rootD_spec hw
    simp only [Bool.and_eq_true, decide_eq_true_eq, beq_iff_eq]
    refine ⟨p, ?_⟩
    have e2 : rootD w = w.length := by
      rcases Nat.lt_or_ge (rootD w) w.length with l | l
      · exact absurd (rootOk_rot s1 l s3) (h _ s1 l)
      · omega
    unfold root
    rw [e2, List.take_length]
theorem prim_rot {w : W} {i : Nat} (hi : i < w.length) : Prim (rot w i) ↔ Prim w := by
  have p : 0 < w.length := by omega
  have ne : ∀ v : W, v.length = w.length → v ≠ [] := fun v e z => by subst z; simp at e; omega
  have one : ∀ (v : W) (j : Nat), v.length = w.length → j < w.length → Prim v → Prim (rot v j) := fun v j hv hj hp => by
    refine ⟨ne _ (by rw [rot_len, hv]), fun k k0 k1 e => ?_⟩
    rw [rot_len] at k1
    rw [rot_comm v j k (by omega) (by omega)] at e
    have q := congrArg (fun x => rot x (v.length - j)) e
    have b1 := rot_back (rot v k) j (by rw [rot_len]; omega)
    rw [rot_len] at b1
    have b2 := rot_back v j (by omega)
    have q : rot (rot (rot v k) j) (v.length - j) = rot (rot v j) (v.length - j) := q
    rw [b1, b2] at q
    exact hp.2 k k0 k1 q
  constructor
  · intro h
    by_cases h0 : i = 0
    · subst h0
      rwa [rot_zero] at h
    · have := one (rot w i) (w.length - i) (rot_len _ _) (by omega) h
      rwa [rot_back w i (by omega)] at this
  · exact one w i rfl hi

/-! ### sorted, each once -/
def insU (x : W) : List W → List W
  | [] => [x]
  | y :: r => if x < y then x :: y :: r else if x = y then y :: r else y :: insU x r
def sortU : List W → List W
  | [] => []
  | x :: r => insU x (sortU r)
def Up (l : List W) : Prop := l.Pairwise (· < ·)
theorem mem_insU {x z : W} : ∀ {l : List W}, z ∈ insU x l ↔ z = x ∨ z ∈ l
  | [] => by simp [insU]
  | y :: r => by
    unfold insU
    split
    · simp
    · split
      · rename_i h
        subst h
        simp
      · rw [List.mem_cons, mem_insU (l := r), List.mem_cons]
        constructor
        · rintro (h | h | h)
          · exact .inr (.inl h)
          · exact .inl h
          · exact .inr (.inr h)
        · rintro (h | h | h)
          · exact .inr (.inl h)
          · exact .inl h
          · exact .inr (.inr h)
theorem up_insU {x : W} : ∀ {l : List W}, Up l → Up (insU x l)
  | [], _ => List.pairwise_singleton _ _
  | y :: r, h => by
    obtain ⟨h1, h2⟩ := List.pairwise_cons.mp h
    unfold insU
    split
    · rename_i q
      refine List.pairwise_cons.mpr ⟨fun z hz => ?_, h⟩
      rcases List.mem_cons.mp hz with rfl | hz
      · exact q
      · exact trans q (h1 z hz)
    · split
      · exact h
      · rename_i q1 q2
        refine List.pairwise_cons.mpr ⟨fun z hz => ?_, up_insU (l := r) h2⟩
        rcases mem_insU.mp hz with rfl | hz
        · rcases tri z y with a | a | a
          · exact absurd a q1
          · exact absurd a q2
          · exact a
        · exact h1 z hz
theorem mem_sortU {z : W} : ∀ {l : List W}, z ∈ sortU l ↔ z ∈ l
  | [] => Iff.rfl
  | x :: r => by
    unfold sortU
    rw [mem_insU, mem_sortU (l := r), List.mem_cons]
theorem up_sortU : ∀ l : List W, Up (sortU l)
  | [] => List.Pairwise.nil
  | x :: r => up_insU (up_sortU r)
theorem up_uniq : ∀ {a b : List W}, Up a → Up b → (∀ z, z ∈ a ↔ z ∈ b) → a = b
  | [], [], _, _, _ => rfl
  | [], y :: b, _, _, h => nomatch (h y).mpr List.mem_cons_self
  | x :: a, [], _, _, h => nomatch (h x).mp List.mem_cons_self
  | x :: a, y :: b, ha, hb, h => by
    obtain ⟨a1, a2⟩ := List.pairwise_cons.mp ha
    obtain ⟨b1, b2⟩ := List.pairwise_cons.mp hb
    have e : x = y := by
      rcases List.mem_cons.mp ((h x).mp List.mem_cons_self) with q | q
      · exact q
      · rcases List.mem_cons.mp ((h y).mpr List.mem_cons_self) with q2 | q2
        · exact q2.symm
        · exact absurd (a1 y q2) (asymm (b1 x q))
    subst e
    rw [up_uniq a2 b2 fun z => ?_]
    constructor
    · intro hz
      rcases List.mem_cons.mp ((h z).mp (List.mem_cons_of_mem _ hz)) with q | q
      · subst q
        exact absurd (a1 z hz) (irr z)
      · exact q
    · intro hz
      rcases List.mem_cons.mp ((h z).mpr (List.mem_cons_of_mem _ hz)) with q | q
      · subst q
        exact absurd (b1 z hz) (irr z)
      · exact q
theorem insU_len {x : W} : ∀ {l : List W}, x ∉ l → (insU x l).length = l.length + 1
  | [], _ => rfl
  | y :: r, h => by
    unfold insU
    split
    · rfl
    · split
      · rename_i q
        exact absurd (by rw [q]; exact List.mem_cons_self) h
      · rw [List.length_cons, insU_len (l := r) fun z => h (List.mem_cons_of_mem _ z), List.length_cons]
theorem sortU_len : ∀ {l : List W}, l.Nodup → (sortU l).length = l.length
  | [], _ => rfl
  | x :: r, h => by
    obtain ⟨h1, h2⟩ := List.nodup_cons.mp h
    unfold sortU
    rw [insU_len fun z => h1 (mem_sortU.mp z), sortU_len h2, List.length_cons]

/-! ### turns, the least one -/
def rots (w : W) : List W := (List.range (max 1 w.length)).map (rot w)
def turns (w : W) : List W := sortU (rots w)
def leastTurn (w : W) : W := (turns w).headD []
theorem mem_rots {w z : W} (h : w ≠ []) : z ∈ rots w ↔ ∃ k, k < w.length ∧ rot w k = z := by
  have p : 0 < w.length := List.length_pos_iff.mpr h
  unfold rots
  rw [List.mem_map]
  simp only [List.mem_range]
  constructor
  · rintro ⟨k, hk, e⟩
    exact ⟨k, by omega, e⟩
  · rintro ⟨k, hk, e⟩
    exact ⟨k, by omega, e⟩
theorem turns_cons (w : W) : ∃ r, turns w = leastTurn w :: r := by
  have hm : rot w 0 ∈ turns w := mem_sortU.mpr (List.mem_map.mpr ⟨0, by rw [List.mem_range]; omega, rfl⟩)
  unfold leastTurn
  cases e : turns w with
  | nil => rw [e] at hm; cases hm
  | cons x r => exact ⟨r, rfl⟩
theorem leastTurn_mem (w : W) : leastTurn w ∈ rots w := by
  obtain ⟨r, e⟩ := turns_cons w
  exact mem_sortU.mp (by rw [← turns, e]; exact List.mem_cons_self)
theorem leastTurn_le {w z : W} (h : z ∈ rots w) : leastTurn w ≤ z := by
  obtain ⟨r, e⟩ := turns_cons w
  have hz : z ∈ turns w := mem_sortU.mpr h
  have up : Up (turns w) := up_sortU _
  rw [e] at hz up
  rcases List.mem_cons.mp hz with rfl | hz
  · exact le_rfl
  · exact le_of_lt ((List.pairwise_cons.mp up).1 z hz)
theorem leastTurn_uniq {w z : W} (h : z ∈ rots w) (hl : ∀ y ∈ rots w, z ≤ y) : leastTurn w = z :=
  le_antisymm (leastTurn_le h) (hl _ (leastTurn_mem w))
def isLeast (w : W) : Bool := isPrim w && leastTurn w == w
theorem L.rot_lt {w : W} (h : L w) {k : Nat} (h0 : 0 < k) (h1 : k < w.length) : w < rot w k := by
  have m := h.2 k h0 h1
  exact lt_of_lt_of_le m (le_app _ _)
theorem L.prim {w : W} (h : L w) : Prim w := ⟨h.1, fun k h0 h1 e => irr w (by have := h.rot_lt h0 h1; rwa [e] at this)⟩
theorem isLeast_iff {w : W} : isLeast w = true ↔ L w := by
  unfold isLeast
  rw [Bool.and_eq_true, isPrim_iff, beq_iff_eq]
  constructor
  · rintro ⟨hp, hl⟩
    refine L.of hp.1 fun u v e hu hv => ?_
    have pu : 0 < u.length := List.length_pos_iff.mpr hu
    have pv : 0 < v.length := List.length_pos_iff.mpr hv
    have hw : w.length = u.length + v.length := by rw [e, List.length_append]
    have le : ∀ k, k < w.length → w ≤ rot w k := fun k hk => by
      have := leastTurn_le (w := w) ((mem_rots hp.1).mpr ⟨k, hk, rfl⟩)
      rwa [hl] at this
    have r1 : rot w u.length = v ++ u := by rw [e, rot_app]
    have h1 : w < v ++ u := by
      have q := le u.length (by omega)
      rw [r1] at q
      rcases le_iff_lt.mp q with q | q
      · exact q
      · exact absurd (r1.trans q.symm) (hp.2 _ pu (by omega))
    rcases tri w v with q | q | q
    · exact q
    · exact absurd (congrArg List.length q) (by omega)
    · exfalso
      rcases lt_iff.mp q with ⟨t, ht, e2⟩ | m
      · -- w = v t
        have hl2 : t.length = u.length := by
          have := congrArg List.length e2
          rw [List.length_append] at this
          omega
        rw [e2] at h1
        have h3 : t < u := (app_lt v).mp h1
        have m := ml_of_len h3 (by omega)
        have r2 : rot w v.length = t ++ v := by rw [e2, rot_app]
        have q2 := le v.length (by omega)
        rw [r2, e] at q2
        exact q2 (m.app v v).lt
      · have := (m.app u []).lt
        rw [List.append_nil] at this
        exact asymm h1 this
  · intro h
    refine ⟨h.prim, leastTurn_uniq ((mem_rots h.1).mpr ⟨0, List.length_pos_iff.mpr h.1, rot_zero w⟩) fun y hy => ?_⟩
    obtain ⟨k, hk, rfl⟩ := (mem_rots h.1).mp hy
    by_cases k0 : k = 0
    · subst k0
      rw [rot_zero]
      exact le_rfl
    · exact le_of_lt (h.rot_lt (by omega) hk)
theorem rots_nodup {w : W} (h : Prim w) : (rots w).Nodup := by
  have p : 0 < w.length := List.length_pos_iff.mpr h.1
  unfold rots
  rw [show max 1 w.length = w.length by omega]
  refine List.pairwise_map.mpr (List.pairwise_lt_range.imp_of_mem fun {i j} hi hj hij e => ?_)
  rw [List.mem_range] at hi hj
  have q := congrArg (fun x => rot x (w.length - j)) e.symm
  have q : rot (rot w j) (w.length - j) = rot (rot w i) (w.length - j) := q
  rw [rot_back w j (by omega)] at q
  have q2 : w = rot w (i + (w.length - j)) := q.trans (rot_rot w i _ (by omega))
  exact h.2 _ (by omega) (by omega) q2.symm
theorem L.turns_len {w : W} (h : L w) : (turns w).length = w.length := by
  have p : 0 < w.length := List.length_pos_iff.mpr h.1
  unfold turns
  rw [sortU_len (rots_nodup h.prim)]
  unfold rots
  rw [List.length_map, List.length_range]
  omega
/-- a word is primitive exactly if its least turn is least -/
theorem prim_leastTurn {w : W} (h : w ≠ []) : isPrim w = isLeast (leastTurn w) := by
  obtain ⟨k, hk, e⟩ := (mem_rots h).mp (leastTurn_mem w)
  have hl : leastTurn (leastTurn w) = leastTurn w := by
    have hne : leastTurn w ≠ [] := fun z => by
      have := congrArg List.length e
      rw [rot_len, z] at this
      exact absurd this (by have := List.length_pos_iff.mpr h; simp; omega)
    refine leastTurn_uniq ((mem_rots hne).mpr ⟨0, List.length_pos_iff.mpr hne, rot_zero _⟩) fun y hy => ?_
    obtain ⟨j, hj, rfl⟩ := (mem_rots hne).mp hy
    rw [← e]
    rw [← e, rot_len] at hj
    obtain ⟨i, hi, ei⟩ := rot_any w (List.length_pos_iff.mpr h) k j hk hj
    rw [ei, e]
    exact leastTurn_le ((mem_rots h).mpr ⟨i, hi, rfl⟩)
  unfold isLeast
  rw [hl, beq_self_eq_true, Bool.and_true, Bool.eq_iff_iff, isPrim_iff, isPrim_iff, ← e]
  exact (prim_rot hk).symm
end Lyn
namespace Lyn
/-! ### the cutting machine -/
theorem drop_cons {w : W} {j : Nat} {c : Nat} (h : w[j]? = some c) : w.drop j = c :: w.drop (j + 1) := by
  obtain ⟨h1, rfl⟩ := List.getElem?_eq_some_iff.mp h
  exact List.drop_eq_getElem_cons h1
/-- a Lyndon word's beginning with a greater letter behind -/
theorem L.grow {u u' t : W} {a c : Nat} (h : L u) (e : u = u' ++ a :: t) (hac : a < c) : L (u' ++ [c]) := by
  refine L.of (by simp) fun x y exy hx hy => ?_
  -- y ends with c
  obtain ⟨v, rfl⟩ : ∃ v, y = v ++ [c] := by
    rcases List.eq_nil_or_concat y with q | ⟨v, c', rfl⟩
    · exact absurd q hy
    · have := congrArg List.getLast? exy
      simp at this
      exact ⟨v, by simp [this]⟩
  have eu : u' = x ++ v := by
    have : u' ++ [c] = (x ++ v) ++ [c] := by rw [exy, List.append_assoc]
    exact List.append_cancel_right this
  subst eu
  -- u < v ++ a :: t
  have h1 : u < v ++ a :: t := h.suf (u := x) (by rw [e]; simp) hx (by simp)
  rw [e] at h1
  rcases lt_iff.mp h1 with ⟨d, hd, e2⟩ | m
  · have := congrArg List.length e2
    simp at this
    have := List.length_pos_iff.mpr hx
    omega
  · -- where they part
    obtain ⟨p, i, j, s, r, e3, e4, hij⟩ := m
    rcases Nat.lt_or_ge p.length v.length with hp | hp
    · -- within v
      have ev : v = p ++ j :: (v.drop (p.length + 1)) := by
        have q := congrArg (List.take v.length) e4
        rw [List.take_left] at q
        have q2 : v = p ++ List.take (v.length - p.length) (j :: r) := by
          rw [List.take_append] at q
          rw [show List.take v.length p = p from List.take_of_length_le (by omega)] at q
          exact q
        obtain ⟨m, hm⟩ : ∃ m, v.length - p.length = m + 1 := ⟨v.length - p.length - 1, by omega⟩
        rw [hm, List.take_succ_cons] at q2
        rw [show v.drop (p.length + 1) = List.take m r by rw [q2, show p.length + 1 = (p ++ [j]).length by simp, show p ++ j :: List.take m r = (p ++ [j]) ++ List.take m r by simp, List.drop_left]]
        exact q2
      have ex : ∃ z, x ++ v = p ++ i :: z := by
        have q := congrArg (List.take (x ++ v).length) e3
        rw [List.take_left] at q
        rw [List.take_append, show List.take (x ++ v).length p = p from List.take_of_length_le (by simp; omega)] at q
        obtain ⟨m, hm⟩ : ∃ m, (x ++ v).length - p.length = m + 1 := ⟨(x ++ v).length - p.length - 1, by simp; omega⟩
        rw [hm, List.take_succ_cons] at q
        exact ⟨_, q⟩
      obtain ⟨z, ez⟩ := ex
      refine Ml.lt ⟨p, i, j, z ++ [c], v.drop (p.length + 1) ++ [c], by rw [ez]; simp, ?_, hij⟩
      conv => lhs; rw [ev]
      simp
    · -- v is a beginning of p
      have ep : p = v ++ p.drop v.length := by
        have q := congrArg (List.take v.length) e4
        rw [List.take_left, List.take_append_of_le_length hp] at q
        conv => lhs; rw [← List.take_append_drop v.length p]
        rw [← q]
      generalize p.drop v.length = p' at ep
      subst ep
      have e4' : a :: t = p' ++ j :: r := by
        have : v ++ (a :: t) = v ++ (p' ++ j :: r) := by rw [e4]; simp
        exact List.append_cancel_left this
      have e3' : x ++ v ++ a :: t = v ++ (p' ++ i :: s) := by rw [e3]; simp
      -- the letter of x ++ v behind v
      have pl : v.length < (x ++ v).length := by have := List.length_pos_iff.mpr hx; simp; omega
      have ex : ∃ b z, x ++ v = v ++ b :: z ∧ b ≤ a := by
        have q := congrArg (List.take (x ++ v).length) e3'
        rw [List.take_left, List.take_append, show List.take (x ++ v).length v = v from List.take_of_length_le (by omega)] at q
        obtain ⟨m, hm⟩ : ∃ m, (x ++ v).length - v.length = m + 1 := ⟨(x ++ v).length - v.length - 1, by omega⟩
        rw [hm] at q
        cases p' with
        | nil =>
          have : a = j := (List.cons.inj e4').1
          subst this
          rw [List.nil_append, List.take_succ_cons] at q
          exact ⟨i, _, q, Nat.le_of_lt hij⟩
        | cons b p' =>
          have : a = b := (List.cons.inj e4').1
          subst this
          rw [List.cons_append, List.take_succ_cons] at q
          exact ⟨a, _, q, Nat.le_refl _⟩
      obtain ⟨b, z, ez, hb⟩ := ex
      refine Ml.lt ⟨v, b, c, z ++ [c], [], by rw [ez]; simp, rfl, Nat.lt_of_le_of_lt hb hac⟩
theorem L.grow_rep {u u' t : W} {a c : Nat} (h : L u) (e : u = u' ++ a :: t) (hac : a < c) : ∀ q, L (rep q u ++ (u' ++ [c])) ∧ u < rep q u ++ (u' ++ [c])
  | 0 => ⟨by rw [rep_zero, List.nil_append]; exact h.grow e hac, by
    rw [rep_zero, List.nil_append]
    exact Ml.lt ⟨u', a, c, t, [], e, rfl, hac⟩⟩
  | q + 1 => by
    obtain ⟨h1, h2⟩ := L.grow_rep h e hac q
    rw [rep_succ, List.append_assoc]
    exact ⟨h.mul h1 h2, lt_app u h1.1⟩
/-- what stands between start and here: k is the place compared with -/
structure Run (w : W) (s k j : Nat) : Prop where
  ex : ∃ u u' t : W, ∃ q : Nat, L u ∧ u = u' ++ t ∧ t ≠ [] ∧ j = s + q * u.length + u'.length ∧ j = k + u.length ∧ 0 < q ∧ j ≤ w.length ∧ w.drop s = rep q u ++ (u' ++ w.drop j)
theorem run_start {w : W} {s : Nat} (h : s < w.length) : Run w s s (s + 1) := by
  have e : w[s]? = some w[s] := List.getElem?_eq_getElem h
  refine ⟨[w[s]], [], [w[s]], 1, ⟨by simp, fun k h1 h2 => by simp at h2; omega⟩, rfl, by simp, by simp, by simp, by decide, h, ?_⟩
  rw [rep_one, drop_cons e]
  simp
theorem getElem?_of_drop {w x : W} {s i : Nat} (e : w.drop s = x) : w[s + i]? = x[i]? := by
  rw [← e, List.getElem?_drop]
/-- the letter at k -/
theorem Run.letter {w : W} {s k j : Nat} {u u' t : W} {q : Nat} {a : Nat} {t' : W} (e : u = u' ++ t) (et : t = a :: t') (e1 : j = s + q * u.length + u'.length) (e2 : j = k + u.length) (hq : 0 < q) (ed : w.drop s = rep q u ++ (u' ++ w.drop j)) : w[k]? = some a := by
  obtain ⟨m, rfl⟩ : ∃ m, q = m + 1 := ⟨q - 1, by omega⟩
  have hk : k = s + (m * u.length + u'.length) := by rw [Nat.succ_mul] at e1; omega
  rw [hk, getElem?_of_drop ed, rep_succ', List.append_assoc, List.getElem?_append_right (by rw [rep_len]; omega), rep_len, Nat.add_sub_cancel_left, e, et]
  simp
theorem Run.bounds {w : W} {s k j : Nat} (h : Run w s k j) : s ≤ k ∧ k < j ∧ j ≤ w.length := by
  obtain ⟨u, u', t, q, hu, e, ht, e1, e2, hq, hj, ed⟩ := h.ex
  obtain ⟨m, rfl⟩ : ∃ m, q = m + 1 := ⟨q - 1, by omega⟩
  have := List.length_pos_iff.mpr hu.1
  rw [Nat.succ_mul] at e1
  omega
theorem Run.same {w : W} {s k j c : Nat} (h : Run w s k j) (h1 : w[k]? = some c) (h2 : w[j]? = some c) : Run w s (k + 1) (j + 1) := by
  obtain ⟨u, u', t, q, hu, e, ht, e1, e2, hq, hj, ed⟩ := h.ex
  obtain ⟨a, t', et⟩ : ∃ a t', t = a :: t' := by
    cases t with
    | nil => exact absurd rfl ht
    | cons a t' => exact ⟨a, t', rfl⟩
  have ha := Run.letter e et e1 e2 hq ed
  rw [h1] at ha
  have : c = a := Option.some.inj ha
  subst this
  have hj1 : j < w.length := (List.getElem?_eq_some_iff.mp h2).1
  rw [drop_cons h2] at ed
  by_cases h3 : t' = []
  · subst h3
    subst et
    refine ⟨u, [], u, q + 1, hu, rfl, hu.1, ?_, by omega, by omega, hj1, ?_⟩
    · rw [Nat.succ_mul, e1, e]
      simp
      omega
    · rw [ed, rep_succ', List.append_assoc, List.nil_append]
      conv => rhs; rw [e]
      rw [e]
      simp
  · refine ⟨u, u' ++ [c], t', q, hu, by rw [e, et]; simp, h3, by rw [e1]; simp; omega, by omega, hq, hj1, ?_⟩
    rw [ed]
    simp
theorem Run.more {w : W} {s k j a c : Nat} (h : Run w s k j) (h1 : w[k]? = some a) (h2 : w[j]? = some c) (hac : a < c) : Run w s s (j + 1) := by
  obtain ⟨u, u', t, q, hu, e, ht, e1, e2, hq, hj, ed⟩ := h.ex
  obtain ⟨a', t', et⟩ : ∃ a t', t = a :: t' := by
    cases t with
    | nil => exact absurd rfl ht
    | cons a t' => exact ⟨a, t', rfl⟩
  have ha := Run.letter e et e1 e2 hq ed
  rw [h1] at ha
  have : a = a' := Option.some.inj ha
  subst this
  have hj1 : j < w.length := (List.getElem?_eq_some_iff.mp h2).1
  rw [drop_cons h2] at ed
  have hL := (L.grow_rep hu (by rw [e, et]) hac q).1
  have hlen : (rep q u ++ (u' ++ [c])).length = q * u.length + u'.length + 1 := by
    simp [rep_len]
    omega
  refine ⟨_, [], _, 1, hL, rfl, hL.1, by rw [hlen]; simp; omega, by rw [hlen]; omega, by decide, hj1, ?_⟩
  rw [ed, rep_one]
  simp
/-- where the run ends: so many times the same word, and what is left is less than it -/
theorem Run.stop {w : W} {s k j : Nat} (h : Run w s k j) (hs : j = w.length ∨ ∃ a c, w[k]? = some a ∧ w[j]? = some c ∧ c < a) :
    ∃ u q, L u ∧ u.length = j - k ∧ 0 < q ∧ s + q * u.length ≤ w.length ∧ w.drop s = rep q u ++ w.drop (s + q * u.length) ∧ w.drop (s + q * u.length) < u ∧ s + (q - 1) * u.length ≤ k ∧ k < s + q * u.length := by
  obtain ⟨u, u', t, q, hu, e, ht, e1, e2, hq, hj, ed⟩ := h.ex
  obtain ⟨a', t', et⟩ : ∃ a t', t = a :: t' := by
    cases t with
    | nil => exact absurd rfl ht
    | cons a t' => exact ⟨a, t', rfl⟩
  have ha := Run.letter e et e1 e2 hq ed
  have hlu : u'.length < u.length := by rw [e, et]; simp
  have hd : w.drop (s + q * u.length) = u' ++ w.drop j := by
    rw [← List.drop_drop, ed, show q * u.length = (rep q u).length from (rep_len u q).symm, List.drop_left]
  refine ⟨u, q, hu, by omega, hq, by omega, by rw [hd]; exact ed, ?_, ?_, ?_⟩
  · rw [hd]
    rcases hs with hs | ⟨a, c, h1, h2, hca⟩
    · rw [List.drop_of_length_le (by omega), List.append_nil, e]
      exact lt_app u' ht
    · rw [h1] at ha
      have : a = a' := Option.some.inj ha
      subst this
      exact Ml.lt ⟨u', c, a, w.drop (j + 1), t', by rw [drop_cons h2], by rw [e, et], hca⟩
  · obtain ⟨m, rfl⟩ : ∃ m, q = m + 1 := ⟨q - 1, by omega⟩
    rw [Nat.succ_mul] at e1
    simp only [Nat.add_sub_cancel]
    omega
  · obtain ⟨m, rfl⟩ : ∃ m, q = m + 1 := ⟨q - 1, by omega⟩
    rw [Nat.succ_mul] at e1 ⊢
    omega
/-- what has been cut off so far -/
structure Cutting (w : W) (r : List W) (s : Nat) : Prop where
  fac : Fac r
  flat : r.flatten = w.take s
  le : s ≤ w.length
  less : ∀ v, r.getLast? = some v → w.drop s < v
theorem Cutting.start (w : W) : Cutting w [] 0 := ⟨trivial, by simp, Nat.zero_le _, fun v h => by simp at h⟩
theorem Fac.snoc {u : W} (hu : L u) : ∀ {r : List W}, Fac r → (∀ v, r.getLast? = some v → u ≤ v) → Fac (r ++ [u])
  | [], _, _ => hu
  | [x], h, hl => ⟨h, hl x rfl, hu⟩
  | x :: y :: r, h, hl => ⟨h.1, h.2.1, Fac.snoc (r := y :: r) hu h.2.2 fun v hv => hl v (by rw [List.getLast?_cons_cons]; exact hv)⟩
/-- so many of the same word put behind -/
theorem Cutting.put {w u : W} {r : List W} {s q : Nat} (h : Cutting w r s) (hu : L u) (hle : s + q * u.length ≤ w.length) (ed : w.drop s = rep q u ++ w.drop (s + q * u.length)) (hl : w.drop (s + q * u.length) < u) (hq : 0 < q) :
    Cutting w (r ++ List.replicate q u) (s + q * u.length) := by
  have hus : u ≤ w.drop s := by
    obtain ⟨m, rfl⟩ : ∃ m, q = m + 1 := ⟨q - 1, by omega⟩
    rw [ed, rep_succ, List.append_assoc]
    exact le_app _ _
  have hlast : ∀ v, r.getLast? = some v → u ≤ v := fun v hv => le_of_lt (lt_of_le_of_lt hus (h.less v hv))
  have hfac : ∀ m, Fac (r ++ List.replicate m u) := by
    intro m
    induction m with
    | zero => rw [List.replicate_zero, List.append_nil]; exact h.fac
    | succ m ih =>
      rw [List.replicate_succ', ← List.append_assoc]
      refine Fac.snoc hu ih fun v hv => ?_
      cases m with
      | zero =>
        rw [List.replicate_zero, List.append_nil] at hv
        exact hlast v hv
      | succ m =>
        rw [List.replicate_succ', ← List.append_assoc, List.getLast?_append] at hv
        simp at hv
        rw [← hv]
        exact le_rfl
  refine ⟨hfac q, ?_, hle, fun v hv => ?_⟩
  · rw [List.flatten_append, h.flat, List.take_add, ed]
    congr 1
    rw [show q * u.length = (rep q u).length from (rep_len u q).symm, List.take_left]
    rfl
  · obtain ⟨m, rfl⟩ : ∃ m, q = m + 1 := ⟨q - 1, by omega⟩
    rw [List.replicate_succ', ← List.append_assoc, List.getLast?_append] at hv
    simp at hv
    rw [← hv]
    exact hl
theorem Cutting.done {w : W} {r : List W} {s : Nat} (h : Cutting w r s) (hs : w.length ≤ s) : Fac r ∧ r.flatten = w :=
  ⟨h.fac, by rw [h.flat, List.take_of_length_le hs]⟩

/-! ### the two halves of a least word -/
/-- the first place whose end is least -/
theorem L.halves {w : W} (h : L w) {k : Nat} (k0 : 0 < k) (k1 : k < w.length) (hb : L (w.drop k)) (hf : ∀ i, 0 < i → i < k → ¬ L (w.drop i)) :
    L (w.take k) ∧ w.take k < w ∧ w < w.drop k ∧ ∀ i, 0 < i → i < w.length → w.drop k ≤ w.drop i := by
  -- the least proper end
  have ex : ∀ n, 0 < n → n ≤ w.length → n < w.length → ∃ m, n ≤ m ∧ m < w.length ∧ ∀ i, n ≤ i → i < w.length → w.drop m ≤ w.drop i := by
    intro n
    have : ∀ d, ∀ n, w.length - n = d → 0 < n → n < w.length → ∃ m, n ≤ m ∧ m < w.length ∧ ∀ i, n ≤ i → i < w.length → w.drop m ≤ w.drop i := by
      intro d
      induction d with
      | zero => intro n h1 h2 h3; omega
      | succ d ih =>
        intro n h1 h2 h3
        by_cases h4 : n + 1 < w.length
        · obtain ⟨m, m1, m2, m3⟩ := ih (n + 1) (by omega) (by omega) h4
          rcases tri (w.drop n) (w.drop m) with q | q | q
          · refine ⟨n, Nat.le_refl _, h3, fun i i1 i2 => ?_⟩
            rcases Nat.lt_or_ge n i with l | l
            · exact le_trans (le_of_lt q) (m3 i l i2)
            · rw [show i = n by omega]
              exact le_rfl
          · refine ⟨m, by omega, m2, fun i i1 i2 => ?_⟩
            rcases Nat.lt_or_ge n i with l | l
            · exact m3 i l i2
            · rw [show i = n by omega, q]
              exact le_rfl
          · refine ⟨m, by omega, m2, fun i i1 i2 => ?_⟩
            rcases Nat.lt_or_ge n i with l | l
            · exact m3 i l i2
            · rw [show i = n by omega]
              exact le_of_lt q
        · refine ⟨n, Nat.le_refl _, h3, fun i i1 i2 => ?_⟩
          rw [show i = n by omega]
          exact le_rfl
    intro a _ b
    exact this _ n rfl a b
  obtain ⟨m, m1, m2, m3⟩ := ex 1 (by decide) (by omega) (by omega)
  have dl : ∀ i, (w.drop i).length = w.length - i := fun i => List.length_drop
  have Lm : L (w.drop m) := by
    refine ⟨fun z => by have := congrArg List.length z; rw [dl] at this; simp at this; omega, fun i i0 i1 => ?_⟩
    rw [dl] at i1
    rw [List.drop_drop]
    rcases le_iff_lt.mp (m3 (m + i) (by omega) (by omega)) with q | q
    · exact q
    · have := congrArg List.length q
      rw [dl, dl] at this
      omega
  have km : k = m := by
    rcases Nat.lt_trichotomy k m with l | l | l
    · exfalso
      have h1 : w.drop m ≤ w.drop k := m3 k (by omega) k1
      have h2 : w.drop k < w.drop m := by
        have := hb.2 (m - k) (by omega) (by rw [dl]; omega)
        rwa [List.drop_drop, show k + (m - k) = m by omega] at this
      exact h1 h2
    · exact l
    · exact absurd Lm (hf m (by omega) l)
  subst km
  have min : ∀ i, 0 < i → i < w.length → w.drop k ≤ w.drop i := fun i i0 i1 => m3 i i0 i1
  have hw : w.take k ++ w.drop k = w := List.take_append_drop k w
  have hne : w.drop k ≠ [] := Lm.1
  refine ⟨?_, ?_, h.2 k k0 k1, min⟩
  · -- the first half is least
    have min2 : ∀ x y : W, w = x ++ y → x ≠ [] → y ≠ [] → w.drop k ≤ y := fun x y e hx hy => by
      have l1 := List.length_pos_iff.mpr hx
      have l2 := List.length_pos_iff.mpr hy
      have := min x.length l1 (by rw [e, List.length_append]; omega)
      rwa [show w.drop x.length = y by rw [e, List.drop_left]] at this
    have hu : w.take k ≠ [] := fun z => by
      have q : (w.take k).length = 0 := by rw [z]; rfl
      rw [List.length_take] at q
      omega
    generalize w.take k = u at hw hu
    generalize w.drop k = v at hw hne min2
    refine L.of hu fun y u' e hy hu' => ?_
    -- w < u' v
    have h1 : w < u' ++ v := h.suf (u := y) (by rw [← hw, e]; simp) hy (by simp [hu'])
    rw [← hw] at h1
    rcases tri u u' with q | q | q
    · exact q
    · exfalso
      rw [e] at q
      have := congrArg List.length q
      rw [List.length_append] at this
      have := List.length_pos_iff.mpr hy
      omega
    · exfalso
      rcases lt_iff.mp q with ⟨x, hx, e2⟩ | m
      · rw [e2, List.append_assoc] at h1
        have h2 : x ++ v < v := (app_lt u').mp h1
        have := min2 u' (x ++ v) (by rw [← hw, e2]; simp) hu' (by simp [hne])
        exact this h2
      · exact asymm h1 (m.app v v).lt
  · conv => rhs; rw [← hw]
    exact lt_app _ hne
end Lyn
namespace Lyn
/-! ### the cut, by putting letters ahead -/
def ins (u : W) : List W → List W
  | [] => [u]
  | v :: r => if u < v then ins (u ++ v) r else u :: v :: r
def cutF : W → List W
  | [] => []
  | c :: w => ins [c] (cutF w)
theorem ins_fac : ∀ {r : List W} {u : W}, L u → Fac r → Fac (ins u r)
  | [], u, hu, _ => hu
  | v :: r, u, hu, hr => by
    unfold ins
    split
    · rename_i h
      exact ins_fac (hu.mul hr.head h) hr.tail
    · rename_i h
      exact ⟨hu, not_lt.mp h, hr⟩
theorem ins_flat : ∀ (r : List W) (u : W), (ins u r).flatten = u ++ r.flatten
  | [], u => by simp [ins]
  | v :: r, u => by
    unfold ins
    split
    · rw [ins_flat r]
      simp
    · simp
theorem L.one (c : Nat) : L [c] := ⟨by simp, fun k h1 h2 => by simp at h2; omega⟩
theorem cutF_fac : ∀ w : W, Fac (cutF w)
  | [] => trivial
  | c :: w => ins_fac (L.one c) (cutF_fac w)
theorem cutF_flat : ∀ w : W, (cutF w).flatten = w
  | [] => rfl
  | c :: w => by
    show (ins [c] (cutF w)).flatten = c :: w
    rw [ins_flat, cutF_flat w]
    rfl
theorem cutF_eq {w : W} {r : List W} (h : Fac r) (e : r.flatten = w) : cutF w = r := Fac.uniq (cutF_fac w) h ((cutF_flat w).trans e.symm)
theorem cutF_ne {w : W} (h : w ≠ []) : cutF w ≠ [] := fun e => by
  have := cutF_flat w
  rw [e] at this
  exact h this.symm
/-! ### what the law asks of the cut -/
theorem isLeast_eq (w : W) : isLeast w = decide (cutF w = [w]) := by
  by_cases h : L w
  · rw [isLeast_iff.mpr h, decide_eq_true (cutF_eq (fac_one h) (by simp))]
  · have h1 : isLeast w = false := by
      cases e : isLeast w with
      | false => rfl
      | true => exact absurd (isLeast_iff.mp e) h
    have h2 : ¬ cutF w = [w] := fun e => h (by have := cutF_fac w; rw [e] at this; exact this)
    rw [h1, decide_eq_false h2]
theorem len_one {w : W} (h : w ≠ []) : isLeast w = decide ((cutF w).length = 1) := by
  rw [isLeast_eq]
  congr 1
  refine propext ⟨fun e => by rw [e]; rfl, fun e => ?_⟩
  obtain ⟨u, hu⟩ := List.length_eq_one_iff.mp e
  have := cutF_flat w
  rw [hu] at this ⊢
  simp at this
  rw [this]
/-- no proper end is at most the word -/
theorem ends_iff {w : W} (h : w ≠ []) : isLeast w = decide (((List.range' 1 (w.length - 1)).filter fun k => !decide (w < w.drop k)).length = 0) := by
  rw [Bool.eq_iff_iff, isLeast_iff, decide_eq_true_eq, List.length_eq_zero_iff, List.filter_eq_nil_iff]
  constructor
  · intro hL k hk
    rw [List.mem_range'_1] at hk
    simp [hL.2 k (by omega) (by omega)]
  · intro hk
    refine ⟨h, fun k h1 h2 => ?_⟩
    have := hk k (by rw [List.mem_range'_1]; omega)
    simpa using this
theorem last_mem {w : W} {r : List W} {l : W} (e : r.flatten = w) (hl : r.getLast? = some l) (hne : l ≠ []) : ∃ k, k < w.length ∧ w.drop k = l := by
  obtain ⟨r', rfl⟩ : ∃ r', r = r' ++ [l] := by
    rcases List.eq_nil_or_concat r with q | ⟨r', x, rfl⟩
    · subst q
      simp at hl
    · simp at hl
      exact ⟨r', by simp [hl]⟩
  have p := List.length_pos_iff.mpr hne
  refine ⟨r'.flatten.length, ?_, ?_⟩
  · rw [← e]
    simp
    omega
  · rw [← e, List.flatten_append, List.flatten_singleton, List.drop_left]
/-- the last part is the least end -/
theorem last_le {w : W} {l : W} (hl : (cutF w).getLast? = some l) {k : Nat} (hk : k < w.length) : l ≤ w.drop k := by
  obtain ⟨r', e⟩ : ∃ r', cutF w = r' ++ [l] := by
    rcases List.eq_nil_or_concat (cutF w) with q | ⟨r', x, q⟩
    · rw [q] at hl
      simp at hl
    · rw [q] at hl
      simp at hl
      exact ⟨r', by rw [q, hl]; simp⟩
  have hf := cutF_fac w
  rw [e] at hf
  refine Fac.last hf (w.take k) (w.drop k) ?_ fun z => ?_
  · rw [← e, cutF_flat, List.take_append_drop]
  · have q : (w.drop k).length = 0 := by rw [z]; rfl
    rw [List.length_drop] at q
    omega
theorem first_len {w p : W} {u : W} {r : List W} (h : cutF w = u :: r) {k : Nat} (hk : L (w.take k)) (hk2 : k ≤ w.length) : k ≤ u.length := by
  have hf := cutF_fac w
  rw [h] at hf
  have := hf.first (p := w.take k) (s := w.drop k) (by rw [← h, cutF_flat, List.take_append_drop]) hk
  rw [List.length_take] at this
  omega
theorem first_take {w : W} {u : W} {r : List W} (h : cutF w = u :: r) : w.take u.length = u ∧ u.length ≤ w.length ∧ 0 < u.length ∧ L u := by
  have hf := cutF_fac w
  have e := cutF_flat w
  rw [h] at hf e
  rw [List.flatten_cons] at e
  refine ⟨by rw [← e, List.take_left], by rw [← e, List.length_append]; omega, List.length_pos_iff.mpr hf.head.1, hf.head⟩
/-- a least word's borders -/
def bordersF (w : W) : List Nat := (List.range w.length).filter fun k => decide (w.take k = w.drop (w.length - k))
theorem L.borders {w : W} (h : L w) : bordersF w = [0] := by
  have p := List.length_pos_iff.mpr h.1
  unfold bordersF
  obtain ⟨n, hn⟩ : ∃ n, w.length = n + 1 := ⟨w.length - 1, by omega⟩
  rw [hn, List.range_succ_eq_map, List.filter_cons, if_pos (by rw [← hn]; simp)]
  congr 1
  rw [List.filter_eq_nil_iff]
  intro k hk
  obtain ⟨j, hj, rfl⟩ := List.mem_map.mp hk
  rw [List.mem_range] at hj
  rw [← hn]
  simp only [decide_eq_true_eq]
  intro e
  have h1 := h.2 (w.length - (j + 1)) (by omega) (by omega)
  rw [show Nat.succ j = j + 1 from rfl] at e
  rw [← e] at h1
  exact (le_app (w.take (j + 1)) (w.drop (j + 1))) (by rw [List.take_append_drop]; exact h1)
theorem cutF_left {w : W} {a b : List W} (h : cutF w = a ++ b) : cutF a.flatten = a := cutF_eq (by have := cutF_fac w; rw [h] at this; exact this.append_left) rfl
theorem cutF_right {w : W} {a b : List W} (h : cutF w = a ++ b) : cutF b.flatten = b := cutF_eq (by have := cutF_fac w; rw [h] at this; exact this.append_right) rfl
theorem cutF_two {u v : W} (hu : L u) (hv : L v) (h : v ≤ u) : cutF (u ++ v) = [u, v] := cutF_eq (fac_two hu hv h) (by simp)
/-- the place of the second half -/
def halvesK (w : W) : Nat := ((List.range' 1 (w.length - 1)).find? fun k => isLeast (w.drop k)).getD 0
theorem find_first (n : Nat) (f : Nat → Bool) (h : ∃ k, 1 ≤ k ∧ k ≤ n ∧ f k = true) : ∃ k, (List.range' 1 n).find? f = some k ∧ 1 ≤ k ∧ k ≤ n ∧ f k = true ∧ ∀ j, 1 ≤ j → j < k → f j = false := by
  cases e : (List.range' 1 n).find? f with
  | none =>
    obtain ⟨k, k1, k2, k3⟩ := h
    exact absurd k3 (List.find?_eq_none.mp e k (by rw [List.mem_range'_1]; omega))
  | some d =>
    obtain ⟨h1, l1, l2, h2, h3⟩ := List.find?_eq_some_iff_append.mp e
    have hm : d ∈ List.range' 1 n := by rw [h2]; simp
    rw [List.mem_range'_1] at hm
    refine ⟨d, rfl, hm.1, by omega, h1, fun j j1 j2 => ?_⟩
    have hl : l1.length < n := by have := congrArg List.length h2; simp at this; omega
    have hd : d = 1 + l1.length := by
      have q : (List.range' 1 n)[l1.length]? = some d := by rw [h2]; simp
      rw [List.getElem?_range' hl] at q
      have := Option.some.inj q
      omega
    have hmem : j ∈ l1 := by
      have q : (List.range' 1 n)[j - 1]? = l1[j - 1]? := by rw [h2, List.getElem?_append_left (by omega)]
      rw [List.getElem?_range' (by omega)] at q
      exact List.mem_of_getElem? (i := j - 1) (by rw [← q]; congr 1; omega)
    simpa using h3 j hmem
theorem L.halvesK {w : W} (h : L w) (h2 : 1 < w.length) : 0 < halvesK w ∧ halvesK w < w.length ∧ isLeast (w.drop (halvesK w)) = true ∧ ∀ j, 1 ≤ j → j < halvesK w → isLeast (w.drop j) = false := by
  have ex : ∃ k, 1 ≤ k ∧ k ≤ w.length - 1 ∧ isLeast (w.drop k) = true := by
    refine ⟨w.length - 1, by omega, Nat.le_refl _, isLeast_iff.mpr ?_⟩
    have hl : (w.drop (w.length - 1)).length = 1 := by rw [List.length_drop]; omega
    obtain ⟨c, hc⟩ := List.length_eq_one_iff.mp hl
    rw [hc]
    exact L.one c
  obtain ⟨k, e, k1, k2, k3, k4⟩ := find_first (w.length - 1) (fun k => isLeast (w.drop k)) ex
  unfold Lyn.halvesK
  rw [e]
  exact ⟨k1, by show k < w.length; omega, k3, k4⟩
theorem L.parts {w : W} (h : L w) (h2 : 1 < w.length) : isLeast (w.take (Lyn.halvesK w)) = true ∧ isLeast (w.drop (Lyn.halvesK w)) = true ∧ w.take (Lyn.halvesK w) < w ∧ w < w.drop (Lyn.halvesK w) ∧ ∀ i, 0 < i → i < w.length → w.drop (Lyn.halvesK w) ≤ w.drop i := by
  obtain ⟨k1, k2, k3, k4⟩ := h.halvesK h2
  obtain ⟨a, b, c, d⟩ := L.halves h k1 k2 (isLeast_iff.mp k3) fun i i1 i2 hL => by
    have := k4 i i1 i2
    rw [isLeast_iff.mpr hL] at this
    cases this
  exact ⟨isLeast_iff.mpr a, k3, b, c, d⟩
end Lyn
namespace Lyn
theorem rep_piece {u v : W} {s q : Nat} (h : u.drop s = rep q v ++ u.drop (s + q * v.length)) {i : Nat} (hi : i < q) : (u.drop (s + i * v.length)).take v.length = v := by
  obtain ⟨m, rfl⟩ : ∃ m, q = i + (m + 1) := ⟨q - i - 1, by omega⟩
  rw [← List.drop_drop, h, rep_add, List.append_assoc, show i * v.length = (rep i v).length from (rep_len v i).symm, List.drop_left, rep_succ, List.append_assoc, List.take_left]
theorem mul_lt {i q l : Nat} (hi : i < q) (hl : 0 < l) : i * l ≤ (q - 1) * l ∧ i * l < q * l := ⟨Nat.mul_le_mul_right _ (by omega), Nat.mul_lt_mul_of_pos_right hi hl⟩
theorem snoc_rep {α : Type} (r : List α) (v : α) (i : Nat) : r ++ List.replicate i v ++ [v] = r ++ List.replicate (i + 1) v := by
  rw [List.replicate_succ', List.append_assoc]
end Lyn
namespace Pal
abbrev W := List Nat
def isM (w : W) : Bool := decide (w = w.reverse)
def sub (u : W) (j k : Nat) : W := (u.drop j).take (k - j)
theorem isM_iff {w : W} : isM w = true ↔ w.reverse = w := by
  unfold isM
  rw [decide_eq_true_eq]
  exact eq_comm
theorem sub_len {u : W} {j k : Nat} (hk : k ≤ u.length) : (sub u j k).length = k - j := by
  unfold sub
  rw [List.length_take, List.length_drop]
  omega
theorem sub_get {u : W} {j k i : Nat} (hi : i < k - j) : (sub u j k)[i]? = u[j + i]? := by
  unfold sub
  rw [List.getElem?_take_of_lt hi, List.getElem?_drop]
theorem isM_get {w : W} : isM w = true ↔ ∀ i, i < w.length → w[i]? = w[w.length - 1 - i]? := by
  rw [isM_iff]
  constructor
  · intro h i hi
    have := List.getElem?_reverse (l := w) (i := w.length - 1 - i) (by omega)
    rw [h] at this
    rw [this]
    congr 1
    omega
  · intro h
    apply List.ext_getElem?
    intro i
    by_cases hi : i < w.length
    · rw [List.getElem?_reverse hi, ← h i hi]
    · rw [List.getElem?_eq_none (by rw [List.length_reverse]; omega), List.getElem?_eq_none (by omega)]
/-! ### middles -/
def okC (u : W) (c s : Nat) : Bool := decide (s ≤ c / 2) && (decide ((c + 1) / 2 + s < u.length) && decide (u[c / 2 - s]? = u[(c + 1) / 2 + s]?))
theorem okC_iff {u : W} {c s : Nat} : okC u c s = true ↔ s ≤ c / 2 ∧ (c + 1) / 2 + s < u.length ∧ u[c / 2 - s]? = u[(c + 1) / 2 + s]? := by
  unfold okC
  simp only [Bool.and_eq_true, decide_eq_true_eq]
def rad (u : W) (c : Nat) : Nat := ((List.range (u.length + 1)).find? fun s => !okC u c s).getD 0
theorem find_range {f : Nat → Bool} : ∀ {n : Nat}, (∃ k, k < n ∧ f k = true) → ∃ k, (List.range n).find? f = some k ∧ k < n ∧ f k = true ∧ ∀ j, j < k → f j = false
  | 0, h => by
    obtain ⟨k, h, _⟩ := h
    omega
  | n + 1, h => by
    rw [List.range_succ, List.find?_append]
    by_cases h2 : ∃ k, k < n ∧ f k = true
    · obtain ⟨k, e, h3, h4, h5⟩ := find_range h2
      exact ⟨k, by rw [e]; rfl, by omega, h4, h5⟩
    · obtain ⟨k, hk, hf⟩ := h
      have e : k = n := by
        rcases Nat.lt_or_ge k n with l | l
        · exact absurd ⟨k, l, hf⟩ h2
        · omega
      subst e
      have hn : (List.range k).find? f = none := List.find?_eq_none.mpr fun x hx hfx => h2 ⟨x, List.mem_range.mp hx, hfx⟩
      refine ⟨k, ?_, Nat.lt_succ_self _, hf, fun j hj => ?_⟩
      · rw [hn]
        simp [hf]
      · cases hfj : f j with
        | false => rfl
        | true => exact absurd ⟨j, hj, hfj⟩ h2
theorem rad_spec (u : W) (c : Nat) : (∀ s, s < rad u c → okC u c s = true) ∧ okC u c (rad u c) = false ∧ rad u c ≤ u.length := by
  obtain ⟨k, e, h1, h2, h3⟩ := find_range (n := u.length + 1) (f := fun s => !okC u c s) ⟨u.length, by omega, by
    cases h : okC u c u.length with
    | false => rfl
    | true =>
      have := (okC_iff.mp h).2.1
      omega⟩
  unfold rad
  rw [e]
  refine ⟨fun s hs => ?_, ?_, by show k ≤ u.length; omega⟩
  · have := h3 s hs
    simpa using this
  · simpa using h2
theorem rad_eq {u : W} {c r : Nat} (h1 : ∀ s, s < r → okC u c s = true) (h2 : okC u c r = false) : rad u c = r := by
  obtain ⟨a, b, _⟩ := rad_spec u c
  rcases Nat.lt_trichotomy (rad u c) r with h | h | h
  · rw [h1 _ h] at b
    cases b
  · exact h
  · rw [a _ h] at h2
    cases h2
theorem pal_iff {u : W} {j k : Nat} (hj : j < k) (hk : k ≤ u.length) : isM (sub u j k) = true ↔ (j + k - 1) / 2 - j < rad u (j + k - 1) := by
  obtain ⟨a, b, _⟩ := rad_spec u (j + k - 1)
  have hl := sub_len (u := u) (j := j) hk
  have hlow : (j + k - 1) / 2 + (j + k - 1 + 1) / 2 = j + k - 1 := by omega
  generalize hc : j + k - 1 = c at *
  rw [isM_get, hl]
  constructor
  · intro h
    rcases Nat.lt_or_ge (c / 2 - j) (rad u c) with l | l
    · exact l
    · exfalso
      have : okC u c (rad u c) = true := by
        refine okC_iff.mpr ⟨by omega, by omega, ?_⟩
        have := h (c / 2 - rad u c - j) (by omega)
        rw [sub_get (by omega), sub_get (by omega)] at this
        rw [show j + (c / 2 - rad u c - j) = c / 2 - rad u c by omega, show j + (k - j - 1 - (c / 2 - rad u c - j)) = (c + 1) / 2 + rad u c by omega] at this
        exact this
      rw [this] at b
      cases b
  · intro h i hi
    have key : ∀ i, i ≤ c / 2 - j → u[j + i]? = u[k - 1 - i]? := fun i hi => by
      obtain ⟨_, _, e⟩ := okC_iff.mp (a (c / 2 - j - i) (by omega))
      rw [show c / 2 - (c / 2 - j - i) = j + i by omega, show (c + 1) / 2 + (c / 2 - j - i) = k - 1 - i by omega] at e
      exact e
    rw [sub_get hi, sub_get (by omega)]
    rcases Nat.lt_or_ge (c / 2 - j) i with l | l
    · have := key (k - j - 1 - i) (by omega)
      rw [show j + (k - j - 1 - i) = k - 1 - i by omega, show k - 1 - (k - j - 1 - i) = j + i by omega] at this
      rw [← this]
      congr 1
      omega
    · rw [key i l]
      congr 1
      omega
/-! ### palindromes by their ends -/
def pairs (u : W) : List (Nat × Nat) := (List.range u.length).flatMap fun j => ((List.range' (j + 1) (u.length - j)).filter fun k => isM (sub u j k)).map fun k => (j, k)
theorem mem_pairs {u : W} {j k : Nat} : (j, k) ∈ pairs u ↔ j < k ∧ k ≤ u.length ∧ isM (sub u j k) = true := by
  unfold pairs
  rw [List.mem_flatMap]
  constructor
  · rintro ⟨j', hj', h⟩
    obtain ⟨k', hk', e⟩ := List.mem_map.mp h
    obtain ⟨h1, h2⟩ := List.mem_filter.mp hk'
    rw [List.mem_range'_1] at h1
    rw [List.mem_range] at hj'
    cases e
    exact ⟨by omega, by omega, h2⟩
  · rintro ⟨h1, h2, h3⟩
    exact ⟨j, List.mem_range.mpr (by omega), List.mem_map.mpr ⟨k, List.mem_filter.mpr ⟨by rw [List.mem_range'_1]; omega, h3⟩, rfl⟩⟩
theorem nodup_map {α β : Type} {f : α → β} (hf : ∀ a b, f a = f b → a = b) {l : List α} (h : l.Nodup) : (l.map f).Nodup := by
  refine List.pairwise_map.mpr (h.imp fun {a b} hab e => hab (hf _ _ e))
theorem nodup_flat {α β : Type} {l : List α} {f : α → List β} (h1 : ∀ a ∈ l, (f a).Nodup) (h2 : l.Pairwise fun a b => ∀ x ∈ f a, ∀ y ∈ f b, x ≠ y) : (l.flatMap f).Nodup :=
  List.pairwise_flatMap.mpr ⟨h1, h2⟩
theorem nodup_range (n : Nat) : (List.range n).Nodup := List.nodup_range
theorem pairs_nodup (u : W) : (pairs u).Nodup := by
  refine nodup_flat (fun j _ => nodup_map (fun a b e => (Prod.mk.inj e).2) (List.Pairwise.filter _ (List.nodup_range' ..))) ?_
  refine (nodup_range u.length).imp fun {a b} hab x hx y hy e => ?_
  obtain ⟨k1, _, rfl⟩ := List.mem_map.mp hx
  obtain ⟨k2, _, rfl⟩ := List.mem_map.mp hy
  exact hab (Prod.mk.inj e).1
def cpairs (u : W) : List (Nat × Nat) := (List.range (2 * u.length - 1)).flatMap fun c => (List.range (rad u c)).map fun s => (c / 2 - s, (c + 1) / 2 + s + 1)
theorem mem_cpairs {u : W} {j k : Nat} : (j, k) ∈ cpairs u ↔ j < k ∧ k ≤ u.length ∧ isM (sub u j k) = true := by
  unfold cpairs
  rw [List.mem_flatMap]
  constructor
  · rintro ⟨c, hc, h⟩
    obtain ⟨s, hs, e⟩ := List.mem_map.mp h
    rw [List.mem_range] at hs hc
    have h0 := okC_iff.mp ((rad_spec u c).1 s hs)
    obtain ⟨rfl, rfl⟩ := Prod.mk.inj e
    refine ⟨by omega, by omega, (pal_iff (by omega) (by omega)).mpr ?_⟩
    rw [show c / 2 - s + ((c + 1) / 2 + s + 1) - 1 = c by omega]
    omega
  · rintro ⟨h1, h2, h3⟩
    have := (pal_iff h1 h2).mp h3
    refine ⟨j + k - 1, List.mem_range.mpr (by omega), List.mem_map.mpr ⟨(j + k - 1) / 2 - j, List.mem_range.mpr this, ?_⟩⟩
    rw [Prod.mk.injEq]
    constructor <;> omega
theorem cpairs_nodup (u : W) : (cpairs u).Nodup := by
  refine nodup_flat (fun c _ => ?_) ?_
  · refine List.pairwise_map.mpr ((nodup_range _).imp fun {a b} hab e => hab ?_)
    have := (Prod.mk.inj e).2
    omega
  · refine List.Pairwise.imp_of_mem ?_ (nodup_range (2 * u.length - 1))
    intro a b _ _ hab x hx y hy e
    obtain ⟨s1, h1, rfl⟩ := List.mem_map.mp hx
    obtain ⟨s2, h2, rfl⟩ := List.mem_map.mp hy
    have g1 := okC_iff.mp ((rad_spec u a).1 s1 (List.mem_range.mp h1))
    have g2 := okC_iff.mp ((rad_spec u b).1 s2 (List.mem_range.mp h2))
    obtain ⟨e1, e2⟩ := Prod.mk.inj e
    exact hab (by omega)
theorem len_flat {α β : Type} (l : List α) (f : α → List β) : (l.flatMap f).length = (l.map fun a => (f a).length).sum := by
  induction l with
  | nil => rfl
  | cons x r ih => rw [List.flatMap_cons, List.length_append, ih, List.map_cons, List.sum_cons]
theorem same_len {α : Type} {a b : List α} (ha : a.Nodup) (hb : b.Nodup) (h : ∀ x, x ∈ a ↔ x ∈ b) : a.length = b.length :=
  ((List.perm_ext_iff_of_nodup ha hb).mpr h).length_eq
theorem sum_rad (u : W) : ((List.range (2 * u.length - 1)).map (rad u)).sum = (pairs u).length := by
  have h : (cpairs u).length = (pairs u).length := same_len (cpairs_nodup u) (pairs_nodup u) fun ⟨j, k⟩ => by rw [mem_cpairs, mem_pairs]
  rw [← h]
  unfold cpairs
  rw [len_flat]
  simp
end Pal
namespace Pal
/-! ### places -/
def occ (x u : W) : List Nat := (List.range (u.length + 1 - x.length)).filter fun j => decide (sub u j (j + x.length) = x)
def mirrorsF (u : W) : List W := Lyn.sortU ((pairs u).map fun p => sub u p.1 p.2)
theorem mem_mirrors {u x : W} : x ∈ mirrorsF u ↔ ∃ j k, j < k ∧ k ≤ u.length ∧ isM (sub u j k) = true ∧ sub u j k = x := by
  unfold mirrorsF
  rw [Lyn.mem_sortU, List.mem_map]
  constructor
  · rintro ⟨⟨j, k⟩, h, rfl⟩
    obtain ⟨h1, h2, h3⟩ := mem_pairs.mp h
    exact ⟨j, k, h1, h2, h3, rfl⟩
  · rintro ⟨j, k, h1, h2, h3, rfl⟩
    exact ⟨(j, k), mem_pairs.mpr ⟨h1, h2, h3⟩, rfl⟩
theorem up_mirrors (u : W) : Lyn.Up (mirrorsF u) := Lyn.up_sortU _
theorem up_nodup {l : List W} (h : Lyn.Up l) : l.Nodup := List.Pairwise.imp (S := fun a b => a ≠ b) (fun {a b} hab e => Lyn.irr b (by rw [e] at hab; exact hab)) h
theorem sub_le {α : Type} [DecidableEq α] : ∀ {a b : List α}, a.Nodup → a ⊆ b → a.length ≤ b.length
  | [], _, _, _ => Nat.zero_le _
  | x :: a, b, hn, hs => by
    obtain ⟨h1, h2⟩ := List.nodup_cons.mp hn
    have hx : x ∈ b := hs List.mem_cons_self
    have hp := (List.perm_cons_erase hx).length_eq
    have : a ⊆ b.erase x := fun y hy => (List.mem_erase_of_ne (fun e => h1 (by rw [← e]; exact hy))).mpr (hs (List.mem_cons_of_mem _ hy))
    have := sub_le h2 this
    rw [List.length_cons] at hp ⊢
    omega
theorem mem_occ {x u : W} {j : Nat} : j ∈ occ x u ↔ j + x.length ≤ u.length ∧ sub u j (j + x.length) = x := by
  unfold occ
  rw [List.mem_filter, List.mem_range, decide_eq_true_eq]
  constructor
  · rintro ⟨h1, h2⟩
    exact ⟨by omega, h2⟩
  · rintro ⟨h1, h2⟩
    exact ⟨by omega, h2⟩
theorem mirror_ne {u x : W} (h : x ∈ mirrorsF u) : x ≠ [] ∧ isM x = true ∧ x.length ≤ u.length := by
  obtain ⟨j, k, h1, h2, h3, rfl⟩ := mem_mirrors.mp h
  have hl := sub_len (u := u) (j := j) h2
  refine ⟨fun z => ?_, h3, by omega⟩
  rw [z] at hl
  simp at hl
  omega
theorem sum_occ (u : W) : ((mirrorsF u).map fun x => (occ x u).length).sum = (pairs u).length := by
  have e : ((mirrorsF u).flatMap fun x => (occ x u).map fun j => (j, j + x.length)).length = (pairs u).length := by
    refine same_len (nodup_flat (fun x hx => nodup_map (fun a b e => (Prod.mk.inj e).1) (List.Pairwise.filter _ List.nodup_range)) ?_) (pairs_nodup u) fun ⟨j, k⟩ => ?_
    · refine (up_nodup (up_mirrors u)).imp fun {x y} hxy a ha b hb e => hxy ?_
      obtain ⟨j1, h1, rfl⟩ := List.mem_map.mp ha
      obtain ⟨j2, h2, rfl⟩ := List.mem_map.mp hb
      obtain ⟨e1, e2⟩ := Prod.mk.inj e
      rw [← (mem_occ.mp h1).2, ← (mem_occ.mp h2).2, e2, e1]
    · rw [List.mem_flatMap, mem_pairs]
      constructor
      · rintro ⟨x, hx, h⟩
        obtain ⟨j', hj, e⟩ := List.mem_map.mp h
        obtain ⟨rfl, rfl⟩ := Prod.mk.inj e
        obtain ⟨h1, h2⟩ := mem_occ.mp hj
        obtain ⟨n1, n2, n3⟩ := mirror_ne hx
        have := List.length_pos_iff.mpr n1
        exact ⟨by omega, h1, by rw [h2]; exact n2⟩
      · rintro ⟨h1, h2, h3⟩
        have hl := sub_len (u := u) (j := j) h2
        refine ⟨sub u j k, mem_mirrors.mpr ⟨j, k, h1, h2, h3, rfl⟩, List.mem_map.mpr ⟨j, mem_occ.mpr ?_, ?_⟩⟩
        · rw [hl, show j + (k - j) = k by omega]
          exact ⟨h2, rfl⟩
        · rw [hl, show j + (k - j) = k by omega]
  rw [← e, len_flat]
  simp
/-! ### at most as many as letters -/
theorem sub_rev {u : W} {j k : Nat} (hj : j ≤ k) (hk : k ≤ u.length) : sub u.reverse (u.length - k) (u.length - j) = (sub u j k).reverse := by
  apply List.ext_getElem?
  intro i
  have hl := sub_len (u := u) (j := j) hk
  have hl2 := sub_len (u := u.reverse) (j := u.length - k) (k := u.length - j) (by rw [List.length_reverse]; omega)
  by_cases hi : i < k - j
  · rw [sub_get (by omega), List.getElem?_reverse (by omega), List.getElem?_reverse (by omega), sub_get (by omega)]
    congr 1
    omega
  · rw [List.getElem?_eq_none (by omega), List.getElem?_eq_none (by rw [List.length_reverse]; omega)]
theorem sub_sub {u : W} {j k a b : Nat} (hb : b ≤ k - j) : sub (sub u j k) a b = sub u (j + a) (j + b) := by
  unfold sub
  rw [List.drop_take, List.drop_drop, List.take_take]
  congr 1
  omega
/-- where x first ends -/
def firstEnd (u x : W) : Nat := ((List.range' 1 u.length).find? fun k => decide (x.length ≤ k ∧ sub u (k - x.length) k = x)).getD 0
theorem firstEnd_spec {u x : W} (hx : x ∈ mirrorsF u) : 1 ≤ firstEnd u x ∧ firstEnd u x ≤ u.length ∧ x.length ≤ firstEnd u x ∧ sub u (firstEnd u x - x.length) (firstEnd u x) = x ∧ ∀ k, x.length ≤ k → k ≤ u.length → sub u (k - x.length) k = x → firstEnd u x ≤ k := by
  obtain ⟨j, k, h1, h2, h3, rfl⟩ := mem_mirrors.mp hx
  have hl := sub_len (u := u) (j := j) h2
  generalize hxx : sub u j k = x at *
  obtain ⟨k0, e, f1, f2, f3⟩ := find_range (n := u.length) (f := fun i => decide (x.length ≤ 1 + i ∧ sub u (1 + i - x.length) (1 + i) = x)) ⟨k - 1, by omega, decide_eq_true ⟨by omega, by
    rw [hl, show 1 + (k - 1) - (k - j) = j by omega, show 1 + (k - 1) = k by omega]
    exact hxx⟩⟩
  have ef : firstEnd u x = 1 + k0 := by
    unfold firstEnd
    rw [List.range'_eq_map_range, List.find?_map]
    show (Option.map _ ((List.range u.length).find? fun i => decide (x.length ≤ 1 + i ∧ sub u (1 + i - x.length) (1 + i) = x))).getD 0 = 1 + k0
    rw [e]
    rfl
  have f2 := of_decide_eq_true f2
  rw [ef]
  refine ⟨by omega, by omega, f2.1, f2.2, fun k' h5 h6 h7 => ?_⟩
  rcases Nat.lt_or_ge k' (1 + k0) with l | l
  · have hk' : 1 ≤ k' := by omega
    have := f3 (k' - 1) (by omega)
    rw [decide_eq_false_iff_not] at this
    exact absurd ⟨by omega, by rw [show 1 + (k' - 1) = k' by omega]; exact h7⟩ this
  · exact l
theorem firstEnd_inj {u x y : W} (hx : x ∈ mirrorsF u) (hy : y ∈ mirrorsF u) (h : firstEnd u x = firstEnd u y) : x = y := by
  have key : ∀ {x y : W}, x ∈ mirrorsF u → y ∈ mirrorsF u → firstEnd u x = firstEnd u y → x.length < y.length → False := by
    intro x y hx hy h hl
    obtain ⟨a1, a2, a3, a4, a5⟩ := firstEnd_spec hx
    obtain ⟨b1, b2, b3, b4, b5⟩ := firstEnd_spec hy
    obtain ⟨_, mx, _⟩ := mirror_ne hx
    obtain ⟨_, my, _⟩ := mirror_ne hy
    rw [← h] at b1 b2 b3 b4 b5
    generalize firstEnd u x = k at *
    -- x is the end of y, so its beginning
    have e1 : sub y (y.length - x.length) y.length = x := by
      have h0 := sub_sub (u := u) (j := k - y.length) (k := k) (a := y.length - x.length) (b := y.length) (by omega)
      rw [b4] at h0
      rw [h0, show k - y.length + (y.length - x.length) = k - x.length by omega, show k - y.length + y.length = k by omega]
      exact a4
    have e2 : sub y 0 x.length = x := by
      have h0 := sub_rev (u := y) (j := y.length - x.length) (k := y.length) (by omega) (by omega)
      rw [e1, isM_iff.mp my, isM_iff.mp mx, Nat.sub_self, show y.length - (y.length - x.length) = x.length by omega] at h0
      exact h0
    have e3 : sub u (k - y.length) (k - y.length + x.length) = x := by
      have h0 := sub_sub (u := u) (j := k - y.length) (k := k) (a := 0) (b := x.length) (by omega)
      rw [b4, e2] at h0
      exact h0.symm
    have := a5 (k - y.length + x.length) (by omega) (by omega) (by rw [show k - y.length + x.length - x.length = k - y.length by omega]; exact e3)
    omega
  rcases Nat.lt_trichotomy x.length y.length with l | l | l
  · exact absurd l fun l => key hx hy h l
  · rw [← (firstEnd_spec hx).2.2.2.1, ← (firstEnd_spec hy).2.2.2.1, h, l]
  · exact absurd l fun l => key hy hx h.symm l
theorem mirrors_le (u : W) : (mirrorsF u).length ≤ u.length := by
  have hn : ((mirrorsF u).map (firstEnd u)).Nodup := by
    refine List.pairwise_map.mpr (List.Pairwise.imp_of_mem ?_ (up_nodup (up_mirrors u)))
    intro x y hx hy hne e
    exact hne (firstEnd_inj hx hy e)
  have hs : ((mirrorsF u).map (firstEnd u)) ⊆ List.range' 1 u.length := by
    intro k hk
    obtain ⟨x, hx, rfl⟩ := List.mem_map.mp hk
    obtain ⟨a1, a2, _⟩ := firstEnd_spec hx
    rw [List.mem_range'_1]
    omega
  have := sub_le hn hs
  simpa using this
theorem mirrors_rev (u : W) : mirrorsF u.reverse = mirrorsF u := by
  have key : ∀ u : W, ∀ x, x ∈ mirrorsF u.reverse → x ∈ mirrorsF u := by
    intro u x h
    obtain ⟨j, k, h1, h2, h3, rfl⟩ := mem_mirrors.mp h
    rw [List.length_reverse] at h2
    have e := sub_rev (u := u.reverse) (j := j) (k := k) (by omega) (by rw [List.length_reverse]; exact h2)
    rw [List.reverse_reverse, List.length_reverse, isM_iff.mp h3] at e
    exact mem_mirrors.mpr ⟨u.length - k, u.length - j, by omega, by omega, by rw [e]; exact h3, e⟩
  exact Lyn.up_uniq (up_mirrors _) (up_mirrors _) fun z => ⟨key u z, fun h => key u.reverse z (by rw [List.reverse_reverse]; exact h)⟩
theorem mirrors_app (u v : W) : (mirrorsF u).length ≤ (mirrorsF (u ++ v)).length := by
  have hs : mirrorsF u ⊆ mirrorsF (u ++ v) := by
    intro x hx
    obtain ⟨j, k, h1, h2, h3, rfl⟩ := mem_mirrors.mp hx
    have e : sub (u ++ v) j k = sub u j k := by
      unfold sub
      rw [List.drop_append_of_le_length (by omega), List.take_append_of_le_length (by rw [List.length_drop]; omega)]
    exact mem_mirrors.mpr ⟨j, k, h1, by rw [List.length_append]; omega, by rw [e]; exact h3, e⟩
  exact sub_le (up_nodup (up_mirrors u)) hs
end Pal
namespace Pal
theorem okC_rev {u : W} {c s : Nat} (hc : c < 2 * u.length - 1) : okC u.reverse c s = okC u (2 * u.length - 2 - c) s := by
  rw [Bool.eq_iff_iff, okC_iff, okC_iff, List.length_reverse]
  have h1 : (2 * u.length - 2 - c) / 2 = u.length - 1 - (c + 1) / 2 := by omega
  have h2 : (2 * u.length - 2 - c + 1) / 2 = u.length - 1 - c / 2 := by omega
  rw [h1, h2]
  constructor
  · rintro ⟨a, b, e⟩
    rw [List.getElem?_reverse (by omega), List.getElem?_reverse (by omega)] at e
    refine ⟨by omega, by omega, ?_⟩
    rw [show u.length - 1 - (c + 1) / 2 - s = u.length - 1 - ((c + 1) / 2 + s) by omega, ← e]
    congr 1
    omega
  · rintro ⟨a, b, e⟩
    refine ⟨by omega, by omega, ?_⟩
    rw [List.getElem?_reverse (by omega), List.getElem?_reverse (by omega)]
    rw [show u.length - 1 - ((c + 1) / 2 + s) = u.length - 1 - (c + 1) / 2 - s by omega, e]
    congr 1
    omega
theorem rad_rev {u : W} {c : Nat} (hc : c < 2 * u.length - 1) : rad u.reverse c = rad u (2 * u.length - 2 - c) := by
  obtain ⟨a, b, _⟩ := rad_spec u (2 * u.length - 2 - c)
  exact rad_eq (fun s hs => by rw [okC_rev hc]; exact a s hs) (by rw [okC_rev hc]; exact b)
def radiiF (u : W) : List Nat := (List.range (2 * u.length - 1)).map (rad u)
theorem radii_rev (u : W) : (radiiF u.reverse).reverse = radiiF u := by
  unfold radiiF
  rw [List.length_reverse]
  apply List.ext_getElem?
  intro i
  by_cases hi : i < 2 * u.length - 1
  · rw [List.getElem?_reverse (by simpa using hi), List.getElem?_map, List.getElem?_map, List.getElem?_range hi, List.length_map, List.length_range, List.getElem?_range (by omega)]
    show some _ = some _
    rw [rad_rev (by omega)]
    congr 2
    omega
  · rw [List.getElem?_eq_none (by simp; omega), List.getElem?_eq_none (by simp; omega)]
/-! ### the longest -/
def lenC (u : W) (c : Nat) : Int := 2 * (rad u c : Int) - 1 + ((c % 2 : Nat) : Int)
/-- x is a longest palindrome of u -/
def Longest (u x : W) : Prop := x ∈ mirrorsF u ∧ ∀ j k, j < k → k ≤ u.length → isM (sub u j k) = true → k - j ≤ x.length
theorem Longest.mem {u x : W} (h : Longest u x) : (x.length : Int) ∈ (List.range (2 * u.length - 1)).map (lenC u) := by
  obtain ⟨j, k, h1, h2, h3, e⟩ := mem_mirrors.mp h.1
  have hl := sub_len (u := u) (j := j) h2
  rw [e] at hl
  have hr := (pal_iff h1 h2).mp h3
  refine List.mem_map.mpr ⟨j + k - 1, List.mem_range.mpr (by omega), ?_⟩
  obtain ⟨a, b, _⟩ := rad_spec u (j + k - 1)
  -- the radius is no greater: else a longer palindrome
  have hle : rad u (j + k - 1) ≤ (j + k - 1) / 2 - j + 1 := by
    rcases Nat.lt_or_ge ((j + k - 1) / 2 - j + 1) (rad u (j + k - 1)) with l | l
    · exfalso
      have g := okC_iff.mp (a _ l)
      have := h.2 (j - 1) (k + 1) (by omega) (by omega) ((pal_iff (by omega) (by omega)).mpr (by
        rw [show j - 1 + (k + 1) - 1 = j + k - 1 by omega]
        omega))
      omega
    · exact l
  unfold lenC
  omega
theorem Longest.le {u x : W} (h : Longest u x) {c : Nat} (hc : c < 2 * u.length - 1) : lenC u c ≤ (x.length : Int) := by
  obtain ⟨a, b, _⟩ := rad_spec u c
  unfold lenC
  rcases Nat.eq_zero_or_pos (rad u c) with h0 | h0
  · rw [h0]
    omega
  · have g := okC_iff.mp (a (rad u c - 1) (by omega))
    have := h.2 (c / 2 - (rad u c - 1)) ((c + 1) / 2 + (rad u c - 1) + 1) (by omega) (by omega) ((pal_iff (by omega) (by omega)).mpr (by
      rw [show c / 2 - (rad u c - 1) + ((c + 1) / 2 + (rad u c - 1) + 1) - 1 = c by omega]
      omega))
    omega
/-! ### closing a word -/
def closedK (u : W) : Nat := ((List.range u.length).find? fun k => isM (u.drop k)).getD 0
def closedF (u : W) : W := u ++ (u.take (closedK u)).reverse
theorem closedK_spec {u : W} (h : u ≠ []) : closedK u < u.length ∧ isM (u.drop (closedK u)) = true ∧ ∀ j, j < closedK u → isM (u.drop j) = false := by
  have hp := List.length_pos_iff.mpr h
  obtain ⟨k, e, h1, h2, h3⟩ := find_range (n := u.length) (f := fun k => isM (u.drop k)) ⟨u.length - 1, by omega, by
    have hl : (u.drop (u.length - 1)).length = 1 := by rw [List.length_drop]; omega
    obtain ⟨c, hc⟩ := List.length_eq_one_iff.mp hl
    rw [hc]
    exact isM_iff.mpr rfl⟩
  unfold closedK
  rw [e]
  exact ⟨h1, h2, h3⟩
theorem closed_len {u : W} (h : u ≠ []) : (closedF u).length = u.length + closedK u := by
  have := (closedK_spec h).1
  unfold closedF
  rw [List.length_append, List.length_reverse, List.length_take]
  omega
theorem closed_isM {u : W} (h : u ≠ []) : isM (closedF u) = true := by
  obtain ⟨h1, h2, _⟩ := closedK_spec h
  rw [isM_iff] at h2 ⊢
  have e : u = u.take (closedK u) ++ u.drop (closedK u) := (List.take_append_drop _ _).symm
  unfold closedF
  generalize closedK u = k at *
  have e2 : u.reverse = u.drop k ++ (u.take k).reverse := by
    conv => lhs; rw [e]
    rw [List.reverse_append, h2]
  rw [List.reverse_append, List.reverse_reverse, e2, ← List.append_assoc, List.take_append_drop]
theorem closed_take (u : W) : (closedF u).take u.length = u := by
  unfold closedF
  rw [List.take_append_of_le_length (Nat.le_refl _), List.take_length]
theorem closed_of_isM {u : W} (h : u ≠ []) (hm : isM u = true) : closedF u = u := by
  have : closedK u = 0 := by
    obtain ⟨_, _, h3⟩ := closedK_spec h
    rcases Nat.eq_zero_or_pos (closedK u) with l | l
    · exact l
    · have := h3 0 l
      rw [List.drop_zero, hm] at this
      cases this
  unfold closedF
  rw [this]
  simp
theorem closed_iff {u : W} (h : u ≠ []) : isM u = decide (closedF u = u) := by
  rw [Bool.eq_iff_iff, decide_eq_true_eq]
  constructor
  · exact closed_of_isM h
  · intro e
    rw [← e]
    exact closed_isM h
def endsF (u : W) : List Nat := (List.range u.length).filter fun k => isM (u.drop k)
theorem ends_head {u : W} (h : u ≠ []) : (endsF u)[0]? = some (closedK u) := by
  obtain ⟨h1, h2, h3⟩ := closedK_spec h
  unfold endsF
  have e : List.range u.length = List.range' 0 (closedK u) ++ (closedK u :: List.range' (closedK u + 1) (u.length - (closedK u + 1))) := by
    rw [List.range_eq_range', ← List.range'_succ]
    have h0 := List.range'_append_1 (s := 0) (m := closedK u) (n := u.length - (closedK u + 1) + 1)
    rw [Nat.zero_add] at h0
    rw [h0]
    congr 1
    omega
  rw [e, List.filter_append, List.filter_eq_nil_iff.mpr fun j hj => by rw [List.mem_range'_1] at hj; rw [h3 j (by omega)]; simp, List.nil_append, List.filter_cons_of_pos (by exact h2)]
  rfl
/-! ### borders of a palindrome -/
theorem drop_take_rev {x : W} (h : isM x = true) {k : Nat} (hk : k ≤ x.length) : x.drop (x.length - k) = (x.take k).reverse := by
  conv => lhs; rw [← isM_iff.mp h]
  rw [List.drop_reverse]
  congr 2
  rw [List.length_reverse]
  omega
theorem border_iff {x : W} (h : isM x = true) {k : Nat} (hk : k ≤ x.length) : decide (x.take k = x.drop (x.length - k)) = isM (x.take k) := by
  rw [drop_take_rev h hk]
  rfl
theorem isM_rev (x : W) : isM x.reverse = isM x := by
  rw [Bool.eq_iff_iff, isM_iff, isM_iff, List.reverse_reverse]
  exact eq_comm
theorem isM_drop {x : W} (h : isM x = true) {k : Nat} (hk : k ≤ x.length) : isM (x.drop (x.length - k)) = isM (x.take k) := by rw [drop_take_rev h hk, isM_rev]
theorem borders_pal {x : W} (h : isM x = true) : (Lyn.bordersF x).filter (fun k => !isM (x.take k)) = [] ∧ (List.range x.length).filter (fun k => isM (x.drop (x.length - k))) = Lyn.bordersF x := by
  constructor
  · refine List.filter_eq_nil_iff.mpr fun k hk => ?_
    unfold Lyn.bordersF at hk
    obtain ⟨h1, h2⟩ := List.mem_filter.mp hk
    rw [List.mem_range] at h1
    rw [border_iff h (by omega)] at h2
    rw [h2]
    simp
  · unfold Lyn.bordersF
    refine List.filter_congr fun k hk => ?_
    rw [List.mem_range] at hk
    rw [border_iff h (by omega), isM_drop h (by omega)]
end Pal
namespace Pal
/-! ### the beginning of x that ends at p -/
def Bd (x u : W) (p k : Nat) : Prop := k ≤ x.length ∧ k ≤ p ∧ sub u (p - k) p = x.take k
instance (x u : W) (p k : Nat) : Decidable (Bd x u p k) := inferInstanceAs (Decidable (_ ∧ _ ∧ _))
theorem Bd.zero (x u : W) (p : Nat) : Bd x u p 0 := ⟨Nat.zero_le _, Nat.zero_le _, by simp [sub]⟩
theorem sub_snoc {u : W} {j p : Nat} (hj : j ≤ p) (hp : p < u.length) : sub u j (p + 1) = sub u j p ++ [u[p]] := by
  unfold sub
  rw [show p + 1 - j = p - j + 1 by omega, List.take_add_one, List.getElem?_drop, show j + (p - j) = p by omega, List.getElem?_eq_getElem hp]
  rfl
theorem take_snoc {x : W} {k : Nat} (hk : k < x.length) : x.take (k + 1) = x.take k ++ [x[k]] := by
  rw [List.take_add_one, List.getElem?_eq_getElem hk]
  rfl
/-- the beginning may grow by the letter at p -/
def Grow (x u : W) (p k : Nat) : Prop := k < x.length ∧ u[p]? = x[k]?
theorem Bd.step {x u : W} {p k : Nat} (hp : p < u.length) : Bd x u (p + 1) (k + 1) ↔ Bd x u p k ∧ Grow x u p k := by
  unfold Bd Grow
  rw [show p + 1 - (k + 1) = p - k by omega]
  constructor
  · rintro ⟨h1, h2, h3⟩
    rw [sub_snoc (by omega) hp, take_snoc (by omega)] at h3
    obtain ⟨e1, e2⟩ := List.append_inj' h3 rfl
    refine ⟨⟨by omega, by omega, e1⟩, by omega, ?_⟩
    rw [List.getElem?_eq_getElem hp, List.getElem?_eq_getElem (by omega)]
    simpa using e2
  · rintro ⟨⟨h1, h2, h3⟩, h4, h5⟩
    refine ⟨by omega, by omega, ?_⟩
    rw [sub_snoc (by omega) hp, take_snoc h4, h3]
    rw [List.getElem?_eq_getElem hp, List.getElem?_eq_getElem h4] at h5
    rw [Option.some.inj h5]
theorem sub_take {x : W} {a b k : Nat} (hb : b ≤ k) : sub (x.take k) a b = sub x a b := by
  unfold sub
  rw [List.drop_take, List.take_take]
  congr 1
  omega
theorem Bd.nest {x u : W} {p K k : Nat} (hK : Bd x u p K) (hp : p ≤ u.length) (hk : k ≤ K) : Bd x u p k ↔ Bd x x K k := by
  obtain ⟨h1, h2, h3⟩ := hK
  have e : sub u (p - k) p = sub x (K - k) K := by
    have := sub_sub (u := u) (j := p - K) (k := p) (a := K - k) (b := K) (by omega)
    rw [h3, sub_take (Nat.le_refl _)] at this
    rw [this]
    congr 1 <;> omega
  unfold Bd
  rw [e]
  constructor
  · rintro ⟨a, b, c⟩
    exact ⟨a, hk, c⟩
  · rintro ⟨a, b, c⟩
    exact ⟨a, by omega, c⟩
/-- the greatest proper beginning that ends x's first i letters -/
def IsF (x : W) (i k : Nat) : Prop := k < i ∧ Bd x x i k ∧ ∀ k', k' < i → Bd x x i k' → k' ≤ k
theorem IsF.uniq {x : W} {i k k' : Nat} (h : IsF x i k) (h' : IsF x i k') : k = k' := Nat.le_antisymm (h'.2.2 _ h.1 h.2.1) (h.2.2 _ h'.1 h'.2.1)
theorem isF_ex (x : W) {i : Nat} (hi : 0 < i) : ∃ k, IsF x i k := by
  have key : ∀ n, n ≤ i → 0 < n → ∃ k, k < n ∧ Bd x x i k ∧ ∀ k', k' < n → Bd x x i k' → k' ≤ k := by
    intro n
    induction n with
    | zero => intro _ h; omega
    | succ n ih =>
      intro h1 _
      by_cases hb : Bd x x i n
      · exact ⟨n, Nat.lt_succ_self _, hb, fun k' hk' _ => by omega⟩
      · rcases Nat.eq_zero_or_pos n with rfl | hn
        · exact absurd (Bd.zero x x i) hb
        · obtain ⟨k, a, b, c⟩ := ih (by omega) hn
          refine ⟨k, by omega, b, fun k' hk' hb' => ?_⟩
          rcases Nat.lt_or_ge k' n with l | l
          · exact c k' l hb'
          · have : k' = n := by omega
            subst this
            exact absurd hb' hb
  obtain ⟨k, a, b, c⟩ := key i (Nat.le_refl _) hi
  exact ⟨k, a, b, c⟩
noncomputable def F (x : W) (i : Nat) : Nat := if h : 0 < i then (isF_ex x h).choose else 0
theorem F_is {x : W} {i : Nat} (h : 0 < i) : IsF x i (F x i) := by
  unfold F
  rw [dif_pos h]
  exact (isF_ex x h).choose_spec
theorem F_eq {x : W} {i k : Nat} (h : IsF x i k) : F x i = k := (F_is (Nat.lt_of_le_of_lt (Nat.zero_le _) h.1)).uniq h
noncomputable def rowF (x : W) : List Nat := (List.range' 1 x.length).map (F x)
theorem rowF_len (x : W) : (rowF x).length = x.length := by
  unfold rowF
  rw [List.length_map, List.length_range']
theorem rowF_get {x : W} {i : Nat} (h : i < x.length) : (rowF x)[i]? = some (F x (i + 1)) := by
  unfold rowF
  rw [List.getElem?_map, List.getElem?_range' h]
  simp
  rw [Nat.add_comm]
/-- the search: k stands at p, every beginning that may grow, below the bound, is at most k -/
structure Seek (x u : W) (p b k : Nat) : Prop where
  bd : Bd x u p k
  max : ∀ k', k' < b → Bd x u p k' → Grow x u p k' → k' ≤ k
theorem Seek.back {x u : W} {p b k : Nat} (h : Seek x u p b k) (hp : p ≤ u.length) (hk : 0 < k) (hg : ¬ Grow x u p k) : Seek x u p b (F x k) := by
  obtain ⟨f1, f2, f3⟩ := F_is (x := x) hk
  refine ⟨(h.bd.nest hp (by omega)).mpr f2, fun k' hb hk' hg' => ?_⟩
  have h1 := h.max k' hb hk' hg'
  have h2 : k' ≠ k := fun e => hg (e ▸ hg')
  exact f3 k' (by omega) ((h.bd.nest hp h1).mp hk')
/-- the search's end -/
theorem Seek.grow {x u : W} {p b k : Nat} (h : Seek x u p b k) (hp : p < u.length) (hg : Grow x u p k) : Bd x u (p + 1) (k + 1) ∧ ∀ k', k' < b + 1 → Bd x u (p + 1) k' → k' ≤ k + 1 := by
  refine ⟨(Bd.step hp).mpr ⟨h.bd, hg⟩, fun k' hb hk' => ?_⟩
  cases k' with
  | zero => exact Nat.zero_le _
  | succ k' =>
    obtain ⟨a, b⟩ := (Bd.step hp).mp hk'
    have := h.max k' (by omega) a b
    omega
theorem Seek.stop {x u : W} {p b : Nat} (h : Seek x u p b 0) (hp : p < u.length) (hg : ¬ Grow x u p 0) : Bd x u (p + 1) 0 ∧ ∀ k', k' < b + 1 → Bd x u (p + 1) k' → k' ≤ 0 := by
  refine ⟨Bd.zero _ _ _, fun k' hb hk' => ?_⟩
  cases k' with
  | zero => exact Nat.le_refl _
  | succ k' =>
    obtain ⟨a, b⟩ := (Bd.step hp).mp hk'
    have := h.max k' (by omega) a b
    have e : k' = 0 := by omega
    subst e
    exact absurd b hg
theorem Seek.start {x u : W} {p b k : Nat} (h : Bd x u p k) (hm : ∀ k', k' < b → Bd x u p k' → k' ≤ k) : Seek x u p b k := ⟨h, fun k' hb hk' _ => hm k' hb hk'⟩
/-! ### places found -/
def ends (x u : W) (p : Nat) : List Nat := (List.range' 1 p).filter fun q => decide (Bd x u q x.length)
def foundF (x u : W) (p : Nat) : List Nat := (ends x u p).map (· - x.length)
theorem ends_succ (x u : W) (p : Nat) : ends x u (p + 1) = ends x u p ++ (if Bd x u (p + 1) x.length then [p + 1] else []) := by
  unfold ends
  rw [List.range'_1_concat, List.filter_append]
  congr 1
  rw [Nat.add_comm 1 p]
  by_cases h : Bd x u (p + 1) x.length
  · rw [if_pos h]
    simp [h]
  · rw [if_neg h]
    simp [h]
theorem found_len {x u : W} (hx : x ≠ []) : (foundF x u u.length).length = (occ x u).length := by
  have hp := List.length_pos_iff.mpr hx
  have h0 : (ends x u u.length).Nodup := List.Pairwise.filter _ (List.nodup_range' ..)
  have h1 : ((occ x u).map (· + x.length)).Nodup := nodup_map (fun a b e => by
    have e : a + x.length = b + x.length := e
    omega) (List.Pairwise.filter _ List.nodup_range)
  have := same_len h0 h1 fun q => by
    unfold ends
    rw [List.mem_filter, List.mem_range'_1, decide_eq_true_eq, List.mem_map]
    unfold Bd
    rw [List.take_length]
    constructor
    · rintro ⟨h1, _, h2, h3⟩
      refine ⟨q - x.length, mem_occ.mpr ⟨by omega, ?_⟩, by omega⟩
      rw [show q - x.length + x.length = q by omega]
      exact h3
    · rintro ⟨j, hj, rfl⟩
      obtain ⟨a, b⟩ := mem_occ.mp hj
      refine ⟨by omega, Nat.le_refl _, by omega, ?_⟩
      rw [show j + x.length - x.length = j by omega]
      exact b
  unfold foundF
  rw [List.length_map, this, List.length_map]
end Pal
namespace Pal
/-! ### cuttings into palindromes -/
def Cut (u : W) (fs : List W) : Prop := fs.flatten = u ∧ ∀ p ∈ fs, p ≠ [] ∧ isM p = true
def Few (u : W) (fs : List W) : Prop := Cut u fs ∧ ∀ gs, Cut u gs → fs.length ≤ gs.length
theorem Cut.nil : Cut [] [] := ⟨rfl, fun p h => by cases h⟩
theorem Few.nil : Few [] [] := ⟨Cut.nil, fun _ _ => Nat.zero_le _⟩
theorem Cut.rev {u : W} {fs : List W} (h : Cut u fs) : Cut u.reverse fs.reverse := by
  refine ⟨?_, fun p hp => h.2 p (List.mem_reverse.mp hp)⟩
  rw [← h.1, List.reverse_flatten]
  have e : List.map List.reverse fs = fs := by
    have : ∀ l : List W, (∀ p ∈ l, isM p = true) → List.map List.reverse l = l := by
      intro l
      induction l with
      | nil => exact fun _ => rfl
      | cons x r ih => exact fun hl => by rw [List.map_cons, isM_iff.mp (hl x List.mem_cons_self), ih fun p hp => hl p (List.mem_cons_of_mem _ hp)]
    exact this fs fun p hp => (h.2 p hp).2
  rw [e]
theorem Cut.app {u v : W} {fs gs : List W} (h : Cut u fs) (h' : Cut v gs) : Cut (u ++ v) (fs ++ gs) := by
  refine ⟨by rw [List.flatten_append, h.1, h'.1], fun p hp => ?_⟩
  rcases List.mem_append.mp hp with hp | hp
  · exact h.2 p hp
  · exact h'.2 p hp
theorem Few.rev_len {u : W} {fs gs : List W} (h : Few u fs) (h' : Few u.reverse gs) : gs.length = fs.length := by
  have a := h'.2 _ h.1.rev
  have b := h.2 gs.reverse (by have := h'.1.rev; rwa [List.reverse_reverse] at this)
  rw [List.length_reverse] at a b
  omega
theorem Few.twice {u : W} {fs gs : List W} (h : Few u fs) (h' : Few (u ++ u) gs) : gs.length ≤ 2 * fs.length := by
  have := h'.2 _ (h.1.app h.1)
  rw [List.length_append] at this
  omega
theorem Few.one {u : W} {fs : List W} (hu : u ≠ []) (h : Few u fs) : decide (fs.length = 1) = isM u := by
  rw [Bool.eq_iff_iff, decide_eq_true_eq]
  constructor
  · intro e
    obtain ⟨p, rfl⟩ := List.length_eq_one_iff.mp e
    have := h.1.1
    simp at this
    rw [← this]
    exact (h.1.2 p List.mem_cons_self).2
  · intro hm
    have h1 := h.2 [u] ⟨by simp, fun p hp => by rw [List.mem_singleton] at hp; rw [hp]; exact ⟨hu, hm⟩⟩
    have h2 : fs ≠ [] := fun z => hu (by rw [← h.1.1, z]; rfl)
    have := List.length_pos_iff.mpr h2
    rw [List.length_singleton] at h1
    omega
/-- the last part of a cutting of the first k letters -/
theorem Cut.last {u : W} {k : Nat} {gs : List W} (hk : k ≤ u.length) (h0 : 0 < k) (h : Cut (u.take k) gs) : ∃ j r, j < k ∧ isM (sub u j k) = true ∧ gs = r ++ [sub u j k] ∧ Cut (u.take j) r := by
  have hl : (u.take k).length = k := by rw [List.length_take]; omega
  have hne : gs ≠ [] := fun z => by
    have := h.1
    rw [z] at this
    rw [← this] at hl
    simp at hl
    omega
  obtain ⟨r, p, rfl⟩ : ∃ r p, gs = r ++ [p] := by
    rcases List.eq_nil_or_concat gs with z | ⟨r, p, z⟩
    · exact absurd z hne
    · exact ⟨r, p, by simpa using z⟩
  obtain ⟨hp1, hp2⟩ := h.2 p (List.mem_append_right _ List.mem_cons_self)
  have hf := h.1
  rw [List.flatten_append] at hf
  have hf : r.flatten ++ p = u.take k := by simpa using hf
  have hlen : r.flatten.length + p.length = k := by rw [← List.length_append, hf, hl]
  have hpp := List.length_pos_iff.mpr hp1
  have e1 : u.take r.flatten.length = r.flatten := by
    have : (u.take k).take r.flatten.length = r.flatten := by rw [← hf, List.take_left]
    rw [List.take_take] at this
    rw [show min r.flatten.length k = r.flatten.length by omega] at this
    exact this
  have e2 : sub u r.flatten.length k = p := by
    have : (u.take k).drop r.flatten.length = p := by rw [← hf, List.drop_left]
    rw [List.drop_take] at this
    exact this
  exact ⟨r.flatten.length, r, by omega, by rw [e2]; exact hp2, by rw [e2], e1.symm, fun q hq => h.2 q (List.mem_append_left _ hq)⟩
theorem Cut.snoc {u : W} {j k : Nat} {r : List W} (hj : j < k) (hk : k ≤ u.length) (h : Cut (u.take j) r) (hm : isM (sub u j k) = true) : Cut (u.take k) (r ++ [sub u j k]) := by
  have hl := sub_len (u := u) (j := j) hk
  refine ⟨?_, fun p hp => ?_⟩
  · rw [List.flatten_append, h.1]
    show u.take j ++ (sub u j k ++ []) = u.take k
    rw [List.append_nil]
    unfold sub
    rw [← List.drop_take]
    conv => rhs; rw [← List.take_append_drop j (u.take k)]
    rw [List.take_take, show min j k = j by omega]
  · rcases List.mem_append.mp hp with hp | hp
    · exact h.2 p hp
    · rw [List.mem_singleton] at hp
      rw [hp]
      exact ⟨fun z => by rw [z] at hl; simp at hl; omega, hm⟩
/-- one step of the table: a shortest of the rows is a fewest cutting -/
theorem Few.step {u : W} {k : Nat} (hk : k ≤ u.length) (h0 : 0 < k) (best : Nat → List W) (hb : ∀ j, j < k → Few (u.take j) (best j)) {fs : List W} (hfs : ∃ j, j < k ∧ isM (sub u j k) = true ∧ fs = best j ++ [sub u j k])
    (hmin : ∀ j, j < k → isM (sub u j k) = true → fs.length ≤ (best j).length + 1) : Few (u.take k) fs := by
  obtain ⟨j, hj, hm, rfl⟩ := hfs
  refine ⟨Cut.snoc hj hk (hb j hj).1 hm, fun gs hgs => ?_⟩
  obtain ⟨i, r, hi, hmi, rfl, hr⟩ := hgs.last hk h0
  have h1 := hmin i hi hmi
  have h2 := (hb i hi).2 r hr
  rw [List.length_append (bs := [sub u i k])]
  simp only [List.length_singleton]
  omega
/-- one row there is always: the last letter alone -/
theorem row_ex {u : W} {k : Nat} (hk : k ≤ u.length) (h0 : 0 < k) : isM (sub u (k - 1) k) = true := by
  have hl := sub_len (u := u) (j := k - 1) hk
  obtain ⟨c, hc⟩ := List.length_eq_one_iff.mp (show (sub u (k - 1) k).length = 1 by omega)
  rw [hc]
  exact isM_iff.mpr rfl
end Pal
/-! one-pass walking: each piece of syntax has its own reading (wE ..), the rules speak of the pieces at once -/
namespace Wx
open PySem PySem.Spec PyProof.Rows L2 Evl

/-! ### the readings that a piece has by itself -/
def wE (X : Cx) (e : Expr) : TE := fun σ H Q => ∀ pins s, Inv X pins σ H s → wpAny (model X.prog X.w) X.A (eval e X.env) (EP X pins σ Q) X.xe s
def wT (X : Cx) (e : Expr) : TT := fun σ H Q => ∀ pins s, Inv X pins σ H s → wpAny (model X.prog X.w) X.A (isTrue e X.env (eval e X.env)) (TP X pins σ Q) X.xe s
def wW (X : Cx) (e : Expr) : TT := fun σ H Q => ∀ whole pins s, Inv X pins σ H s → wpAny (model X.prog X.w) X.A (isTrue e X.env whole) (TP X pins σ Q) X.xe s
def wA (X : Cx) (es : List Expr) : TA := fun σ H Q => ∀ pos pins s, Inv X pins σ H s → wpAny (model X.prog X.w) X.A (spliced (backTo pos (starEach es X.env))) (AP X pins σ Q) X.xe s
def wS (X : Cx) (st : Stmt) : TS := fun D σ H => ∀ pins s, Inv X pins σ H s → wpAny (model X.prog X.w) X.A (exec st X.env) (SP X pins D) X.xe s
def wSs (X : Cx) (st : List Stmt) : TS := fun D σ H => ∀ pins s, Inv X pins σ H s → wpAny (model X.prog X.w) X.A (execs st X.env) (SP X pins D) X.xe s
section
variable {X : Cx} {e a b c : Expr} {es : List Expr} {st : Stmt} {sts : List Stmt} {t : TE}
theorem pE : PE X e (wE X e) := ⟨fun pins s _ _ _ I h => h pins s I⟩
theorem pT : PT X e (wT X e) := ⟨fun pins s _ _ _ I h => h pins s I⟩
theorem pW : PW X e (wW X e) := ⟨fun wh pins s _ _ _ I h => h wh pins s I⟩
theorem pA : PA X es (wA X es) := ⟨fun pos pins s _ _ _ I h => h pos pins s I⟩
theorem pS : PS X st (wS X st) := ⟨fun pins s _ _ _ I h => h pins s I⟩
theorem pSs : PSs X sts (wSs X sts) := ⟨fun pins s _ _ _ I h => h pins s I⟩
end

/-- evaluates to some v of which R is true -/
def EvR (te : TE) (σ : L2.St) (H : Hp) (R : V → Hp → Prop) : Prop := ∀ H1, Ex H H1 → ∀ Q : VK, (∀ v H2, Ex H1 H2 → R v H2 → Q v H2) → te σ H1 Q
abbrev E (X : Cx) (e : Expr) (σ : L2.St) (H : Hp) (v : V) : Prop := Ev (wE X e) σ H v
abbrev ER (X : Cx) (e : Expr) (σ : L2.St) (H : Hp) (R : V → Hp → Prop) : Prop := EvR (wE X e) σ H R
abbrev EL (X : Cx) (e : Expr) (σ : L2.St) (H : Hp) (xs : List V) : Prop := EvL (wE X e) σ H xs
abbrev EU (X : Cx) (e : Expr) (σ : L2.St) (H : Hp) (xs : List V) : Prop := EvU (wE X e) σ H xs
abbrev ET (X : Cx) (e : Expr) (σ : L2.St) (H : Hp) (b : Bool) : Prop := EvT (wT X e) σ H b
abbrev EW (X : Cx) (e : Expr) (σ : L2.St) (H : Hp) (b : Bool) : Prop := EvT (wW X e) σ H b
abbrev EA (X : Cx) (es : List Expr) (σ : L2.St) (H : Hp) (vs : List V) : Prop := EvA (wA X es) σ H vs
section
variable {X : Cx} {e a b c : Expr} {es : List Expr} {σ : L2.St} {H : Hp} {v x y z : V} {te : TE} {tt : TT} {ta : TA} {xs ys : List V} {pos : Pos}
theorem E.of (h : PE X e te) (q : Ev te σ H v) : E X e σ H v := fun H1 a Q k pins s I => h.run pins s σ H1 Q I (q H1 a Q k)
theorem ER.of {R : V → Hp → Prop} (h : PE X e te) (q : EvR te σ H R) : ER X e σ H R := fun H1 a Q k pins s I => h.run pins s σ H1 Q I (q H1 a Q k)
theorem EL.of (h : PE X e te) (q : EvL te σ H xs) : EL X e σ H xs := fun H1 a Q k pins s I => h.run pins s σ H1 Q I (q H1 a Q k)
theorem EU.of (h : PE X e te) (q : EvU te σ H xs) : EU X e σ H xs := fun H1 a Q k pins s I => h.run pins s σ H1 Q I (q H1 a Q k)
theorem ET.of {b : Bool} (h : PT X e tt) (q : EvT tt σ H b) : ET X e σ H b := fun H1 a Q k pins s I => h.run pins s σ H1 Q I (q H1 a Q k)
theorem EW.of {b : Bool} (h : PW X e tt) (q : EvT tt σ H b) : EW X e σ H b := fun H1 a Q k wh pins s I => h.run wh pins s σ H1 Q I (q H1 a Q k)
theorem EA.of {vs : List V} (h : PA X es ta) (q : EvA ta σ H vs) : EA X es σ H vs := fun H1 a Q k pos pins s I => h.run pos pins s σ H1 Q I (q H1 a Q k)
theorem ET.w {b : Bool} (h : EW X e σ H b) : ET X e σ H b := ET.of pW.pt h
theorem Ev.r {R : V → Hp → Prop} (h : Ev te σ H v) (hR : ∀ H1, Ex H H1 → R v H1) : EvR te σ H R := fun H1 e Q k => h H1 e Q fun H2 e2 => k v H2 e2 (hR H2 (e.trans e2))
/-! ### sequences -/
/-- a list, a tuple that stands there -/
def isL (K : PySem.W.Frag) (xs : List V) : V → Hp → Prop := fun v H => ∃ p, v = .ref p ∧ SqL K H p xs
def isT (K : PySem.W.Frag) (xs : List V) : V → Hp → Prop := fun v H => ∃ p, v = .ref p ∧ SqT K H p xs
theorem EvL.r {K : PySem.W.Frag} (h : EvL te σ H xs) : EvR te σ H (isL K xs) := fun H1 e Q k => h H1 e Q fun p H2 _ e2 hp => k _ H2 e2 ⟨p, rfl, sq_of hp⟩
theorem EvU.r {K : PySem.W.Frag} (h : EvU te σ H xs) : EvR te σ H (isT K xs) := fun H1 e Q k => h H1 e Q fun p H2 _ e2 hp => k _ H2 e2 ⟨p, rfl, st_of hp⟩
theorem EvR.mono {H' : Hp} {R : V → Hp → Prop} (e : Ex H H') (h : EvR te σ H R) : EvR te σ H' R := fun H1 a Q q => h H1 (e.trans a) Q q
theorem EvU.mono {H' : Hp} (e : Ex H H') (h : EvU te σ H xs) : EvU te σ H' xs := fun H1 a Q q => h H1 (e.trans a) Q q
theorem isL.mono {K : PySem.W.Frag} {H' : Hp} (e : Ex H H') (h : isL K xs v H) : isL K xs v H' := by
  obtain ⟨p, rfl, q⟩ := h
  exact ⟨p, rfl, ex_l e q⟩
theorem isT.mono {K : PySem.W.Frag} {H' : Hp} (e : Ex H H') (h : isT K xs v H) : isT K xs v H' := by
  obtain ⟨p, rfl, q⟩ := h
  exact ⟨p, rfl, ex_t e q⟩

/-! ### names, constants -/
theorem e_var {i : Nat} {n : Str} (h : σ[i]? = some (some v)) (hN : X.N[i]? = some n := by rfl) (hv : Vis X.env.scope n := by first | exact Or.inl rfl | exact Or.inr (Or.inl rfl) | exact Or.inr (Or.inr rfl))
    (hd : (n == ("__debug__" : Str)) = false := by decide) (hcd : (n == ("__classdict__" : Str)) = false := by decide) : E X (.Name n pos) σ H v := E.of (pe_var hN hv hd hcd) (ev_var h)
theorem e_varL {K : PySem.W.Frag} {i : Nat} {n : Str} {p : Addr} (h : σ[i]? = some (some (.ref p))) (hs : SqL K H p xs) (hN : X.N[i]? = some n := by rfl) (hv : Vis X.env.scope n := by first | exact Or.inl rfl | exact Or.inr (Or.inl rfl) | exact Or.inr (Or.inr rfl))
    (hd : (n == ("__debug__" : Str)) = false := by decide) (hcd : (n == ("__classdict__" : Str)) = false := by decide) : ER X (.Name n pos) σ H (isL K xs) := Ev.r (e_var h hN hv hd hcd) fun H1 e => ⟨p, rfl, ex_l e hs⟩
theorem e_varT {K : PySem.W.Frag} {i : Nat} {n : Str} {p : Addr} (h : σ[i]? = some (some (.ref p))) (hs : SqT K H p xs) (hN : X.N[i]? = some n := by rfl) (hv : Vis X.env.scope n := by first | exact Or.inl rfl | exact Or.inr (Or.inl rfl) | exact Or.inr (Or.inr rfl))
    (hd : (n == ("__debug__" : Str)) = false := by decide) (hcd : (n == ("__classdict__" : Str)) = false := by decide) : ER X (.Name n pos) σ H (isT K xs) := Ev.r (e_var h hN hv hd hcd) fun H1 e => ⟨p, rfl, ex_t e hs⟩
theorem e_int {i : Int} {j} : E X (.Constant (.int i) j pos) σ H (.int i) := E.of pe_int ev_c
theorem e_bl {i : Bool} {j} : E X (.Constant (.bool i) j pos) σ H (.bl i) := E.of pe_bl ev_c
theorem e_non {j} : E X (.Constant .none j pos) σ H .non := E.of pe_non ev_c
theorem e_str {i : Str} {j} : E X (.Constant (.str i) j pos) σ H (.str i) := E.of pe_str ev_c
theorem e_glob {n : Str} {u : Value} (hm : X.mg n = some u) (r : RelV v u) (hg : Gl X n := by rfl) (hd : (n == ("__debug__" : Str)) = false := by decide) : E X (.Name n pos) σ H v := E.of (pe_glob hg hm r hd) ev_c

/-! ### operators by values -/
theorem e_bin {op : Operator} {r : R2} (ho : OpR X (binaryOp op) r) (ha : E X a σ H x) (hb : E X b σ H y) (hr : RV r x y H z) : E X (.BinOp a op b pos) σ H z := E.of (pe_op ho pE pE) (ev_op ha hb hr)
theorem e_cmp {op : CmpOp} {r : R2} (ho : OpR X (compareOp op) r) (ha : E X a σ H x) (hb : E X b σ H y) (hr : RV r x y H z) (hm : behindInMarks op b = false := by first | exact nobehind _ (by decide) (by decide) | rfl) : E X (.Compare a [op] [b] pos) σ H z := E.of (pe_cmpR ho pE pE hm) (ev_op ha hb hr)
theorem t_cmp {op : CmpOp} {r : R2} {k : Bool} (ho : OpR X (compareOp op) r) (ha : E X a σ H x) (hb : E X b σ H y) (hr : RV r x y H (.bl k)) (hm : behindInMarks op b = false := by first | exact nobehind _ (by decide) (by decide) | rfl) : ET X (.Compare a [op] [b] pos) σ H k := ET.of (pt_cmpR ho pE pE hm) (et_test (ev_op ha hb hr))
/-- by relations -/
theorem evr_op {r : R2} {ta tb : TE} {R R' : V → Hp → Prop} (ha : EvR ta σ H R) (hs : ∀ v H1 H2, Ex H1 H2 → R v H1 → R v H2) (hb : EvR tb σ H R') (hr : ∀ v u H1, Ex H H1 → R v H1 → R' u H1 → RV r v u H1 z) : Ev (tOp r ta tb) σ H z := fun H1 e Q k =>
  ha H1 e _ fun v H2 e2 r2 => hb H2 (e.trans e2) _ fun u H3 e3 r3 => hr v u H3 ((e.trans e2).trans e3) (hs v H2 H3 e3 r2) r3 H3 (Ex.refl H3) Q fun H4 e4 => k H4 ((e2.trans e3).trans e4)
theorem e_binR {op : Operator} {r : R2} {R R' : V → Hp → Prop} (ho : OpR X (binaryOp op) r) (ha : ER X a σ H R) (hs : ∀ v H1 H2, Ex H1 H2 → R v H1 → R v H2) (hb : ER X b σ H R') (hr : ∀ v u H1, Ex H H1 → R v H1 → R' u H1 → RV r v u H1 z) : E X (.BinOp a op b pos) σ H z := E.of (pe_op ho pE pE) (evr_op ha hs hb hr)
theorem e_cmpR {op : CmpOp} {r : R2} {R R' : V → Hp → Prop} (ho : OpR X (compareOp op) r) (ha : ER X a σ H R) (hs : ∀ v H1 H2, Ex H1 H2 → R v H1 → R v H2) (hb : ER X b σ H R') (hr : ∀ v u H1, Ex H H1 → R v H1 → R' u H1 → RV r v u H1 z) (hm : behindInMarks op b = false := by first | exact nobehind _ (by decide) (by decide) | rfl) : E X (.Compare a [op] [b] pos) σ H z := E.of (pe_cmpR ho pE pE hm) (evr_op ha hs hb hr)
theorem t_cmpR {op : CmpOp} {r : R2} {R R' : V → Hp → Prop} {k : Bool} (ho : OpR X (compareOp op) r) (ha : ER X a σ H R) (hs : ∀ v H1 H2, Ex H1 H2 → R v H1 → R v H2) (hb : ER X b σ H R') (hr : ∀ v u H1, Ex H H1 → R v H1 → R' u H1 → RV r v u H1 (.bl k)) (hm : behindInMarks op b = false := by first | exact nobehind _ (by decide) (by decide) | rfl) : ET X (.Compare a [op] [b] pos) σ H k := ET.of (pt_cmpR ho pE pE hm) (et_test (evr_op ha hs hb hr))
/-- the value as a relation -/
theorem E.r (h : E X e σ H v) : ER X e σ H (fun u _ => u = v) := Ev.r h fun _ _ => rfl
theorem eqS : ∀ (u : V) (H1 H2 : Hp), Ex H1 H2 → u = v → u = v := fun _ _ _ _ h => h
theorem isLS {K : PySem.W.Frag} : ∀ (u : V) (H1 H2 : Hp), Ex H1 H2 → isL K xs u H1 → isL K xs u H2 := fun _ _ _ e h => h.mono e
theorem isTS {K : PySem.W.Frag} : ∀ (u : V) (H1 H2 : Hp), Ex H1 H2 → isT K xs u H1 → isT K xs u H2 := fun _ _ _ e h => h.mono e
end
end Wx
namespace Wx
open PySem PySem.Spec PyProof.Rows L2 Evl

/-- a text by its signs; a number -/
abbrev Tx (w : List Nat) : V := .str ⟨w.toArray⟩
abbrev Nm (n : Nat) : V := .int (n : Int)
theorem tx_inj {u v : List Nat} (h : Tx u = Tx v) : u = v := by
  have h1 := V.str.inj h
  have h2 := congrArg (fun s : Str => s.cps.toList) h1
  simpa using h2
theorem tx_dec (u v : List Nat) : decide (Tx u = Tx v) = decide (u = v) := by
  by_cases h : u = v
  · subst h
    rw [decide_eq_true rfl, decide_eq_true rfl]
  · rw [decide_eq_false h, decide_eq_false fun z => h (tx_inj z)]
theorem tx_len (w : List Nat) : (⟨w.toArray⟩ : Str).length = w.length := by simp [Str.length]
theorem lit_tx {x : Str} {w : List Nat} (h : x.cps = w.toArray) : V.str x = Tx w := by
  cases x
  exact congrArg (fun a => V.str ⟨a⟩) h
section
variable {X : Cx} {e a b c : Expr} {es : List Expr} {σ : L2.St} {H : Hp} {v x y z : V} {te : TE} {tt : TT} {ta : TA} {xs ys : List V} {pos : Pos} {u w : List Nat} {i j : Int} {m n k : Nat}
theorem E.is {y : V} (h : E X e σ H x) (q : x = y) : E X e σ H y := q ▸ h
theorem e_tx {q : Str} {j} (h : q.cps = w.toArray := by decide +kernel) : E X (.Constant (.str q) j pos) σ H (Tx w) := E.is e_str (lit_tx h)
theorem e_nm {j} : E X (.Constant (.int (n : Int)) j pos) σ H (Nm n) := e_int

/-! ### numbers -/
theorem e_add (ha : E X a σ H (.int i)) (hb : E X b σ H (.int j)) : E X (.BinOp a .Add b pos) σ H (.int (i + j)) := e_bin op_add ha hb rv_I0
theorem e_sub (ha : E X a σ H (.int i)) (hb : E X b σ H (.int j)) : E X (.BinOp a .Sub b pos) σ H (.int (i - j)) := e_bin op_sub ha hb rv_I0
theorem e_mul (ha : E X a σ H (.int i)) (hb : E X b σ H (.int j)) (h : CMul i j) : E X (.BinOp a .Mult b pos) σ H (.int (i * j)) := e_bin op_mul ha hb (rv_I h)
theorem e_mod (ha : E X a σ H (.int i)) (hb : E X b σ H (.int j)) (h : 0 < j) : E X (.BinOp a .Mod b pos) σ H (.int (i % j)) := e_bin op_mod ha hb (rv_I h)
theorem e_div (ha : E X a σ H (.int i)) (hb : E X b σ H (.int j)) (h : CDiv i j) : E X (.BinOp a .FloorDiv b pos) σ H (.int (i / j)) := e_bin op_fdiv ha hb (rv_I h)
theorem e_lt (ha : E X a σ H (.int i)) (hb : E X b σ H (.int j)) : E X (.Compare a [.Lt] [b] pos) σ H (.bl (decide (i < j))) := e_cmp op_lt ha hb rv_I0
theorem e_le (ha : E X a σ H (.int i)) (hb : E X b σ H (.int j)) : E X (.Compare a [.LtE] [b] pos) σ H (.bl (decide (i ≤ j))) := e_cmp op_le ha hb rv_I0
theorem e_gt (ha : E X a σ H (.int i)) (hb : E X b σ H (.int j)) : E X (.Compare a [.Gt] [b] pos) σ H (.bl (decide (j < i))) := e_cmp op_gt ha hb rv_I0
theorem e_ge (ha : E X a σ H (.int i)) (hb : E X b σ H (.int j)) : E X (.Compare a [.GtE] [b] pos) σ H (.bl (decide (j ≤ i))) := e_cmp op_ge ha hb rv_I0
theorem e_eq (ha : E X a σ H x) (hb : E X b σ H y) (h : scal x y = true := by rfl) : E X (.Compare a [.Eq] [b] pos) σ H (.bl (decide (x = y))) := e_cmp op_eq ha hb (rv_eq h)
theorem e_ne (ha : E X a σ H x) (hb : E X b σ H y) (h : scal x y = true := by rfl) : E X (.Compare a [.NotEq] [b] pos) σ H (.bl (!decide (x = y))) := e_cmp op_ne ha hb (rv_ne h)
theorem t_lt (ha : E X a σ H (.int i)) (hb : E X b σ H (.int j)) : ET X (.Compare a [.Lt] [b] pos) σ H (decide (i < j)) := t_cmp op_lt ha hb rv_I0
theorem t_le (ha : E X a σ H (.int i)) (hb : E X b σ H (.int j)) : ET X (.Compare a [.LtE] [b] pos) σ H (decide (i ≤ j)) := t_cmp op_le ha hb rv_I0
theorem t_gt (ha : E X a σ H (.int i)) (hb : E X b σ H (.int j)) : ET X (.Compare a [.Gt] [b] pos) σ H (decide (j < i)) := t_cmp op_gt ha hb rv_I0
theorem t_ge (ha : E X a σ H (.int i)) (hb : E X b σ H (.int j)) : ET X (.Compare a [.GtE] [b] pos) σ H (decide (j ≤ i)) := t_cmp op_ge ha hb rv_I0
theorem t_eq (ha : E X a σ H x) (hb : E X b σ H y) (h : scal x y = true := by rfl) : ET X (.Compare a [.Eq] [b] pos) σ H (decide (x = y)) := t_cmp op_eq ha hb (rv_eq h)
theorem t_ne (ha : E X a σ H x) (hb : E X b σ H y) (h : scal x y = true := by rfl) : ET X (.Compare a [.NotEq] [b] pos) σ H (!decide (x = y)) := t_cmp op_ne ha hb (rv_ne h)
/-! ### texts -/
theorem e_eqS (ha : E X a σ H (Tx u)) (hb : E X b σ H (Tx w)) : E X (.Compare a [.Eq] [b] pos) σ H (.bl (decide (u = w))) := E.is (e_eq ha hb) (by rw [tx_dec])
theorem e_neS (ha : E X a σ H (Tx u)) (hb : E X b σ H (Tx w)) : E X (.Compare a [.NotEq] [b] pos) σ H (.bl (!decide (u = w))) := E.is (e_ne ha hb) (by rw [tx_dec])
theorem ET.is {p q : Bool} (h : ET X e σ H p) (eq : p = q) : ET X e σ H q := eq ▸ h
theorem t_eqS (ha : E X a σ H (Tx u)) (hb : E X b σ H (Tx w)) : ET X (.Compare a [.Eq] [b] pos) σ H (decide (u = w)) := ET.is (t_eq ha hb) (tx_dec u w)
theorem t_neS (ha : E X a σ H (Tx u)) (hb : E X b σ H (Tx w)) : ET X (.Compare a [.NotEq] [b] pos) σ H (!decide (u = w)) := ET.is (t_ne ha hb) (by rw [tx_dec])
theorem rv_str {r : R2} {g : List Nat → List Nat → V} (hr : r = fun x y H Q => ∃ i j : Str, x = .str i ∧ y = .str j ∧ Q (g i.cps.toList j.cps.toList) H) : RV r (Tx u) (Tx w) H (g u w) := fun H1 _ Q q => by
  subst hr
  exact ⟨_, _, rfl, rfl, by simpa using q H1 (Ex.refl H1)⟩
theorem e_ltS (ha : E X a σ H (Tx u)) (hb : E X b σ H (Tx w)) : E X (.Compare a [.Lt] [b] pos) σ H (.bl (decide (u < w))) := e_cmp op_lt_str ha hb (rv_str (g := fun u w => .bl (decide (u < w))) rfl)
theorem e_leS (ha : E X a σ H (Tx u)) (hb : E X b σ H (Tx w)) : E X (.Compare a [.LtE] [b] pos) σ H (.bl (!decide (w < u))) := e_cmp op_le_str ha hb (rv_str (g := fun u w => .bl (!decide (w < u))) rfl)
theorem e_gtS (ha : E X a σ H (Tx u)) (hb : E X b σ H (Tx w)) : E X (.Compare a [.Gt] [b] pos) σ H (.bl (decide (w < u))) := e_cmp op_gt_str ha hb (rv_str (g := fun u w => .bl (decide (w < u))) rfl)
theorem e_geS (ha : E X a σ H (Tx u)) (hb : E X b σ H (Tx w)) : E X (.Compare a [.GtE] [b] pos) σ H (.bl (!decide (u < w))) := e_cmp op_ge_str ha hb (rv_str (g := fun u w => .bl (!decide (u < w))) rfl)
theorem t_ltS (ha : E X a σ H (Tx u)) (hb : E X b σ H (Tx w)) : ET X (.Compare a [.Lt] [b] pos) σ H (decide (u < w)) := t_cmp op_lt_str ha hb (rv_str (g := fun u w => .bl (decide (u < w))) rfl)
theorem t_leS (ha : E X a σ H (Tx u)) (hb : E X b σ H (Tx w)) : ET X (.Compare a [.LtE] [b] pos) σ H (!decide (w < u)) := t_cmp op_le_str ha hb (rv_str (g := fun u w => .bl (!decide (w < u))) rfl)
theorem t_gtS (ha : E X a σ H (Tx u)) (hb : E X b σ H (Tx w)) : ET X (.Compare a [.Gt] [b] pos) σ H (decide (w < u)) := t_cmp op_gt_str ha hb (rv_str (g := fun u w => .bl (decide (w < u))) rfl)
theorem t_geS (ha : E X a σ H (Tx u)) (hb : E X b σ H (Tx w)) : ET X (.Compare a [.GtE] [b] pos) σ H (!decide (u < w)) := t_cmp op_ge_str ha hb (rv_str (g := fun u w => .bl (!decide (u < w))) rfl)
theorem e_catS (ha : E X a σ H (Tx u)) (hb : E X b σ H (Tx w)) (h : u.length + w.length ≤ 100000) : E X (.BinOp a .Add b pos) σ H (Tx (u ++ w)) := e_bin op_add_str ha hb fun H1 _ Q q => ⟨_, _, rfl, rfl, by
  rw [tx_len, tx_len]
  exact sz_of h, by
  have e : (⟨u.toArray⟩ : Str) ++ (⟨w.toArray⟩ : Str) = ⟨(u ++ w).toArray⟩ := congrArg Str.mk (show u.toArray ++ w.toArray = (u ++ w).toArray by simp)
  rw [e]
  exact q H1 (Ex.refl H1)⟩
/-- so many times -/
def reps (k : Nat) (u : List Nat) : List Nat := (List.replicate k u).flatten
theorem fold_app (u : List Nat) : ∀ (k : Nat) (acc : Array Nat), List.foldl (fun x1 x2 => x1 ++ x2) acc (List.replicate k u.toArray) = acc ++ (reps k u).toArray
  | 0, acc => by simp [reps]
  | k + 1, acc => by
    rw [List.replicate_succ, List.foldl_cons, fold_app u k]
    unfold reps
    rw [List.replicate_succ, List.flatten_cons]
    simp
theorem mul_tx (u : List Nat) (k : Nat) : Txt.mul ⟨u.toArray⟩ (k : Int) = ⟨(reps k u).toArray⟩ := by
  unfold Txt.mul
  by_cases h0 : k = 0
  · subst h0
    rfl
  · rw [if_neg (by omega)]
    by_cases h1 : ((k : Int) == 1 || (⟨u.toArray⟩ : Str).length == 0) = true
    · rw [if_pos h1]
      rw [tx_len] at h1
      simp only [Bool.or_eq_true, beq_iff_eq] at h1
      rcases h1 with h1 | h1
      · have : k = 1 := by omega
        subst this
        simp [reps]
      · have : u = [] := List.length_eq_zero_iff.mp h1
        subst this
        simp [reps]
    · rw [if_neg h1]
      have e := fold_app u k #[]
      simp only [Int.toNat_natCast]
      rw [e]
      simp
theorem op_mulS : OpR X (binaryOp .Mult) (fun x y H Q => ∃ (u : List Nat) (k : Nat), x = Tx u ∧ y = Nm k ∧ u.length ≤ 2000 ∧ k ≤ 2000 ∧ Q (Tx (reps k u)) H) := by
  intro pins s σ H x y v w Q I rx ry h
  obtain ⟨u, k, rfl, rfl, h1, h2, q⟩ := h
  obtain ⟨t, rfl⟩ := rx
  obtain ⟨t', rfl⟩ := ry
  refine SB.mul (mulOk_of 2000 2000 (by rw [tx_len]; exact h1) (by omega) (by omega) (by decide) (by decide)) fun t2 k2 => ?_
  rw [mul_tx]
  exact ⟨Tx (reps k u), H, I.tok _, ⟨_, rfl⟩, q⟩
theorem e_mulS (ha : E X a σ H (Tx u)) (hb : E X b σ H (Nm k)) (h1 : u.length ≤ 2000) (h2 : k ≤ 2000) : E X (.BinOp a .Mult b pos) σ H (Tx (reps k u)) := e_bin op_mulS ha hb fun H1 _ Q q => ⟨u, k, rfl, rfl, h1, h2, q H1 (Ex.refl H1)⟩

/-! ### slices of texts -/
theorem cut_both (w : List Nat) (i j : Nat) : cutS ⟨w.toArray⟩ (some (i : Int)) (some (j : Int)) = ⟨((w.drop i).take (j - i)).toArray⟩ := by
  unfold cutS
  rw [HT.sIx_nat, HT.sIx_nat, tx_len]
  simp only [List.toList_toArray]
  congr 2
  by_cases hi : i ≤ w.length
  · rw [Nat.min_eq_left hi]
    by_cases hj : j ≤ w.length
    · rw [Nat.min_eq_left hj]
    · rw [Nat.min_eq_right (by omega), List.take_of_length_le (by simp), List.take_of_length_le (by simp; omega)]
  · rw [Nat.min_eq_right (show w.length ≤ i by omega), List.drop_of_length_le (Nat.le_refl _), List.drop_of_length_le (show w.length ≤ i by omega)]
    simp
theorem cut_to (w : List Nat) (j : Nat) : cutS ⟨w.toArray⟩ none (some (j : Int)) = ⟨(w.take j).toArray⟩ := by
  unfold cutS
  rw [HT.sIx_nat, HT.sIx_none, tx_len]
  simp only [List.toList_toArray, List.drop_zero, Nat.sub_zero]
  congr 2
  by_cases hj : j ≤ w.length
  · rw [Nat.min_eq_left hj]
  · rw [Nat.min_eq_right (by omega), List.take_of_length_le (by omega), List.take_of_length_le (by omega)]
theorem cut_from (w : List Nat) (i : Nat) : cutS ⟨w.toArray⟩ (some (i : Int)) none = ⟨(w.drop i).toArray⟩ := by
  unfold cutS
  rw [HT.sIx_nat, HT.sIx_none, tx_len]
  simp only [List.toList_toArray]
  congr 2
  by_cases hi : i ≤ w.length
  · rw [Nat.min_eq_left hi, List.take_of_length_le (by simp)]
  · rw [Nat.min_eq_right (by omega), List.drop_of_length_le (by omega), List.drop_of_length_le (by omega)]
    simp
theorem ev_slS {tl th : TO} {lo hi : Option Int} (h : Ev te σ H (Tx w)) (h1 : EvO tl σ H lo) (h2 : EvO th σ H hi) (hw : w.length ≤ 100000) : Ev (tSl rSlS te tl th) σ H (.str (cutS ⟨w.toArray⟩ lo hi)) := fun H1 e _ q =>
  h H1 e _ fun H2 e2 => h1 H2 (e.trans e2) _ fun H3 e3 => h2 H3 ((e.trans e2).trans e3) _ fun H4 e4 => ⟨_, rfl, by rw [tx_len]; exact sz_of hw, q H4 ((e2.trans e3).trans e4)⟩
theorem e_sl {p2 : Pos} (he : E X e σ H (Tx w)) (ha : E X a σ H (Nm i')) (hb : E X b σ H (Nm j')) (hw : w.length ≤ 100000) : E X (.Subscript e (.Slice (some a) (some b) none p2) pos) σ H (Tx ((w.drop i').take (j' - i'))) :=
  E.is (E.of (pe_slice sl_str pE (po_some pE) (po_some pE)) (ev_slS he (eo_some ha) (eo_some hb) hw)) (by rw [cut_both])
theorem e_slTo {p2 : Pos} (he : E X e σ H (Tx w)) (hb : E X b σ H (Nm j')) (hw : w.length ≤ 100000) : E X (.Subscript e (.Slice none (some b) none p2) pos) σ H (Tx (w.take j')) :=
  E.is (E.of (pe_slice sl_str pE po_none (po_some pE)) (ev_slS he eo_none (eo_some hb) hw)) (by rw [cut_to])
theorem e_slFrom {p2 : Pos} (he : E X e σ H (Tx w)) (ha : E X a σ H (Nm i')) (hw : w.length ≤ 100000) : E X (.Subscript e (.Slice (some a) none none p2) pos) σ H (Tx (w.drop i')) :=
  E.is (E.of (pe_slice sl_str pE (po_some pE) po_none) (ev_slS he (eo_some ha) eo_none hw)) (by rw [cut_from])
theorem e_ixS (ha : E X a σ H (Tx w)) (hb : E X b σ H (Nm k)) (hk : w[k]? = some n) (hw : w.length ≤ 100000) (hs : PlainIx b := by exact fun _ _ => rfl) : E X (.Subscript a b pos) σ H (Tx [n]) :=
  E.of (pe_ix ix_str pE pE hs) (ev_op ha hb (rv_ixS (by rw [tx_len]; exact hw) (by simpa using atI_nat hk)))
/-- x[::-1] -/
def tRevS (te : TE) : TE := fun σ H Q => te σ H fun x H1 => ∃ w : List Nat, x = Tx w ∧ w.length ≤ 100000 ∧ Q (Tx w.reverse) H1
theorem picked_rev' (n : Nat) : Builtin.Str.strSliceIndices none none (-1) n = (List.range n).map fun k => n - 1 - k := picked_rev n
theorem filterMap_some {α β : Type} {f : α → Option β} {g : α → β} : ∀ {l : List α}, (∀ x ∈ l, f x = some (g x)) → l.filterMap f = l.map g
  | [], _ => rfl
  | x :: l, h => by
    rw [List.filterMap_cons, h x List.mem_cons_self, List.map_cons, filterMap_some fun y hy => h y (List.mem_cons_of_mem _ hy)]
theorem rev_picked {α : Type} (w : List α) : ((Builtin.Str.strSliceIndices none none (-1) w.length).filterMap (w.toArray[·]?)) = w.reverse := by
  cases w with
  | nil => rfl
  | cons d w' =>
  generalize hw : d :: w' = w
  rw [picked_rev', List.filterMap_map, filterMap_some (g := fun k => w.getD (w.length - 1 - k) d) fun x hx => ?_]
  · apply List.ext_getElem?
    intro k
    by_cases hk : k < w.length
    · rw [List.getElem?_map, List.getElem?_range hk, List.getElem?_reverse hk]
      have h2 : w.length - 1 - k < w.length := by omega
      simp [h2]
    · rw [List.getElem?_eq_none (by simp; omega), List.getElem?_eq_none (by simp; omega)]
  · have hx := List.mem_range.mp hx
    have h2 : w.length - 1 - x < w.length := by omega
    simp [h2]
theorem pe_revS {k : Nat} {p1 p2 p3 : Pos} (he : PE X e te) : PE X (.Subscript e (.Slice none none (some (.UnaryOp .USub (.Constant (.int 1) k p1) p2)) p3) pos) (tRevS te) := by
  refine ⟨fun pins s σ H Q I h => ?_⟩
  refine Subscript_ (thn (he.run pins s σ H _ I h) fun v s1 ⟨x, H1, I1, r1, q1⟩ => ?_)
  obtain ⟨w, ex, hw, q⟩ := q1
  subst ex
  obtain ⟨t, rfl⟩ := r1
  have hst : PO X (some (.UnaryOp .USub (.Constant (.int 1) k p1) p2)) (tPart (tUn (rU fun i => .int (-i)) (tC (.int 1)))) := po_some (pe_un un_neg pe_int)
  refine wpAny_Slice (thn (po_none.run pins s1 σ H1 (fun o H2 => o = none ∧ H2 = H1) I1 ⟨rfl, rfl⟩) fun vl s2 ⟨l, H2, I2, pl, el, e2⟩ => ?_)
  subst el e2
  refine thn (po_none.run pins s2 σ H2 (fun o H3 => o = none ∧ H3 = H2) I2 ⟨rfl, rfl⟩) fun vu s3 ⟨u, H3, I3, pu, eu, e3⟩ => ?_
  subst eu e3
  refine thn (hst.run pins s3 σ H3 (fun o H4 => o = some (-1) ∧ H4 = H3) I3 ⟨1, rfl, -1, rfl, rfl, rfl⟩) fun vs s4 ⟨o, H4, I4, ps, eo, e4⟩ => ?_
  subst eo e4
  obtain ⟨l', rfl, hl⟩ := IsPart.raw pl
  obtain ⟨u', rfl, hu⟩ := IsPart.raw pu
  obtain ⟨st', rfl, hs⟩ := IsPart.raw ps
  have el : l' = none := by cases l' <;> simp_all
  have eu : u' = none := by cases u' <;> simp_all
  subst el eu
  obtain ⟨tk, rfl⟩ : ∃ tk, st' = some (-1, tk) := by
    cases st' with
    | none => simp at hs
    | some p => exact ⟨p.2, by simp at hs; cases p; simp_all⟩
  have I5 : Inv X pins σ H4 { s4 with heap := s4.heap.push { cls := .type "slice", data := .fields #[partValue none, partValue none, partValue (some (-1, tk))] } } := I4.kept (t' := s4.toks) fun b ob q => Heap.get?_push_of_some _ q
  show wpAny (model X.prog X.w) X.A (subscriptTail e (.Slice none none (some (.UnaryOp .USub (.Constant (.int 1) k p1) p2)) p3) (.str ⟨w.toArray⟩ t) (.ref s4.heap.objs.size)) (EP X pins σ Q) X.xe { s4 with heap := s4.heap.push { cls := .type "slice", data := .fields #[partValue none, partValue none, partValue (some (-1, tk))] } }
  refine tail_any (ops := [.str ⟨w.toArray⟩ t, .ref s4.heap.objs.size]) (typeIs_str _ _ _) F.slot_str_getitem.lookup ?_ (by with_unfolding_all rfl)
  refine wpAny_getItem_str_slice (l := none) (u := none) (st := some (-1, tk)) ⟨_, Heap.get?_push_size _ rfl, rfl, rfl⟩ rfl ?_
  show Made.post (if ((-1 : Int) == 1 && _) = true then _ else Made.str ⟨((Builtin.Str.strSliceIndices none none (-1) (⟨w.toArray⟩ : Str).length).filterMap (w.toArray[·]?)).toArray⟩) _ _
  rw [if_neg (by simp), tx_len, rev_picked]
  exact ⟨by rw [tx_len, List.length_reverse]; exact sz_of hw, Tx w.reverse, H4, I5.tok _, ⟨_, rfl⟩, q⟩
theorem e_revS {k : Nat} {p1 p2 p3 : Pos} (he : E X e σ H (Tx w)) (hw : w.length ≤ 100000) : E X (.Subscript e (.Slice none none (some (.UnaryOp .USub (.Constant (.int 1) k p1) p2)) p3) pos) σ H (Tx w.reverse) :=
  E.of (pe_revS pE) fun H1 a Q k => he H1 a _ fun H2 e2 => ⟨w, rfl, hw, k H2 e2⟩
end
end Wx
namespace Wx
open PySem PySem.Spec PyProof.Rows L2 Evl
section
variable {X : Cx} {e a b c : Expr} {es rest : List Expr} {σ : L2.St} {H : Hp} {v x y z : V} {te : TE} {tt : TT} {ta : TA} {xs ys vs : List V} {pos : Pos} {u w : List Nat} {i j : Int} {m n k : Nat}

/-! ### tests, and, or, not, a if t else b -/
/-- an expression that gives a bool, as a test (a call, a name, an item) -/
theorem t_val {p : Bool} (h : E X e σ H (.bl p)) (he : ∀ whole, isTrue e X.env whole = (do let v ← whole; standAt e.pos; holding [v] (truthy v)) := by intro _; rfl) : ET X e σ H p := ET.of (pt_val pE he) (et_B h)
theorem t_not {p : Bool} (h : ET X e σ H p) : ET X (.UnaryOp .Not e pos) σ H (!p) := ET.of (pt_not pT) (et_not h)
theorem w_and1 {p : Bool} (h : ET X a σ H p) : EW X (.BoolOp .And [a] pos) σ H p := EW.of (pw_and1 pT) h
theorem w_or1 {p : Bool} (h : ET X a σ H p) : EW X (.BoolOp .Or [a] pos) σ H p := EW.of (pw_or1 pT) h
theorem w_and {p q : Bool} (h : ET X a σ H p) (h2 : p = true → EW X (.BoolOp .And (b :: rest) pos) σ H q) : EW X (.BoolOp .And (a :: b :: rest) pos) σ H (p && q) := EW.of (pw_and pT pW) (et_and h h2)
theorem w_or {p q : Bool} (h : ET X a σ H p) (h2 : p = false → EW X (.BoolOp .Or (b :: rest) pos) σ H q) : EW X (.BoolOp .Or (a :: b :: rest) pos) σ H (p || q) := EW.of (pw_or pT pW) (et_or h h2)
theorem EW.is {p q : Bool} (h : EW X e σ H p) (eq : p = q) : EW X e σ H q := eq ▸ h
/-- values -/
theorem e_one {op} (h : E X a σ H v) : E X (.BoolOp op [a] pos) σ H v := E.of (pe_one pE) h
theorem e_and {p q : Bool} (h : E X a σ H (.bl p)) (h2 : p = true → E X (.BoolOp .And (b :: rest) pos) σ H (.bl q)) : E X (.BoolOp .And (a :: b :: rest) pos) σ H (.bl (p && q)) := E.of (pe_and pE pE) (ev_andV h h2)
theorem e_or {p q : Bool} (h : E X a σ H (.bl p)) (h2 : p = false → E X (.BoolOp .Or (b :: rest) pos) σ H (.bl q)) : E X (.BoolOp .Or (a :: b :: rest) pos) σ H (.bl (p || q)) := E.of (pe_or pE pE) (ev_orV h h2)
theorem e_not {p : Bool} (h : E X a σ H (.bl p)) : E X (.UnaryOp .Not a pos) σ H (.bl (!p)) := E.of (pe_not pE) (ev_notV h)
theorem e_if {p : Bool} (h : ET X c σ H p) (h1 : p = true → E X a σ H v) (h2 : p = false → E X b σ H v) : E X (.IfExp c a b pos) σ H v := E.of (pe_ifExp pT pE pE) (ev_if h h1 h2)
/-- is True, is not True -/
theorem rv_isB {p q : Bool} : RV rIsB (.bl p) (.bl q) H (.bl (decide (p = q))) := fun H1 _ _ k => ⟨p, q, rfl, rfl, k H1 (Ex.refl H1)⟩
theorem rv_notB {p q : Bool} : RV rNotB (.bl p) (.bl q) H (.bl (!decide (p = q))) := fun H1 _ _ k => ⟨p, q, rfl, rfl, k H1 (Ex.refl H1)⟩
theorem e_isB {p q : Bool} (ha : E X a σ H (.bl p)) (hb : E X b σ H (.bl q)) : E X (.Compare a [.Is] [b] pos) σ H (.bl (decide (p = q))) := e_cmp op_isBl ha hb rv_isB
theorem t_notB {p q : Bool} (ha : E X a σ H (.bl p)) (hb : E X b σ H (.bl q)) : ET X (.Compare a [.IsNot] [b] pos) σ H (!decide (p = q)) := t_cmp op_notBl ha hb rv_notB
/-- a op b op' c -/
theorem ev_chain {r r' : R2} {ta tb tc : TE} {p : Bool} {s : V} (ha : Ev ta σ H x) (hb : Ev tb σ H y) (hr : RV r x y H (.bl p)) (hc : p = true → Ev tc σ H s) (hr' : p = true → RV r' y s H z) (hz : p = false → z = .bl false) : Ev (tChain r r' ta tb tc) σ H z := fun H1 e Q k =>
  ha H1 e _ fun H2 e2 => hb H2 (e.trans e2) _ fun H3 e3 => hr H3 ((e.trans e2).trans e3) _ fun H4 e4 => ⟨p, rfl, by
    cases p with
    | true =>
      show tc σ H4 _
      exact hc rfl H4 (((e.trans e2).trans e3).trans e4) _ fun H5 e5 => hr' rfl H5 ((((e.trans e2).trans e3).trans e4).trans e5) Q fun H6 e6 => k H6 ((((e2.trans e3).trans e4).trans e5).trans e6)
    | false =>
      show Q (.bl false) H4
      rw [← hz rfl]
      exact k H4 ((e2.trans e3).trans e4)⟩
theorem e_chain {op op' : CmpOp} {r r' : R2} {p : Bool} {s : V} (ho : OpR X (compareOp op) r) (ho' : OpR X (compareOp op') r') (ha : E X a σ H x) (hb : E X b σ H y) (hr : RV r x y H (.bl p)) (hc : p = true → E X c σ H s) (hr' : p = true → RV r' y s H z) (hz : p = false → z = .bl false) (hm : lastMarks [op, op'] [b, c] = false := by with_unfolding_all rfl) :
    E X (.Compare a [op, op'] [b, c] pos) σ H z := E.of (pe_chain ho ho' pE pE pE hm) (ev_chain ha hb hr hc hr' hz)

/-! ### arguments, calls of built-ins -/
/-- no star -/
abbrev NS (X : Cx) (e : Expr) : Prop := ∀ es : List Expr, starEach (e :: es) X.env = (false, eval e X.env) :: starEach es X.env
theorem a_nil : EA X [] σ H [] := EA.of pa_nil ea_nil
theorem a_cons (h : E X e σ H v) (hr : EA X es σ H vs) (ns : NS X e := by exact fun _ => rfl) : EA X (e :: es) σ H (v :: vs) := EA.of (pa_cons pE pA (ns es)) (ea_cons h hr)
theorem a_one (h : E X e σ H v) (ns : NS X e := by exact fun _ => rfl) : EA X [e] σ H [v] := a_cons h a_nil ns
/-- a call of one argument, told by a relation -/
theorem ev_cb1 {r : List V → Hp → VK → Prop} {R : V → Hp → Prop} (h : EvR te σ H R) (hr : ∀ v H1, Ex H H1 → R v H1 → ∀ Q : VK, (∀ H2, Ex H1 H2 → Q z H2) → r [v] H1 Q) : Ev (tCB r (tCons te tNil)) σ H z := fun H1 e Q q =>
  h H1 e _ fun v H2 e2 hR => hr v H2 (e.trans e2) hR Q fun H3 e3 => q H3 (e2.trans e3)
theorem el_cb1 {r : List V → Hp → VK → Prop} {R : V → Hp → Prop} (h : EvR te σ H R) (hr : ∀ v H1, Ex H H1 → R v H1 → ∀ Q : VK, (∀ p H2, H1 p = none → Ex H1 H2 → H2 p = some (.lst xs) → Q (.ref p) H2) → r [v] H1 Q) : EvL (tCB r (tCons te tNil)) σ H xs := fun H1 e Q q =>
  h H1 e _ fun v H2 e2 hR => hr v H2 (e.trans e2) hR Q fun p H3 hp e3 h3 => q p H3 (fresh_back e2 hp) (e2.trans e3) h3
theorem eu_cb1 {r : List V → Hp → VK → Prop} {R : V → Hp → Prop} (h : EvR te σ H R) (hr : ∀ v H1, Ex H H1 → R v H1 → ∀ Q : VK, (∀ p H2, H1 p = none → Ex H1 H2 → H2 p = some (.tup xs) → Q (.ref p) H2) → r [v] H1 Q) : EvU (tCB r (tCons te tNil)) σ H xs := fun H1 e Q q =>
  h H1 e _ fun v H2 e2 hR => hr v H2 (e.trans e2) hR Q fun p H3 hp e3 h3 => q p H3 (fresh_back e2 hp) (e2.trans e3) h3
theorem e_lenS {p : Pos} (he : E X e σ H (Tx w)) (hm : X.mg "len" = none) (hw : w.length ≤ 100000) (hg : Gl X "len" := by rfl) (ns : NS X e := by exact fun _ => rfl) : E X (.Call (.Name "len" p) [e] [] pos) σ H (Nm w.length) :=
  E.of (pe_callB call_len_str hg hm PySem.boot_len (pa_cons pE pa_nil (ns [])) (he := ns [])) (ev_cb1 (E.r he) fun v H1 _ hv Q q => ⟨⟨w.toArray⟩, by rw [hv], by rw [tx_len]; exact sz_of hw, by rw [tx_len]; exact q H1 (Ex.refl H1)⟩)
theorem e_lenL {p : Pos} (he : ER X e σ H (isL X.K xs)) (hm : X.mg "len" = none) (hg : Gl X "len" := by rfl) (ns : NS X e := by exact fun _ => rfl) : E X (.Call (.Name "len" p) [e] [] pos) σ H (Nm xs.length) :=
  E.of (pe_callB call_len_seq hg hm PySem.boot_len (pa_cons pE pa_nil (ns [])) (he := ns [])) (ev_cb1 he fun v H1 _ hv Q q => let ⟨p, e, hs⟩ := hv; ⟨p, xs, by rw [e], .inl hs, q H1 (Ex.refl H1)⟩)
theorem e_lenT {p : Pos} (he : ER X e σ H (isT X.K xs)) (hm : X.mg "len" = none) (hg : Gl X "len" := by rfl) (ns : NS X e := by exact fun _ => rfl) : E X (.Call (.Name "len" p) [e] [] pos) σ H (Nm xs.length) :=
  E.of (pe_callB call_len_seq hg hm PySem.boot_len (pa_cons pE pa_nil (ns [])) (he := ns [])) (ev_cb1 he fun v H1 _ hv Q q => let ⟨p, e, hs⟩ := hv; ⟨p, xs, by rw [e], .inr hs, q H1 (Ex.refl H1)⟩)
theorem e_sum {p : Pos} {zs : List Int} (hc : X.calm = true) (he : ER X e σ H (isL X.K (zs.map V.int))) (hm : X.mg "sum" = none) (hg : Gl X "sum" := by rfl) (ns : NS X e := by exact fun _ => rfl) : E X (.Call (.Name "sum" p) [e] [] pos) σ H (.int zs.sum) :=
  E.of (pe_callB (cr_sum hc) hg hm (by decide +kernel) (pa_cons pE pa_nil (ns [])) (he := ns [])) (ev_cb1 he fun v H1 _ hv Q q => let ⟨p, e, hs⟩ := hv; ⟨p, zs, by rw [e], hs, q H1 (Ex.refl H1)⟩)
theorem e_all {p : Pos} {bs : List Bool} (hc : X.calm = true) (he : ER X e σ H (isL X.K (bs.map V.bl))) (hm : X.mg "all" = none) (hg : Gl X "all" := by rfl) (ns : NS X e := by exact fun _ => rfl) : E X (.Call (.Name "all" p) [e] [] pos) σ H (.bl (bs.all id)) :=
  E.of (pe_callB (cr_all hc) hg hm (by decide +kernel) (pa_cons pE pa_nil (ns [])) (he := ns [])) (ev_cb1 he fun v H1 _ hv Q q => let ⟨p, e, hs⟩ := hv; ⟨p, bs, by rw [e], hs, q H1 (Ex.refl H1)⟩)
theorem e_maxL {p : Pos} {zs : List Int} (hc : X.calm = true) (he : ER X e σ H (isL X.K (zs.map V.int))) (h1 : i ∈ zs) (h2 : ∀ y, y ∈ zs → y ≤ i) (hm : X.mg "max" = none) (hg : Gl X "max" := by rfl) (ns : NS X e := by exact fun _ => rfl) : E X (.Call (.Name "max" p) [e] [] pos) σ H (.int i) :=
  E.of (pe_callB (cr_max hc) hg hm (by decide +kernel) (pa_cons pE pa_nil (ns [])) (he := ns [])) (ev_cb1 he fun v H1 _ hv Q q => let ⟨p, e, hs⟩ := hv; ⟨p, zs, by rw [e], hs, List.length_pos_of_mem h1, fun m a1 a2 => by
    have : m = i := Int.le_antisymm (h2 m a1) (a2 i h1)
    rw [this]
    exact q H1 (Ex.refl H1)⟩)
theorem e_minL {p : Pos} {zs : List Int} (hc : X.calm = true) (he : ER X e σ H (isL X.K (zs.map V.int))) (h1 : i ∈ zs) (h2 : ∀ y, y ∈ zs → i ≤ y) (hm : X.mg "min" = none) (hg : Gl X "min" := by rfl) (ns : NS X e := by exact fun _ => rfl) : E X (.Call (.Name "min" p) [e] [] pos) σ H (.int i) :=
  E.of (pe_callB (cr_min hc) hg hm (by decide +kernel) (pa_cons pE pa_nil (ns [])) (he := ns [])) (ev_cb1 he fun v H1 _ hv Q q => let ⟨p, e, hs⟩ := hv; ⟨p, zs, by rw [e], hs, List.length_pos_of_mem h1, fun m a1 a2 => by
    have : m = i := Int.le_antisymm (a2 i h1) (h2 m a1)
    rw [this]
    exact q H1 (Ex.refl H1)⟩)
theorem e_max2 {p : Pos} (hc : X.calm = true) (ha : E X a σ H (.int i)) (hb : E X b σ H (.int j)) (hm : X.mg "max" = none) (hg : Gl X "max" := by rfl) (ns : NS X a := by exact fun _ => rfl) (ns2 : NS X b := by exact fun _ => rfl) (hpl : (backTo pos (starEach [b] X.env)).any (·.1) = false := by rfl) : E X (.Call (.Name "max" p) [a, b] [] pos) σ H (.int (if j > i then j else i)) :=
  E.of (pe_callB (call_max2 hc) hg hm (by decide +kernel) (pa_cons pE (pa_cons pE pa_nil (ns2 [])) (ns [b])) (he := ns [b]) (hpl := hpl)) (ev_cb (ea_cons ha (ea_cons hb ea_nil)) fun H1 _ Q q => ⟨i, j, rfl, q H1 (Ex.refl H1)⟩)
theorem e_min2 {p : Pos} (hc : X.calm = true) (ha : E X a σ H (.int i)) (hb : E X b σ H (.int j)) (hm : X.mg "min" = none) (hg : Gl X "min" := by rfl) (ns : NS X a := by exact fun _ => rfl) (ns2 : NS X b := by exact fun _ => rfl) (hpl : (backTo pos (starEach [b] X.env)).any (·.1) = false := by rfl) : E X (.Call (.Name "min" p) [a, b] [] pos) σ H (.int (if j < i then j else i)) :=
  E.of (pe_callB (call_min2 hc) hg hm (by decide +kernel) (pa_cons pE (pa_cons pE pa_nil (ns2 [])) (ns [b])) (he := ns [b]) (hpl := hpl)) (ev_cb (ea_cons ha (ea_cons hb ea_nil)) fun H1 _ Q q => ⟨i, j, rfl, q H1 (Ex.refl H1)⟩)
theorem e_intI {p : Pos} (ha : E X a σ H (.int i)) (hm : X.mg "int" = none) (hg : Gl X "int" := by rfl) (ns : NS X a := by exact fun _ => rfl) : E X (.Call (.Name "int" p) [a] [] pos) σ H (.int i) :=
  E.of (pe_callTy call_int1 hg hm (by decide +kernel) (pa_cons pE pa_nil (ns [])) (he := ns [])) (ev_cb (ea_cons ha ea_nil) fun H1 _ Q q => .inl ⟨i, rfl, q H1 (Ex.refl H1)⟩)
/-- tuple(list) -/
theorem u_tuple {p : Pos} (he : ER X e σ H (isL X.K xs)) (hm : X.mg "tuple" = none) (hg : Gl X "tuple" := by rfl) (ns : NS X e := by exact fun _ => rfl) : EU X (.Call (.Name "tuple" p) [e] [] pos) σ H xs :=
  EU.of (pe_callTy call_tuple_of hg hm (by decide +kernel) (pa_cons pE pa_nil (ns [])) (he := ns [])) (eu_cb1 he fun v H1 _ hv Q q => let ⟨p, e, hs⟩ := hv; ⟨p, xs, by rw [e], .inl ⟨hs, fun l hl => q l _ hl (Ex.new hl) upd_same⟩⟩)

/-! ### lists and tuples: displays, items, slices -/
theorem l_disp (h : EA X es σ H vs) (hl : vs.length ≤ 100000) : EL X (.List es pos) σ H vs := EL.of (pe_lst pA) fun H1 e Q q => h H1 e _ fun H2 e2 => ⟨sz_of hl, fun p hp => q p _ (fresh_back e2 hp) (e2.trans (Ex.new hp)) upd_same⟩
theorem u_disp {kt} (h : EA X es σ H vs) (hl : vs.length ≤ 100000) : EU X (.Tuple es kt pos) σ H vs := EU.of (pe_tup pA) (eu_tup h hl)
theorem e_ixL (ha : ER X a σ H (isL X.K xs)) (hb : E X b σ H (.int i)) (hv : atI xs i = some v) (hs : PlainIx b := by exact fun _ _ => rfl) : E X (.Subscript a b pos) σ H v :=
  E.of (pe_ix ix_list pE pE hs) (evr_op ha isLS (E.r hb) fun v u H1 _ hl hu => by
    subst hu
    obtain ⟨p, rfl, hl⟩ := hl
    exact rv_ixL hl hv)
theorem e_ixT (ha : ER X a σ H (isT X.K xs)) (hb : E X b σ H (.int i)) (hv : atI xs i = some v) (hs : PlainIx b := by exact fun _ _ => rfl) : E X (.Subscript a b pos) σ H v :=
  E.of (pe_ix ix_tup pE pE hs) (evr_op ha isTS (E.r hb) fun v u H1 _ hl hu => by
    subst hu
    obtain ⟨p, rfl, hl⟩ := hl
    exact rv_ixT hl hv)
theorem eu_slT {tl th : TO} {K : PySem.W.Frag} {lo hi : Option Int} (h : EvR te σ H (isT K xs)) (h1 : EvO tl σ H lo) (h2 : EvO th σ H hi) (hw : ¬ (HT.sIx xs.length 0 lo = 0 ∧ HT.sIx xs.length xs.length hi = xs.length)) : EvU (tSl (rSlT K) te tl th) σ H (cutV xs lo hi) := fun H1 e _ q =>
  h H1 e _ fun v H2 e2 hv => h1 H2 (e.trans e2) _ fun H3 e3 => h2 H3 ((e.trans e2).trans e3) _ fun H4 e4 => by
    obtain ⟨a, rfl, hs⟩ := hv
    exact ⟨a, xs, rfl, ex_t (e3.trans e4) hs, hw, fun p hp => q p _ (fresh_back ((e2.trans e3).trans e4) hp) (((e2.trans e3).trans e4).trans (Ex.new hp)) upd_same⟩
theorem cutV_to (xs : List V) (k : Nat) : cutV xs none (some (k : Int)) = xs.take k := by
  unfold cutV
  rw [HT.sIx_nat, HT.sIx_none, List.drop_zero, Nat.sub_zero]
  by_cases hj : k ≤ xs.length
  · rw [Nat.min_eq_left hj]
  · rw [Nat.min_eq_right (by omega), List.take_of_length_le (by omega), List.take_of_length_le (by omega)]
theorem cutV_from (xs : List V) (k : Nat) : cutV xs (some (k : Int)) none = xs.drop k := by
  unfold cutV
  rw [HT.sIx_nat, HT.sIx_none]
  by_cases hi : k ≤ xs.length
  · rw [Nat.min_eq_left hi, List.take_of_length_le (by simp)]
  · rw [Nat.min_eq_right (by omega), List.drop_of_length_le (by omega), List.drop_of_length_le (by omega)]
    simp
theorem u_slTo {p2 : Pos} (he : ER X e σ H (isT X.K xs)) (hb : E X b σ H (Nm k)) (hk : k < xs.length) : EU X (.Subscript e (.Slice none (some b) none p2) pos) σ H (xs.take k) := by
  have h : EU X (.Subscript e (.Slice none (some b) none p2) pos) σ H (cutV xs none (some (k : Int))) := EU.of (pe_slice sl_tup pE po_none (po_some pE)) (eu_slT he eo_none (eo_some hb) (by rw [HT.sIx_nat]; omega))
  rwa [cutV_to] at h
theorem u_slFrom {p2 : Pos} (he : ER X e σ H (isT X.K xs)) (ha : E X a σ H (Nm k)) (hk : 0 < k) (hk2 : k ≤ xs.length) : EU X (.Subscript e (.Slice (some a) none none p2) pos) σ H (xs.drop k) := by
  have h : EU X (.Subscript e (.Slice (some a) none none p2) pos) σ H (cutV xs (some (k : Int)) none) := EU.of (pe_slice sl_tup pE (po_some pE) po_none) (eu_slT he (eo_some ha) eo_none (by rw [HT.sIx_nat]; omega))
  rwa [cutV_from] at h
end
end Wx
namespace Wx
open PySem PySem.Spec PyProof.Rows L2 Evl

/-! ### what a loop walks: the items vs, while the heap only grows -/
structure Src (J : It) (vs : List V) (H : Hp) : Prop where
  go : ∀ i H', Ex H H' → i < vs.length → J.go i H'
  stop : ∀ H', Ex H H' → J.stop vs.length H'
  yld : ∀ i H' x H'', Ex H H' → J.yld i H' x H'' → i < vs.length → H'' = H' ∧ vs[i]? = some x
theorem Src.mono {J : It} {vs : List V} {H H1 : Hp} (s : Src J vs H) (e : Ex H H1) : Src J vs H1 := ⟨fun i H' e' => s.go i H' (e.trans e'), fun H' e' => s.stop H' (e.trans e'), fun i H' x H'' e' => s.yld i H' x H'' (e.trans e')⟩
theorem src_l {K : PySem.W.Frag} {a : Addr} {vs : List V} {H : Hp} (h : SqL K H a vs) : Src (Itl K a) vs H :=
  ⟨fun i H' e hi => ⟨vs, vs[i], ex_l e h, List.getElem?_eq_getElem hi⟩, fun H' e => ⟨vs, ex_l e h, Nat.le_refl _⟩, fun i H' x H'' e y _ => ⟨y.1, y.2 vs (ex_l e h)⟩⟩
theorem src_t {K : PySem.W.Frag} {a : Addr} {vs : List V} {H : Hp} (h : SqT K H a vs) : Src (Itt K a) vs H :=
  ⟨fun i H' e hi => ⟨vs, vs[i], ex_t e h, List.getElem?_eq_getElem hi⟩, fun H' e => ⟨vs, ex_t e h, Nat.le_refl _⟩, fun i H' x H'' e y _ => ⟨y.1, y.2 vs (ex_t e h)⟩⟩
/-- lo, lo + 1, .. -/
def rng (lo n : Nat) : List V := (List.range' lo n).map Nm
theorem rng_len (lo n : Nat) : (rng lo n).length = n := by simp [rng]
theorem rng_get {lo n i : Nat} (h : i < n) : (rng lo n)[i]? = some (Nm (lo + i)) := by
  unfold rng
  rw [List.getElem?_map, List.getElem?_range' h]
  simp
theorem src_r {lo n : Nat} {H : Hp} : Src (Itr (lo : Int) n) (rng lo n) H :=
  ⟨fun i H' _ hi => by rw [rng_len] at hi; exact hi, fun H' _ => by rw [rng_len]; exact Nat.le_refl _, fun i H' x H'' _ y hi => ⟨y.1, by
    rw [rng_len] at hi
    rw [rng_get hi, y.2]
    congr 1⟩⟩
theorem src_s {w : List Nat} {H : Hp} : Src (Its ⟨w.toArray⟩) (w.map fun c => Tx [c]) H :=
  ⟨fun i H' _ hi => by
    show i < w.toArray.size
    simpa using hi, fun H' _ => by simp [Its], fun i H' x H'' _ y hi => ⟨y.1, by
    obtain ⟨c, hc, rfl⟩ := y.2
    have hc : w.toArray[i]? = some c := hc
    rw [List.getElem?_map]
    simp at hc
    rw [hc]
    rfl⟩⟩
/-- a source that nothing can change -/
structure SrcC (J : It) (vs : List V) : Prop where
  go : ∀ i H', i < vs.length → J.go i H'
  stop : ∀ H', J.stop vs.length H'
  yld : ∀ i H' x H'', J.yld i H' x H'' → i < vs.length → H'' = H' ∧ vs[i]? = some x
theorem SrcC.src {J : It} {vs : List V} {H : Hp} (s : SrcC J vs) : Src J vs H := ⟨fun i H' _ => s.go i H', fun H' _ => s.stop H', fun i H' x H'' _ => s.yld i H' x H''⟩
theorem src_rc {lo n : Nat} : SrcC (Itr (lo : Int) n) (rng lo n) :=
  ⟨fun i H' hi => by rw [rng_len] at hi; exact hi, fun H' => by rw [rng_len]; exact Nat.le_refl _, fun i H' x H'' y hi => ⟨y.1, by
    rw [rng_len] at hi
    rw [rng_get hi, y.2]
    congr 1⟩⟩
/-- the reading of what is walked -/
def EvI (wi : TI) (σ : L2.St) (H : Hp) (vs : List V) : Prop := ∀ H1, Ex H H1 → ∀ R : It → Hp → Prop, (∀ J H2, Ex H1 H2 → Src J vs H2 → R J H2) → wi σ H1 R
section
variable {X : Cx} {e a b c tg : Expr} {es rest : List Expr} {σ : L2.St} {H : Hp} {v x y z : V} {te : TE} {tt : TT} {ta : TA} {xs ys vs : List V} {pos : Pos} {u w : List Nat} {i j : Int} {m n k lo : Nat}
theorem EvI.mono {wi : TI} {H' : Hp} (e : Ex H H') (h : EvI wi σ H vs) : EvI wi σ H' vs := fun H1 a => h H1 (e.trans a)
/-- what e, walked, gives: the judgement -/
structure EI (X : Cx) (tg e : Expr) (σ : L2.St) (H : Hp) (vs : List V) : Prop where
  ex : ∃ wi, PI X tg e wi ∧ EvI wi σ H vs
def wI (X : Cx) (tg e : Expr) : TI := fun σ H R => ∀ pins s, Inv X pins σ H s → wpAny (model X.prog X.w) X.A (eval e X.env) (fun v s1 => wpAny (model X.prog X.w) X.A (pyIter v) (PIE X pins σ tg R) X.xe s1) X.xe s
theorem pI : PI X tg e (wI X tg e) := ⟨fun pins s _ _ _ I h => h pins s I⟩
theorem EI.ev (h : EI X tg e σ H vs) : EvI (wI X tg e) σ H vs := by
  obtain ⟨wi, hp, hi⟩ := h.ex
  exact fun H1 a R k pins s I => hp.run pins s σ H1 R I (hi H1 a R k)
theorem i_list (he : ER X e σ H (isL X.K vs)) : EI X tg e σ H vs := ⟨⟨_, pi_list pE, fun H1 a R k => he H1 a _ fun v H2 e2 hv => by
  obtain ⟨p, rfl, hs⟩ := hv
  exact ⟨p, rfl, ⟨vs, hs⟩, k _ H2 e2 (src_l hs)⟩⟩⟩
theorem i_tup (he : ER X e σ H (isT X.K vs)) : EI X tg e σ H vs := ⟨⟨_, pi_tup pE, fun H1 a R k => he H1 a _ fun v H2 e2 hv => by
  obtain ⟨p, rfl, hs⟩ := hv
  exact ⟨p, rfl, ⟨vs, hs⟩, k _ H2 e2 (src_t hs)⟩⟩⟩
theorem i_str (he : E X e σ H (Tx w)) : EI X tg e σ H (w.map fun c => Tx [c]) := ⟨⟨_, pi_str pE, fun H1 a R k => he H1 a _ fun H2 e2 => ⟨_, rfl, k _ H2 e2 src_s⟩⟩⟩
/-- .. that nothing can change -/
structure EIc (X : Cx) (tg e : Expr) (σ : L2.St) (H : Hp) (vs : List V) : Prop where
  ex : ∃ wi, PI X tg e wi ∧ ∀ H1, Ex H H1 → ∀ R : It → Hp → Prop, (∀ J H2, Ex H1 H2 → SrcC J vs → R J H2) → wi σ H1 R
theorem EIc.src (h : EIc X tg e σ H vs) : EI X tg e σ H vs := by
  obtain ⟨wi, hp, hi⟩ := h.ex
  exact ⟨wi, hp, fun H1 a R k => hi H1 a R fun J H2 e2 s => k J H2 e2 s.src⟩
theorem EIc.ev (h : EIc X tg e σ H vs) : ∀ H1, Ex H H1 → ∀ R : It → Hp → Prop, (∀ J H2, Ex H1 H2 → SrcC J vs → R J H2) → wI X tg e σ H1 R := by
  obtain ⟨wi, hp, hi⟩ := h.ex
  exact fun H1 a R k pins s I => hp.run pins s σ H1 R I (hi H1 a R k)
theorem i_r1 {p : Pos} (he : E X e σ H (Nm n)) (hm : X.mg "range" = none) (hn : n ≤ 100000) (hg : Gl X "range" := by rfl) (ns : NS X e := by exact fun _ => rfl) : EIc X tg (.Call (.Name "range" p) [e] [] pos) σ H (rng 0 n) :=
  ⟨⟨_, pi_range1 hg hm (pa_cons pE pa_nil (ns [])) (ns []), fun H1 a R k => he H1 a _ fun H2 e2 => ⟨(n : Int), rfl, by omega, by omega, by
    rw [Int.toNat_natCast]
    exact k _ H2 e2 (src_rc (lo := 0))⟩⟩⟩
/-- range(a, b): the number of its turns is j - lo, or none -/
theorem i_r2 {p : Pos} (ha : E X a σ H (Nm lo)) (hb : E X b σ H (.int j)) (hj : (j - (lo : Int)).toNat = n) (hm : X.mg "range" = none) (hl : lo ≤ 100000) (hn : j ≤ 100000) (hj0 : -100000 ≤ j) (hg : Gl X "range" := by rfl) (ns : NS X a := by exact fun _ => rfl) (ns2 : NS X b := by exact fun _ => rfl) : EIc X tg (.Call (.Name "range" p) [a, b] [] pos) σ H (rng lo n) :=
  ⟨⟨_, pi_range2 hg hm (pa_cons pE (pa_cons pE pa_nil (ns2 [])) (ns [b])) (by rw [ns, ns2]; rfl) (ns2 []), fun H1 e R k => ha H1 e _ fun H2 e2 => hb H2 (e.trans e2) _ fun H3 e3 => ⟨(lo : Int), j, rfl, ⟨by omega, by omega, by omega, by omega⟩, by
    rw [hj]
    exact k _ H3 (e2.trans e3) src_rc⟩⟩⟩

/-! ### comprehensions -/
/-- within the block -/
def wEb (X : Cx) (sc : Scope) (e : Expr) : TE := fun σ H Q => ∀ (s : Shared) (H0 : Hp) (C : Addr) (cl : List (Str × Addr)) (fp : List Addr), wE (X.blk s H0 sc (compEnvC sc cl C X.env) fp) e σ H Q
def wTb (X : Cx) (sc : Scope) (e : Expr) : TT := fun σ H Q => ∀ (s : Shared) (H0 : Hp) (C : Addr) (cl : List (Str × Addr)) (fp : List Addr), wT (X.blk s H0 sc (compEnvC sc cl C X.env) fp) e σ H Q
def wIb (X : Cx) (sc : Scope) (tg e : Expr) : TI := fun σ H R => ∀ (s : Shared) (H0 : Hp) (C : Addr) (cl : List (Str × Addr)) (fp : List Addr), wI (X.blk s H0 sc (compEnvC sc cl C X.env) fp) tg e σ H R
/-- an expression's value, a test's answer, a walk within the block -/
abbrev EB (X : Cx) (sc : Scope) (e : Expr) (σ : L2.St) (H : Hp) (v : V) : Prop := ∀ (s : Shared) (H0 : Hp) (C : Addr) (cl : List (Str × Addr)) (fp : List Addr), E (X.blk s H0 sc (compEnvC sc cl C X.env) fp) e σ H v
abbrev TB (X : Cx) (sc : Scope) (e : Expr) (σ : L2.St) (H : Hp) (p : Bool) : Prop := ∀ (s : Shared) (H0 : Hp) (C : Addr) (cl : List (Str × Addr)) (fp : List Addr), ET (X.blk s H0 sc (compEnvC sc cl C X.env) fp) e σ H p
abbrev IB (X : Cx) (sc : Scope) (tg e : Expr) (σ : L2.St) (H : Hp) (vs : List V) : Prop := ∀ (s : Shared) (H0 : Hp) (C : Addr) (cl : List (Str × Addr)) (fp : List Addr), EI (X.blk s H0 sc (compEnvC sc cl C X.env) fp) tg e σ H vs
theorem EB.ev {sc : Scope} (h : EB X sc e σ H v) : Ev (wEb X sc e) σ H v := fun H1 a Q k s H0 C cl fp => h s H0 C cl fp H1 a Q k
theorem TB.ev {sc : Scope} {p : Bool} (h : TB X sc e σ H p) : EvT (wTb X sc e) σ H p := fun H1 a Q k s H0 C cl fp => h s H0 C cl fp H1 a Q k
theorem IB.ev {sc : Scope} (h : IB X sc tg e σ H vs) : EvI (wIb X sc tg e) σ H vs := fun H1 a R k s H0 C cl fp => (h s H0 C cl fp).ev H1 a R k
theorem take_turn {α : Type} {as : List α} {i : Nat} {a : α} (p : α → Bool) (g : α → V) (h : as[i]? = some a) : (((as.take (i + 1)).filter p).map g) = ((as.take i).filter p).map g ++ (if p a then [g a] else []) := by
  rw [List.take_add_one, h, List.filter_append, List.map_append]
  congr 1
  by_cases hp : p a <;> simp [hp]
/-- one clause: what is kept, of what is walked -/
theorem el_comp {α : Type} {wi : TI} {j : Nat} {ws : List Nat} {as : List α} {A : α → V} (p : α → Bool) (g : α → V) (hi : EvI wi σ H (as.map A)) (hz : as.length ≤ 90000) (hw : ∀ x, wipe ((wipe σ ws).set j (some x)) ws = wipe σ ws)
    (ht : ∀ a ∈ as, ∀ H1, Ex H H1 → EvT tt ((wipe σ ws).set j (some (A a))) H1 (p a)) (he : ∀ a ∈ as, p a = true → ∀ H1, Ex H H1 → Ev te ((wipe σ ws).set j (some (A a))) H1 (g a)) :
    EvL (tLc wi (gName j) tt te ws) σ H ((as.filter p).map g) := fun H0 e0 Q q => hi H0 e0 _ fun J H1 e1 src Dl hD => by
  refine ⟨fun i m H' => m = as.length - i ∧ i ≤ as.length ∧ Ex H1 H' ∧ H' Dl = some (.lst (((as.take i).filter p).map g)), ⟨as.length, by omega, Nat.zero_le _, Ex.new hD, upd_same⟩, ?_⟩
  rintro i m H' ⟨rfl, hi, eH, hl⟩
  by_cases hlt : i < as.length
  · have ha : as[i]? = some as[i] := List.getElem?_eq_getElem hlt
    have hmem : as[i] ∈ as := List.getElem_mem hlt
    generalize as[i] = a at ha hmem
    have hlen : (((as.take i).filter p).map g).length ≤ 90000 := by
      rw [List.length_map]
      have := List.length_filter_le p (as.take i)
      rw [List.length_take] at this
      omega
    refine .inr ⟨src.go i H' eH (by simpa using hlt), fun H'' => Ex H1 H'' ∧ H'' Dl = some (.lst (((as.take (i + 1)).filter p).map g)), fun H'' h => ⟨as.length - (i + 1), by omega, rfl, hlt, h.1, h.2⟩, fun x H'' hy => ?_⟩
    obtain ⟨rfl, hx⟩ := src.yld i H' x H'' eH hy (by simpa using hlt)
    rw [List.getElem?_map, ha] at hx
    have hx : A a = x := Option.some.inj hx
    subst hx
    refine ⟨hw _, ht a hmem H1 (e0.trans e1) H'' eH _ fun H3 e3 => ?_⟩
    rw [take_turn p g ha]
    cases hp : p a with
    | true =>
      simp only [if_true]
      refine he a hmem hp H1 (e0.trans e1) H3 (eH.trans e3) _ fun H4 e4 => ⟨_, e4 _ _ (e3 _ _ hl), sz_lt (by omega), Ex.mut ((eH.trans e3).trans e4) hD, upd_same⟩
    | false =>
      simp only [Bool.false_eq_true, if_false, List.append_nil]
      exact ⟨eH.trans e3, e3 _ _ hl⟩
  · have : i = as.length := by omega
    subst this
    refine .inl ⟨by simpa using src.stop H' eH, q Dl H' (fresh_back e1 hD) (e1.trans eH) ?_⟩
    rw [hl, List.take_length]
/-- [e for x in ..] -/
theorem l_comp {α : Type} {sc : Scope} {elt iter : Expr} {own : List (Str × Nat)} {nm : Str} {j : Nat} {gp : Pos} {as : List α} {A : α → V} (g : α → V) (hc : X.calm = true) (hN : X.N.Nodup) (ok : BlkOk X.N X.env.scope sc own)
    (hg : ∀ (s : Shared) (H0 : Hp) (C : Addr) (cl : List (Str × Addr)) (fp : List Addr), PG (X.blk s H0 sc (compEnvC sc cl C X.env) fp) (.Name nm gp) (gName j))
    (hi : EI X (.Name nm gp) iter σ H (as.map A)) (hz : as.length ≤ 90000) (hw : ∀ x, wipe ((wipe σ (own.map (·.2))).set j (some x)) (own.map (·.2)) = wipe σ (own.map (·.2)))
    (he : ∀ a ∈ as, ∀ H1, Ex H H1 → EB X sc elt ((wipe σ (own.map (·.2))).set j (some (A a))) H1 (g a)) (hs : ∀ x, foldedSetIterable iter X.env x = pure x := by intro _; rfl) :
    EL X (.ListComp elt [⟨.Name nm gp, iter, [], 0⟩] sc pos) σ H (as.map g) := by
  have h := EL.of (pe_lc (pos := pos) (elt := elt) (te := wEb X sc elt) hc hN pI ok hg (fun _ _ _ _ _ => pts_nil) (fun s H0 C cl fp => ⟨fun pins s1 _ _ _ I h => h s H0 C cl fp pins s1 I⟩) hs) (el_comp (A := A) (fun _ => true) g hi.ev hz hw (fun a _ H1 _ H2 _ Q k => k H2 (Ex.refl H2)) fun a ha _ H1 e1 => EB.ev (he a ha H1 e1))
  rwa [List.filter_eq_self.mpr fun _ _ => rfl] at h
/-- [e for x in .. if t] -/
theorem l_compIf {α : Type} {sc : Scope} {elt iter tst : Expr} {own : List (Str × Nat)} {nm : Str} {j : Nat} {gp : Pos} {as : List α} {A : α → V} (p : α → Bool) (g : α → V) (hc : X.calm = true) (hN : X.N.Nodup) (ok : BlkOk X.N X.env.scope sc own)
    (hg : ∀ (s : Shared) (H0 : Hp) (C : Addr) (cl : List (Str × Addr)) (fp : List Addr), PG (X.blk s H0 sc (compEnvC sc cl C X.env) fp) (.Name nm gp) (gName j))
    (hi : EI X (.Name nm gp) iter σ H (as.map A)) (hz : as.length ≤ 90000) (hw : ∀ x, wipe ((wipe σ (own.map (·.2))).set j (some x)) (own.map (·.2)) = wipe σ (own.map (·.2)))
    (ht : ∀ a ∈ as, ∀ H1, Ex H H1 → TB X sc tst ((wipe σ (own.map (·.2))).set j (some (A a))) H1 (p a))
    (he : ∀ a ∈ as, p a = true → ∀ H1, Ex H H1 → EB X sc elt ((wipe σ (own.map (·.2))).set j (some (A a))) H1 (g a)) (hs : ∀ x, foldedSetIterable iter X.env x = pure x := by intro _; rfl) :
    EL X (.ListComp elt [⟨.Name nm gp, iter, [tst], 0⟩] sc pos) σ H ((as.filter p).map g) :=
  EL.of (pe_lc (pos := pos) (elt := elt) (te := wEb X sc elt) (tt := wTb X sc tst) hc hN pI ok hg (fun s H0 C cl fp => pts_one ⟨fun pins s1 _ _ _ I h => h s H0 C cl fp pins s1 I⟩) (fun s H0 C cl fp => ⟨fun pins s1 _ _ _ I h => h s H0 C cl fp pins s1 I⟩) hs) (el_comp (A := A) p g hi.ev hz hw (fun a ha H1 e1 => TB.ev (ht a ha H1 e1)) fun a ha hp H1 e1 => EB.ev (he a ha hp H1 e1))

/-! ### a def of the text -/
/-- the def that stands under the name x keeps sp, at level k -/
structure Df (P : Program) (w : World) (K : PySem.W.Frag) (mg : Str → Option Value) (base : Heap) (k : Nat) (x : Str) (ps : List Str) (sp : Sp) : Prop where
  ex : ∃ f fd, FnOk P w K mg base CX0 k f fd ps sp ∧ mg x = some (.ref f) ∧ PySem.W.keepIn K (.ref f) = true ∧ Binds K fd ps []
/-- the def as it stands -/
structure Dx (K : PySem.W.Frag) (mg : Str → Option Value) (x : Str) (st : Stmt) (ps : List Str) : Prop where
  ex : ∃ f fd, Fun K x x st f fd ∧ mg x = some (.ref f) ∧ Binds K fd ps []
theorem Dx.ok {P : Program} {w : World} {K : PySem.W.Frag} {mg : Str → Option Value} {base : Heap} {k : Nat} {x : Str} {st : Stmt} {N ps : List Str} {sp : Sp} (D : Dx K mg x st ps) (S : FnScope N ps (defScope st)) (len : ∀ vs H Q E, sp vs H Q E → vs.length = ps.length)
    (body : ∀ (f : Addr) (cdv : Value) (A : Around) (outer : List Env) (s : Shared) (H : Hp) (vs : List V) (Q : VK) (E : XK), Room k (A.deeper (envOfC x (defScope st) s.heap.objs.size f cdv)) → sp vs H Q E →
      wSs (cxOf CX0 P w K mg base N x (defScope st) f cdv A outer s H E).nox (defBody st) { nx := fun _ H' => Q .non H', rt := Q } (start N vs) H) : Df P w K mg base (k + 1) x ps sp := by
  obtain ⟨f, fd, F, hm, hb⟩ := D.ex
  exact ⟨f, fd, F.ok S len fun cdv A outer s H vs Q E hr hsp => ⟨_, pSs, body f cdv A outer s H vs Q E hr hsp⟩, hm, F.kp, hb⟩
theorem Df.mono {P : Program} {w : World} {K : PySem.W.Frag} {mg : Str → Option Value} {base : Heap} {k k' : Nat} {x : Str} {ps : List Str} {sp : Sp} (D : Df P w K mg base k x ps sp) (h : k ≤ k') : Df P w K mg base k' x ps sp := by
  obtain ⟨f, fd, F, r⟩ := D.ex
  exact ⟨f, fd, F.mono h, r⟩
theorem Df.imp {P : Program} {w : World} {K : PySem.W.Frag} {mg : Str → Option Value} {base : Heap} {k : Nat} {x : Str} {ps : List Str} {sp sp' : Sp} (D : Df P w K mg base k x ps sp) (h : ∀ vs H Q E, sp' vs H Q E → sp vs H Q E) : Df P w K mg base k x ps sp' := by
  obtain ⟨f, fd, F, r⟩ := D.ex
  exact ⟨f, fd, F.imp h, r⟩
theorem e_call {k' : Nat} {nm : Str} {ps : List Str} {sp : Sp} {p : Pos} (D : Df X.prog X.w X.K X.mg X.base k nm ps sp) (hr : Room k' X.A) (ha : EA X (e :: es) σ H vs) (hs : SpV sp vs H z) (hk : k ≤ k' := by decide) (hg : Gl X nm := by rfl) (hdb : (nm == ("__debug__" : Str)) = false := by decide)
    (he : starEach (e :: es) X.env = (false, eval e X.env) :: starEach es X.env := by rfl) (hpl : (backTo pos (starEach es X.env)).any (·.1) = false := by rfl) : E X (.Call (.Name nm p) (e :: es) [] pos) σ H z := by
  obtain ⟨f, fd, F, hm, hkp, hb⟩ := D.ex
  exact E.of (pe_call F (hr.mono hk) hg hm hkp hb .nil pass0 pA hdb he hpl) (ev_call ha (by rw [List.append_nil]; exact hs))
theorem l_call {k' : Nat} {nm : Str} {ps : List Str} {sp : Sp} {p : Pos} (D : Df X.prog X.w X.K X.mg X.base k nm ps sp) (hr : Room k' X.A) (ha : EA X (e :: es) σ H vs) (hs : SpL sp vs H xs) (hk : k ≤ k' := by decide) (hg : Gl X nm := by rfl) (hdb : (nm == ("__debug__" : Str)) = false := by decide)
    (he : starEach (e :: es) X.env = (false, eval e X.env) :: starEach es X.env := by rfl) (hpl : (backTo pos (starEach es X.env)).any (·.1) = false := by rfl) : EL X (.Call (.Name nm p) (e :: es) [] pos) σ H xs := by
  obtain ⟨f, fd, F, hm, hkp, hb⟩ := D.ex
  exact EL.of (pe_call F (hr.mono hk) hg hm hkp hb .nil pass0 pA hdb he hpl) (el_call ha (by rw [List.append_nil]; exact hs))
/-- a new tuple comes back -/
def SpU (sp : Sp) (vs : List V) (H : Hp) (xs : List V) : Prop := ∀ H1, Ex H H1 → ∀ Q : VK, (∀ p H2, H1 p = none → Ex H1 H2 → H2 p = some (.tup xs) → Q (.ref p) H2) → ∀ E : XK, sp vs H1 Q E
theorem u_call {k' : Nat} {nm : Str} {ps : List Str} {sp : Sp} {p : Pos} (D : Df X.prog X.w X.K X.mg X.base k nm ps sp) (hr : Room k' X.A) (ha : EA X (e :: es) σ H vs) (hs : SpU sp vs H xs) (hk : k ≤ k' := by decide) (hg : Gl X nm := by rfl) (hdb : (nm == ("__debug__" : Str)) = false := by decide)
    (he : starEach (e :: es) X.env = (false, eval e X.env) :: starEach es X.env := by rfl) (hpl : (backTo pos (starEach es X.env)).any (·.1) = false := by rfl) : EU X (.Call (.Name nm p) (e :: es) [] pos) σ H xs := by
  obtain ⟨f, fd, F, hm, hkp, hb⟩ := D.ex
  exact EU.of (pe_call F (hr.mono hk) hg hm hkp hb .nil pass0 pA hdb he hpl) fun H1 e1 Q q => ha H1 e1 _ fun H2 e2 => by
    show sp (vs ++ []) H2 Q E0
    rw [List.append_nil]
    exact hs H2 (e1.trans e2) Q (fun p H3 hp e3 h3 => q p H3 (fresh_back e2 hp) (e2.trans e3) h3) E0
/-- any relation comes back -/
def SpR (sp : Sp) (vs : List V) (H : Hp) (R : V → Hp → Prop) : Prop := ∀ H1, Ex H H1 → ∀ Q : VK, (∀ v H2, Ex H1 H2 → R v H2 → Q v H2) → ∀ E : XK, sp vs H1 Q E
theorem r_call {k' : Nat} {nm : Str} {ps : List Str} {sp : Sp} {p : Pos} {R : V → Hp → Prop} (D : Df X.prog X.w X.K X.mg X.base k nm ps sp) (hr : Room k' X.A) (ha : EA X (e :: es) σ H vs) (hs : SpR sp vs H R) (hk : k ≤ k' := by decide) (hg : Gl X nm := by rfl) (hdb : (nm == ("__debug__" : Str)) = false := by decide)
    (he : starEach (e :: es) X.env = (false, eval e X.env) :: starEach es X.env := by rfl) (hpl : (backTo pos (starEach es X.env)).any (·.1) = false := by rfl) : ER X (.Call (.Name nm p) (e :: es) [] pos) σ H R := by
  obtain ⟨f, fd, F, hm, hkp, hb⟩ := D.ex
  exact ER.of (pe_call F (hr.mono hk) hg hm hkp hb .nil pass0 pA hdb he hpl) fun H1 e1 Q q => ha H1 e1 _ fun H2 e2 => by
    show sp (vs ++ []) H2 Q E0
    rw [List.append_nil]
    exact hs H2 (e1.trans e2) Q (fun v H3 e3 h3 => q v H3 (e2.trans e3) h3) E0
/-- the promises' shapes: flat arguments, a value | a new list | a new tuple comes back -/
def spV (R : List V → V → Prop) : Sp := fun vs H Q _ => ∃ z, R vs z ∧ RetV z H Q
def spL (R : List V → List V → Prop) : Sp := fun vs H Q _ => ∃ xs, R vs xs ∧ RetL xs H Q
def RetU (xs : List V) (H : Hp) (Q : VK) : Prop := ∀ p H2, H p = none → Ex H H2 → H2 p = some (.tup xs) → Q (.ref p) H2
def spU (R : List V → List V → Prop) : Sp := fun vs H Q _ => ∃ xs, R vs xs ∧ RetU xs H Q
theorem spV.val {R : List V → V → Prop} (h : R vs z) : SpV (spV R) vs H z := fun _ _ Q k E => ⟨z, h, k⟩
theorem spL.lst {R : List V → List V → Prop} (h : R vs xs) : SpL (spL R) vs H xs := fun _ _ Q k E => ⟨xs, h, k⟩
theorem spU.tup {R : List V → List V → Prop} (h : R vs xs) : SpU (spU R) vs H xs := fun _ _ Q k E => ⟨xs, h, k⟩
theorem RetU.go {H' H2 : Hp} {p : Addr} {Q : VK} (k : RetU xs H Q) (e : Ex H H') (hp : H' p = none) (e2 : Ex H' H2) (h : H2 p = some (.tup xs)) : Q (.ref p) H2 := k p H2 (fresh_back e hp) (e.trans e2) h
end
end Wx
namespace Wx
open PySem PySem.Spec PyProof.Rows L2 Evl
section
variable {X : Cx} {e a b c tg : Expr} {es : List Expr} {st : Stmt} {rest body orelse : List Stmt} {σ : L2.St} {H : Hp} {v x y z : V} {te : TE} {tt : TT} {ta : TA} {xs ys vs : List V} {pos : Pos} {u w : List Nat} {i j : Int} {m n k lo : Nat} {D : Ends} {t : TS}

/-! ### statements, from the first one on -/
theorem b_st (h : PS X st t) (q : t { D with nx := wSs X rest D } σ H) : wSs X (st :: rest) D σ H := fun pins s I => (pss_cons h pSs).run pins s σ H D I q
theorem b_nil (q : D.nx σ H) : wSs X [] D σ H := fun pins s I => pss_nil.run pins s σ H D I q
theorem b_ret (he : E X e σ H v) (k : ∀ H1, Ex H H1 → D.rt v H1) : wSs X (.Return (some e) pos :: rest) D σ H := b_st (ps_ret pE) (s_ret he k)
theorem b_retL (he : EL X e σ H xs) (k : ∀ p H1, H p = none → Ex H H1 → H1 p = some (.lst xs) → D.rt (.ref p) H1) : wSs X (.Return (some e) pos :: rest) D σ H := b_st (ps_ret pE) (s_retL he k)
theorem b_retU (he : EU X e σ H xs) (k : ∀ p H1, H p = none → Ex H H1 → H1 p = some (.tup xs) → D.rt (.ref p) H1) : wSs X (.Return (some e) pos :: rest) D σ H := b_st (ps_ret pE) (s_retU he k)
theorem b_retR {R : V → Hp → Prop} (he : ER X e σ H R) (k : ∀ v H1, Ex H H1 → R v H1 → D.rt v H1) : wSs X (.Return (some e) pos :: rest) D σ H := b_st (ps_ret pE) (he H (Ex.refl H) _ k)
theorem b_asg {i : Nat} {nm : Str} {p : Pos} (he : E X e σ H v) (k : ∀ H1, Ex H H1 → wSs X rest D (σ.set i (some v)) H1) (hN : X.N.Nodup) (hi : X.N[i]? = some nm := by rfl) (hx : Loc X.env.scope nm := by first | exact Or.inl rfl | exact Or.inr rfl)
    (hs : swapsWith e (some (.Name nm p)) pos.line X.env = pure false := by rfl) (hf : X.fn nm = true ∨ X.env.scope.names.lookup nm = some .local := by first | exact .inl rfl | exact .inr rfl) : wSs X (.Assign [.Name nm p] e pos :: rest) D σ H := b_st (ps_set hN hi hx pE hs hf) (s_asg he k)
theorem b_asgL {i : Nat} {nm : Str} {p : Pos} (he : EL X e σ H xs) (k : ∀ p H1, H p = none → Ex H H1 → H1 p = some (.lst xs) → wSs X rest D (σ.set i (some (.ref p))) H1) (hN : X.N.Nodup) (hi : X.N[i]? = some nm := by rfl) (hx : Loc X.env.scope nm := by first | exact Or.inl rfl | exact Or.inr rfl)
    (hs : swapsWith e (some (.Name nm p)) pos.line X.env = pure false := by rfl) (hf : X.fn nm = true ∨ X.env.scope.names.lookup nm = some .local := by first | exact .inl rfl | exact .inr rfl) : wSs X (.Assign [.Name nm p] e pos :: rest) D σ H := b_st (ps_set hN hi hx pE hs hf) (s_asgL he k)
theorem b_asgU {i : Nat} {nm : Str} {p : Pos} (he : EU X e σ H xs) (k : ∀ p H1, H p = none → Ex H H1 → H1 p = some (.tup xs) → wSs X rest D (σ.set i (some (.ref p))) H1) (hN : X.N.Nodup) (hi : X.N[i]? = some nm := by rfl) (hx : Loc X.env.scope nm := by first | exact Or.inl rfl | exact Or.inr rfl)
    (hs : swapsWith e (some (.Name nm p)) pos.line X.env = pure false := by rfl) (hf : X.fn nm = true ∨ X.env.scope.names.lookup nm = some .local := by first | exact .inl rfl | exact .inr rfl) : wSs X (.Assign [.Name nm p] e pos :: rest) D σ H := b_st (ps_set hN hi hx pE hs hf) (s_asgU he k)
theorem b_asgR {i : Nat} {nm : Str} {p : Pos} {R : V → Hp → Prop} (he : ER X e σ H R) (k : ∀ v H1, Ex H H1 → R v H1 → wSs X rest D (σ.set i (some v)) H1) (hN : X.N.Nodup) (hi : X.N[i]? = some nm := by rfl) (hx : Loc X.env.scope nm := by first | exact Or.inl rfl | exact Or.inr rfl)
    (hs : swapsWith e (some (.Name nm p)) pos.line X.env = pure false := by rfl) (hf : X.fn nm = true ∨ X.env.scope.names.lookup nm = some .local := by first | exact .inl rfl | exact .inr rfl) : wSs X (.Assign [.Name nm p] e pos :: rest) D σ H := b_st (ps_set hN hi hx pE hs hf) (he H (Ex.refl H) _ k)
/-- a, b = x, y -/
theorem b_par {i j : Nat} {n1 n2 : Str} {px py pt pt2 : Pos} {kt k2} (ha : E X a σ H x) (hb : E X b σ H y) (k : ∀ H1, Ex H H1 → wSs X rest D ((σ.set i (some x)).set j (some y)) H1) (hc : X.calm = true) (hN : X.N.Nodup)
    (hi : X.N[i]? = some n1 := by rfl) (hj : X.N[j]? = some n2 := by rfl) (hij : i ≠ j := by decide) (hx : X.env.scope.names.lookup n1 = some .local := by rfl) (hy : X.env.scope.names.lookup n2 = some .local := by rfl)
    (ns : NS X a := by exact fun _ => rfl) (ns2 : NS X b := by exact fun _ => rfl)
    (hw : swappedStores [.Tuple [.Name n1 px, .Name n2 py] kt pt] (.Tuple [a, b] k2 pt2) X.env = pure (some [n1, n2]) := by rfl) (hs : swapsWithSole [.Tuple [.Name n1 px, .Name n2 py] kt pt] (.Tuple [a, b] k2 pt2) pos.line X.env = pure false := by rfl) :
    wSs X (.Assign [.Tuple [.Name n1 px, .Name n2 py] kt pt] (.Tuple [a, b] k2 pt2) pos :: rest) D σ H :=
  b_st (ps_par hc hN hi hj hij hx hy (pa_cons pE (pa_cons pE pa_nil (ns2 [])) (ns [b])) hw hs) (ha H (Ex.refl H) _ fun H1 e1 => hb H1 e1 _ fun H2 e2 => ⟨x, y, rfl, k H2 (e1.trans e2)⟩)
/-- a, b = f(..), a tuple -/
theorem b_unp {i j : Nat} {n1 n2 : Str} {px py pt : Pos} {kt} (he : ER X e σ H (isT X.K [x, y])) (k : ∀ H1, Ex H H1 → wSs X rest D ((σ.set i (some x)).set j (some y)) H1) (hc : X.calm = true) (hN : X.N.Nodup)
    (hi : X.N[i]? = some n1 := by rfl) (hj : X.N[j]? = some n2 := by rfl) (hx : Loc X.env.scope n1 := by first | exact Or.inl rfl | exact Or.inr rfl) (hy : Loc X.env.scope n2 := by first | exact Or.inl rfl | exact Or.inr rfl)
    (hf : X.fn n1 = true ∨ X.env.scope.names.lookup n1 = some .local := by first | exact .inl rfl | exact .inr rfl) (hf2 : X.fn n2 = true ∨ X.env.scope.names.lookup n2 = some .local := by first | exact .inl rfl | exact .inr rfl)
    (hs : swapsWithSole [.Tuple [.Name n1 px, .Name n2 py] kt pt] e pos.line X.env = pure false := by rfl) (hw : swappedStores [.Tuple [.Name n1 px, .Name n2 py] kt pt] e X.env = pure none := by rfl) :
    wSs X (.Assign [.Tuple [.Name n1 px, .Name n2 py] kt pt] e pos :: rest) D σ H :=
  b_st (ps_asg pE (pg_tup hc (pgs_cons (pg_name hN hi hx hf) (pgs_cons (pg_name hN hj hy hf2) pgs_nil))) hs hw) (he H (Ex.refl H) _ fun v H1 e1 hv => by
    obtain ⟨p, rfl, hp⟩ := hv
    exact ⟨p, [x, y], rfl, hp, rfl, x, [y], rfl, y, [], rfl, rfl, k H1 e1⟩)
/-- n, row, all = x, y, z -/
theorem b_par3 {i j l : Nat} {n1 n2 n3 : Str} {px py pz pt pt2 : Pos} {kt k2} {R1 R2 R3 : V → Hp → Prop} (h1 : ER X a σ H R1) (s1 : ∀ v H1 H2, Ex H1 H2 → R1 v H1 → R1 v H2) (h2 : ER X b σ H R2) (s2 : ∀ v H1 H2, Ex H1 H2 → R2 v H1 → R2 v H2) (h3 : ER X c σ H R3)
    (k : ∀ x y z H1, Ex H H1 → R1 x H1 → R2 y H1 → R3 z H1 → wSs X rest D (((σ.set i (some x)).set j (some y)).set l (some z)) H1) (hc : X.calm = true) (hN : X.N.Nodup)
    (hi : X.N[i]? = some n1 := by rfl) (hj : X.N[j]? = some n2 := by rfl) (hl : X.N[l]? = some n3 := by rfl) (hij : i ≠ j := by decide) (hil : i ≠ l := by decide) (hjl : j ≠ l := by decide) (T : PS X (.Assign [.Tuple [.Name n1 px, .Name n2 py, .Name n3 pz] kt pt] (.Tuple [a, b, c] k2 pt2) pos) (tPar3 i j l (tCons (wE X a) (tCons (wE X b) (tCons (wE X c) tNil))))) :
    wSs X (.Assign [.Tuple [.Name n1 px, .Name n2 py, .Name n3 pz] kt pt] (.Tuple [a, b, c] k2 pt2) pos :: rest) D σ H :=
  b_st T (h1 H (Ex.refl H) _ fun x H1 e1 r1 => h2 H1 e1 _ fun y H2 e2 r2 => h3 H2 (e1.trans e2) _ fun z H3 e3 r3 => ⟨x, y, z, rfl, k x y z H3 ((e1.trans e2).trans e3) (s1 _ _ _ (e2.trans e3) r1) (s2 _ _ _ e3 r2) r3⟩)
theorem b_aug {i : Nat} {nm : Str} {p : Pos} {op : Operator} {f : Int → Int → Int} {q r : Int} (hx : σ[i]? = some (some (.int q))) (he : E X e σ H (.int r)) (ho : PIp X op (ipI f)) (k : ∀ H1, Ex H H1 → wSs X rest D (σ.set i (some (.int (f q r)))) H1) (hN : X.N.Nodup) (hi : X.N[i]? = some nm := by rfl)
    (hl : Loc X.env.scope nm := by first | exact Or.inl rfl | exact Or.inr rfl) (hf : X.fn nm = true ∨ X.env.scope.names.lookup nm = some .local := by first | exact .inl rfl | exact .inr rfl) : wSs X (.AugAssign (.Name nm p) op e pos :: rest) D σ H := b_st (ps_aug hN hi hl pE ho hf) (s_aug hx he k)
theorem b_if {p : Bool} (h : ET X c σ H p) (h1 : p = true → ∀ H1, Ex H H1 → wSs X body { D with nx := wSs X rest D } σ H1) (h2 : p = false → ∀ H1, Ex H H1 → wSs X orelse { D with nx := wSs X rest D } σ H1) : wSs X (.If c body orelse pos :: rest) D σ H :=
  b_st (ps_if pT pSs pSs) (s_if h h1 h2)
/-- if, without else -/
theorem b_when {p : Bool} (h : ET X c σ H p) (h1 : p = true → ∀ H1, Ex H H1 → wSs X body { D with nx := wSs X rest D } σ H1) (h2 : p = false → ∀ H1, Ex H H1 → wSs X rest D σ H1) : wSs X (.If c body [] pos :: rest) D σ H :=
  b_if h h1 fun hp H1 e => b_nil (h2 hp H1 e)
/-- the test is false: on -/
theorem b_off (h : ET X c σ H false) (k : ∀ H1, Ex H H1 → wSs X rest D σ H1) : wSs X (.If c body [] pos :: rest) D σ H := b_when h (fun hp => nomatch hp) fun _ => k
/-- xs.append(e) -/
theorem b_app {p p1 : Pos} {l : Addr} (hl : H l = some (.lst xs)) (ho : E X a σ H (.ref l)) (he : E X e σ H v) (hz : xs.length < 100000) (k : ∀ H1, Ex H H1 → wSs X rest D σ (upd H1 l (.lst (xs ++ [v])))) (ns : NS X e := by exact fun _ => rfl)
    (hbase : attributeBase a "append" X.env (eval a X.env) = eval a X.env := by rfl)
    (hfew : ((backTo p1 (starEach [e] X.env)).all (fun x => !x.1) && (backToKw p1 (keywordEach [] X.env)).all (fun x => x.1.isSome) && decide (([e] : List Expr).length + ([] : List Keyword).length + (if ([] : List Keyword).isEmpty then 0 else 1) < 30)) = true := by rfl)
    (hline : (p.endLine == p1.line) = true := by rfl) (hsw : swapsWith (.Call (.Attribute a "append" p) [e] [] p1) none pos.line X.env = pure false := by rfl) : wSs X (.Expr (.Call (.Attribute a "append" p) [e] [] p1) pos :: rest) D σ H :=
  b_st (ps_expr (pe_bm PySem.F.plainAttrs_list PySem.F.slot_list_append PySem.F.type_list_append mt_append pE (pa_cons pE pa_nil (ns [])) hbase hfew hline (ns []) rfl) hsw) (s_app hl ho he hz k)

/-! ### loops -/
/-- for x in a range: Pv the turn's number, the slots, the heap -/
theorem b_for {nm : Str} {gp : Pos} {j : Nat} (hi : EIc X (.Name nm gp) e σ H vs) (Pv : Nat → L2.St → Hp → Prop) (h0 : ∀ H1, Ex H H1 → Pv 0 σ H1)
    (hs : ∀ i x σ' H', vs[i]? = some x → Pv i σ' H' → wSs X body { D with nx := Pv (i + 1), ct := Pv (i + 1), bk := wSs X rest D } (σ'.set j (some x)) H') (hd : ∀ σ' H', Pv vs.length σ' H' → wSs X rest D σ' H')
    (hp : PassesOwn (model X.prog X.w) X.A X.env X.xe) (hc : X.calm = true) (hN : X.N.Nodup) (hj : X.N[j]? = some nm := by rfl) (hl : Loc X.env.scope nm := by first | exact Or.inl rfl | exact Or.inr rfl) (hf : X.fn nm = true ∨ X.env.scope.names.lookup nm = some .local := by first | exact .inl rfl | exact .inr rfl)
    (hfs : ∀ x, foldedSetIterable e X.env x = pure x := by intro _; rfl) : wSs X (.For (.Name nm gp) e body [] pos :: rest) D σ H :=
  b_st (ps_for hp hc pI (pg_name hN hj hl hf) pSs hfs) (hi.ev H (Ex.refl H) _ fun J H1 e1 src => by
    refine ⟨fun i m σ' H' => m = vs.length - i ∧ i ≤ vs.length ∧ Pv i σ' H', ⟨vs.length, by omega, Nat.zero_le _, h0 H1 e1⟩, ?_⟩
    rintro i m σ' H' ⟨rfl, hi, hP⟩
    by_cases hlt : i < vs.length
    · refine .inr ⟨src.go i H' hlt, fun σ2 H2 => Pv (i + 1) σ2 H2, fun σ2 H2 h => ⟨vs.length - (i + 1), by omega, rfl, hlt, h⟩, fun x H'' hy => ?_⟩
      obtain ⟨rfl, hx'⟩ := src.yld i H' x H'' hy hlt
      exact hs i x σ' H'' hx' hP
    · have : i = vs.length := by omega
      subst this
      exact .inl ⟨src.stop H', hd σ' H' hP⟩)
/-- for x in a list or tuple, nothing that stood is changed -/
theorem b_forE {nm : Str} {gp : Pos} {j : Nat} (hi : EI X (.Name nm gp) e σ H vs) (Pv : Nat → L2.St → Hp → Prop) (h0 : ∀ H1, Ex H H1 → Pv 0 σ H1)
    (hs : ∀ i x σ' H', vs[i]? = some x → Ex H H' → Pv i σ' H' → wSs X body { D with nx := fun σ2 H2 => Ex H' H2 ∧ Pv (i + 1) σ2 H2, ct := fun σ2 H2 => Ex H' H2 ∧ Pv (i + 1) σ2 H2, bk := wSs X rest D } (σ'.set j (some x)) H') (hd : ∀ σ' H', Ex H H' → Pv vs.length σ' H' → wSs X rest D σ' H')
    (hp : PassesOwn (model X.prog X.w) X.A X.env X.xe) (hc : X.calm = true) (hN : X.N.Nodup) (hj : X.N[j]? = some nm := by rfl) (hl : Loc X.env.scope nm := by first | exact Or.inl rfl | exact Or.inr rfl) (hf : X.fn nm = true ∨ X.env.scope.names.lookup nm = some .local := by first | exact .inl rfl | exact .inr rfl)
    (hfs : ∀ x, foldedSetIterable e X.env x = pure x := by intro _; rfl) : wSs X (.For (.Name nm gp) e body [] pos :: rest) D σ H :=
  b_st (ps_for hp hc pI (pg_name hN hj hl hf) pSs hfs) (hi.ev H (Ex.refl H) _ fun J H1 e1 src => by
    refine ⟨fun i m σ' H' => m = vs.length - i ∧ i ≤ vs.length ∧ Ex H1 H' ∧ Pv i σ' H', ⟨vs.length, by omega, Nat.zero_le _, Ex.refl H1, h0 H1 e1⟩, ?_⟩
    rintro i m σ' H' ⟨rfl, hi, eH, hP⟩
    by_cases hlt : i < vs.length
    · refine .inr ⟨src.go i H' eH hlt, fun σ2 H2 => Ex H' H2 ∧ Pv (i + 1) σ2 H2, fun σ2 H2 h => ⟨vs.length - (i + 1), by omega, rfl, hlt, eH.trans h.1, h.2⟩, fun x H'' hy => ?_⟩
      obtain ⟨rfl, hx'⟩ := src.yld i H' x H'' eH hy hlt
      exact hs i x σ' H'' hx' (e1.trans eH) hP
    · have : i = vs.length := by omega
      subst this
      exact .inl ⟨src.stop H' eH, hd σ' H' (e1.trans eH) hP⟩)
/-- while: W a number that falls, the slots, the heap -/
theorem b_while (W : Nat → L2.St → Hp → Prop) (m0 : Nat) (h0 : W m0 σ H)
    (hs : ∀ m σ' H', W m σ' H' → ∃ p, ET X c σ' H' p ∧ (p = true → ∀ H1, Ex H' H1 → wSs X body { D with nx := fun σ2 H2 => ∃ m', m' < m ∧ W m' σ2 H2, ct := fun σ2 H2 => ∃ m', m' < m ∧ W m' σ2 H2, bk := wSs X rest D } σ' H1) ∧ (p = false → ∀ H1, Ex H' H1 → wSs X rest D σ' H1))
    (hp : PassesOwn (model X.prog X.w) X.A X.env X.xe) : wSs X (.While c body [] pos :: rest) D σ H :=
  b_st (ps_while hp pT pSs) (s_while W m0 h0 fun m σ' H' hw => by
    obtain ⟨p, h1, h2, h3⟩ := hs m σ' H' hw
    exact ⟨p, h1, fun hp H1 e => ⟨_, fun σ2 H2 h => h, h2 hp H1 e⟩, h3⟩)

/-! ### methods of texts -/
theorem glue_nil : ∀ (ws : List (List Nat)) (acc : Array Nat), List.foldl (fun acc (p : Str) => acc ++ (⟨#[]⟩ : Str).cps ++ p.cps) acc (ws.map fun w => (⟨w.toArray⟩ : Str)) = acc ++ ws.flatten.toArray
  | [], acc => by simp
  | w :: ws, acc => by
    rw [List.map_cons, List.foldl_cons, glue_nil ws]
    simp
theorem join_nil (ws : List (List Nat)) : Txt.join ⟨#[]⟩ (ws.map fun w => (⟨w.toArray⟩ : Str)) = ⟨ws.flatten.toArray⟩ := by
  unfold Txt.join Builtin.Str.glued
  cases ws with
  | nil => rfl
  | cons w ws =>
    have := glue_nil ws w.toArray
    simp only [List.map_cons, List.drop_succ_cons, List.drop_zero, List.headD_cons]
    rw [this]
    simp
theorem sum_lens (ws : List (List Nat)) : ((ws.map fun w => (⟨w.toArray⟩ : Str)).map (·.length)).sum = ws.flatten.length := by
  induction ws with
  | nil => rfl
  | cons w ws ih =>
    rw [List.map_cons, List.map_cons, List.sum_cons, ih, tx_len, List.flatten_cons, List.length_append]
theorem map_tx (ws : List (List Nat)) : (ws.map fun w => (⟨w.toArray⟩ : Str)).map V.str = ws.map Tx := by
  rw [List.map_map]
  rfl
/-- "".join(..) -/
theorem e_joinL {p : Pos} {ws : List (List Nat)} (hs : E X a σ H (Tx [])) (he : ER X e σ H (isL X.K (ws.map Tx))) (hl : ws.flatten.length ≤ 100000) (ns : NS X e := by exact fun _ => rfl) (hbase : attributeBase a "join" X.env (eval a X.env) = eval a X.env := by rfl) (hline : (p.endLine == pos.line) = true := by rfl) :
    E X (.Call (.Attribute a "join" p) [e] [] pos) σ H (Tx ws.flatten) := E.of (pe_join pE pE (ns []) hbase hline) fun H1 e1 Q q => hs H1 e1 _ fun H2 e2 => ⟨⟨_, rfl⟩, he H2 (e1.trans e2) _ fun v H3 e3 hv => by
  obtain ⟨p, rfl, hp⟩ := hv
  refine ⟨⟨#[]⟩, p, ws.map fun w => (⟨w.toArray⟩ : Str), rfl, rfl, .inl (by rw [map_tx]; exact hp), ?_, ?_⟩
  · rw [sum_lens]
    show ws.flatten.length + (ws.map fun w => (⟨w.toArray⟩ : Str)).length * 0 ≤ 16777216
    omega
  · rw [join_nil]
    exact q H3 (e2.trans e3)⟩
theorem e_joinT {p : Pos} {ws : List (List Nat)} (hs : E X a σ H (Tx [])) (he : ER X e σ H (isT X.K (ws.map Tx))) (hl : ws.flatten.length ≤ 100000) (ns : NS X e := by exact fun _ => rfl) (hbase : attributeBase a "join" X.env (eval a X.env) = eval a X.env := by rfl) (hline : (p.endLine == pos.line) = true := by rfl) :
    E X (.Call (.Attribute a "join" p) [e] [] pos) σ H (Tx ws.flatten) := E.of (pe_join pE pE (ns []) hbase hline) fun H1 e1 Q q => hs H1 e1 _ fun H2 e2 => ⟨⟨_, rfl⟩, he H2 (e1.trans e2) _ fun v H3 e3 hv => by
  obtain ⟨p, rfl, hp⟩ := hv
  refine ⟨⟨#[]⟩, p, ws.map fun w => (⟨w.toArray⟩ : Str), rfl, rfl, .inr (by rw [map_tx]; exact hp), ?_, ?_⟩
  · rw [sum_lens]
    show ws.flatten.length + (ws.map fun w => (⟨w.toArray⟩ : Str)).length * 0 ≤ 16777216
    omega
  · rw [join_nil]
    exact q H3 (e2.trans e3)⟩
end
end Wx
namespace Wx
open PySem PySem.Spec PyProof.Rows L2 Evl
section
variable {X : Cx} {e a b c tg : Expr} {es : List Expr} {σ : L2.St} {H : Hp} {v x y z : V} {pos : Pos} {m n k : Nat}
/-! ### numbers that are not negative -/
theorem n_add (ha : E X a σ H (Nm m)) (hb : E X b σ H (Nm n)) : E X (.BinOp a .Add b pos) σ H (Nm (m + n)) := E.is (e_add ha hb) (congrArg V.int (by omega))
theorem n_sub (ha : E X a σ H (Nm m)) (hb : E X b σ H (Nm n)) (h : n ≤ m) : E X (.BinOp a .Sub b pos) σ H (Nm (m - n)) := E.is (e_sub ha hb) (congrArg V.int (by omega))
theorem n_mul (ha : E X a σ H (Nm m)) (hb : E X b σ H (Nm n)) (h : m < 2 ^ 60) : E X (.BinOp a .Mult b pos) σ H (Nm (m * n)) := E.is (e_mul ha hb (.inl ⟨by omega, by omega⟩)) (congrArg V.int (Int.natCast_mul _ _).symm)
theorem n_div (ha : E X a σ H (Nm m)) (hb : E X b σ H (Nm n)) (h0 : 0 < n) (h : n < 1000000000) : E X (.BinOp a .FloorDiv b pos) σ H (Nm (m / n)) := E.is (e_div ha hb ⟨by omega, by omega⟩) (congrArg V.int (Int.natCast_ediv _ _).symm)
theorem n_mod (ha : E X a σ H (Nm m)) (hb : E X b σ H (Nm n)) (h0 : 0 < n) : E X (.BinOp a .Mod b pos) σ H (Nm (m % n)) := E.is (e_mod ha hb (by omega)) (congrArg V.int (Int.natCast_emod _ _).symm)
theorem nm_dec (m n : Nat) : decide (Nm m = Nm n) = decide (m = n) := by
  by_cases h : m = n
  · subst h
    rw [decide_eq_true rfl, decide_eq_true rfl]
  · rw [decide_eq_false h, decide_eq_false fun z => h (by have := V.int.inj z; omega)]
theorem in_dec {m n : Nat} (R : Int → Int → Prop) [DecidableRel R] (S : Nat → Nat → Prop) [DecidableRel S] (h : R m n ↔ S m n) : decide (R m n) = decide (S m n) := by
  by_cases q : S m n
  · rw [decide_eq_true q, decide_eq_true (h.mpr q)]
  · rw [decide_eq_false q, decide_eq_false fun z => q (h.mp z)]
theorem tn_eq (ha : E X a σ H (Nm m)) (hb : E X b σ H (Nm n)) : ET X (.Compare a [.Eq] [b] pos) σ H (decide (m = n)) := ET.is (t_eq ha hb) (nm_dec m n)
theorem tn_ne (ha : E X a σ H (Nm m)) (hb : E X b σ H (Nm n)) : ET X (.Compare a [.NotEq] [b] pos) σ H (!decide (m = n)) := ET.is (t_ne ha hb) (by rw [nm_dec])
theorem tn_lt (ha : E X a σ H (Nm m)) (hb : E X b σ H (Nm n)) : ET X (.Compare a [.Lt] [b] pos) σ H (decide (m < n)) := ET.is (t_lt ha hb) (in_dec (· < ·) (· < ·) (by simp))
theorem tn_le (ha : E X a σ H (Nm m)) (hb : E X b σ H (Nm n)) : ET X (.Compare a [.LtE] [b] pos) σ H (decide (m ≤ n)) := ET.is (t_le ha hb) (in_dec (· ≤ ·) (· ≤ ·) (by simp))
theorem tn_gt (ha : E X a σ H (Nm m)) (hb : E X b σ H (Nm n)) : ET X (.Compare a [.Gt] [b] pos) σ H (decide (n < m)) := ET.is (t_gt ha hb) (in_dec (· < ·) (· < ·) (by simp))
theorem tn_ge (ha : E X a σ H (Nm m)) (hb : E X b σ H (Nm n)) : ET X (.Compare a [.GtE] [b] pos) σ H (decide (n ≤ m)) := ET.is (t_ge ha hb) (in_dec (· ≤ ·) (· ≤ ·) (by simp))
theorem en_eq (ha : E X a σ H (Nm m)) (hb : E X b σ H (Nm n)) : E X (.Compare a [.Eq] [b] pos) σ H (.bl (decide (m = n))) := E.is (e_eq ha hb) (by rw [nm_dec])
theorem en_ne (ha : E X a σ H (Nm m)) (hb : E X b σ H (Nm n)) : E X (.Compare a [.NotEq] [b] pos) σ H (.bl (!decide (m = n))) := E.is (e_ne ha hb) (by rw [nm_dec])
theorem en_lt (ha : E X a σ H (Nm m)) (hb : E X b σ H (Nm n)) : E X (.Compare a [.Lt] [b] pos) σ H (.bl (decide (m < n))) := E.is (e_lt ha hb) (by rw [in_dec (· < ·) (· < ·) (by simp)])
theorem en_le (ha : E X a σ H (Nm m)) (hb : E X b σ H (Nm n)) : E X (.Compare a [.LtE] [b] pos) σ H (.bl (decide (m ≤ n))) := E.is (e_le ha hb) (by rw [in_dec (· ≤ ·) (· ≤ ·) (by simp)])
theorem en_gt (ha : E X a σ H (Nm m)) (hb : E X b σ H (Nm n)) : E X (.Compare a [.Gt] [b] pos) σ H (.bl (decide (n < m))) := E.is (e_gt ha hb) (by rw [in_dec (· < ·) (· < ·) (by simp)])
theorem en_ge (ha : E X a σ H (Nm m)) (hb : E X b σ H (Nm n)) : E X (.Compare a [.GtE] [b] pos) σ H (.bl (decide (n ≤ m))) := E.is (e_ge ha hb) (by rw [in_dec (· ≤ ·) (· ≤ ·) (by simp)])
theorem nm {j} (n : Nat) : E X (.Constant (.int (n : Int)) j pos) σ H (Nm n) := e_int
theorem n_add' (i j : Nat) : ((i : Int) + (j : Int)) = ((i + j : Nat) : Int) := by omega
/-- range(a, b), both not negative -/
theorem n_r2 {p : Pos} (ha : E X a σ H (Nm m)) (hb : E X b σ H (Nm n)) (hm : X.mg "range" = none) (h1 : m ≤ 100000) (h2 : n ≤ 100000) (hg : Gl X "range" := by rfl) (ns : NS X a := by exact fun _ => rfl) (ns2 : NS X b := by exact fun _ => rfl) : EIc X tg (.Call (.Name "range" p) [a, b] [] pos) σ H (rng m (n - m)) :=
  i_r2 ha hb (by omega) hm h1 (by omega) (by omega) hg ns ns2
theorem rng_map (n : Nat) : rng 0 n = (List.range n).map Nm := by
  unfold rng
  rw [List.range_eq_range']
/-- for comprehensions: range(n), range(m, n) as lists of numbers -/
theorem i_n1 {p : Pos} (he : E X e σ H (Nm n)) (hm : X.mg "range" = none) (hn : n ≤ 100000) (hg : Gl X "range" := by rfl) (ns : NS X e := by exact fun _ => rfl) : EI X tg (.Call (.Name "range" p) [e] [] pos) σ H ((List.range n).map Nm) := by
  rw [← rng_map]
  exact (i_r1 he hm hn hg ns).src
theorem i_n2 {p : Pos} (ha : E X a σ H (Nm m)) (hb : E X b σ H (Nm n)) (hm : X.mg "range" = none) (h1 : m ≤ 100000) (h2 : n ≤ 100000) (hg : Gl X "range" := by rfl) (ns : NS X a := by exact fun _ => rfl) (ns2 : NS X b := by exact fun _ => rfl) : EI X tg (.Call (.Name "range" p) [a, b] [] pos) σ H ((List.range' m (n - m)).map Nm) :=
  (n_r2 ha hb hm h1 h2 hg ns ns2).src
/-- max(m, n), min(m, n) of numbers -/
theorem n_max {p : Pos} (hc : X.calm = true) (ha : E X a σ H (Nm m)) (hb : E X b σ H (Nm n)) (hm : X.mg "max" = none) (hg : Gl X "max" := by rfl) (ns : NS X a := by exact fun _ => rfl) (ns2 : NS X b := by exact fun _ => rfl) (hpl : (backTo pos (starEach [b] X.env)).any (·.1) = false := by rfl) : E X (.Call (.Name "max" p) [a, b] [] pos) σ H (Nm (max m n)) :=
  E.is (e_max2 hc ha hb hm hg ns ns2 hpl) (congrArg V.int (by split <;> omega))
theorem n_min {p : Pos} (hc : X.calm = true) (ha : E X a σ H (Nm m)) (hb : E X b σ H (Nm n)) (hm : X.mg "min" = none) (hg : Gl X "min" := by rfl) (ns : NS X a := by exact fun _ => rfl) (ns2 : NS X b := by exact fun _ => rfl) (hpl : (backTo pos (starEach [b] X.env)).any (·.1) = false := by rfl) : E X (.Call (.Name "min" p) [a, b] [] pos) σ H (Nm (min m n)) :=
  E.is (e_min2 hc ha hb hm hg ns ns2 hpl) (congrArg V.int (by split <;> omega))
theorem nm_get {as : List Nat} {i n : Nat} (h : as[i]? = some n) : (as.map Nm)[i]? = some (Nm n) := by
  rw [List.getElem?_map, h]
  rfl
theorem tx_get {as : List (List Nat)} {i : Nat} {n : List Nat} (h : as[i]? = some n) : (as.map Tx)[i]? = some (Tx n) := by
  rw [List.getElem?_map, h]
  rfl
end
end Wx
/-! sets of texts: set(xs), sorted(set) -/
namespace Wx
open PySem PySem.Spec PyProof.Rows L2 Evl
/-- the signs of an entry -/
def tkey (e : Int × Value) : List Nat := match e.2 with
  | .str x _ => x.cps.toList
  | _ => []
def TGood (w : World) (e : Int × Value) : Prop := ∃ x tk, e.2 = Value.str x tk ∧ e.1 = hashStr w x
/-- the set at a has the texts of L, at most m -/
structure SetT (w : World) (h : Heap) (a : Addr) (L : List (List Nat)) (m : Nat) : Prop where
  ex : ∃ o es ep t, h.get? a = some o ∧ o.ExactSet ∧ o.data = .set es ep t ∧ (∀ e ∈ es.toList, TGood w e) ∧ (es.toList.map tkey).Nodup ∧ (∀ k, k ∈ es.toList.map tkey ↔ k ∈ L) ∧ es.size ≤ m ∧ m < scanBound ∧ t.fits es.size = true ∧ Ris t.place.toList ∧
    (w.params.followText "set-order" = true ∨ t.led = true)
theorem SetT.keep {w : World} {h h' : Heap} {a : Addr} {L : List (List Nat)} {m : Nat} (R : SetT w h a L m) (k : ∀ o, h.get? a = some o → h'.get? a = some o) : SetT w h' a L m := by
  obtain ⟨o, es, ep, t, ho, r⟩ := R.ex
  exact ⟨o, es, ep, t, k o ho, r⟩
section
variable {P : Program} {w : World} {A : Around} {E : Value → Shared → Prop} {s : Shared} {a : Addr} {L : List (List Nat)} {m : Nat}
theorem tgood_elems {l : List (Int × Value)} (g : ∀ e ∈ l, TGood w e) : ElemsOf (PySem.strKind P w) l := fun e he => by
  obtain ⟨x, tk, h1, h2⟩ := g e he
  exact ⟨⟨x, by rw [h1]; exact PySem.strKind_is P w x tk, h2⟩, by rw [h1] <;> rfl⟩
theorem tgood_is {e : Int × Value} (g : TGood w e) (x : Str) : (PySem.strKind P w).is x e.2 = true ↔ tkey e = x.cps.toList := by
  obtain ⟨y, tk, h1, _⟩ := g
  unfold tkey
  rw [h1]
  constructor
  · intro h
    have h : Value.isStrOf x (Value.str y tk) = true := h
    obtain ⟨t, e⟩ := Value.isStrOf_shape h
    injection e with e1 _
    show y.cps.toList = _
    rw [e1]
  · intro h
    have h : y.cps.toList = x.cps.toList := h
    have e : y = x := by
      cases y
      cases x
      simp only at h
      exact congrArg Str.mk (Array.toList_inj.mp h)
    rw [e]
    exact PySem.strKind_is P w x tk
theorem set_at {h : Heap} {o : Obj} {es es' : Array (Int × Value)} {ep : Nat} {t t' : SetTable} (ho : h.get? a = some o) (hd : o.data = .set es ep t) : (h.update a (Obj.putSet es' t')).get? a = some { o with data := .set es' (ep + 1) t' } := store_at ho hd
/-- the end of an add -/
theorem tset_tail {g : Bool → Sem Unit} (hg : ∀ (b : Bool) (s1 : Shared) (Q : Unit → Shared → Prop), Q () s1 → wpAny (model P w) A (g b) Q E s1)
    {o : Obj} {es es1 : Array (Int × Value)} {ep : Nat} {t t2 : SetTable} (ho : s.heap.get? a = some o) (hex : o.ExactSet) (hd : o.data = .set es ep t) (g1 : ∀ e ∈ es1.toList, TGood w e) (nd1 : (es1.toList.map tkey).Nodup) (m1 : ∀ k, k ∈ es1.toList.map tkey ↔ k ∈ L)
    (hm : es1.size ≤ m) (hb : m < scanBound) (hf2 : t2.fits es1.size = true) (hr : Ris t2.place.toList) (hl : w.params.followText "set-order" = true ∨ t2.led = true) {wd : Bool} {R : Option Bool → Shared → Prop}
    (hR : ∀ h', Heap.SameBut a s.heap h' → SetT w h' a L m → R (some true) { s with heap := h' }) :
    wpAny (model P w) A (do
      storeSet a es1 t2
      if (!wd && t2.tooFull) = true then do
        g (relayAll t2 es1 (SetTable.grown es1.size)).2.2
        storeSet a (relayAll t2 es1 (SetTable.grown es1.size)).1 (relayAll t2 es1 (SetTable.grown es1.size)).2.1
        pure (some true)
      else pure (some true)) R E s := by
  have hb1 : es1.size < scanBound := Nat.lt_of_le_of_lt hm hb
  refine wpAny_bind (wpAny_storeSet_of ho hd ?_ (fits_of_scanBound hb1))
  have ho1 := set_at (es' := es1) (t' := t2) ho hd
  have sb1 := Heap.SameBut.update s.heap a (Obj.putSet es1 t2)
  split
  · obtain ⟨pm, hf3, hr3, hl3⟩ : _ ∧ _ ∧ _ ∧ _ := ⟨relayAll_perm t2 es1 (SetTable.grown es1.size), relayAll_fits t2 es1 (SetTable.grown es1.size), relayAll_ris t2 es1 (SetTable.grown es1.size), relayAll_led t2 es1 (SetTable.grown es1.size)⟩
    generalize relayAll t2 es1 (SetTable.grown es1.size) = Z at pm hf3 hr3 hl3 ⊢
    obtain ⟨es2, t3, gave⟩ := Z
    dsimp only at pm hf3 hr3 hl3 ⊢
    have hsz : es2.size = es1.size := by rw [← Array.length_toList, pm.length_eq, Array.length_toList]
    refine wpAny_bind (hg _ _ _ ?_)
    refine wpAny_bind (wpAny_storeSet_of ho1 rfl ?_ (fits_of_scanBound (by rw [hsz]; exact hb1)))
    have ho2 := set_at (es' := es2) (t' := t3) ho1 rfl
    refine wpAny_pure (hR _ (sb1.trans (Heap.SameBut.update _ a _)) ⟨_, es2, _, t3, ho2, hex, rfl, fun e he => g1 e (pm.mem_iff.mp he), (pm.map tkey).nodup_iff.mpr nd1, fun k => (pm.map tkey).mem_iff.trans (m1 k), by rw [hsz]; exact hm, hb, hf3, hr3, ?_⟩)
    exact hl.imp id fun z => by rw [hl3]; exact z
  · exact wpAny_pure (hR _ sb1 ⟨_, es1, _, t2, ho1, hex, rfl, g1, nd1, m1, hm, hb, hf2, hr, hl⟩)
/-- one text more -/
theorem tset_add {x : Str} {tk : Tok} {Q : Bool → Shared → Prop} (R : SetT w s.heap a L m) (room : m + 1 < scanBound) (hQ : ∀ b h', Heap.SameBut a s.heap h' → SetT w h' a (x.cps.toList :: L) (m + 1) → Q b { s with heap := h' }) :
    wpAny (model P w) A (setAddHashed a (.str x tk) ((PySem.strKind P w).hash x)) Q E s := by
  obtain ⟨o, es, ep, t, ho, hex, hd, g, nd, hm, hsz, hb, hf, hr, hl⟩ := R.ex
  have hkey : (PySem.strKind P w).is x (.str x tk) = true := PySem.strKind_is P w x tk
  have hsc : (Value.str x tk).scannable = true := rfl
  have hel : ElemsOf (PySem.strKind P w) es.toList := tgood_elems g
  unfold setAddHashed setAddHashedIn
  refine wpAny_holding (wpAny_bind (wpAny_setState_of ho hd hf ?_))
  dsimp only
  rw [byScan_of hsc (Nat.lt_of_le_of_lt hsz hb) hel]
  simp only [↓reduceIte]
  unfold setAddByScan
  refine wpAny_bind (wpAny_bind (wpAny_rule (wpAny_bind (wpAny_setScan_of hkey ho hd hf hel ?_))))
  cases hfi : List.findIdx? (fun e => (PySem.strKind P w).is x e.2) es.toList with
  | some j =>
    dsimp only
    obtain ⟨hj, pj, _⟩ := List.findIdx?_eq_some_iff_getElem.mp hfi
    have hin : x.cps.toList ∈ L := (hm _).mp (List.mem_map.mpr ⟨es.toList[j], List.getElem_mem hj, (tgood_is (P := P) (g _ (List.getElem_mem hj)) x).mp pj⟩)
    refine wpAny_pure (wpAny_pure (hQ _ s.heap (Heap.SameBut.refl a s.heap) ⟨o, es, ep, t, ho, hex, hd, g, nd, fun k => (hm k).trans ?_, by omega, room, hf, hr, hl⟩))
    rw [List.mem_cons]
    exact ⟨.inr, fun z => z.elim (fun e => e ▸ hin) id⟩
  | none =>
    dsimp only
    have hnk : x.cps.toList ∉ es.toList.map tkey := fun z => by
      obtain ⟨e, he, q⟩ := List.mem_map.mp z
      have c := List.findIdx?_eq_none_iff.mp hfi e he
      rw [(tgood_is (P := P) (g e he) x).mpr q] at c
      cases c
    have hgw : ∀ (b : Bool) {s1 : Shared} {Q' : Unit → Shared → Prop}, Q' () s1 → wpAny (model P w) A (match b with | true => rule "set.scan.the-table-gave-way" | false => pure ()) Q' E s1 := fun b s1 Q' q => by
      cases b
      · exact wpAny_pure q
      · exact wpAny_rule q
    obtain ⟨pm, hf1, hr1, hl1⟩ : _ ∧ _ ∧ _ ∧ _ := ⟨layNew_perm t es ((PySem.strKind P w).hash x) (.str x tk), layNew_fits t es ((PySem.strKind P w).hash x) (.str x tk), layNew_ris t es ((PySem.strKind P w).hash x) (.str x tk) hr, layNew_led t es ((PySem.strKind P w).hash x) (.str x tk)⟩
    generalize layNew t es ((PySem.strKind P w).hash x) (.str x tk) = Z at pm hf1 hr1 hl1 ⊢
    obtain ⟨es1, t1, wasDummy, gave⟩ := Z
    dsimp only at pm hf1 hr1 hl1 ⊢
    rw [Array.toList_push] at pm
    have pc : es1.toList.Perm (((PySem.strKind P w).hash x, Value.str x tk) :: es.toList) := pm.trans (List.perm_append_singleton _ _)
    have pk : (es1.toList.map tkey).Perm (x.cps.toList :: es.toList.map tkey) := pc.map tkey
    have g1 : ∀ e ∈ es1.toList, TGood w e := fun e he => by
      rcases List.mem_cons.mp (pc.mem_iff.mp he) with z | z
      · rw [z]
        exact ⟨x, tk, rfl, rfl⟩
      · exact g e z
    have nd1 : (es1.toList.map tkey).Nodup := pk.nodup_iff.mpr (List.nodup_cons.mpr ⟨hnk, nd⟩)
    have m1 : ∀ k, k ∈ es1.toList.map tkey ↔ k ∈ x.cps.toList :: L := fun k => by rw [pk.mem_iff, List.mem_cons, List.mem_cons, hm k]
    have hs1 : es1.size ≤ m + 1 := by
      have q := pc.length_eq
      rw [List.length_cons, Array.length_toList, Array.length_toList] at q
      omega
    have hled : w.params.followText "set-order" = true ∨ t1.led = true := hl.imp id fun z => by rw [hl1]; exact z
    refine wpAny_bind (hgw _ ?_)
    split
    · refine wpAny_bind ?_
      rw [hashByValue_scannable 8 hsc]
      refine wpAny_pure (tset_tail ?_ ho hex hd g1 nd1 m1 hs1 room ?_ ?_ ?_ ?_)
      · intro b s1 Q' q
        cases b
        · exact wpAny_pure q
        · exact wpAny_rule q
      · first | (split <;> first | exact hf1 | exact SetTable.fits_plain_off hf1) | exact hf1
      · first | (split <;> exact hr1) | exact hr1
      · first | (split <;> exact hled) | exact hled
      · intro h' sb r
        dsimp only
        exact wpAny_pure (hQ _ h' sb r)
    · refine wpAny_bind (wpAny_pure ?_)
      simp only [↓reduceIte]
      refine tset_tail ?_ ho hex hd g1 nd1 m1 hs1 room hf1 hr1 hled ?_
      · intro b s1 Q' q
        cases b
        · exact wpAny_pure q
        · exact wpAny_rule q
      · intro h' sb r
        dsimp only
        exact wpAny_pure (hQ _ h' sb r)
/-- set.update's loop over texts -/
theorem tset_loop {I : Addr} {fp wr : List Addr} {G : Array GenState → Array GenState → Prop} {n : Nat} {Pv : Nat → Value → Prop} {St : Nat → Shared → Prop} {R : Result → Shared → Prop} (W : WalksS P w A.in1 I fp wr G n Pv St) (hSf : a ∉ fp) (xs : List Str) (hn : n = xs.length) (hb : xs.length < 4000)
    (hval : ∀ i v, Pv i v → ∃ x t, xs[i]? = some x ∧ v = .str x t) : ∀ (k i : Nat) (s : Shared), n - i = k → i ≤ n → St i s → SetT w s.heap a ((xs.take i).map (·.cps.toList)).reverse i →
      (∀ s', Moved (a :: wr) G s s' → SetT w s'.heap a (xs.map (·.cps.toList)).reverse n → R (.ok (.ret .none)) s') → codeAny (model P w) A (.builtin "set.update.loop" ⟨[.ref a, .ref I], []⟩) R s := by
  have hSw : a ∉ wr := fun h => hSf (W.sub _ h)
  have hsub : ∀ b ∈ wr, b ∈ a :: wr := fun b => List.mem_cons_of_mem _
  intro k
  induction k with
  | zero =>
    intro i s hk hi hst hS hR
    have hin : i = n := by omega
    subst hin
    refine codeAny_builtin F.entry_set_update_loop ?_
    rw [Around.under_plainId F.plain_set_update_loop _]
    show wpAny _ A.in1 (pyNext (.ref I) >>= _) _ _ s
    refine wpAny_bind (W.done s _ _ hst fun s' hm => ?_)
    show wpAny _ A.in1 (ret Value.none) _ _ s'
    rw [hn, List.take_length] at hS
    exact wpAny_pure (hR s' (hm.mono hsub) (by rw [hn]; exact hS.keep fun o e => hm.heap a o hSw e))
  | succ k ih =>
    intro i s hk hi hst hS hR
    have hlt : i < n := by omega
    refine codeAny_builtin F.entry_set_update_loop ?_
    rw [Around.under_plainId F.plain_set_update_loop _]
    show wpAny _ A.in1 (pyNext (.ref I) >>= _) _ _ s
    refine wpAny_bind (W.item i s _ _ hlt hst fun v s' hP hst' hm => ?_)
    obtain ⟨x, t, hx, rfl⟩ := hval i v hP
    have hS' := hS.keep fun o e => hm.heap a o hSw e
    show wpAny _ A.in1 (holding [Value.str x t] (setAdd a (.str x t)) >>= _) _ _ s'
    refine wpAny_bind (wpAny_holding ?_)
    unfold setAdd
    refine wpAny_holding (wpAny_bind ((PySem.strKind P w).pyHash (k := x) (PySem.strKind_is _ _ _ _) ?_))
    refine tset_add (s := { s' with toks := s'.toks + 1 }) hS' (by unfold scanBound; omega) fun bb h' hsb hS2 => ?_
    have e : x.cps.toList :: ((xs.take i).map (·.cps.toList)).reverse = ((xs.take (i + 1)).map (·.cps.toList)).reverse := by
      rw [List.take_add_one, hx, List.map_append, List.reverse_append]
      rfl
    rw [e] at hS2
    refine wpAny_pure ⟨plainId_quiet F.plain_set_update_loop _, ih (i + 1) _ (by omega) hlt (W.frame _ s' _ _ hst' (Nat.le_succ _) fun b hb o e => ?_) hS2 fun s'' hm'' hS'' => ?_⟩
    · rw [hsb.2 b fun h => hSf (h ▸ hb)]
      exact e
    · refine hR s'' (Moved.trans W.gtrans ((hm.mono hsub).then_heap (Nat.le_succ _) fun b o hb e => ?_) hm'') hS''
      rw [hsb.2 b fun h => hb (by rw [h]; exact List.mem_cons_self)]
      exact e
theorem strs_get : ∀ {us : List Value} {xs : List Str}, StrsAre us xs → ∀ (i : Nat) (v : Value), us[i]? = some v → ∃ x t, xs[i]? = some x ∧ v = .str x t
  | _, _, .nil, i, v, h => by simp at h
  | _, _, .cons n t hr, 0, v, h => by
    simp at h
    exact ⟨n, t, rfl, h.symm⟩
  | _, _, .cons n t hr, i + 1, v, h => by
    simp only [List.getElem?_cons_succ] at h ⊢
    exact strs_get hr i v h
theorem tset_fresh {h : Heap} (ho : h.get? a = some { cls := .type "set", dict := none, data := .set #[] 0 (.fresh 0 0 (!w.params.followText "set-order")) }) : SetT w h a [] 0 :=
  ⟨_, #[], 0, _, ho, ⟨rfl, rfl, rfl⟩, rfl, (fun e he => by simp at he), (by simp), (fun k => by simp), (by decide), (by decide), (by rfl), List.Pairwise.nil, by
    show _ ∨ (!w.params.followText "set-order") = true
    cases w.params.followText "set-order" <;> simp⟩
/-- a new set's object -/
abbrev nset (w : World) : Obj := { cls := .type "set", dict := none, data := .set #[] 0 (.fresh 0 0 (!w.params.followText "set-order")) }
/-- set(xs), xs a list of texts -/
theorem call_tset {l : Addr} {items : Array Value} {xs : List Str} {Q : Value → Shared → Prop} (hh : A.handled = none) (hl : s.heap.IsList l items) (hi : StrsAre items.toList xs) (hb : xs.length < 4000)
    (h : ∀ (h' : Heap) (tk : Nat), SetT w h' s.heap.objs.size (xs.map (·.cps.toList)).reverse xs.length → (∀ b o, s.heap.get? b = some o → h'.get? b = some o) → Q (.ref s.heap.objs.size) { s with heap := h', toks := tk }) :
    wpAny (model P w) A (call (.type "set") [.ref l]) Q E s := by
  obtain ⟨c, tl, hmro⟩ := F.called_set.mro
  have hmade := F.called_set.made
  have hsub := F.called_set.sub
  refine wpAny_call (codeAny_of_tree ?_)
  show wpAny _ _ (callAny (.type "set") _) _ _ _
  refine wpAny_pure ⟨Code.quiet_builtin _ (by decide +kernel), codeAny_builtin F.entry_type_call ?_⟩
  rw [Around.under_plain (weight_type_call_type "set" [.ref l] []) rfl]
  have h1 := F.called_set.notType
  have h2 := F.called_set.canCreate
  have hct := F.typeCall_set_1 (.ref l)
  repeat (any_goals (first | assumption | wp_step))
  refine codeAny_mono (code_set_led1 (.ref l) (E := E) (Q₁ := fun obj s₁ => obj = .ref s.heap.objs.size ∧ s₁ = { s with heap := s.heap.push { cls := .type "set", dict := none, data := .set #[] 0 (.fresh 0 0 (!w.params.followText "set-order")) } }) ⟨rfl, rfl⟩) fun r s₁ hr => ?_
  cases r with
  | error e => exact hr
  | ok fl =>
    cases fl with
    | ret obj =>
      obtain ⟨rfl, rfl⟩ := hr
      have hS : (s.heap.push (nset w)).get? s.heap.objs.size = some (nset w) := Heap.get?_push_size _ rfl
      have hT : Shared.TypeIs { s with heap := s.heap.push (nset w) } (.ref s.heap.objs.size) "set" := ⟨_, hS, rfl⟩
      have hli := F.called_set.init.lookup
      have hbi := F.called_set.init.bind (.ref s.heap.objs.size)
      repeat (any_goals (first | assumption | wp_step))
      refine codeAny_mono (codeAny_call_builtin (R := wants (fun r s₂ => r = .none ∧ ∃ h' tk, s₂ = { s with heap := h', toks := tk } ∧ SetT w h' s.heap.objs.size (xs.map (·.cps.toList)).reverse xs.length ∧ (∀ b o, s.heap.get? b = some o → h'.get? b = some o)) E) F.called_set.init.plain F.entry_set_init (check_set_init_1 hT ?_)) fun r₂ s₂ hr₂ => ?_
      · obtain ⟨ol, hol, hcl, nl, hdl⟩ := hl
        obtain ⟨ocls, odict, odata, oslots⟩ := ol
        simp only at hcl hdl
        subst hcl hdl
        have hol' : (s.heap.push (nset w)).get? l = some { cls := .type "list", dict := odict, data := .seq items nl, slots := oslots } := Heap.get?_push_of_some _ hol
        have hsls := F.sub_list_set
        have hslf := F.sub_list_frozenset
        have hne : (Value.type "list" == Value.type "dict") = false := by decide
        have hl1 : (s.heap.push (nset w)).IsList l items := ⟨_, hol', rfl, nl, rfl⟩
        unfold Builtin.«set.__init__» noKeywords Builtin.Frozenset.updateFrom
        generalize hPI : pyIter = PI
        wp_walk
        subst hPI
        refine wpAny_pyIter_list hl1 ?_
        refine wpAny_bind (wpAny_runValue ?_)
        have hlS : l < s.heap.objs.size := Heap.lt_size hol
        have hh3 : A.in1.in1.in1.handled = none := by simp [hh]
        have hz : (s.heap.push (nset w)).objs.size = s.heap.objs.size + 1 := Heap.size_push ..
        have hneI : l ≠ (s.heap.push (nset w)).objs.size := by
          rw [hz]
          exact Nat.ne_of_lt (Nat.lt_succ_of_lt hlS)
        have hSf : s.heap.objs.size ∉ [(s.heap.push (nset w)).objs.size, l] := by
          rw [hz]
          simp only [List.mem_cons, List.not_mem_nil, or_false, not_or]
          exact ⟨Nat.ne_of_lt (Nat.lt_succ_self _), Nat.ne_of_gt hlS⟩
        have hsz : items.size = xs.length := by rw [← hi.length, Array.length_toList]
        refine tset_loop ((Walks.list hh3 _ l hneI items).toS) hSf xs hsz hb (fun i v hv => strs_get hi i v (by rw [Array.getElem?_toList]; exact hv)) (items.size - 0) 0 _ (by omega) (Nat.zero_le _) ⟨⟨_, Heap.get?_push_size _ rfl, rfl, rfl⟩, hl1.push _⟩ ?_ fun s' hm hS' => ?_
        · exact tset_fresh (Heap.get?_push_of_some _ hS)
        · obtain ⟨h', g', d', tk', os'⟩ := s'
          have eg : g' = s.gens := hm.gens
          have ed : d' = s.drawn := hm.drawn
          have eo : os' = s.os := hm.os
          subst eg ed eo
          show wpAny _ _ _ _ _ _
          refine wpAny_pure ?_
          show wpAny _ _ (ret Value.none) _ _ _
          rw [hsz] at hS'
          refine wpAny_pure ⟨rfl, h', tk', rfl, hS', fun b o e => ?_⟩
          have hlt := Heap.lt_size e
          refine hm.heap b o ?_ (Heap.get?_push_of_some _ (Heap.get?_push_of_some _ e))
          show b ∉ [s.heap.objs.size, (s.heap.push (nset w)).objs.size]
          rw [hz]
          simp only [List.mem_cons, List.not_mem_nil, or_false, not_or]
          exact ⟨Nat.ne_of_lt hlt, Nat.ne_of_lt (Nat.lt_succ_of_lt hlt)⟩
      · cases r₂ with
        | error e => exact hr₂
        | ok fl₂ =>
          cases fl₂ with
          | ret r =>
            obtain ⟨rfl, h', tk, rfl, hS', hk'⟩ := hr₂
            repeat (any_goals (first | assumption | wp_step))
            exact h _ _ hS' hk'
          | _ => exact hr₂.elim
    | _ => exact hr.elim
/-- sorted(set) -/
theorem risingS_le : ∀ (l : List Str) (x : Str), risingS x l = true → (x :: l).Pairwise fun x y => ¬ y.cps.toList < x.cps.toList
  | [], x, _ => List.pairwise_singleton _ _
  | y :: l, x, h => by
    have h : (!ltCps y.cps.toList x.cps.toList && risingS y l) = true := h
    rw [Bool.and_eq_true, Bool.not_eq_true', ltCps_eq, decide_eq_false_iff_not] at h
    have ih := risingS_le l y h.2
    refine List.pairwise_cons.mpr ⟨fun z hz => ?_, ih⟩
    rcases List.mem_cons.mp hz with rfl | hz
    · exact h.1
    · exact Lyn.le_trans (a := x.cps.toList) h.1 ((List.pairwise_cons.mp ih).1 z hz)
theorem sortedS_le : ∀ {l : List Str}, sortedS l = true → l.Pairwise fun x y => ¬ y.cps.toList < x.cps.toList
  | [], _ => List.Pairwise.nil
  | x :: l, h => risingS_le l x h
theorem tx_map (l : List Str) : l = (l.map (·.cps.toList)).map fun w => (⟨w.toArray⟩ : Str) := by
  rw [List.map_map]
  exact (List.map_id' l).symm.trans (List.map_congr_left fun x _ => by cases x; simp)
/-- a sorted list of texts, each once, is the one -/
theorem sorted_is {l : List Str} {L : List (List Nat)} (h : sortedS l = true) (nd : (l.map (·.cps.toList)).Nodup) (hm : ∀ k, k ∈ l.map (·.cps.toList) ↔ k ∈ L) : l = (Lyn.sortU L).map fun w => ⟨w.toArray⟩ := by
  have e : l.map (·.cps.toList) = Lyn.sortU L := by
    refine Lyn.up_uniq ?_ (Lyn.up_sortU L) fun z => (hm z).trans Lyn.mem_sortU.symm
    have h1 := (List.pairwise_map (f := fun x : Str => x.cps.toList) (R := fun u v : List Nat => ¬ v < u)).mpr (sortedS_le h)
    refine (List.Pairwise.and h1 nd).imp fun {u v} q => ?_
    rcases Lyn.tri u v with t | t | t
    · exact t
    · exact absurd t q.2
    · exact absurd t q.1
  rw [← e]
  exact tx_map l
theorem sorted_tset {Q : Value → Shared → Prop} (R : SetT w s.heap a L m) (hh : A.handled = none)
    (hQ : ∀ s' p (out : Array Value) (c : Nat), (∀ b o, s.heap.get? b = some o → s'.heap.get? b = some o) → s'.gens = s.gens → s'.os = s.os → s.heap.objs.size ≤ p → s'.heap.get? p = some (seqObj "list" out c) → StrsAre out.toList ((Lyn.sortU L).map fun w => ⟨w.toArray⟩) → Q (.ref p) s') :
    wpAny (model P w) A (call (.builtin "sorted") [.ref a]) Q E s := by
  obtain ⟨o, es, ep, t, ho, hex, hd, g, nd, hm, hsz, hb, hf, hr, hl⟩ := R.ex
  refine Calls.call_function_entry kind_sorted plain_sorted entry_sorted (args_sorted1 _) ?_
  unfold Builtin.«sorted»
  refine wpAny_bind (m := checkCount "sorted" 1 1 _) (wpAny_pure ?_)
  refine wpAny_bind (collect_set (A := A.in1) hh ⟨o, ho, hex.1, hd⟩ hf (Nat.lt_of_le_of_lt hsz hb) hr hl fun s1 vs k1 hz g1 o1 pm => ?_)
  have hvl : vs.length ≤ sizeLine := by
    rw [pm.length_eq, List.length_map, Array.length_toList]
    exact fits_of_scanBound (Nat.lt_of_le_of_lt hsz hb)
  have hI : StrsAre vs (vs.map strOf) := strsAre_map vs fun v hv => by
    obtain ⟨e, he, q⟩ := List.mem_map.mp (pm.mem_iff.mp hv)
    obtain ⟨x, tk, h1, _⟩ := g e he
    exact ⟨x, tk, by rw [← q]; exact h1⟩
  have pk : ((vs.map strOf).map (·.cps.toList)).Perm (es.toList.map tkey) := by
    have q := (pm.map strOf).map (fun x : Str => x.cps.toList)
    simp only [List.map_map] at q ⊢
    refine q.trans (List.Perm.of_eq (List.map_congr_left fun e he => ?_))
    obtain ⟨x, tk, h1, _⟩ := g e he
    show (strOf e.2).cps.toList = tkey e
    unfold tkey
    rw [h1]
    rfl
  refine wpAny_bind (wpAny_newList ?_ hvl)
  have hoL : (s1.heap.push (seqObj "list" vs.toArray 0)).get? s1.heap.objs.size = some (seqObj "list" vs.toArray 0) := Heap.get?_push_size _ rfl
  refine wpAny_bind (wpAny_holding (wpAny_call_entry slot_list_sort ⟨_, hoL, rfl⟩ entry_list_sort (list_sort_treeKAny strKind_oneLt hoL hI.keysOf (fun v1 v2 rest e => keyKind_strs (by rw [← e]; exact hI)) hvl fun st' hp hs => ⟨_, rfl, ?_⟩) (args_list_sort _)))
  obtain ⟨ss', b1, b2, b3⟩ := sorted_out_str hI hp hs
  obtain ⟨c, hc⟩ := sortedHeap_at (vs := vs) (out := (arrOf st').map (·.2)) hoL
  have pn := (b2.map (fun x : Str => x.cps.toList)).trans pk
  have e := sorted_is (L := L) b3 (pn.nodup_iff.mpr nd) fun k => pn.mem_iff.trans (hm k)
  rw [e] at b1
  refine wpAny_pure ⟨_, rfl, hQ _ s1.heap.objs.size _ c (fun b u e => ?_) g1 o1 hz hc b1⟩
  have q := k1 b u e
  have hlt := Heap.lt_size q
  show (sortedHeap (s1.heap.push (seqObj "list" vs.toArray 0)) s1.heap.objs.size vs _).get? b = some u
  rw [sortedHeap_old (Nat.ne_of_lt hlt) (by rw [size_push']; exact Nat.lt_succ_of_lt hlt)]
  exact Heap.get?_push_of_some _ q
end
/-- the set of the texts of L at a, as it stands in the abstract heap -/
def SetTO (w : World) (a : Addr) (L : List (List Nat)) (m : Nat) : HO := .ext fun h => SetT w h a L m
section
variable {X : Cx} {a : Expr} {σ : L2.St} {H : Hp} {pos : Pos}
theorem setTO_ok {P : Program} {w : World} {H : Hp} {h : Heap} {a : Addr} {L : List (List Nat)} {m : Nat} (R : SetT w h a L m) : ObjOk P w H h a (SetTO w a L m) := by
  have ⟨o, _, _, _, ho, _⟩ := R.ex
  exact ⟨R, ⟨o, ho⟩, fun h1 h2 p k => SetT.keep p k⟩
def rSetTx (K : PySem.W.Frag) (w : World) : List V → Hp → VK → Prop := fun vs H Q => ∃ (l : Addr) (ws : List (List Nat)), vs = [V.ref l] ∧ SqL K H l (ws.map Tx) ∧ ws.length < 4000 ∧ ∀ p, H p = none → Q (.ref p) (upd H p (SetTO w p ws.reverse ws.length))
theorem cr_setTx (hc : X.calm = true) : CallR X (.type "set") (rSetTx X.K X.w) := by
  intro pins s σ H xs us Q I r h
  obtain ⟨l, ws, rfl, hl, hf, q⟩ := h
  rw [Vals.ref1 r]
  obtain ⟨its, rv, pl, hz⟩ := I.list hl
  have hn : H s.heap.objs.size = none := I.hok.fresh (Nat.le_refl _)
  have hs : StrsAre its (ws.map fun w => (⟨w.toArray⟩ : Str)) := by
    have rv' : Vals ((ws.map fun w => (⟨w.toArray⟩ : Str)).map V.str) its := by rw [map_tx]; exact rv
    exact rv'.strs
  refine call_tset (P := X.prog) (w := X.w) (I.ok.hd hc) pl.isList (by simpa using hs) (by rw [List.length_map]; exact hf) fun h' tk R k => ?_
  have e : ((ws.map fun w => (⟨w.toArray⟩ : Str)).map (·.cps.toList)) = ws := by
    rw [List.map_map]
    exact (List.map_congr_left fun x _ => by simp).trans (List.map_id' ws)
  rw [e, List.length_map] at R
  exact ⟨.ref s.heap.objs.size, _, I.laid (t' := tk) k (Nat.le_refl _) (setTO_ok R), rfl, q _ hn⟩
def rSortedTx (w : World) : List V → Hp → VK → Prop := fun vs H Q => ∃ (a : Addr) (L : List (List Nat)) (m : Nat), vs = [V.ref a] ∧ H a = some (SetTO w a L m) ∧ ∀ p, H p = none → Q (.ref p) (upd H p (.lst ((Lyn.sortU L).map Tx)))
theorem cr_sortedTx (hc : X.calm = true) : CallR X (.builtin "sorted") (rSortedTx X.w) := by
  intro pins s σ H vs us Q I r h
  obtain ⟨a, L, m, rfl, ha, q⟩ := h
  have R : SetT X.w s.heap a L m := (I.hok a _ ha).1
  rw [Vals.ref1 r]
  refine sorted_tset R (I.ok.hd hc) fun s' p out c k g o hp hg hout => ?_
  have hn : H p = none := I.hok.fresh hp
  have hv : Vals ((Lyn.sortU L).map Tx) out.toList := by
    have := vals_of_strs hout
    rwa [map_tx] at this
  have hlen : ((Lyn.sortU L).map Tx).length ≤ sizeLine := by
    have h2 : SetT X.w s.heap a L m := R
    obtain ⟨o, es, ep, t, ho, hex, hd, g, nd, hm, hsz, hb, hf, hr, hl⟩ := h2.ex
    rw [List.length_map]
    have pn : (Lyn.sortU L).Perm (es.toList.map tkey) := (List.perm_ext_iff_of_nodup ((Lyn.up_sortU L).imp fun {x y} (h : x < y) (e : x = y) => Lyn.irr y (by rw [e] at h; exact h)) nd).mpr fun k => Lyn.mem_sortU.trans (hm k).symm
    rw [pn.length_eq, List.length_map, Array.length_toList]
    exact fits_of_scanBound (Nat.lt_of_le_of_lt hsz hb)
  have J : Inv X pins σ (upd H p (.lst ((Lyn.sortU L).map Tx))) { s with heap := s'.heap, gens := s'.gens, drawn := s'.drawn, toks := s'.toks } :=
    I.call (ch := []) (Un.laid k hp hn) (I.hok.laid k hp ⟨hlen, out.toList, c, hv, hg⟩) (by rw [g]; exact I.bare) (fun _ z => nomatch z)
  have e : s' = { s with heap := s'.heap, gens := s'.gens, drawn := s'.drawn, toks := s'.toks } := by
    cases s'
    cases s
    cases o
    rfl
  rw [e]
  exact ⟨.ref p, _, J, rfl, q p hn⟩
theorem sortU_reverse (L : List (List Nat)) : Lyn.sortU L.reverse = Lyn.sortU L := Lyn.up_uniq (Lyn.up_sortU _) (Lyn.up_sortU _) fun z => by rw [Lyn.mem_sortU, Lyn.mem_sortU, List.mem_reverse]
/-- sorted(set(xs)) -/
theorem l_sortedSet {p p2 q : Pos} {ws : List (List Nat)} (hc : X.calm = true) (he : ER X a σ H (isL X.K (ws.map Tx))) (hw : ws.length < 4000) (m1 : X.mg "sorted" = none) (m2 : X.mg "set" = none) (g1 : Gl X "sorted" := by rfl) (g2 : Gl X "set" := by rfl) (ns : NS X a := by exact fun _ => rfl) (ns2 : NS X (.Call (.Name "set" p2) [a] [] q) := by exact fun _ => rfl) :
    EL X (.Call (.Name "sorted" p) [.Call (.Name "set" p2) [a] [] q] [] pos) σ H ((Lyn.sortU ws).map Tx) :=
  EL.of (pe_callB (cr_sortedTx hc) g1 m1 (by decide +kernel) (pa_cons (pe_callTy (cr_setTx hc) g2 m2 (by decide +kernel) (pa_cons pE pa_nil (ns [])) (he := ns [])) pa_nil (ns2 [])) (he := ns2 [])) fun H1 e1 Q k => he H1 e1 _ fun v H2 e2 hv => by
    obtain ⟨l, rfl, hl⟩ := hv
    refine ⟨l, ws, rfl, hl, hw, fun p hp => ⟨p, ws.reverse, ws.length, rfl, upd_same, fun p' hp' => ?_⟩⟩
    rw [sortU_reverse]
    have hp2 : H2 p' = none := by
      by_cases e : p' = p
      · rw [e, upd_same] at hp'
        cases hp'
      · rwa [upd_ne e] at hp'
    refine k p' _ (fresh_back e2 hp2) (e2.trans ((Ex.new hp).trans (Ex.new hp'))) upd_same
end
end Wx
namespace Wx
open PySem PySem.Spec PyProof.Rows L2 Evl
section
variable {X : Cx} {e a b c tg : Expr} {es : List Expr} {σ : L2.St} {H : Hp} {v x y z : V} {pos : Pos} {m n k : Nat} {xs : List V} {u w : List Nat}
/-- isinstance(x, T), T a built-in class -/
theorem e_isi {p pc : Pos} {U T : String} {nm : Str} {R : V → Hp → Prop} {q : Bool} (he : ER X a σ H R) (hs : ∀ v H1 H2, Ex H1 H2 → R v H1 → R v H2) (hty : ∀ v H1, R v H1 → TyX X.K H1 v (.type U)) (hk : kitB U T = some q) (hv : bootBuiltins nm = some (.type T)) (hm : X.mg "isinstance" = none) (hmT : X.mg nm = none)
    (hg : Gl X "isinstance" := by rfl) (hgT : Gl X nm := by rfl) (hn : nm ≠ "__name__" := by decide) (hd : (nm == ("__debug__" : Str)) = false := by decide) (ns : NS X a := by exact fun _ => rfl) (ns2 : NS X (.Name nm pc) := by exact fun _ => rfl) (hpl : (backTo pos (starEach [.Name nm pc] X.env)).any (·.1) = false := by rfl) :
    E X (.Call (.Name "isinstance" p) [a, .Name nm pc] [] pos) σ H (.bl q) :=
  E.of (pe_callB call_isi hg hm (by decide +kernel) (pa_cons pE (pa_cons (pe_bltn (v := .ty T) hgT hmT hv rfl hn hd) pa_nil (ns2 [])) (ns _)) (he := ns _) (hpl := hpl)) fun H1 e1 Q k => he H1 e1 _ fun v H2 e2 hR => ⟨v, .ty T, .type U, .type T, q, rfl, .ty T, hty v H2 hR, kit_ty hk, k H2 e2⟩
theorem ty_tup {K : PySem.W.Frag} {H : Hp} {v : V} (h : isT K xs v H) : TyX K H v (.type "tuple") := by
  obtain ⟨p, rfl, hp⟩ := h
  rcases hp with (hp | ⟨o, hp⟩) | ⟨o, its, n, hk, hc, _⟩
  · exact .base (.tup hp)
  · exact .fTuple hp
  · exact .kTuple hk hc
/-- an item of a list or tuple of texts, of numbers -/
theorem at_nat {xs : List V} {j : Nat} {v : V} (h : xs[j]? = some v) : atI xs (j : Int) = some v := atI_nat h
theorem at_last {xs : List V} {v : V} (h : xs.getLast? = some v) : atI xs (-1) = some v := by
  obtain ⟨r, rfl⟩ : ∃ r, xs = r ++ [v] := by
    rcases List.eq_nil_or_concat xs with q | ⟨r, x, rfl⟩
    · subst q
      simp at h
    · simp at h
      exact ⟨r, by simp [h]⟩
  exact atI_last r v
/-- -1 -/
theorem e_neg {i : Int} (h : E X a σ H (.int i)) : E X (.UnaryOp .USub a pos) σ H (.int (-i)) := E.of (pe_un un_neg pE) (ev_un h ru_neg)
end
end Wx
namespace Wx
open PySem PySem.Spec PyProof.Rows L2 Evl
section
variable {X : Cx} {e a b c tg : Expr} {es : List Expr} {rest : List Stmt} {σ : L2.St} {H : Hp} {v x y z : V} {pos : Pos} {m n k : Nat} {xs : List V} {u w : List Nat} {D : Ends}
theorem b_augN {i : Nat} {nm : Str} {p : Pos} (hx : σ[i]? = some (some (Nm m))) (he : E X e σ H (Nm n)) (k : ∀ H1, Ex H H1 → wSs X rest D (σ.set i (some (Nm (m + n)))) H1) (hN : X.N.Nodup) (hi : X.N[i]? = some nm := by rfl)
    (hl : Loc X.env.scope nm := by first | exact Or.inl rfl | exact Or.inr rfl) (hf : X.fn nm = true ∨ X.env.scope.names.lookup nm = some .local := by first | exact .inl rfl | exact .inr rfl) : wSs X (.AugAssign (.Name nm p) .Add e pos :: rest) D σ H :=
  b_aug hx he ip_add (fun H1 e1 => by
    have q : ((m : Int) + (n : Int)) = ((m + n : Nat) : Int) := by omega
    rw [q]
    exact k H1 e1) hN hi hl hf
theorem sing_lt {a b : Nat} : ([a] : List Nat) < [b] ↔ a < b := by
  rw [List.cons_lt_cons_iff]
  constructor
  · rintro (h | ⟨_, h⟩)
    · exact h
    · exact absurd h (List.not_lt_nil _)
  · exact .inl
/-- two signs of a text -/
theorem tc_lt {p q : Nat} (ha : E X a σ H (Tx [p])) (hb : E X b σ H (Tx [q])) : ET X (.Compare a [.Lt] [b] pos) σ H (decide (p < q)) := ET.is (t_ltS ha hb) (decide_eq_decide.mpr sing_lt)
theorem tc_le {p q : Nat} (ha : E X a σ H (Tx [p])) (hb : E X b σ H (Tx [q])) : ET X (.Compare a [.LtE] [b] pos) σ H (decide (p ≤ q)) := ET.is (t_leS ha hb) (by
  rw [show (decide (([q] : List Nat) < [p])) = decide (q < p) from decide_eq_decide.mpr sing_lt, ← decide_not]
  exact decide_eq_decide.mpr Nat.not_lt)
theorem tc_eq {p q : Nat} (ha : E X a σ H (Tx [p])) (hb : E X b σ H (Tx [q])) : ET X (.Compare a [.Eq] [b] pos) σ H (decide (p = q)) := ET.is (t_eqS ha hb) (decide_eq_decide.mpr (by simp))
theorem tc_ne {p q : Nat} (ha : E X a σ H (Tx [p])) (hb : E X b σ H (Tx [q])) : ET X (.Compare a [.NotEq] [b] pos) σ H (!decide (p = q)) := ET.is (t_neS ha hb) (by rw [show decide (([p] : List Nat) = [q]) = decide (p = q) from decide_eq_decide.mpr (by simp)])
theorem e_lenTm {α : Type} {p : Pos} {as : List α} {f : α → V} (he : ER X e σ H (isT X.K (as.map f))) (hm : X.mg "len" = none) (hg : Gl X "len" := by rfl) (ns : NS X e := by exact fun _ => rfl) : E X (.Call (.Name "len" p) [e] [] pos) σ H (Nm as.length) :=
  E.is (e_lenT he hm hg ns) (by rw [List.length_map])
theorem e_lenLm {α : Type} {p : Pos} {as : List α} {f : α → V} (he : ER X e σ H (isL X.K (as.map f))) (hm : X.mg "len" = none) (hg : Gl X "len" := by rfl) (ns : NS X e := by exact fun _ => rfl) : E X (.Call (.Name "len" p) [e] [] pos) σ H (Nm as.length) :=
  E.is (e_lenL he hm hg ns) (by rw [List.length_map])
end
end Wx
namespace Wx
open PySem PySem.Spec PyProof.Rows L2 Evl
section
variable {X : Cx} {e a b c tg : Expr} {es : List Expr} {rest : List Stmt} {σ : L2.St} {H : Hp} {v x y z : V} {pos : Pos} {m n k : Nat} {xs : List V} {u w : List Nat} {D : Ends} {R R' R'' : V → Hp → Prop}
/-- relations in, a relation out -/
theorem er_op {r : R2} {ta tb : TE} (ha : EvR ta σ H R) (hs : ∀ v H1 H2, Ex H1 H2 → R v H1 → R v H2) (hb : EvR tb σ H R') (hr : ∀ v u H1, Ex H H1 → R v H1 → R' u H1 → ∀ Q : VK, (∀ z H2, Ex H1 H2 → R'' z H2 → Q z H2) → r v u H1 Q) : EvR (tOp r ta tb) σ H R'' := fun H1 e Q k =>
  ha H1 e _ fun v H2 e2 r2 => hb H2 (e.trans e2) _ fun u H3 e3 r3 => hr v u H3 ((e.trans e2).trans e3) (hs v H2 H3 e3 r2) r3 Q fun z H4 e4 r4 => k z H4 ((e2.trans e3).trans e4) r4
theorem r_bin {op : Operator} {r : R2} (ho : OpR X (binaryOp op) r) (ha : ER X a σ H R) (hs : ∀ v H1 H2, Ex H1 H2 → R v H1 → R v H2) (hb : ER X b σ H R') (hr : ∀ v u H1, Ex H H1 → R v H1 → R' u H1 → ∀ Q : VK, (∀ z H2, Ex H1 H2 → R'' z H2 → Q z H2) → r v u H1 Q) : ER X (.BinOp a op b pos) σ H R'' :=
  ER.of (pe_op ho pE pE) (er_op ha hs hb hr)
/-- some int -/
def anI : V → Hp → Prop := fun v _ => ∃ z : Int, v = .int z
theorem anIS : ∀ (v : V) (H1 H2 : Hp), Ex H1 H2 → anI v H1 → anI v H2 := fun _ _ _ _ h => h
theorem E.anI {i : Int} (h : E X e σ H (.int i)) : ER X e σ H anI := Ev.r h fun _ _ => ⟨i, rfl⟩
theorem r_add (ha : ER X a σ H anI) (hb : ER X b σ H anI) : ER X (.BinOp a .Add b pos) σ H anI := r_bin op_add ha anIS hb fun v u H1 _ hv hu Q q => by
  obtain ⟨i, rfl⟩ := hv
  obtain ⟨j, rfl⟩ := hu
  exact ⟨i, j, rfl, rfl, q _ H1 (Ex.refl H1) ⟨_, rfl⟩⟩
/-- a call of one's own def, its arguments by their readings -/
theorem pe_df1 {k' : Nat} {nm : Str} {ps : List Str} {sp : Sp} {p : Pos} (D : Df X.prog X.w X.K X.mg X.base k nm ps sp) (hr : Room k' X.A) (hk : k ≤ k' := by decide) (hg : Gl X nm := by rfl) (hdb : (nm == ("__debug__" : Str)) = false := by decide) (ns : NS X a := by exact fun _ => rfl) :
    PE X (.Call (.Name nm p) [a] [] pos) (tCall sp [] E0 (tCons (wE X a) tNil)) := by
  obtain ⟨f, fd, F, hm, hkp, hb⟩ := D.ex
  exact pe_call F (hr.mono hk) hg hm hkp hb .nil pass0 (pa_cons pE pa_nil (ns [])) hdb (ns []) rfl
theorem pe_df2 {k' : Nat} {nm : Str} {ps : List Str} {sp : Sp} {p : Pos} (D : Df X.prog X.w X.K X.mg X.base k nm ps sp) (hr : Room k' X.A) (hk : k ≤ k' := by decide) (hg : Gl X nm := by rfl) (hdb : (nm == ("__debug__" : Str)) = false := by decide) (ns : NS X a := by exact fun _ => rfl) (ns2 : NS X b := by exact fun _ => rfl)
    (hpl : (backTo pos (starEach [b] X.env)).any (·.1) = false := by rfl) : PE X (.Call (.Name nm p) [a, b] [] pos) (tCall sp [] E0 (tCons (wE X a) (tCons (wE X b) tNil))) := by
  obtain ⟨f, fd, F, hm, hkp, hb⟩ := D.ex
  exact pe_call F (hr.mono hk) hg hm hkp hb .nil pass0 (pa_cons pE (pa_cons pE pa_nil (ns2 [])) (ns [b])) hdb (ns [b]) hpl
/-- a statement by the exact heap: what an expression may leave -/
theorem b_asgX {i : Nat} {nm : Str} {p : Pos} (he : wE X e σ H fun v H1 => wSs X rest D (σ.set i (some v)) H1) (hN : X.N.Nodup) (hi : X.N[i]? = some nm := by rfl) (hx : Loc X.env.scope nm := by first | exact Or.inl rfl | exact Or.inr rfl)
    (hs : swapsWith e (some (.Name nm p)) pos.line X.env = pure false := by rfl) (hf : X.fn nm = true ∨ X.env.scope.names.lookup nm = some .local := by first | exact .inl rfl | exact .inr rfl) : wSs X (.Assign [.Name nm p] e pos :: rest) D σ H := b_st (ps_set hN hi hx pE hs hf) he
theorem of_pe {te : TE} {Q : VK} (h : PE X e te) (q : te σ H Q) : wE X e σ H Q := fun pins s I => h.run pins s σ H Q I q
end
end Wx
namespace Wx
open PySem PySem.Spec PyProof.Rows L2 Evl
section
variable {X : Cx} {e a b c tg : Expr} {es : List Expr} {rest : List Stmt} {σ : L2.St} {H : Hp} {v x y z : V} {pos : Pos} {m n k : Nat} {xs vs : List V} {u w : List Nat} {D : Ends}
/-- [elt for x in range(..)], the element may change the heap -/
theorem x_comp {sc : Scope} {elt iter : Expr} {own : List (Str × Nat)} {nm : Str} {j : Nat} {gp : Pos} {Q : VK} (Pv : Addr → Nat → Hp → Prop) (hc : X.calm = true) (hN : X.N.Nodup) (ok : BlkOk X.N X.env.scope sc own)
    (hg : ∀ (s : Shared) (H0 : Hp) (C : Addr) (cl : List (Str × Addr)) (fp : List Addr), PG (X.blk s H0 sc (compEnvC sc cl C X.env) fp) (.Name nm gp) (gName j))
    (hi : EIc X (.Name nm gp) iter σ H vs) (hw : ∀ x, wipe ((wipe σ (own.map (·.2))).set j (some x)) (own.map (·.2)) = wipe σ (own.map (·.2)))
    (h0 : ∀ D H1, Ex H H1 → H1 D = none → Pv D 0 (upd H1 D (.lst [])))
    (he : ∀ D i x H', vs[i]? = some x → Pv D i H' → ∀ (s : Shared) (H0 : Hp) (C : Addr) (cl : List (Str × Addr)) (fp : List Addr), wE (X.blk s H0 sc (compEnvC sc cl C X.env) fp) elt ((wipe σ (own.map (·.2))).set j (some x)) H' fun y H4 => ∃ acc, H4 D = some (.lst acc) ∧ acc.length < sizeLine ∧ Pv D (i + 1) (upd H4 D (.lst (acc ++ [y]))))
    (hd : ∀ D H', Pv D vs.length H' → Q (.ref D) H') (hs : ∀ x, foldedSetIterable iter X.env x = pure x := by intro _; rfl) :
    wE X (.ListComp elt [⟨.Name nm gp, iter, [], 0⟩] sc pos) σ H Q :=
  of_pe (pe_lc (pos := pos) (elt := elt) (te := wEb X sc elt) hc hN pI ok hg (fun _ _ _ _ _ => pts_nil) (fun s H0 C cl fp => ⟨fun pins s1 _ _ _ I h => h s H0 C cl fp pins s1 I⟩) hs) (hi.ev H (Ex.refl H) _ fun J H1 e1 src Dl hD => by
    refine ⟨fun i m H' => m = vs.length - i ∧ i ≤ vs.length ∧ Pv Dl i H', ⟨vs.length, by omega, Nat.zero_le _, h0 Dl H1 e1 hD⟩, ?_⟩
    rintro i m H' ⟨rfl, hi, hP⟩
    by_cases hlt : i < vs.length
    · refine .inr ⟨src.go i H' hlt, fun H2 => Pv Dl (i + 1) H2, fun H2 h => ⟨vs.length - (i + 1), by omega, rfl, hlt, h⟩, fun x H'' hy => ?_⟩
      obtain ⟨rfl, hx⟩ := src.yld i H' x H'' hy hlt
      exact ⟨hw _, by
        simp only [if_true]
        exact fun s H0 C cl fp => he Dl i x H'' hx hP s H0 C cl fp⟩
    · have : i = vs.length := by omega
      subst this
      exact .inl ⟨src.stop H', hd Dl H' hP⟩)
/-- a + b, b may change the heap -/
theorem x_add {Q : VK} (ha : E X a σ H (Nm m)) (hb : ∀ H1, Ex H H1 → wE X b σ H1 fun v H2 => ∃ n : Nat, v = Nm n ∧ Q (Nm (m + n)) H2) : wE X (.BinOp a .Add b pos) σ H Q :=
  of_pe (pe_op op_add pE pE) (ha H (Ex.refl H) _ fun H1 e1 => fun pins s I => thn (hb H1 e1 pins s I) fun v s2 ⟨x, H2, I2, r2, n, hx, q⟩ => by
    subst hx
    refine ⟨Nm n, H2, I2, r2, (m : Int), (n : Int), rfl, rfl, ?_⟩
    have e : ((m : Int) + (n : Int)) = ((m + n : Nat) : Int) := by omega
    show Q (V.int ((m : Int) + (n : Int))) H2
    rw [e]
    exact q)
end
end Wx
namespace Wx
open PySem PySem.Spec PySem.W PyProof.Rows L2 Evl
section
variable {X : Cx} {e a b c tg : Expr} {es : List Expr} {rest : List Stmt} {σ : L2.St} {H : Hp} {v x y z : V} {pos : Pos} {m n k : Nat} {xs vs : List V} {u w : List Nat} {D : Ends}
abbrev sOf (w : List Nat) : Str := ⟨w.toArray⟩
theorem map_sOf (ws : List (List Nat)) : ws.map Tx = (ws.map sOf).map V.str := by
  rw [List.map_map]
  rfl
theorem sOf_inj {u w : List Nat} (h : sOf u = sOf w) : u = w := by
  have := congrArg (fun s : Str => s.cps.toList) h
  simpa using this
/-! ### min(a list of texts) -/
theorem minOf_spec (x : Str) (xs : List Str) : minOf x xs ∈ x :: xs ∧ ∀ y ∈ x :: xs, ¬ y.cps.toList < (minOf x xs).cps.toList := by
  unfold minOf
  induction xs generalizing x with
  | nil => exact ⟨List.mem_cons_self, fun y hy => by
      rw [List.mem_singleton] at hy
      subst hy
      exact Lyn.irr _⟩
  | cons d r ih =>
    rw [List.foldl_cons]
    by_cases hd : DatumOrd.lt d x = true
    · rw [if_pos hd]
      have hd : d.cps.toList < x.cps.toList := of_decide_eq_true hd
      obtain ⟨h1, h2⟩ := ih d
      refine ⟨List.mem_cons_of_mem _ h1, fun y hy => ?_⟩
      rcases List.mem_cons.mp hy with rfl | hy
      · exact fun h => h2 d List.mem_cons_self (Lyn.trans hd h)
      · exact h2 y hy
    · rw [if_neg hd]
      have hd : ¬ d.cps.toList < x.cps.toList := fun z => hd (decide_eq_true z)
      obtain ⟨h1, h2⟩ := ih x
      refine ⟨?_, fun y hy => ?_⟩
      · rcases List.mem_cons.mp h1 with h1 | h1
        · rw [h1]
          exact List.mem_cons_self
        · exact List.mem_cons_of_mem _ (List.mem_cons_of_mem _ h1)
      · rcases List.mem_cons.mp hy with rfl | hy
        · exact h2 _ List.mem_cons_self
        rcases List.mem_cons.mp hy with rfl | hy
        · exact fun h => h2 x List.mem_cons_self (Lyn.lt_of_le_of_lt hd h)
        · exact h2 y (List.mem_cons_of_mem _ hy)
def rMinTx (K : PySem.W.Frag) : List V → Hp → VK → Prop := fun vs H Q => ∃ (l : Addr) (ws : List (List Nat)), vs = [V.ref l] ∧ SqL K H l (ws.map Tx) ∧ ws ≠ [] ∧ ∀ m ∈ ws, (∀ y ∈ ws, m ≤ y) → Q (Tx m) H
theorem cr_minTx (hc : X.calm = true) (hu : X.A.units + 64 < cLine) : CallR X (.builtin "min") (rMinTx X.K) := by
  intro pins s σ H vs us Q I r h
  obtain ⟨l, ws, rfl, hs, hne, q⟩ := h
  obtain ⟨its, rv, hl, _⟩ := I.list hs
  rw [Vals.ref1 r]
  rw [map_sOf] at rv
  obtain ⟨w, r, rfl⟩ : ∃ w r, ws = w :: r := by
    cases ws with
    | nil => exact absurd rfl hne
    | cons w r => exact ⟨w, r, rfl⟩
  refine min_list_datum (x := sOf w) (xs := r.map sOf) (I.ok.hd hc) hl.isList (HoldAll.of_strs rv.strs) (by show _ + 1 + 0 < _; omega) fun i v h' tk hi hv hk => ?_
  obtain ⟨t, rfl⟩ := str_of_holds hv
  obtain ⟨m1, m2⟩ := minOf_spec (sOf w) (r.map sOf)
  rw [← List.map_cons (f := sOf), List.mem_map] at m1
  obtain ⟨m, hm, em⟩ := m1
  rw [← em]
  refine ⟨Tx m, H, I.kept hk, ⟨_, rfl⟩, q m hm fun y hy => ?_⟩
  have := m2 (sOf y) (by rw [← List.map_cons (f := sOf)]; exact List.mem_map_of_mem hy)
  rw [← em] at this
  simpa using this
theorem e_minTx {p : Pos} {ws : List (List Nat)} (hc : X.calm = true) (hu : X.A.units + 64 < cLine) (he : ER X e σ H (isL X.K (ws.map Tx))) (hw : w ∈ ws) (hl : ∀ y ∈ ws, w ≤ y) (hm : X.mg "min" = none) (hg : Gl X "min" := by rfl) (ns : NS X e := by exact fun _ => rfl) : E X (.Call (.Name "min" p) [e] [] pos) σ H (Tx w) :=
  E.of (pe_callB (cr_minTx hc hu) hg hm (by decide +kernel) (pa_cons pE pa_nil (ns [])) (he := ns [])) (ev_cb1 he fun v H1 _ hv Q q => let ⟨p, e, hs⟩ := hv; ⟨p, ws, by rw [e], hs, List.ne_nil_of_mem hw, fun m hm h2 => by
    have : m = w := Lyn.le_antisymm (h2 w hw) (hl m hm)
    rw [this]
    exact q H1 (Ex.refl H1)⟩)
end
section
variable {prog : Program} {w : World} {A : Around} {E : Value → Shared → Prop} {s : Shared}
/-! ### max(a list of texts, key=len) -/
theorem max_len_raw {l : Addr} {vs : Array Value} {ks : List Str} {Q : Value → Shared → Prop} (hh : A.handled = none) (hl : s.heap.IsList l vs) (hi : StrsAre vs.toList ks) (hne : 0 < ks.length) (hz : ∀ x ∈ ks, x.length ≤ 100000)
    (h : ∀ (i : Nat) v h' tk, vs[i]? = some v → (∀ y ∈ ks, y.length ≤ (ks.getD i Str.empty).length) → (∀ b o, s.heap.get? b = some o → h'.get? b = some o) → Q v { s with heap := h', toks := tk }) :
    wpAny (model prog w) A (call (.builtin "max") [.ref l] [(Str.ofString "key", .builtin "len")]) Q E s := by
  have hn : vs.size = ks.length := by
    have := hi.length
    rw [Array.length_toList] at this
    exact this
  refine call_max_walkKB (iter_listW (A := A.in1) hh hl fun s₂ e W st hfp hw hk => ?_)
  let num : Nat → Int := fun i => ((ks.getD i Str.empty).length : Int)
  have hS : ∀ {s' : Shared}, Moved [s₂.heap.objs.size, s.heap.objs.size] (fun a b => b = a) s₂ s' → ∃ h' tk, s' = { s with heap := h', toks := tk } ∧ ∀ b o, s.heap.get? b = some o → h'.get? b = some o := fun {s'} m => by
    subst e
    refine ⟨s'.heap, s'.toks, ?_, fun b ob eb => m.heap b ob (fun hb => ?_) (Heap.get?_push_of_some _ eb)⟩
    · obtain ⟨hp, g, d, tk, os⟩ := s'
      have h1 : g = s.gens := m.gens
      have h2 : d = s.drawn := m.drawn
      have h3 : os = s.os := m.os
      subst h1
      subst h2
      subst h3
      rfl
    · have hlt := Heap.lt_size eb
      simp only [List.mem_cons, List.not_mem_nil, or_false] at hb
      rcases hb with hb | hb
      · rw [hb] at hlt
        have : (s.heap.push { cls := .type "list_iterator", data := .fields #[.ref l, .int 0 0] }).objs.size = s.heap.objs.size + 1 := by rw [Heap.size_push]
        change (s.heap.push { cls := .type "list_iterator", data := .fields #[.ref l, .int 0 0] }).objs.size < s.heap.objs.size at hlt
        omega
      · rw [hb] at hlt
        exact Nat.lt_irrefl _ hlt
  refine ⟨_, _, _, _, _, _, _, fun s' => Moved [s₂.heap.objs.size, s.heap.objs.size] (fun a b => b = a) s₂ s', fun i k _ => ∃ t, k = .int (num i) t, fun i j => decide (num i > num j), rfl, W, st, hfp, by omega, ?_, Moved.refl fun _ => rfl, fun v s' hP m => ?_⟩
  · refine ⟨fun s1 s2 J m => Moved.trans (fun a b c h1 h2 => h2.trans h1) J m, fun i k s1 s2 hV m => hV, fun i v s1 o Q E hi' hv J hst hSo hq => ?_, fun i j ki kj s1 Q E J hi' hj' hq => CmpOf.ints_gt num (fun i v (h : ∃ t, v = .int (num i) t) => h) i j ki kj s1 Q E hi' hj' hq⟩
    obtain ⟨x, t, hx, rfl⟩ := strs_get hi i v (by rw [← Array.getElem?_toList] at hv; exact hv)
    have hxs := hz x (List.mem_of_getElem? hx)
    refine len_str (by have : (x.length : Int) ≤ 100000 := by omega
                       have h63 : (100000 : Int) < 2 ^ 63 := by decide
                       omega) ?_
    refine hq _ { s1 with toks := s1.toks + 1 + 1 } ?_ (W.frame _ s1 s1.heap _ hst (by omega) fun b _ o e => e) hSo ⟨s1.toks + 1, ?_⟩ fun j k' h => h
    · exact Moved.trans (fun a b c h1 h2 => h2.trans h1) J ((Moved.refl (wr := [s₂.heap.objs.size, s.heap.objs.size]) (G := fun a b => b = a) fun _ => rfl).then_heap (tk := s1.toks + 1 + 1) (by show s1.toks ≤ _; omega) fun b o _ e => e)
    · show _ = Value.int ((ks.getD i Str.empty).length : Int) _
      rw [List.getD_eq_getElem?_getD, hx]
      rfl
  · obtain ⟨h', tk, rfl, hk'⟩ := hS m
    obtain ⟨b1, b2⟩ := argBest_gt num (vs.size - 1)
    refine h _ v h' tk hP (fun y hy => ?_) hk'
    obtain ⟨j, hj, rfl⟩ := List.mem_iff_getElem.mp hy
    have := b2 j (by omega)
    have e1 : num j = ((ks[j]).length : Int) := by
      show ((ks.getD j Str.empty).length : Int) = _
      rw [List.getD_eq_getElem?_getD, List.getElem?_eq_getElem hj]
      rfl
    rw [e1] at this
    have this : ((ks[j]).length : Int) ≤ ((ks.getD (argBest (fun i j => decide (num i > num j)) (vs.size - 1)) Str.empty).length : Int) := this
    omega
end
section
variable {X : Cx} {e a b c tg : Expr} {es : List Expr} {rest : List Stmt} {σ : L2.St} {H : Hp} {v x y z : V} {te : TE} {pos : Pos} {m n k : Nat} {xs vs : List V} {u w : List Nat} {D : Ends}
def tMaxLen (K : PySem.W.Frag) (te : TE) : TE := fun σ H Q => te σ H fun v H1 => ∃ (l : Addr) (ws : List (List Nat)), v = .ref l ∧ SqL K H1 l (ws.map Tx) ∧ ws ≠ [] ∧ (∀ x ∈ ws, x.length ≤ 100000) ∧ ∀ m ∈ ws, (∀ y ∈ ws, y.length ≤ m.length) → Q (Tx m) H1
theorem pe_maxLen {p pl kp : Pos} (hc : X.calm = true) (he : PE X e te) (hm : X.mg "max" = none) (hml : X.mg "len" = none) (hg : Gl X "max" := by rfl) (hgl : Gl X "len" := by rfl) (ns : NS X e := by exact fun _ => rfl) (hb : backTo pos (starEach [e] X.env) = (false, eval e X.env) :: backTo pos (starEach [] X.env) := by rfl) (hpl : (backTo pos (starEach [e] X.env)).any (·.1) = false := by rfl) :
    PE X (.Call (.Name "max" p) [e] [⟨some "key", .Name "len" pl, kp⟩] pos) (tMaxLen X.K te) := by
  refine ⟨fun pins s σ H Q I h => ?_⟩
  refine wpAny_Call_Name_kw (ld_blt I hg hm (show bootBuiltins "max" = some (.builtin "max") by decide +kernel) ?_ (by decide) (by decide))
  refine PyProof.Rows.callWith_kw (thn ((pa_cons he pa_nil (ns [])).run pos pins s σ H (fun vs H1 => match vs with | [v] => ∃ (l : Addr) (ws : List (List Nat)), v = .ref l ∧ SqL X.K H1 l (ws.map Tx) ∧ ws ≠ [] ∧ (∀ x ∈ ws, x.length ≤ 100000) ∧ ∀ m ∈ ws, (∀ y ∈ ws, y.length ≤ m.length) → Q (Tx m) H1 | _ => False) I h) fun us s1 ⟨vs, H1, I1, r1, q1⟩ => ?_) hb hpl (by rfl) (by rfl)
  show wpAny _ _ (evalAll ((do let v ← eval (.Name "len" pl) X.env; standAt pos; pure v) :: [])) _ _ s1
  refine wpAny_evalAll_cons (wpAny_bind (ld_blt I1 hgl hml (show bootBuiltins "len" = some (.builtin "len") by decide +kernel) (wpAny_bind (wpAny_standAt (wpAny_pure (wpAny_evalAll_nil ?_)))) (by decide) (by decide)))
  obtain ⟨v0, rfl, l, ws, rfl, hs, hne, hz, q⟩ : ∃ v0, vs = [v0] ∧ ∃ (l : Addr) (ws : List (List Nat)), v0 = .ref l ∧ SqL X.K H1 l (ws.map Tx) ∧ ws ≠ [] ∧ (∀ x ∈ ws, x.length ≤ 100000) ∧ ∀ m ∈ ws, (∀ y ∈ ws, y.length ≤ m.length) → Q (Tx m) H1 := by
    match vs, q1 with
    | [v0], q1 => exact ⟨v0, rfl, q1⟩
  obtain ⟨its, rv, hl, _⟩ := I1.list hs
  rw [Vals.ref1 r1]
  rw [map_sOf] at rv
  refine max_len_raw (I1.ok.hd hc) hl.isList rv.strs ?_ ?_ fun i v h' tk hi hmax hk => ?_
  · rw [List.length_map]
    exact List.length_pos_iff.mpr hne
  · intro x hx
    obtain ⟨u, hu, rfl⟩ := List.mem_map.mp hx
    rw [tx_len]
    exact hz u hu
  · obtain ⟨x, t, hx, rfl⟩ := strs_get rv.strs i v (by rw [← Array.getElem?_toList] at hi; exact hi)
    rw [List.getD_eq_getElem?_getD, hx] at hmax
    obtain ⟨u, hu, rfl⟩ := List.mem_map.mp (List.mem_of_getElem? hx)
    refine ⟨Tx u, H1, I1.kept hk, ⟨t, rfl⟩, q u hu fun y hy => ?_⟩
    have := hmax (sOf y) (List.mem_map_of_mem hy)
    simpa [Str.length] using this
theorem e_maxLen {p pl kp : Pos} {ws : List (List Nat)} (hc : X.calm = true) (he : ER X e σ H (isL X.K (ws.map Tx))) (hw : w ∈ ws) (hl : ∀ y ∈ ws, y ≠ w → y.length < w.length) (hz : ∀ x ∈ ws, x.length ≤ 100000) (hm : X.mg "max" = none) (hml : X.mg "len" = none) (hg : Gl X "max" := by rfl) (hgl : Gl X "len" := by rfl) (ns : NS X e := by exact fun _ => rfl)
    (hb : backTo pos (starEach [e] X.env) = (false, eval e X.env) :: backTo pos (starEach [] X.env) := by rfl) (hpl : (backTo pos (starEach [e] X.env)).any (·.1) = false := by rfl) : E X (.Call (.Name "max" p) [e] [⟨some "key", .Name "len" pl, kp⟩] pos) σ H (Tx w) :=
  E.of (pe_maxLen hc pE hm hml hg hgl ns hb hpl) fun H1 e1 Q q => he H1 e1 _ fun v H2 e2 hv => by
    obtain ⟨l, rfl, hs⟩ := hv
    refine ⟨l, ws, rfl, hs, List.ne_nil_of_mem hw, hz, fun m hm hmax => ?_⟩
    have : m = w := Classical.byContradiction fun hne => by
      have h1 := hl m hm hne
      have h2 := hmax w hw
      omega
    rw [this]
    exact q H2 e2
end
end Wx
namespace Wx
open PySem PySem.Spec PySem.W PyProof.Rows L2 Evl
/-! ### comparisons of lists and tuples -/
mutual
theorem dp_mono {K : PySem.W.Frag} {H H' : Hp} (e : Ex H H') : ∀ (d : PyData) (v : V), Dp K H v d → Dp K H' v d
  | .none, _, h => by cases h; exact .non
  | .bool b, _, h => by cases h; exact .bl b
  | .int i, _, h => by cases h; exact .int i
  | .str x, _, h => by cases h; exact .str x
  | .list ds, _, h => by
    cases h with
    | lst hs ha => exact .lst (ex_l e hs) (dp_monoAll e ds _ ha)
  | .tuple ds, _, h => by
    cases h with
    | tup hs ha => exact .tup (ex_t e hs) (dp_monoAll e ds _ ha)
  | .dict _, _, h => by cases h
theorem dp_monoAll {K : PySem.W.Frag} {H H' : Hp} (e : Ex H H') : ∀ (ds : List PyData) (vs : List V), DpAll K H vs ds → DpAll K H' vs ds
  | [], _, h => by cases h; exact .nil
  | d :: ds, _, h => by
    cases h with
    | cons h1 h2 => exact .cons (dp_mono e d _ h1) (dp_monoAll e ds _ h2)
end
section
variable {α : Type} [DecidableEq α] [Datum α]
/-- the value that stands for a -/
def dat (K : PySem.W.Frag) (a : α) : V → Hp → Prop := fun v H => Dp K H v (Datum.toD a)
theorem datS {K : PySem.W.Frag} {a : α} : ∀ (u : V) (H1 H2 : Hp), Ex H1 H2 → dat K a u H1 → dat K a u H2 := fun _ _ _ e h => dp_mono e _ _ h
def rEqT (K : PySem.W.Frag) (α : Type) [DecidableEq α] [Datum α] : R2 := fun x y H Q => ∃ a b : α, Dp K H x (Datum.toD a) ∧ Dp K H y (Datum.toD b) ∧ Q (.bl (decide (a = b))) H
def rNeT (K : PySem.W.Frag) (α : Type) [DecidableEq α] [Datum α] : R2 := fun x y H Q => ∃ a b : α, Dp K H x (Datum.toD a) ∧ Dp K H y (Datum.toD b) ∧ Q (.bl (!decide (a = b))) H
theorem op_eqT {X : Cx} (hu : X.A.units + Datum.depth α < cLine) : OpR X (compareOp .Eq) (rEqT X.K α) := by
  intro pins s σ H x y v u Q I rx ry h
  obtain ⟨a, b, ha, hb, q⟩ := h
  exact eq_datum (Dp.reads I _ _ _ ha rx) (Dp.reads I _ _ _ hb ry) hu ⟨.bl _, H, I, rfl, q⟩
theorem op_neT {X : Cx} (hu : X.A.units + Datum.depth α < cLine) : OpR X (compareOp .NotEq) (rNeT X.K α) := by
  intro pins s σ H x y v u Q I rx ry h
  obtain ⟨a, b, ha, hb, q⟩ := h
  refine ne_datum (Dp.reads I _ _ _ ha rx) (Dp.reads I _ _ _ hb ry) hu ⟨.bl _, H, I, rfl, ?_⟩
  rw [show decide (a ≠ b) = !decide (a = b) from decide_not]
  exact q
end
section
variable {X : Cx} {e a b c tg : Expr} {es : List Expr} {rest : List Stmt} {σ : L2.St} {H : Hp} {v x y z : V} {te : TE} {pos : Pos} {m n k : Nat} {xs vs : List V} {u w : List Nat} {D : Ends} {α : Type} [DecidableEq α] [Datum α] {p q : α}
theorem room64 {k' : Nat} {A : Around} (hr : Room k' A) : A.units + 64 < cLine := by have := hr.un; omega
theorem t_eqD (hu : X.A.units + 64 < cLine) (ha : ER X a σ H (dat X.K p)) (hb : ER X b σ H (dat X.K q)) (hd : Datum.depth α ≤ 64 := by decide) (hm : behindInMarks .Eq b = false := by first | exact nobehind _ (by decide) (by decide) | rfl) : ET X (.Compare a [.Eq] [b] pos) σ H (decide (p = q)) :=
  t_cmpR (op_eqT (α := α) (by omega)) ha datS hb (fun v u H1 e1 h1 h2 H2 e2 Q k => ⟨p, q, datS _ _ _ e2 h1, datS _ _ _ e2 h2, k H2 (Ex.refl _)⟩) hm
theorem e_eqD (hu : X.A.units + 64 < cLine) (ha : ER X a σ H (dat X.K p)) (hb : ER X b σ H (dat X.K q)) (hd : Datum.depth α ≤ 64 := by decide) (hm : behindInMarks .Eq b = false := by first | exact nobehind _ (by decide) (by decide) | rfl) : E X (.Compare a [.Eq] [b] pos) σ H (.bl (decide (p = q))) :=
  e_cmpR (op_eqT (α := α) (by omega)) ha datS hb (fun v u H1 e1 h1 h2 H2 e2 Q k => ⟨p, q, datS _ _ _ e2 h1, datS _ _ _ e2 h2, k H2 (Ex.refl _)⟩) hm
theorem t_neD (hu : X.A.units + 64 < cLine) (ha : ER X a σ H (dat X.K p)) (hb : ER X b σ H (dat X.K q)) (hd : Datum.depth α ≤ 64 := by decide) (hm : behindInMarks .NotEq b = false := by first | exact nobehind _ (by decide) (by decide) | rfl) : ET X (.Compare a [.NotEq] [b] pos) σ H (!decide (p = q)) :=
  t_cmpR (op_neT (α := α) (by omega)) ha datS hb (fun v u H1 e1 h1 h2 H2 e2 Q k => ⟨p, q, datS _ _ _ e2 h1, datS _ _ _ e2 h2, k H2 (Ex.refl _)⟩) hm
theorem e_neD (hu : X.A.units + 64 < cLine) (ha : ER X a σ H (dat X.K p)) (hb : ER X b σ H (dat X.K q)) (hd : Datum.depth α ≤ 64 := by decide) (hm : behindInMarks .NotEq b = false := by first | exact nobehind _ (by decide) (by decide) | rfl) : E X (.Compare a [.NotEq] [b] pos) σ H (.bl (!decide (p = q))) :=
  e_cmpR (op_neT (α := α) (by omega)) ha datS hb (fun v u H1 e1 h1 h2 H2 e2 Q k => ⟨p, q, datS _ _ _ e2 h1, datS _ _ _ e2 h2, k H2 (Ex.refl _)⟩) hm
/-! the sorts of data -/
theorem dp_txs {K : PySem.W.Frag} {H : Hp} : ∀ us : List (List Nat), DpAll K H (us.map Tx) ((us.map sOf).map Datum.toD)
  | [] => .nil
  | u :: us => .cons (.str _) (dp_txs us)
theorem dp_nms {K : PySem.W.Frag} {H : Hp} : ∀ us : List Nat, DpAll K H (us.map Nm) ((us.map fun (n : Nat) => (n : Int)).map Datum.toD)
  | [] => .nil
  | u :: us => .cons (.int _) (dp_nms us)
theorem dp_ints {K : PySem.W.Frag} {H : Hp} : ∀ us : List Int, DpAll K H (us.map V.int) (us.map Datum.toD)
  | [] => .nil
  | u :: us => .cons (.int _) (dp_ints us)
theorem ERmono {R R' : V → Hp → Prop} (h : ER X e σ H R) (hR : ∀ v H1, R v H1 → R' v H1) : ER X e σ H R' := fun H1 e1 Q k => h H1 e1 Q fun v H2 e2 r => k v H2 e2 (hR _ _ r)
/-- a tuple of texts, a list of texts, of numbers -/
theorem d_tupT {us : List (List Nat)} (h : ER X e σ H (isT X.K (us.map Tx))) : ER X e σ H (dat X.K (Tup.mk (us.map sOf))) := ERmono h fun v H1 ⟨p, ev, hs⟩ => by
  rw [ev]
  exact Dp.tup hs (dp_txs us)
theorem d_lstT {us : List (List Nat)} (h : ER X e σ H (isL X.K (us.map Tx))) : ER X e σ H (dat X.K (us.map sOf)) := ERmono h fun v H1 ⟨p, ev, hs⟩ => by
  rw [ev]
  exact Dp.lst hs (dp_txs us)
theorem d_lstN {us : List Nat} (h : ER X e σ H (isL X.K (us.map Nm))) : ER X e σ H (dat X.K (us.map fun (n : Nat) => (n : Int))) := ERmono h fun v H1 ⟨p, ev, hs⟩ => by
  rw [ev]
  exact Dp.lst hs (dp_nms us)
theorem map_sOf_inj {us ws : List (List Nat)} : us.map sOf = ws.map sOf ↔ us = ws := by
  constructor
  · intro h
    exact (List.map_inj_right fun _ _ => sOf_inj).mp h
  · intro h
    rw [h]
theorem dec_tupT (us ws : List (List Nat)) : decide (Tup.mk (us.map sOf) = Tup.mk (ws.map sOf)) = decide (us = ws) := decide_eq_decide.mpr (by rw [Tup.mk.injEq, map_sOf_inj])
theorem dec_lstT (us ws : List (List Nat)) : decide (us.map sOf = ws.map sOf) = decide (us = ws) := decide_eq_decide.mpr map_sOf_inj
theorem dec_lstN (us ws : List Nat) : decide ((us.map fun (n : Nat) => (n : Int)) = ws.map fun (n : Nat) => (n : Int)) = decide (us = ws) := decide_eq_decide.mpr ⟨fun h => (List.map_inj_right fun _ _ => Int.ofNat_inj.mp).mp h, fun h => by rw [h]⟩
theorem t_neTT {us ws : List (List Nat)} (hu : X.A.units + 64 < cLine) (ha : ER X a σ H (isT X.K (us.map Tx))) (hb : ER X b σ H (isT X.K (ws.map Tx))) (hm : behindInMarks .NotEq b = false := by first | exact nobehind _ (by decide) (by decide) | rfl) : ET X (.Compare a [.NotEq] [b] pos) σ H (!decide (us = ws)) :=
  ET.is (t_neD hu (d_tupT ha) (d_tupT hb) (by decide) hm) (by rw [dec_tupT])
theorem t_neLN {us ws : List Nat} (hu : X.A.units + 64 < cLine) (ha : ER X a σ H (isL X.K (us.map Nm))) (hb : ER X b σ H (isL X.K (ws.map Nm))) (hm : behindInMarks .NotEq b = false := by first | exact nobehind _ (by decide) (by decide) | rfl) : ET X (.Compare a [.NotEq] [b] pos) σ H (!decide (us = ws)) :=
  ET.is (t_neD hu (d_lstN ha) (d_lstN hb) (by decide) hm) (by rw [dec_lstN])
/-- the rule of a def, its own record kept -/
theorem okW {P : Program} {w : World} {K : PySem.W.Frag} {mg : Str → Option Value} {base : Heap} {k : Nat} {x : Str} {st : Stmt} {N ps : List Str} {sp : Sp} {f : Addr} {fd : FuncData} (F : Fun K x x st f fd) (S : FnScope N ps (defScope st)) (len : ∀ vs H Q E, sp vs H Q E → vs.length = ps.length)
    (body : ∀ (cdv : Value) (A : Around) (outer : List Env) (s : Shared) (H : Hp) (vs : List V) (Q : VK) (E : XK), Room k (A.deeper (envOfC x (defScope st) s.heap.objs.size f cdv)) → sp vs H Q E →
      wSs (cxOf CX0 P w K mg base N x (defScope st) f cdv A outer s H E).nox (defBody st) { nx := fun _ H' => Q .non H', rt := Q } (start N vs) H) : FnOk P w K mg base CX0 (k + 1) f fd ps sp :=
  F.ok S len fun cdv A outer s H vs Q E hr hsp => ⟨_, pSs, body cdv A outer s H vs Q E hr hsp⟩
/-- x in a list of texts -/
theorem eqV_tx (u w : List Nat) : eqV (Tx w) (Tx u) = decide (u = w) := by
  show (sOf w == sOf u) = decide (u = w)
  rw [Bool.beq_eq_decide_eq]
  exact decide_eq_decide.mpr ⟨fun h => (sOf_inj h).symm, fun h => by rw [h]⟩
theorem inV_tx (u : List Nat) (ws : List (List Nat)) : inV (Tx u) (ws.map Tx) = decide (u ∈ ws) := by
  unfold inV
  rw [List.any_map]
  rw [Bool.eq_iff_iff, List.any_eq_true, decide_eq_true_eq]
  constructor
  · rintro ⟨w, hw, h⟩
    have h : eqV (Tx w) (Tx u) = true := h
    rw [eqV_tx, decide_eq_true_eq] at h
    rw [h]
    exact hw
  · intro h
    exact ⟨u, h, by show eqV (Tx u) (Tx u) = true; rw [eqV_tx]; simp⟩
theorem flat_txs (ws : List (List Nat)) : (ws.map Tx).all flatV = true := by
  rw [List.all_map]
  exact List.all_eq_true.mpr fun _ _ => rfl
theorem e_inLT {ws : List (List Nat)} (ha : E X a σ H (Tx u)) (hb : ER X b σ H (isL X.K (ws.map Tx))) (hm : behindInMarks .In b = false := by first | exact nobehind _ (by decide) (by decide) | rfl) : E X (.Compare a [.In] [b] pos) σ H (.bl (decide (u ∈ ws))) :=
  e_cmpR op_in_seq (E.r ha) eqS hb (fun v z H1 e1 h1 h2 => by
    obtain ⟨p, rfl, hs⟩ := h2
    rw [h1, ← inV_tx]
    exact rv_isL hs rfl (flat_txs ws)) hm
end
end Wx
namespace Wx
open PySem PySem.Spec PySem.W PyProof.Rows L2 Evl
section
variable {X : Cx} {e a b c tg : Expr} {es : List Expr} {rest : List Stmt} {σ : L2.St} {H : Hp} {v x y z : V} {te : TE} {pos : Pos} {m n k : Nat} {xs vs : List V} {u w : List Nat} {D : Ends}
/-- x *= e -/
def ipM : TIp := fun x y H Q => ∃ i j, x = .int i ∧ y = .int j ∧ CMul i j ∧ Q (.int (i * j)) H
theorem ip_mul : PIp X .Mult ipM := by
  intro pins s σ H x y v u Q I r1 r2 h
  obtain ⟨i, j, e1, e2, hc, q⟩ := h
  subst e1; subst e2
  obtain ⟨t, rfl⟩ := r1
  obtain ⟨t', rfl⟩ := r2
  exact imul_int ⟨.int _, H, I.tok _, ⟨_, rfl⟩, q⟩ hc.ok
theorem b_augM {i : Nat} {nm : Str} {p : Pos} {q r : Int} (hx : σ[i]? = some (some (.int q))) (he : E X e σ H (.int r)) (hc : CMul q r) (k : ∀ H1, Ex H H1 → wSs X rest D (σ.set i (some (.int (q * r)))) H1) (hN : X.N.Nodup) (hi : X.N[i]? = some nm := by rfl)
    (hl : Loc X.env.scope nm := by first | exact Or.inl rfl | exact Or.inr rfl) (hf : X.fn nm = true ∨ X.env.scope.names.lookup nm = some .local := by first | exact .inl rfl | exact .inr rfl) : wSs X (.AugAssign (.Name nm p) .Mult e pos :: rest) D σ H :=
  b_st (ps_aug hN hi hl pE ip_mul hf) ⟨.int q, hx, he H (Ex.refl H) _ fun H1 e1 => ⟨q, r, rfl, rfl, hc, k H1 e1⟩⟩
/-- text.count(a sign) -/
theorem cnt_count (c : Nat) : ∀ l : List Nat, PyProof.Rows.cnt c l = ((l.count c : Nat) : Int)
  | [] => rfl
  | n :: r => by
    rw [PyProof.Rows.cnt_cons, cnt_count c r, List.count_cons]
    by_cases h : n = c
    · subst h
      simp
      omega
    · rw [if_neg h, if_neg (by simpa using h)]
      simp
theorem e_count1 {p : Pos} {c0 : Nat} (ha : E X a σ H (Tx w)) (hb : E X b σ H (Tx [c0])) (hs : starEach [b] X.env = [(false, eval b X.env)] := by rfl) (hbase : attributeBase a "count" X.env (eval a X.env) = eval a X.env := by rfl) (hline : (p.endLine == pos.line) = true := by rfl) :
    E X (.Call (.Attribute a "count" p) [b] [] pos) σ H (Nm (w.count c0)) := E.of (pe_m1 F.slot_str_count F.type_str_count mt_count pE pE hs hbase hline) fun H1 e1 Q q => ha H1 e1 _ fun H2 e2 => ⟨⟨_, rfl⟩, hb H2 (e1.trans e2) _ fun H3 e3 => ⟨_, _, rfl, rfl, by
  have h := PyProof.Rows.count_cnt (sOf w) c0
  have h2 := cnt_count c0 (sOf w).cps.toList
  rw [h2] at h
  have e : Txt.count (sOf w) (sOf [c0]) = ((w.count c0 : Nat) : Int) := h
  rw [e]
  exact q H3 (e2.trans e3)⟩⟩
/-! ### comprehensions of two clauses -/
theorem flat_take {α β : Type} {as : List α} {i : Nat} {a : α} (f : α → List β) (h : as[i]? = some a) : (as.take (i + 1)).flatMap f = (as.take i).flatMap f ++ f a := by
  rw [List.take_add_one, h, List.flatMap_append]
  simp
theorem take_map {α β : Type} {as : List α} {i : Nat} {a : α} (f : α → β) (h : as[i]? = some a) : (as.take (i + 1)).map f = (as.take i).map f ++ [f a] := by
  rw [List.take_add_one, h, List.map_append]
  simp
theorem len_flat_take {α β : Type} (as : List α) (f : α → List β) (i : Nat) : ((as.take i).flatMap f).length ≤ (as.flatMap f).length := by
  have h : as.flatMap f = (as.take i).flatMap f ++ (as.drop i).flatMap f := by rw [← List.flatMap_append, List.take_append_drop]
  rw [h, List.length_append]
  omega
/-- [e for x in .. for y in ..], nothing that stood is changed -/
theorem el_comp2 {α β : Type} {wi wi1 : TI} {tt tt1 : TT} {j j1 : Nat} {ws ws1 : List Nat} {as : List α} {A : α → V} {bs : α → List β} {B : β → V} (g : α → β → V) (hi : EvI wi σ H (as.map A)) (hz : (as.flatMap fun a => (bs a).map (g a)).length ≤ 90000)
    (hw : ∀ x, wipe ((wipe σ ws).set j (some x)) ws = wipe σ ws) (hw1 : ∀ x y, wipe ((wipe ((wipe σ ws).set j (some x)) ws1).set j1 (some y)) ws1 = wipe ((wipe σ ws).set j (some x)) ws1)
    (ht : ∀ a ∈ as, ∀ H1, Ex H H1 → EvT tt ((wipe σ ws).set j (some (A a))) H1 true) (hi1 : ∀ a ∈ as, ∀ H1, Ex H H1 → ∀ R : It → Hp → Prop, (∀ J H2, Ex H1 H2 → SrcC J ((bs a).map B) → R J H2) → wi1 ((wipe σ ws).set j (some (A a))) H1 R)
    (ht1 : ∀ a ∈ as, ∀ b ∈ bs a, ∀ H1, Ex H H1 → EvT tt1 ((wipe ((wipe σ ws).set j (some (A a))) ws1).set j1 (some (B b))) H1 true)
    (he : ∀ a ∈ as, ∀ b ∈ bs a, ∀ H1, Ex H H1 → Ev te ((wipe ((wipe σ ws).set j (some (A a))) ws1).set j1 (some (B b))) H1 (g a b)) :
    EvL (tLc2 wi (gName j) tt wi1 (gName j1) tt1 te ws ws1) σ H (as.flatMap fun a => (bs a).map (g a)) := fun H0 e0 Q q => hi H0 e0 _ fun J H1 e1 src Dl hD => by
  refine ⟨fun i m H' => m = as.length - i ∧ i ≤ as.length ∧ Ex H1 H' ∧ H' Dl = some (.lst ((as.take i).flatMap fun a => (bs a).map (g a))), ⟨as.length, by omega, Nat.zero_le _, Ex.new hD, upd_same⟩, ?_⟩
  rintro i m H' ⟨rfl, hi, eH, hl⟩
  by_cases hlt : i < as.length
  · have ha : as[i]? = some as[i] := List.getElem?_eq_getElem hlt
    have hmem : as[i] ∈ as := List.getElem_mem hlt
    generalize as[i] = a at ha hmem
    refine .inr ⟨src.go i H' eH (by simpa using hlt), fun H'' => Ex H1 H'' ∧ H'' Dl = some (.lst ((as.take (i + 1)).flatMap fun a => (bs a).map (g a))), fun H'' h => ⟨as.length - (i + 1), by omega, rfl, hlt, h.1, h.2⟩, fun x H'' hy => ?_⟩
    obtain ⟨rfl, hx⟩ := src.yld i H' x H'' eH hy (by simpa using hlt)
    rw [List.getElem?_map, ha] at hx
    have hx : A a = x := Option.some.inj hx
    subst hx
    have hfin := flat_take (fun a => (bs a).map (g a)) ha
    have hlenF := len_flat_take as (fun a => (bs a).map (g a)) (i + 1)
    refine ⟨hw _, ht a hmem H1 (e0.trans e1) H'' eH _ fun H3 e3 => ?_⟩
    simp only [if_true]
    refine hi1 a hmem H3 (e0.trans (e1.trans (eH.trans e3))) _ fun J1 H4 e4 src1 => ?_
    refine ⟨fun i1 m1 H' => m1 = (bs a).length - i1 ∧ i1 ≤ (bs a).length ∧ Ex H1 H' ∧ H' Dl = some (.lst (((as.take i).flatMap fun a => (bs a).map (g a)) ++ ((bs a).take i1).map (g a))), ⟨(bs a).length, by omega, Nat.zero_le _, (eH.trans e3).trans e4, ?_⟩, ?_⟩
    · rw [List.take_zero, List.map_nil, List.append_nil]
      exact e4 _ _ (e3 _ _ hl)
    · rintro i1 m1 H5 ⟨rfl, hi1', eH5, hl5⟩
      by_cases hlt1 : i1 < (bs a).length
      · have hb : (bs a)[i1]? = some (bs a)[i1] := List.getElem?_eq_getElem hlt1
        have hmemb : (bs a)[i1] ∈ bs a := List.getElem_mem hlt1
        generalize (bs a)[i1] = b at hb hmemb
        refine .inr ⟨src1.go i1 H5 (by simpa using hlt1), fun H'' => Ex H1 H'' ∧ H'' Dl = some (.lst (((as.take i).flatMap fun a => (bs a).map (g a)) ++ ((bs a).take (i1 + 1)).map (g a))), fun H'' h => ⟨(bs a).length - (i1 + 1), by omega, rfl, hlt1, h.1, h.2⟩, fun x H6 hy => ?_⟩
        obtain ⟨rfl, hx⟩ := src1.yld i1 H5 x H6 hy (by simpa using hlt1)
        rw [List.getElem?_map, hb] at hx
        have hx : B b = x := Option.some.inj hx
        subst hx
        refine ⟨hw1 _ _, ht1 a hmem b hmemb H1 (e0.trans e1) H6 eH5 _ fun H7 e7 => ?_⟩
        simp only [if_true]
        refine he a hmem b hmemb H1 (e0.trans e1) H7 (eH5.trans e7) _ fun H8 e8 => ⟨_, e8 _ _ (e7 _ _ hl5), sz_lt ?_, Ex.mut ((eH5.trans e7).trans e8) hD, ?_⟩
        · rw [hfin, List.length_append, List.length_map] at hlenF
          rw [List.length_append, List.length_map, List.length_take]
          omega
        · rw [upd_same, take_map _ hb, List.append_assoc]
      · have : i1 = (bs a).length := by omega
        subst this
        refine .inl ⟨by simpa using src1.stop H5, eH5, ?_⟩
        rw [hl5, List.take_length, hfin]
  · have : i = as.length := by omega
    subst this
    refine .inl ⟨by simpa using src.stop H' eH, q Dl H' (fresh_back e1 hD) (e1.trans eH) ?_⟩
    rw [hl, List.take_length]
theorem EIc.all {tg e : Expr} (h : EIc X tg e σ H vs) : ∀ H1, Ex H H1 → ∀ R : It → Hp → Prop, (∀ J H2, Ex H1 H2 → SrcC J vs → R J H2) → wI X tg e σ H1 R := h.ev
/-- [e for x in .. for y in ..] -/
theorem l_comp2 {α β : Type} {sc : Scope} {elt iter iter1 : Expr} {own : List (Str × Nat)} {nm nm1 : Str} {j j1 : Nat} {gp gp1 : Pos} {as : List α} {A : α → V} {bs : α → List β} {B : β → V} (ws1 : List Nat) (g : α → β → V) (hc : X.calm = true) (hN : X.N.Nodup) (ok : BlkOk X.N X.env.scope sc own) (hv : ∀ i ∈ ws1, i ∈ own.map (·.2))
    (hg : ∀ (s : Shared) (H0 : Hp) (C : Addr) (cl : List (Str × Addr)) (fp : List Addr), PG (X.blk s H0 sc (compEnvC sc cl C X.env) fp) (.Name nm gp) (gName j))
    (hg1 : ∀ (s : Shared) (H0 : Hp) (C : Addr) (cl : List (Str × Addr)) (fp : List Addr), PG (X.blk s H0 sc (compEnvC sc cl C X.env) fp) (.Name nm1 gp1) (gName j1))
    (hi : EI X (.Name nm gp) iter σ H (as.map A)) (hz : (as.flatMap fun a => (bs a).map (g a)).length ≤ 90000)
    (hw : ∀ x, wipe ((wipe σ (own.map (·.2))).set j (some x)) (own.map (·.2)) = wipe σ (own.map (·.2))) (hw1 : ∀ x y, wipe ((wipe ((wipe σ (own.map (·.2))).set j (some x)) ws1).set j1 (some y)) ws1 = wipe ((wipe σ (own.map (·.2))).set j (some x)) ws1)
    (hi1 : ∀ a ∈ as, ∀ H1, Ex H H1 → ∀ (s : Shared) (H0 : Hp) (C : Addr) (cl : List (Str × Addr)) (fp : List Addr), EIc (X.blk s H0 sc (compEnvC sc cl C X.env) fp) (.Name nm1 gp1) iter1 ((wipe σ (own.map (·.2))).set j (some (A a))) H1 ((bs a).map B))
    (he : ∀ a ∈ as, ∀ b ∈ bs a, ∀ H1, Ex H H1 → EB X sc elt ((wipe ((wipe σ (own.map (·.2))).set j (some (A a))) ws1).set j1 (some (B b))) H1 (g a b)) (hs : ∀ x, foldedSetIterable iter X.env x = pure x := by intro _; rfl) (hs1 : ∀ env x, foldedSetIterable iter1 env x = pure x := by intro _ _; rfl) :
    EL X (.ListComp elt [⟨.Name nm gp, iter, [], 0⟩, ⟨.Name nm1 gp1, iter1, [], 0⟩] sc pos) σ H (as.flatMap fun a => (bs a).map (g a)) :=
  EL.of (pe_lc2 (pos := pos) (elt := elt) (vs1 := ws1) (te := wEb X sc elt) (wi1 := wIb X sc (.Name nm1 gp1) iter1) hc hN pI ok hv hg (fun _ _ _ _ _ => pts_nil) (fun s H0 C cl fp => ⟨fun pins s1 _ _ _ I h => h s H0 C cl fp pins s1 I⟩) hg1 (fun _ _ _ _ _ => pts_nil) (fun s H0 C cl fp => ⟨fun pins s1 _ _ _ I h => h s H0 C cl fp pins s1 I⟩) hs hs1)
    (el_comp2 (A := A) (B := B) g hi.ev hz hw hw1 (fun a _ H1 _ H2 _ Q k => k H2 (Ex.refl H2)) (fun a ha H1 e1 R k s H0 C cl fp => (hi1 a ha H1 e1 s H0 C cl fp).all H1 (Ex.refl H1) R k) (fun a _ b _ H1 _ H2 _ Q k => k H2 (Ex.refl H2)) fun a ha b hb H1 e1 => EB.ev (he a ha b hb H1 e1))
theorem src_sc {w : List Nat} : SrcC (Its ⟨w.toArray⟩) (w.map fun c => Tx [c]) :=
  ⟨fun i H' hi => by
    show i < w.toArray.size
    simpa using hi, fun H' => by simp [Its], fun i H' x H'' y hi => ⟨y.1, by
    obtain ⟨c, hc, rfl⟩ := y.2
    have hc : w.toArray[i]? = some c := hc
    rw [List.getElem?_map]
    simp at hc
    rw [hc]
    rfl⟩⟩
theorem i_strC (he : E X e σ H (Tx w)) : EIc X tg e σ H (w.map fun c => Tx [c]) := ⟨⟨_, pi_str pE, fun H1 a R k => he H1 a _ fun H2 e2 => ⟨_, rfl, k _ H2 e2 src_sc⟩⟩⟩
end
end Wx
namespace Wx
open PySem PySem.Spec PySem.W PyProof.Rows L2 Evl
section
variable {X : Cx} {e a b c tg : Expr} {es : List Expr} {rest : List Stmt} {σ : L2.St} {H : Hp} {v x y z : V} {te : TE} {pos : Pos} {m n k : Nat} {xs vs : List V} {u w : List Nat} {D : Ends}
theorem eqV_nm (m n : Nat) : eqV (Nm m) (Nm n) = decide (m = n) := by
  show (((m : Nat) : Int) == ((n : Nat) : Int)) = decide (m = n)
  rw [Bool.beq_eq_decide_eq]
  exact decide_eq_decide.mpr ⟨fun h => by omega, fun h => by rw [h]⟩
theorem first_at {cs : List Nat} {y : Nat} (h : y ∈ cs) : ∃ j : Nat, cs[j]? = some y ∧ ∀ m : Nat, m < j → cs[m]? ≠ some y := by
  induction cs with
  | nil => cases h
  | cons d r ih =>
    by_cases e : d = y
    · exact ⟨0, by rw [e]; rfl, fun m hm => absurd hm (Nat.not_lt_zero _)⟩
    · obtain ⟨j, h1, h2⟩ := ih (by
        rcases List.mem_cons.mp h with h | h
        · exact absurd h.symm e
        · exact h)
      refine ⟨j + 1, h1, fun m hm => ?_⟩
      cases m with
      | zero => exact fun z => e (Option.some.inj z)
      | succ m => exact h2 m (by omega)
theorem flat_nms (ws : List Nat) : (ws.map Nm).all flatV = true := by
  rw [List.all_map]
  exact List.all_eq_true.mpr fun _ _ => rfl
/-- xs.index(y), numbers -/
theorem e_index {p : Pos} {cs : List Nat} {j y : Nat} (ha : ER X a σ H (isL X.K (cs.map Nm))) (hb : E X b σ H (Nm y)) (hj : cs[j]? = some y) (hno : ∀ m : Nat, m < j → cs[m]? ≠ some y) (ns : NS X b := by exact fun _ => rfl) (hbase : attributeBase a "index" X.env (eval a X.env) = eval a X.env := by rfl)
    (hfew : ((backTo pos (starEach [b] X.env)).all (fun x => !x.1) && (backToKw pos (keywordEach [] X.env)).all (fun x => x.1.isSome) && decide (([b] : List Expr).length + ([] : List Keyword).length + (if ([] : List Keyword).isEmpty then 0 else 1) < 30)) = true := by rfl)
    (hline : (p.endLine == pos.line) = true := by rfl) : E X (.Call (.Attribute a "index" p) [b] [] pos) σ H (Nm j) :=
  E.of (pe_bm PySem.F.plainAttrs_list PySem.F.slot_list_index PySem.F.type_list_index mt_index pE (pa_cons pE pa_nil (ns [])) hbase hfew hline (ns []) rfl) fun H1 e1 Q q => ha H1 e1 _ fun v H2 e2 hv => by
    obtain ⟨l, rfl, hl⟩ := hv
    refine ⟨Or.inl ⟨rfl, _, hl⟩, hb H2 (e1.trans e2) _ fun H3 e3 => ⟨l, cs.map Nm, Nm y, j, Nm y, rfl, rfl, ex_l e3 hl, rfl, flat_nms cs, nm_get hj, by rw [eqV_nm]; simp, fun m z' hm hz => ?_, q H3 (e2.trans e3)⟩⟩
    rw [List.getElem?_map] at hz
    cases hc : cs[m]? with
    | none =>
      rw [hc] at hz
      cases hz
    | some d =>
      rw [hc] at hz
      have : Nm d = z' := Option.some.inj hz
      rw [← this, eqV_nm]
      exact decide_eq_false fun e => hno m hm (by rw [hc, e])
theorem ex_min : ∀ {cs : List Nat}, cs ≠ [] → ∃ lo ∈ cs, ∀ y ∈ cs, lo ≤ y
  | [x], _ => ⟨x, List.mem_cons_self, fun y hy => by simp at hy; omega⟩
  | x :: y :: r, _ => by
    obtain ⟨lo, h1, h2⟩ := ex_min (cs := y :: r) (by simp)
    rcases Nat.lt_or_ge x lo with l | l
    · exact ⟨x, List.mem_cons_self, fun z hz => by
        rcases List.mem_cons.mp hz with rfl | hz
        · exact Nat.le_refl _
        · have := h2 z hz
          omega⟩
    · exact ⟨lo, List.mem_cons_of_mem _ h1, fun z hz => by
        rcases List.mem_cons.mp hz with rfl | hz
        · exact l
        · exact h2 z hz⟩
theorem ex_max : ∀ {cs : List Nat}, cs ≠ [] → ∃ hi ∈ cs, ∀ y ∈ cs, y ≤ hi
  | [x], _ => ⟨x, List.mem_cons_self, fun y hy => by simp at hy; omega⟩
  | x :: y :: r, _ => by
    obtain ⟨lo, h1, h2⟩ := ex_max (cs := y :: r) (by simp)
    rcases Nat.lt_or_ge lo x with l | l
    · exact ⟨x, List.mem_cons_self, fun z hz => by
        rcases List.mem_cons.mp hz with rfl | hz
        · exact Nat.le_refl _
        · have := h2 z hz
          omega⟩
    · exact ⟨lo, List.mem_cons_of_mem _ h1, fun z hz => by
        rcases List.mem_cons.mp hz with rfl | hz
        · exact l
        · exact h2 z hz⟩
theorem nm_map (cs : List Nat) : cs.map Nm = (cs.map fun (n : Nat) => (n : Int)).map V.int := by
  rw [List.map_map]
  rfl
theorem e_maxN {p : Pos} {cs : List Nat} {i : Nat} (hc : X.calm = true) (he : ER X e σ H (isL X.K (cs.map Nm))) (h1 : i ∈ cs) (h2 : ∀ y ∈ cs, y ≤ i) (hm : X.mg "max" = none) (hg : Gl X "max" := by rfl) (ns : NS X e := by exact fun _ => rfl) : E X (.Call (.Name "max" p) [e] [] pos) σ H (Nm i) :=
  e_maxL (zs := cs.map fun (n : Nat) => (n : Int)) hc (by rw [← nm_map]; exact he) (List.mem_map_of_mem h1) (fun y hy => by
    obtain ⟨n, hn, rfl⟩ := List.mem_map.mp hy
    have := h2 n hn
    omega) hm hg ns
theorem e_minN {p : Pos} {cs : List Nat} {i : Nat} (hc : X.calm = true) (he : ER X e σ H (isL X.K (cs.map Nm))) (h1 : i ∈ cs) (h2 : ∀ y ∈ cs, i ≤ y) (hm : X.mg "min" = none) (hg : Gl X "min" := by rfl) (ns : NS X e := by exact fun _ => rfl) : E X (.Call (.Name "min" p) [e] [] pos) σ H (Nm i) :=
  e_minL (zs := cs.map fun (n : Nat) => (n : Int)) hc (by rw [← nm_map]; exact he) (List.mem_map_of_mem h1) (fun y hy => by
    obtain ⟨n, hn, rfl⟩ := List.mem_map.mp hy
    have := h2 n hn
    omega) hm hg ns
theorem e_sumN {p : Pos} {cs : List Nat} (hc : X.calm = true) (he : ER X e σ H (isL X.K (cs.map Nm))) (hm : X.mg "sum" = none) (hg : Gl X "sum" := by rfl) (ns : NS X e := by exact fun _ => rfl) : E X (.Call (.Name "sum" p) [e] [] pos) σ H (Nm cs.sum) :=
  E.is (e_sum (zs := cs.map fun (n : Nat) => (n : Int)) hc (by rw [← nm_map]; exact he) hm hg ns) (congrArg V.int (by
    clear he hm
    induction cs with
    | nil => rfl
    | cons x r ih =>
      rw [List.map_cons, List.sum_cons, List.sum_cons, ih]
      omega))
/-- x is None -/
theorem e_isNone {R : V → Hp → Prop} {q : Bool} (ha : ER X a σ H R) (hs : ∀ v H1 H2, Ex H1 H2 → R v H1 → R v H2) (hR : ∀ v H1, R v H1 → decide (v = .non) = q) (hb : E X b σ H .non) (hm : behindInMarks .Is b = false := by first | exact nobehind _ (by decide) (by decide) | rfl) : E X (.Compare a [.Is] [b] pos) σ H (.bl q) :=
  e_cmpR op_isN ha hs (E.r hb) (fun v u H1 e1 h1 h2 H2 e2 Q k => ⟨h2, by rw [hR v H1 h1]; exact k H2 (Ex.refl _)⟩) hm
end
end Wx
namespace Wx
open PySem PySem.Spec PySem.W PyProof.Rows L2 Evl
section
variable {X : Cx} {e a b c tg : Expr} {es : List Expr} {rest : List Stmt} {σ : L2.St} {H : Hp} {v x y z : V} {te : TE} {pos : Pos} {m n k : Nat} {xs vs : List V} {u w : List Nat} {D : Ends}
/-- name = [e for x in ..] on one line -/
theorem b_asgC {α : Type} {i : Nat} {y : Str} {py spos : Pos} {sc : Scope} {elt iter : Expr} {own : List (Str × Nat)} {nm : Str} {j : Nat} {gp : Pos} {as : List α} {A : α → V} (g : α → V) (hc : X.calm = true) (hN : X.N.Nodup) (ok : BlkOk X.N X.env.scope sc own)
    (hg : ∀ (s : Shared) (H0 : Hp) (C : Addr) (cl : List (Str × Addr)) (fp : List Addr), PG (X.blk s H0 sc (compEnvC sc cl C X.env) fp) (.Name nm gp) (gName j))
    (hi : EI X (.Name nm gp) iter σ H (as.map A)) (hz : as.length ≤ 90000) (hw : ∀ x, wipe ((wipe σ (own.map (·.2))).set j (some x)) (own.map (·.2)) = wipe σ (own.map (·.2)))
    (he : ∀ a ∈ as, ∀ H1, Ex H H1 → EB X sc elt ((wipe σ (own.map (·.2))).set j (some (A a))) H1 (g a))
    (k : ∀ p H1, H p = none → Ex H H1 → H1 p = some (.lst (as.map g)) → wSs X rest D (σ.set i (some (.ref p))) H1) (hs : ∀ x, foldedSetIterable iter X.env x = pure x := by intro _; rfl) (hy : X.N[i]? = some y := by rfl) (hyl : X.env.scope.names.lookup y = some .local := by rfl)
    (hsw : swapsWith (.ListComp elt [⟨.Name nm gp, iter, [], 0⟩] sc pos) (some (.Name y py)) spos.line X.env = pure true := by rfl) :
    wSs X (.Assign [.Name y py] (.ListComp elt [⟨.Name nm gp, iter, [], 0⟩] sc pos) spos :: rest) D σ H := by
  exact b_st (ps_setLc (te := wEb X sc elt) hc hN hy hyl hsw pI ok hg (fun _ _ _ _ _ => pts_nil) (fun s H0 C cl fp => ⟨fun pins s1 _ _ _ I h => h s H0 C cl fp pins s1 I⟩) hs) (s_asgL (el_comp (A := A) (fun _ => true) g hi.ev hz hw (fun a _ H1 _ H2 _ Q k => k H2 (Ex.refl H2)) fun a ha _ H1 e1 => EB.ev (he a ha H1 e1)) fun p H1 hp e1 h1 => k p H1 hp e1 (by
    rw [List.filter_eq_self.mpr fun _ _ => rfl] at h1
    exact h1))
theorem b_asgCIf {α : Type} {i : Nat} {y : Str} {py spos : Pos} {sc : Scope} {elt iter tst : Expr} {own : List (Str × Nat)} {nm : Str} {j : Nat} {gp : Pos} {as : List α} {A : α → V} (p : α → Bool) (g : α → V) (hc : X.calm = true) (hN : X.N.Nodup) (ok : BlkOk X.N X.env.scope sc own)
    (hg : ∀ (s : Shared) (H0 : Hp) (C : Addr) (cl : List (Str × Addr)) (fp : List Addr), PG (X.blk s H0 sc (compEnvC sc cl C X.env) fp) (.Name nm gp) (gName j))
    (hi : EI X (.Name nm gp) iter σ H (as.map A)) (hz : as.length ≤ 90000) (hw : ∀ x, wipe ((wipe σ (own.map (·.2))).set j (some x)) (own.map (·.2)) = wipe σ (own.map (·.2)))
    (ht : ∀ a ∈ as, ∀ H1, Ex H H1 → TB X sc tst ((wipe σ (own.map (·.2))).set j (some (A a))) H1 (p a))
    (he : ∀ a ∈ as, p a = true → ∀ H1, Ex H H1 → EB X sc elt ((wipe σ (own.map (·.2))).set j (some (A a))) H1 (g a))
    (k : ∀ q H1, H q = none → Ex H H1 → H1 q = some (.lst ((as.filter p).map g)) → wSs X rest D (σ.set i (some (.ref q))) H1) (hs : ∀ x, foldedSetIterable iter X.env x = pure x := by intro _; rfl) (hy : X.N[i]? = some y := by rfl) (hyl : X.env.scope.names.lookup y = some .local := by rfl)
    (hsw : swapsWith (.ListComp elt [⟨.Name nm gp, iter, [tst], 0⟩] sc pos) (some (.Name y py)) spos.line X.env = pure true := by rfl) :
    wSs X (.Assign [.Name y py] (.ListComp elt [⟨.Name nm gp, iter, [tst], 0⟩] sc pos) spos :: rest) D σ H :=
  b_st (ps_setLc (te := wEb X sc elt) (tt := wTb X sc tst) hc hN hy hyl hsw pI ok hg (fun s H0 C cl fp => pts_one ⟨fun pins s1 _ _ _ I h => h s H0 C cl fp pins s1 I⟩) (fun s H0 C cl fp => ⟨fun pins s1 _ _ _ I h => h s H0 C cl fp pins s1 I⟩) hs) (s_asgL (el_comp (A := A) p g hi.ev hz hw (fun a ha H1 e1 => TB.ev (ht a ha H1 e1)) fun a ha hp H1 e1 => EB.ev (he a ha hp H1 e1)) k)
theorem b_asgC2 {α β : Type} {i : Nat} {y : Str} {py spos : Pos} {sc : Scope} {elt iter iter1 : Expr} {own : List (Str × Nat)} {nm nm1 : Str} {j j1 : Nat} {gp gp1 : Pos} {as : List α} {A : α → V} {bs : α → List β} {B : β → V} (ws1 : List Nat) (g : α → β → V) (hc : X.calm = true) (hN : X.N.Nodup) (ok : BlkOk X.N X.env.scope sc own) (hv : ∀ i ∈ ws1, i ∈ own.map (·.2))
    (hg : ∀ (s : Shared) (H0 : Hp) (C : Addr) (cl : List (Str × Addr)) (fp : List Addr), PG (X.blk s H0 sc (compEnvC sc cl C X.env) fp) (.Name nm gp) (gName j))
    (hg1 : ∀ (s : Shared) (H0 : Hp) (C : Addr) (cl : List (Str × Addr)) (fp : List Addr), PG (X.blk s H0 sc (compEnvC sc cl C X.env) fp) (.Name nm1 gp1) (gName j1))
    (hi : EI X (.Name nm gp) iter σ H (as.map A)) (hz : (as.flatMap fun a => (bs a).map (g a)).length ≤ 90000)
    (hw : ∀ x, wipe ((wipe σ (own.map (·.2))).set j (some x)) (own.map (·.2)) = wipe σ (own.map (·.2))) (hw1 : ∀ x y, wipe ((wipe ((wipe σ (own.map (·.2))).set j (some x)) ws1).set j1 (some y)) ws1 = wipe ((wipe σ (own.map (·.2))).set j (some x)) ws1)
    (hi1 : ∀ a ∈ as, ∀ H1, Ex H H1 → ∀ (s : Shared) (H0 : Hp) (C : Addr) (cl : List (Str × Addr)) (fp : List Addr), EIc (X.blk s H0 sc (compEnvC sc cl C X.env) fp) (.Name nm1 gp1) iter1 ((wipe σ (own.map (·.2))).set j (some (A a))) H1 ((bs a).map B))
    (he : ∀ a ∈ as, ∀ b ∈ bs a, ∀ H1, Ex H H1 → EB X sc elt ((wipe ((wipe σ (own.map (·.2))).set j (some (A a))) ws1).set j1 (some (B b))) H1 (g a b))
    (k : ∀ q H1, H q = none → Ex H H1 → H1 q = some (.lst (as.flatMap fun a => (bs a).map (g a))) → wSs X rest D (σ.set i (some (.ref q))) H1) (hs : ∀ x, foldedSetIterable iter X.env x = pure x := by intro _; rfl) (hs1 : ∀ env x, foldedSetIterable iter1 env x = pure x := by intro _ _; rfl) (hy : X.N[i]? = some y := by rfl) (hyl : X.env.scope.names.lookup y = some .local := by rfl)
    (hsw : swapsWith (.ListComp elt [⟨.Name nm gp, iter, [], 0⟩, ⟨.Name nm1 gp1, iter1, [], 0⟩] sc pos) (some (.Name y py)) spos.line X.env = pure true := by rfl) :
    wSs X (.Assign [.Name y py] (.ListComp elt [⟨.Name nm gp, iter, [], 0⟩, ⟨.Name nm1 gp1, iter1, [], 0⟩] sc pos) spos :: rest) D σ H :=
  b_st (ps_setLc2 (vs1 := ws1) (te := wEb X sc elt) (wi1 := wIb X sc (.Name nm1 gp1) iter1) hc hN hy hyl hsw pI ok hv hg (fun _ _ _ _ _ => pts_nil) (fun s H0 C cl fp => ⟨fun pins s1 _ _ _ I h => h s H0 C cl fp pins s1 I⟩) hg1 (fun _ _ _ _ _ => pts_nil) (fun s H0 C cl fp => ⟨fun pins s1 _ _ _ I h => h s H0 C cl fp pins s1 I⟩) hs hs1)
    (s_asgL (el_comp2 (A := A) (B := B) g hi.ev hz hw hw1 (fun a _ H1 _ H2 _ Q k => k H2 (Ex.refl H2)) (fun a ha H1 e1 R k s H0 C cl fp => (hi1 a ha H1 e1 s H0 C cl fp).all H1 (Ex.refl H1) R k) (fun a _ b _ H1 _ H2 _ Q k => k H2 (Ex.refl H2)) fun a ha b hb H1 e1 => EB.ev (he a ha b hb H1 e1)) k)
end
end Wx
namespace Wx
open PySem PySem.Spec PySem.W PyProof.Rows L2 Evl
abbrev Wd := List Nat
/-! ### sorting with repeats -/
def insT (x : Wd) : List Wd → List Wd
  | [] => [x]
  | y :: r => if y < x then y :: insT x r else x :: y :: r
def sortT : List Wd → List Wd
  | [] => []
  | x :: r => insT x (sortT r)
theorem insT_perm (x : Wd) : ∀ l : List Wd, (insT x l).Perm (x :: l)
  | [] => List.Perm.refl _
  | y :: r => by
    unfold insT
    split
    · exact (List.Perm.cons y (insT_perm x r)).trans (List.Perm.swap x y r)
    · exact List.Perm.refl _
theorem sortT_perm : ∀ l : List Wd, (sortT l).Perm l
  | [] => List.Perm.refl _
  | x :: r => (insT_perm x (sortT r)).trans (List.Perm.cons x (sortT_perm r))
abbrev AscT (l : List Wd) : Prop := l.Pairwise fun a b => a ≤ b
theorem insT_asc {x : Wd} : ∀ {l : List Wd}, AscT l → AscT (insT x l)
  | [], _ => List.pairwise_singleton _ _
  | y :: r, h => by
    unfold insT
    obtain ⟨h1, h2⟩ := List.pairwise_cons.mp h
    split
    · rename_i hlt
      refine List.pairwise_cons.mpr ⟨fun z hz => ?_, insT_asc h2⟩
      rcases List.mem_cons.mp ((insT_perm x r).mem_iff.mp hz) with rfl | hz
      · exact Lyn.le_of_lt hlt
      · exact h1 z hz
    · rename_i hge
      refine List.pairwise_cons.mpr ⟨fun z hz => ?_, h⟩
      rcases List.mem_cons.mp hz with rfl | hz
      · exact hge
      · exact Lyn.le_trans hge (h1 z hz)
theorem sortT_asc : ∀ l : List Wd, AscT (sortT l)
  | [] => List.Pairwise.nil
  | x :: r => insT_asc (sortT_asc r)
theorem asc_uniq : ∀ {a b : List Wd}, AscT a → AscT b → a.Perm b → a = b
  | [], b, _, _, h => (List.nil_perm.mp h).symm
  | x :: a, [], _, _, h => nomatch List.Perm.length_eq h
  | x :: a, y :: b, h1, h2, h => by
    obtain ⟨p1, p2⟩ := List.pairwise_cons.mp h1
    obtain ⟨q1, q2⟩ := List.pairwise_cons.mp h2
    have e : x = y := by
      have hx : x ∈ y :: b := h.mem_iff.mp List.mem_cons_self
      have hy : y ∈ x :: a := h.mem_iff.mpr List.mem_cons_self
      refine Lyn.le_antisymm ?_ ?_
      · rcases List.mem_cons.mp hy with e | hy
        · rw [e]
          exact Lyn.le_rfl
        · exact p1 y hy
      · rcases List.mem_cons.mp hx with e | hx
        · rw [e]
          exact Lyn.le_rfl
        · exact q1 x hx
    subst e
    rw [asc_uniq p2 q2 (List.Perm.cons_inv h)]
theorem asc_of_sortedS : ∀ {l : List Str}, sortedS l = true → AscT (l.map fun s => s.cps.toList)
  | [], _ => List.Pairwise.nil
  | x :: r, h => by
    have key : ∀ (r : List Str) (p : Str), risingS p r = true → AscT ((p :: r).map fun s => s.cps.toList) := by
      intro r
      induction r with
      | nil => exact fun p _ => List.pairwise_singleton _ _
      | cons y r ih =>
        intro p h
        have h : (!ltCps y.cps.toList p.cps.toList && risingS y r) = true := h
        rw [Bool.and_eq_true, Bool.not_eq_true', ltCps_eq, decide_eq_false_iff_not] at h
        have h2 := ih y h.2
        rw [List.map_cons]
        refine List.pairwise_cons.mpr ⟨fun z hz => ?_, h2⟩
        rw [List.map_cons] at hz h2
        rcases List.mem_cons.mp hz with rfl | hz
        · exact h.1
        · exact Lyn.le_trans h.1 ((List.pairwise_cons.mp h2).1 z hz)
    exact key r x h
section
variable {X : Cx} {e a b c tg : Expr} {es : List Expr} {rest body : List Stmt} {σ : L2.St} {H : Hp} {v x y z : V} {te : TE} {pos : Pos} {m n k : Nat} {xs vs : List V} {u w : List Nat} {D : Ends}
def rSortedTxL (K : PySem.W.Frag) : List V → Hp → VK → Prop := fun vs H Q => ∃ (a : Addr) (ws : List (List Nat)), vs = [V.ref a] ∧ SqL K H a (ws.map Tx) ∧ ws.length ≤ 90000 ∧ ∀ p : Addr, H p = none → Q (.ref p) (upd H p (.lst ((sortT ws).map Tx)))
theorem cr_sortedTxL : CallR X (.builtin "sorted") (rSortedTxL X.K) := by
  intro pins s σ H vs us Q I r h
  obtain ⟨a, ws, rfl, hs, hz, q⟩ := h
  obtain ⟨its, rv, hl, hlen0⟩ := I.list hs
  rw [Vals.ref1 r]
  rw [map_sOf] at rv
  have hl2 := rv.length
  rw [List.length_map, List.length_map] at hl2
  refine PyProof.Rows.sorted_strsAny hl.isList rv.strs (by rw [← hl2]; exact sz_of (by omega)) fun out ys h1 h2 h3 => ?_
  obtain ⟨ep, he'⟩ := PyProof.Rows.sortedAll_at s.heap its out
  have hys : ys = (sortT ws).map sOf := by
    have a1 := asc_of_sortedS h3
    have p1 : (ys.map fun s => s.cps.toList).Perm ws := by
      have := h2.map fun s : Str => s.cps.toList
      rw [List.map_map, show (fun s : Str => s.cps.toList) ∘ sOf = id from funext fun w => by simp] at this
      rwa [List.map_id] at this
    have e := asc_uniq a1 (sortT_asc ws) (p1.trans (sortT_perm ws).symm)
    rw [← e, List.map_map]
    conv => lhs; rw [← List.map_id ys]
    congr 1
  have hv : Vals ((sortT ws).map Tx) out.toList := by
    have := vals_of_strs h1
    rwa [hys, ← map_sOf] at this
  have hlen : ((sortT ws).map Tx).length ≤ sizeLine := by rw [List.length_map, (sortT_perm ws).length_eq]; exact sz_of (by omega)
  exact ⟨.ref _, upd H (s.heap.objs.size + 1) (.lst ((sortT ws).map Tx)), I.laid (t' := s.toks) (fun _ _ => PyProof.Rows.sortedAll_old) (Nat.le_succ _) ⟨hlen, out.toList, ep, hv, he'⟩, rfl, q _ (I.hok.fresh (Nat.le_succ _))⟩
theorem l_sorted {p : Pos} {ws : List (List Nat)} (he : ER X e σ H (isL X.K (ws.map Tx))) (hz : ws.length ≤ 90000) (hm : X.mg "sorted" = none) (hg : Gl X "sorted" := by rfl) (ns : NS X e := by exact fun _ => rfl) : EL X (.Call (.Name "sorted" p) [e] [] pos) σ H ((sortT ws).map Tx) :=
  EL.of (pe_callB cr_sortedTxL hg hm (by decide +kernel) (pa_cons pE pa_nil (ns [])) (he := ns [])) (el_cb1 he fun v H1 _ hv Q q => let ⟨l, e, hs⟩ := hv; ⟨l, ws, by rw [e], hs, hz, fun p hp => q p _ hp (Ex.new hp) upd_same⟩)
/-- x not in a list of texts -/
theorem t_ninLT {ws : List (List Nat)} (ha : E X a σ H (Tx u)) (hb : ER X b σ H (isL X.K (ws.map Tx))) (hm : behindInMarks .NotIn b = false := by first | exact nobehind _ (by decide) (by decide) | rfl) : ET X (.Compare a [.NotIn] [b] pos) σ H (!decide (u ∈ ws)) :=
  t_cmpR op_notIn_seq (E.r ha) eqS hb (fun v z H1 e1 h1 h2 => by
    obtain ⟨p, rfl, hs⟩ := h2
    rw [h1, ← inV_tx]
    exact rv_niL hs rfl (flat_txs ws)) hm
/-- for x in a new list that stays, while others may change -/
theorem b_forL {nm : Str} {gp : Pos} {j : Nat} (hi : EL X e σ H vs) (Pv : Addr → Nat → L2.St → Hp → Prop) (h0 : ∀ p H1, H p = none → Ex H H1 → H1 p = some (.lst vs) → Pv p 0 σ H1) (hk : ∀ p i σ' H', Pv p i σ' H' → H' p = some (.lst vs))
    (hs : ∀ p i x σ' H', vs[i]? = some x → Pv p i σ' H' → wSs X body { D with nx := Pv p (i + 1), ct := Pv p (i + 1), bk := wSs X rest D } (σ'.set j (some x)) H') (hd : ∀ p σ' H', Pv p vs.length σ' H' → wSs X rest D σ' H')
    (hp : PassesOwn (model X.prog X.w) X.A X.env X.xe) (hc : X.calm = true) (hN : X.N.Nodup) (hj : X.N[j]? = some nm := by rfl) (hl : Loc X.env.scope nm := by first | exact Or.inl rfl | exact Or.inr rfl) (hf : X.fn nm = true ∨ X.env.scope.names.lookup nm = some .local := by first | exact .inl rfl | exact .inr rfl)
    (hfs : ∀ x, foldedSetIterable e X.env x = pure x := by intro _; rfl) : wSs X (.For (.Name nm gp) e body [] pos :: rest) D σ H :=
  b_st (ps_for hp hc (pi_list pE) (pg_name hN hj hl hf) pSs hfs) (hi H (Ex.refl H) _ fun p H1 hp0 e1 hp1 => by
    refine ⟨p, rfl, ⟨vs, sq_of hp1⟩, fun i m σ' H' => m = vs.length - i ∧ i ≤ vs.length ∧ Pv p i σ' H', ⟨vs.length, by omega, Nat.zero_le _, h0 p H1 hp0 e1 hp1⟩, ?_⟩
    rintro i m σ' H' ⟨rfl, hi, hP⟩
    have hsq : SqL X.K H' p vs := sq_of (hk p i σ' H' hP)
    by_cases hlt : i < vs.length
    · refine .inr ⟨⟨vs, vs[i], hsq, List.getElem?_eq_getElem hlt⟩, fun σ2 H2 => Pv p (i + 1) σ2 H2, fun σ2 H2 h => ⟨vs.length - (i + 1), by omega, rfl, hlt, h⟩, fun x H'' hy => ?_⟩
      obtain ⟨rfl, hx'⟩ := hy
      exact hs p i x σ' H'' (hx' vs hsq) hP
    · have : i = vs.length := by omega
      subst this
      exact .inl ⟨⟨vs, hsq, Nat.le_refl _⟩, hd p σ' H' hP⟩)
/-! ### lists that change in place -/
theorem get_list : PGet X (rIxL X.K) := by
  intro pins s σ H x y v u Q I rx ry h
  obtain ⟨p, xs, i, z, rfl, rfl, hq, he, q⟩ := h
  cases rx
  obtain ⟨t, rfl⟩ := ry
  obtain ⟨its, r, pl, hz⟩ := I.list hq
  obtain ⟨j, h1, h2, h3, h4, h5⟩ := atI_get he
  obtain ⟨w, ew, rw'⟩ := r.get h2
  have hl := r.length
  have fin : EP X pins σ Q w s := ⟨z, H, I, rw', q⟩
  have hn := line63
  by_cases h0 : 0 ≤ i
  · have hj : i.toNat = j := by
      rw [seqIndex_of h0 h5] at h1
      exact Option.some.inj h1
    exact getItem_listL pl.isList h0 (by omega) (by rw [hj]; exact ew) fin
  · have hj : (i + (its.toArray.size : Int)).toNat = j := by
      rw [seqIndex_neg (by omega) h4] at h1
      rw [List.size_toArray, ← hl]
      exact Option.some.inj h1
    exact wpAny_getItem_list_neg (Q := fun r s' => EP X pins σ Q r s') pl.isList (by omega) (by rw [List.size_toArray] <;> omega) (by omega) (by rw [hj]; simpa using ew) fin
/-- xs[-1] += e -/
theorem b_augLast {p : Addr} {xs : List Nat} {y : Nat} {tpos : Pos} {e : Expr} (ha : E X a σ H (.ref p)) (hL : H p = some (.lst ((xs ++ [y]).map Nm))) (hi : E X b σ H (.int (-1))) (he : E X e σ H (Nm k)) (kk : ∀ H1, Ex H H1 → wSs X rest D σ (upd H1 p (.lst ((xs ++ [y + k]).map Nm))))
    (hs : ∀ ov iv new, augStore b ov iv new = (do holding [new, ov, iv] (setItem ov iv new); release [new, ov, iv] []; pure .next) := by intros; rfl) : wSs X (.AugAssign (.Subscript a b tpos) .Add e pos :: rest) D σ H := by
  refine b_st (ps_augS pE pE get_list pE ip_add set_list hs) ?_
  refine ha H (Ex.refl H) _ fun H1 e1 => hi H1 e1 _ fun H2 e2 => ⟨p, (xs ++ [y]).map Nm, -1, Nm y, rfl, rfl, sq_of (e2 _ _ (e1 _ _ hL)), by rw [List.map_append]; exact atI_last _ _, he H2 (e1.trans e2) _ fun H3 e3 => ?_⟩
  refine ⟨(y : Int), (k : Int), rfl, rfl, p, (xs ++ [y]).map Nm, -1, xs.length, rfl, rfl, e3 _ _ (e2 _ _ (e1 _ _ hL)), ?_, ?_⟩
  · unfold ixN
    rw [if_neg (by decide), if_pos (by simp; omega)]
    simp
    omega
  · have e : ((xs ++ [y]).map Nm).set xs.length (V.int ((y : Int) + (k : Int))) = (xs ++ [y + k]).map Nm := by
      have h : ((y : Int) + (k : Int)) = ((y + k : Nat) : Int) := by omega
      rw [h, List.map_append, List.map_append, List.set_append_right _ _ (by simp)]
      simp
    rw [e]
    exact kk H3 ((e1.trans e2).trans e3)
/-- xs.pop() -/
theorem b_pop {p1 p2 : Pos} {p : Addr} {xs : List Nat} {y : Nat} (ha : E X a σ H (.ref p)) (hL : H p = some (.lst ((xs ++ [y]).map Nm))) (kk : ∀ H1, Ex H H1 → wSs X rest D σ (upd H1 p (.lst (xs.map Nm)))) (hbase : attributeBase a "pop" X.env (eval a X.env) = eval a X.env := by rfl) (hline : (p1.endLine == p2.line) = true := by rfl)
    (hsw : swapsWith (.Call (.Attribute a "pop" p1) [] [] p2) none pos.line X.env = pure false := by rfl) : wSs X (.Expr (.Call (.Attribute a "pop" p1) [] [] p2) pos :: rest) D σ H :=
  b_st (ps_expr (pe_bm0 PySem.F.plainAttrs_list PySem.F.slot_list_pop PySem.F.type_list_pop mt_pop pE hbase hline) hsw) (ha H (Ex.refl H) _ fun H1 e1 => ⟨Or.inl ⟨rfl, _, sq_of (e1 _ _ hL)⟩, p, (xs ++ [y]).map Nm, Nm y, rfl, rfl, e1 _ _ hL, by simp, by
    have e : ((xs ++ [y]).map Nm).dropLast = xs.map Nm := by simp
    rw [e]
    exact kk H1 e1⟩)
/-- (xs * n)[:m] -/
theorem l_repTake {p : Addr} {xs : List Nat} {p1 p2 : Pos} (ha : E X a σ H (.ref p)) (hL : H p = some (.lst (xs.map Nm))) (hb : E X b σ H (Nm n)) (hc : E X c σ H (Nm m)) (hz : xs.length * n ≤ 100000) (hz2 : n ≤ 100000) :
    EL X (.Subscript (.BinOp a .Mult b p1) (.Slice none (some c) none p2) pos) σ H (((List.replicate n xs).flatten.take m).map Nm) :=
  EL.of (pe_slice sl_list (pe_op op_rep pE pE) po_none (po_some pE)) fun H1 e1 Q q => by
    refine ha H1 e1 _ fun H2 e2 => hb H2 (e1.trans e2) _ fun H3 e3 => ⟨p, (n : Int), xs.map Nm, rfl, rfl, e3 _ _ (e2 _ _ (e1 _ _ hL)), by omega, ?_, ?_, fun p' hp' => ?_⟩
    · have : (100000 : Int) < 2 ^ 63 := by decide
      omega
    · rw [List.length_map, Int.toNat_natCast]
      exact sz_of hz
    · have e3' := e2.trans e3
      refine eo_none _ (Ex.refl _) _ fun H5 e5 => (eo_some (hc.mono ((e1.trans e3').trans (Ex.new hp')))) H5 e5 _ fun H6 e6 => ⟨p', _, rfl, sq_of (e6 _ _ (e5 _ _ upd_same)), fun p7 hp7 => ?_⟩
      have e : cutV ((List.replicate ((n : Int)).toNat (xs.map Nm)).flatten) none (some (m : Int)) = ((List.replicate n xs).flatten.take m).map Nm := by
        rw [cutV_to, Int.toNat_natCast, List.map_take, List.map_flatten, List.map_replicate]
      rw [e]
      have e07 : Ex H1 H6 := ((e3'.trans (Ex.new hp')).trans e5).trans e6
      exact q p7 _ (fresh_back e07 hp7) (e07.trans (Ex.new hp7)) upd_same
end
end Wx
namespace Wx
open PySem PySem.Spec PySem.W PyProof.Rows L2 Evl
section
variable {X : Cx} {e a b c tg : Expr} {es : List Expr} {rest body : List Stmt} {σ : L2.St} {H : Hp} {v x y z : V} {te : TE} {pos : Pos} {m n k : Nat} {xs vs : List V} {u w : List Nat} {D : Ends}
/-- w[:-1] -/
theorem cut_neg (w : List Nat) : cutS ⟨w.toArray⟩ none (some (-1)) = ⟨(w.take (w.length - 1)).toArray⟩ := by
  unfold cutS
  rw [HT.sIx_none, tx_len]
  simp only [List.toList_toArray, List.drop_zero, Nat.sub_zero]
  congr 2
  have h : HT.sIx w.length w.length (some (-1)) = w.length - 1 := by
    show (if (-1 : Int) < 0 then ((-1 : Int) + (w.length : Int)).toNat else min (-1 : Int).toNat w.length) = _
    rw [if_pos (by decide)]
    omega
  rw [h]
theorem e_slNeg {p2 : Pos} (he : E X e σ H (Tx w)) (hb : E X b σ H (.int (-1))) (hw : w.length ≤ 100000) : E X (.Subscript e (.Slice none (some b) none p2) pos) σ H (Tx (w.take (w.length - 1))) :=
  E.is (E.of (pe_slice sl_str pE po_none (po_some pE)) (ev_slS he eo_none (eo_some hb) hw)) (by rw [cut_neg])
theorem t_neLT {us ws : List (List Nat)} (hu : X.A.units + 64 < cLine) (ha : ER X a σ H (isL X.K (us.map Tx))) (hb : ER X b σ H (isL X.K (ws.map Tx))) (hm : behindInMarks .NotEq b = false := by first | exact nobehind _ (by decide) (by decide) | rfl) : ET X (.Compare a [.NotEq] [b] pos) σ H (!decide (us = ws)) :=
  ET.is (t_neD hu (d_lstT ha) (d_lstT hb) (by decide) hm) (by rw [dec_lstT])
/-- a def called on a new list, a new list comes back -/
theorem l_callL {k' k : Nat} {nm : Str} {ps : List Str} {sp : Sp} {p : Pos} {ys : List V} (D : Df X.prog X.w X.K X.mg X.base k nm ps sp) (hr : Room k' X.A) (ha : EL X a σ H xs) (hs : ∀ q H1, H1 q = some (.lst xs) → ∀ Q : VK, RetL ys H1 Q → sp [.ref q] H1 Q E0) (hk : k ≤ k' := by decide) (hg : Gl X nm := by rfl) (hdb : (nm == ("__debug__" : Str)) = false := by decide) (ns : NS X a := by exact fun _ => rfl) : EL X (.Call (.Name nm p) [a] [] pos) σ H ys :=
  EL.of (pe_df1 D hr hk hg hdb ns) fun H1 e1 Q q => ha H1 e1 _ fun p H2 _ e2 h2 => hs p H2 h2 Q fun p3 H3 hp3 e3 h3 => q p3 H3 (fresh_back e2 hp3) (e2.trans e3) h3
/-- a, b = x, y, a name of these a cell; the parts may change the heap -/
theorem b_tup2X {i j : Nat} {n1 n2 : Str} {px py pt pt2 : Pos} {kt k2} (ha : wE X a σ H fun x H1 => wE X b σ H1 fun y H2 => ∀ H3, Ex H2 H3 → wSs X rest D ((σ.set i (some x)).set j (some y)) H3) (hc : X.calm = true) (hN : X.N.Nodup)
    (hi : X.N[i]? = some n1 := by rfl) (hj : X.N[j]? = some n2 := by rfl) (hx : Loc X.env.scope n1 := by first | exact Or.inl rfl | exact Or.inr rfl) (hy : Loc X.env.scope n2 := by first | exact Or.inl rfl | exact Or.inr rfl)
    (hf : X.fn n1 = true ∨ X.env.scope.names.lookup n1 = some .local := by first | exact .inl rfl | exact .inr rfl) (hf2 : X.fn n2 = true ∨ X.env.scope.names.lookup n2 = some .local := by first | exact .inl rfl | exact .inr rfl) (ns : NS X a := by exact fun _ => rfl) (ns2 : NS X b := by exact fun _ => rfl)
    (hs : swapsWithSole [.Tuple [.Name n1 px, .Name n2 py] kt pt] (.Tuple [a, b] k2 pt2) pos.line X.env = pure false := by rfl) (hw : swappedStores [.Tuple [.Name n1 px, .Name n2 py] kt pt] (.Tuple [a, b] k2 pt2) X.env = pure none := by rfl) :
    wSs X (.Assign [.Tuple [.Name n1 px, .Name n2 py] kt pt] (.Tuple [a, b] k2 pt2) pos :: rest) D σ H :=
  b_st (ps_asg (pe_tup (pa_cons pE (pa_cons pE pa_nil (ns2 [])) (ns [b]))) (pg_tup hc (pgs_cons (pg_name hN hi hx hf) (pgs_cons (pg_name hN hj hy hf2) pgs_nil))) hs hw) (fun pins s I => thn (ha pins s I) fun v s1 ⟨x, H1, I1, r1, q1⟩ => ⟨x, H1, I1, r1, fun pins2 s2 I2 => thn (q1 pins2 s2 I2) fun v2 s3 ⟨y, H2, I3, r3, q3⟩ => ⟨y, H2, I3, r3, sz_of (by simp), fun p hp => ⟨p, [x, y], rfl, st_of upd_same, rfl, x, [y], rfl, y, [], rfl, rfl, q3 _ (Ex.new hp)⟩⟩⟩)
theorem sortT_up {l : List Wd} (h : Lyn.Up l) : sortT l = l := asc_uniq (sortT_asc l) (h.imp fun {a b} h => Lyn.le_of_lt h) (sortT_perm l)
end
end Wx
namespace Wx
open PySem PySem.Spec PySem.W PyProof.Rows L2 Evl
section
variable {X : Cx} {e a b c tg : Expr} {es : List Expr} {rest : List Stmt} {σ : L2.St} {H : Hp} {v x y z : V} {te : TE} {pos : Pos} {m n k : Nat} {xs vs : List V} {u w : List Nat} {D : Ends}
/-- [e for x in .. for y in .. if t], nothing that stood is changed -/
theorem el_comp2If {α β : Type} {wi wi1 : TI} {tt tt1 : TT} {j j1 : Nat} {ws ws1 : List Nat} {as : List α} {A : α → V} {bs : α → List β} {B : β → V} (p : α → β → Bool) (g : α → β → V) (hi : EvI wi σ H (as.map A)) (hz : (as.flatMap fun a => ((bs a).filter (p a)).map (g a)).length ≤ 90000)
    (hw : ∀ x, wipe ((wipe σ ws).set j (some x)) ws = wipe σ ws) (hw1 : ∀ x y, wipe ((wipe ((wipe σ ws).set j (some x)) ws1).set j1 (some y)) ws1 = wipe ((wipe σ ws).set j (some x)) ws1)
    (ht : ∀ a ∈ as, ∀ H1, Ex H H1 → EvT tt ((wipe σ ws).set j (some (A a))) H1 true) (hi1 : ∀ a ∈ as, ∀ H1, Ex H H1 → ∀ R : It → Hp → Prop, (∀ J H2, Ex H1 H2 → SrcC J ((bs a).map B) → R J H2) → wi1 ((wipe σ ws).set j (some (A a))) H1 R)
    (ht1 : ∀ a ∈ as, ∀ b ∈ bs a, ∀ H1, Ex H H1 → EvT tt1 ((wipe ((wipe σ ws).set j (some (A a))) ws1).set j1 (some (B b))) H1 (p a b))
    (he : ∀ a ∈ as, ∀ b ∈ bs a, p a b = true → ∀ H1, Ex H H1 → Ev te ((wipe ((wipe σ ws).set j (some (A a))) ws1).set j1 (some (B b))) H1 (g a b)) :
    EvL (tLc2 wi (gName j) tt wi1 (gName j1) tt1 te ws ws1) σ H (as.flatMap fun a => ((bs a).filter (p a)).map (g a)) := fun H0 e0 Q q => hi H0 e0 _ fun J H1 e1 src Dl hD => by
  refine ⟨fun i m H' => m = as.length - i ∧ i ≤ as.length ∧ Ex H1 H' ∧ H' Dl = some (.lst ((as.take i).flatMap fun a => ((bs a).filter (p a)).map (g a))), ⟨as.length, by omega, Nat.zero_le _, Ex.new hD, upd_same⟩, ?_⟩
  rintro i m H' ⟨rfl, hi, eH, hl⟩
  by_cases hlt : i < as.length
  · have ha : as[i]? = some as[i] := List.getElem?_eq_getElem hlt
    have hmem : as[i] ∈ as := List.getElem_mem hlt
    generalize as[i] = a at ha hmem
    refine .inr ⟨src.go i H' eH (by simpa using hlt), fun H'' => Ex H1 H'' ∧ H'' Dl = some (.lst ((as.take (i + 1)).flatMap fun a => ((bs a).filter (p a)).map (g a))), fun H'' h => ⟨as.length - (i + 1), by omega, rfl, hlt, h.1, h.2⟩, fun x H'' hy => ?_⟩
    obtain ⟨rfl, hx⟩ := src.yld i H' x H'' eH hy (by simpa using hlt)
    rw [List.getElem?_map, ha] at hx
    have hx : A a = x := Option.some.inj hx
    subst hx
    have hfin := flat_take (fun a => ((bs a).filter (p a)).map (g a)) ha
    have hlenF := len_flat_take as (fun a => ((bs a).filter (p a)).map (g a)) (i + 1)
    refine ⟨hw _, ht a hmem H1 (e0.trans e1) H'' eH _ fun H3 e3 => ?_⟩
    simp only [if_true]
    refine hi1 a hmem H3 (e0.trans (e1.trans (eH.trans e3))) _ fun J1 H4 e4 src1 => ?_
    refine ⟨fun i1 m1 H' => m1 = (bs a).length - i1 ∧ i1 ≤ (bs a).length ∧ Ex H1 H' ∧ H' Dl = some (.lst (((as.take i).flatMap fun a => ((bs a).filter (p a)).map (g a)) ++ (((bs a).take i1).filter (p a)).map (g a))), ⟨(bs a).length, by omega, Nat.zero_le _, (eH.trans e3).trans e4, ?_⟩, ?_⟩
    · rw [List.take_zero, List.filter_nil, List.map_nil, List.append_nil]
      exact e4 _ _ (e3 _ _ hl)
    · rintro i1 m1 H5 ⟨rfl, hi1', eH5, hl5⟩
      by_cases hlt1 : i1 < (bs a).length
      · have hb : (bs a)[i1]? = some (bs a)[i1] := List.getElem?_eq_getElem hlt1
        have hmemb : (bs a)[i1] ∈ bs a := List.getElem_mem hlt1
        generalize (bs a)[i1] = b at hb hmemb
        refine .inr ⟨src1.go i1 H5 (by simpa using hlt1), fun H'' => Ex H1 H'' ∧ H'' Dl = some (.lst (((as.take i).flatMap fun a => ((bs a).filter (p a)).map (g a)) ++ (((bs a).take (i1 + 1)).filter (p a)).map (g a))), fun H'' h => ⟨(bs a).length - (i1 + 1), by omega, rfl, hlt1, h.1, h.2⟩, fun x H6 hy => ?_⟩
        obtain ⟨rfl, hx⟩ := src1.yld i1 H5 x H6 hy (by simpa using hlt1)
        rw [List.getElem?_map, hb] at hx
        have hx : B b = x := Option.some.inj hx
        subst hx
        have hturn := take_turn (p a) (g a) hb
        have hle1 : ((((bs a).take (i1 + 1)).filter (p a)).map (g a)).length ≤ (((bs a).filter (p a)).map (g a)).length := by
          rw [List.length_map, List.length_map]
          conv => rhs; rw [← List.take_append_drop (i1 + 1) (bs a), List.filter_append, List.length_append]
          omega
        refine ⟨hw1 _ _, ht1 a hmem b hmemb H1 (e0.trans e1) H6 eH5 _ fun H7 e7 => ?_⟩
        rw [hturn]
        cases hp : p a b with
        | true =>
          simp only [if_true]
          refine he a hmem b hmemb hp H1 (e0.trans e1) H7 (eH5.trans e7) _ fun H8 e8 => ⟨_, e8 _ _ (e7 _ _ hl5), sz_lt ?_, Ex.mut ((eH5.trans e7).trans e8) hD, ?_⟩
          · rw [hfin, List.length_append] at hlenF
            rw [hturn, hp, List.length_append] at hle1
            rw [List.length_append]
            simp only [if_true, List.length_singleton] at hle1
            omega
          · rw [upd_same, List.append_assoc]
        | false =>
          simp only [Bool.false_eq_true, if_false, List.append_nil]
          exact ⟨eH5.trans e7, e7 _ _ hl5⟩
      · have : i1 = (bs a).length := by omega
        subst this
        refine .inl ⟨by simpa using src1.stop H5, eH5, ?_⟩
        rw [hl5, List.take_length, hfin]
  · have : i = as.length := by omega
    subst this
    refine .inl ⟨by simpa using src.stop H' eH, q Dl H' (fresh_back e1 hD) (e1.trans eH) ?_⟩
    rw [hl, List.take_length]
theorem l_comp2If {α β : Type} {sc : Scope} {elt iter iter1 tst : Expr} {own : List (Str × Nat)} {nm nm1 : Str} {j j1 : Nat} {gp gp1 : Pos} {as : List α} {A : α → V} {bs : α → List β} {B : β → V} (ws1 : List Nat) (p : α → β → Bool) (g : α → β → V) (hc : X.calm = true) (hN : X.N.Nodup) (ok : BlkOk X.N X.env.scope sc own) (hv : ∀ i ∈ ws1, i ∈ own.map (·.2))
    (hg : ∀ (s : Shared) (H0 : Hp) (C : Addr) (cl : List (Str × Addr)) (fp : List Addr), PG (X.blk s H0 sc (compEnvC sc cl C X.env) fp) (.Name nm gp) (gName j))
    (hg1 : ∀ (s : Shared) (H0 : Hp) (C : Addr) (cl : List (Str × Addr)) (fp : List Addr), PG (X.blk s H0 sc (compEnvC sc cl C X.env) fp) (.Name nm1 gp1) (gName j1))
    (hi : EI X (.Name nm gp) iter σ H (as.map A)) (hz : (as.flatMap fun a => ((bs a).filter (p a)).map (g a)).length ≤ 90000)
    (hw : ∀ x, wipe ((wipe σ (own.map (·.2))).set j (some x)) (own.map (·.2)) = wipe σ (own.map (·.2))) (hw1 : ∀ x y, wipe ((wipe ((wipe σ (own.map (·.2))).set j (some x)) ws1).set j1 (some y)) ws1 = wipe ((wipe σ (own.map (·.2))).set j (some x)) ws1)
    (hi1 : ∀ a ∈ as, ∀ H1, Ex H H1 → ∀ (s : Shared) (H0 : Hp) (C : Addr) (cl : List (Str × Addr)) (fp : List Addr), EIc (X.blk s H0 sc (compEnvC sc cl C X.env) fp) (.Name nm1 gp1) iter1 ((wipe σ (own.map (·.2))).set j (some (A a))) H1 ((bs a).map B))
    (ht : ∀ a ∈ as, ∀ b ∈ bs a, ∀ H1, Ex H H1 → TB X sc tst ((wipe ((wipe σ (own.map (·.2))).set j (some (A a))) ws1).set j1 (some (B b))) H1 (p a b))
    (he : ∀ a ∈ as, ∀ b ∈ bs a, p a b = true → ∀ H1, Ex H H1 → EB X sc elt ((wipe ((wipe σ (own.map (·.2))).set j (some (A a))) ws1).set j1 (some (B b))) H1 (g a b)) (hs : ∀ x, foldedSetIterable iter X.env x = pure x := by intro _; rfl) (hs1 : ∀ env x, foldedSetIterable iter1 env x = pure x := by intro _ _; rfl) :
    EL X (.ListComp elt [⟨.Name nm gp, iter, [], 0⟩, ⟨.Name nm1 gp1, iter1, [tst], 0⟩] sc pos) σ H (as.flatMap fun a => ((bs a).filter (p a)).map (g a)) :=
  EL.of (pe_lc2 (pos := pos) (elt := elt) (vs1 := ws1) (te := wEb X sc elt) (tt1 := wTb X sc tst) (wi1 := wIb X sc (.Name nm1 gp1) iter1) hc hN pI ok hv hg (fun _ _ _ _ _ => pts_nil) (fun s H0 C cl fp => ⟨fun pins s1 _ _ _ I h => h s H0 C cl fp pins s1 I⟩) hg1 (fun s H0 C cl fp => pts_one ⟨fun pins s1 _ _ _ I h => h s H0 C cl fp pins s1 I⟩) (fun s H0 C cl fp => ⟨fun pins s1 _ _ _ I h => h s H0 C cl fp pins s1 I⟩) hs hs1)
    (el_comp2If (A := A) (B := B) p g hi.ev hz hw hw1 (fun a _ H1 _ H2 _ Q k => k H2 (Ex.refl H2)) (fun a ha H1 e1 R k s H0 C cl fp => (hi1 a ha H1 e1 s H0 C cl fp).all H1 (Ex.refl H1) R k) (fun a ha b hb H1 e1 => TB.ev (ht a ha b hb H1 e1)) fun a ha b hb hp H1 e1 => EB.ev (he a ha b hb hp H1 e1))
end
end Wx
namespace Wx
open PySem PySem.Spec PySem.W PyProof.Rows L2 Evl HT
/-! ### t[::-1] of a tuple -/
theorem vals_rev : ∀ {xs : List V} {us : List Value}, Vals xs us → Vals xs.reverse us.reverse
  | _, _, .nil => .nil
  | _, _, .cons r t => by
    rw [List.reverse_cons, List.reverse_cons]
    exact (vals_rev t).append (.cons r .nil)
theorem adjust_rev (n : Nat) : Builtin.Slice.sliceAdjust none none (-1) (n : Int) = ((n : Int) - 1, -1) := by
  unfold Builtin.Slice.sliceAdjust
  simp
theorem places_rev (n : Nat) : Builtin.Slice.slicePlaces ((n : Int) - 1) (-1) (-1) = n := by
  unfold Builtin.Slice.slicePlaces
  simp
  try omega
theorem pick_rev {α : Type} (w : List α) : (List.range w.length).filterMap (fun (k : Nat) => w.toArray[(((w.length : Nat) : Int) - 1 + (k : Int) * (-1)).toNat]?) = w.reverse := by
  have h := rev_picked w
  rw [picked_rev', List.filterMap_map] at h
  rw [← h]
  congr 1
  funext k
  show w.toArray[_]? = w.toArray[_]?
  congr 1
  show (((w.length : Nat) : Int) - 1 + (k : Int) * (-1)).toNat = w.length - 1 - k
  omega
section
variable {prog : Program} {w : World} {A : Around} {E : Value → Shared → Prop} {s : Shared}
theorem getItem_tuple_rev {t sl : Addr} {items : List Value} {tk : Tok} {Q : Value → Shared → Prop} (ht : IsTup s.heap t items.toArray) (hs : s.heap.IsSliceOf sl .none .none (.int (-1) tk)) (hsz : items.length ≤ sizeLine)
    (h : Q (.ref s.heap.objs.size) { s with heap := s.heap.push { cls := .type "tuple", data := .seq items.reverse.toArray } }) : wpAny (model prog w) A (getItem (.ref t) (.ref sl)) Q E s := by
  have htake : sizeOk (.seq items.reverse.toArray) := by
    show items.reverse.toArray.size ≤ sizeLine
    rw [List.size_toArray, List.length_reverse]
    exact hsz
  obtain ⟨os, hos, hcs, hds⟩ := id hs
  have hTs : s.TypeIs (.ref sl) "slice" := ⟨os, hos, hcs⟩
  unfold getItem
  try with_reducible refine wpAny_holding ?_
  first | refine wpAny_bind (wpAny_pure ?_) | skip
  refine wpAny_bind (wpAny_sequenceKey ht.typeIs (by decide) ?_)
  refine wpAny_bind (wpAny_callSpecial?_slot (name := Str.ofString "__getitem__") ht.typeIs PyProof.Rows.slot_tuple_getitem
    (wpAny_call_entry PyProof.Rows.slot_tuple_getitem ht.typeIs entry_tuple_getitem ?_ (args_tuple_getitem _ _)))
  show wpAny _ _ (Builtin.Tuple.tupleItemsOf (.ref t) >>= _) _ _ s
  refine wpAny_bind (tupleItemsOf_ ht ?_)
  refine wpAny_bind (wpAny_typeOf hTs ?_)
  rw [if_pos (by decide)]
  refine wpAny_bind (show wpAny (model prog w) _ (Builtin.Slice.sliceApplied (.ref sl) (pure ((items.toArray.size : Nat) : Int))) _ _ s from ?_)
  unfold Builtin.Slice.sliceApplied Builtin.Slice.sliceFields
  refine wpAny_bind (wpAny_bind (wpAny_field hos hds (x := .none) rfl (wpAny_bind (wpAny_field hos hds (x := .none) rfl (wpAny_bind (wpAny_field hos hds (x := .int (-1) tk) rfl (wpAny_pure ?_)))))))
  refine wpAny_bind (slicePart_int ?_)
  show wpAny _ _ (if ((-1 : Int) == 0) = true then _ else _) _ _ s
  rw [if_neg (by decide)]
  refine wpAny_bind (slicePart_none (wpAny_bind (slicePart_none (wpAny_bind (wpAny_pure ?_)))))
  show wpAny _ _ (match Builtin.Slice.sliceAdjust none none (-1) ((items.toArray.size : Nat) : Int) with | (lo, hi) => pure (lo, (-1 : Int), Builtin.Slice.slicePlaces lo hi (-1))) _ _ s
  rw [adjust_rev]
  show wpAny _ _ (pure (((items.toArray.size : Nat) : Int) - 1, (-1 : Int), Builtin.Slice.slicePlaces (((items.toArray.size : Nat) : Int) - 1) (-1) (-1))) _ _ s
  rw [places_rev]
  refine wpAny_pure ?_
  have hno : ¬ (((((items.toArray.size : Nat) : Int) - 1) == 0 && (-1 : Int) == 1 && items.toArray.size == items.toArray.size) = true) := by simp
  show wpAny _ _ (if ((((items.toArray.size : Nat) : Int) - 1) == 0 && (-1 : Int) == 1 && items.toArray.size == items.toArray.size) = true then _ else _) _ _ s
  rw [if_neg hno]
  have hp := pick_rev items
  rw [List.size_toArray, hp]
  first
    | exact wpAny_bind (m := Builtin.Tuple.tupleExact _) (wpAny_newObj_type (wpAny_pure ⟨_, rfl, wpAny_pure h⟩) htake)
    | exact wpAny_bind (m := Builtin.Tuple.tupleExact _) (wpAny_newObj_type (wpAny_bind (wpAny_pure (wpAny_pure ⟨_, rfl, wpAny_pure h⟩))) htake)
    | exact wpAny_bind (wpAny_bind (m := Builtin.Tuple.tupleExact _) (wpAny_newObj_type (wpAny_pure (wpAny_pure ⟨_, rfl, wpAny_pure h⟩)) htake))
    | exact wpAny_bind (wpAny_bind (m := Builtin.Tuple.tupleExact _) (wpAny_newObj_type (wpAny_pure ⟨_, rfl, wpAny_pure h⟩) htake))
end
section
variable {X : Cx} {e a b c tg : Expr} {es : List Expr} {rest body : List Stmt} {σ : L2.St} {H : Hp} {v x y z : V} {te : TE} {pos : Pos} {m n k : Nat} {xs vs : List V} {u w : List Nat} {D : Ends}
def tRevT (K : PySem.W.Frag) (te : TE) : TE := fun σ H Q => te σ H fun x H1 => ∃ (a : Addr) (xs : List V), x = .ref a ∧ SqT K H1 a xs ∧ ∀ p, H1 p = none → Q (.ref p) (upd H1 p (.tup xs.reverse))
theorem pe_revT {k : Nat} {p1 p2 p3 : Pos} (he : PE X e te) : PE X (.Subscript e (.Slice none none (some (.UnaryOp .USub (.Constant (.int 1) k p1) p2)) p3) pos) (tRevT X.K te) := by
  refine ⟨fun pins s σ H Q I h => ?_⟩
  refine Subscript_ (thn (he.run pins s σ H _ I h) fun v s1 ⟨x, H1, I1, r1, q1⟩ => ?_)
  obtain ⟨a, xs, ex, hx, q⟩ := q1
  subst ex
  obtain rfl : v = Value.ref a := r1
  have hst : PO X (some (.UnaryOp .USub (.Constant (.int 1) k p1) p2)) (tPart (tUn (rU fun i => .int (-i)) (tC (.int 1)))) := po_some (pe_un un_neg pe_int)
  refine wpAny_Slice (thn (po_none.run pins s1 σ H1 (fun o H2 => o = none ∧ H2 = H1) I1 ⟨rfl, rfl⟩) fun vl s2 ⟨l, H2, I2, pl, el, e2⟩ => ?_)
  subst el e2
  refine thn (po_none.run pins s2 σ H2 (fun o H3 => o = none ∧ H3 = H2) I2 ⟨rfl, rfl⟩) fun vu s3 ⟨u, H3, I3, pu, eu, e3⟩ => ?_
  subst eu e3
  refine thn (hst.run pins s3 σ H3 (fun o H4 => o = some (-1) ∧ H4 = H3) I3 ⟨1, rfl, -1, rfl, rfl, rfl⟩) fun vs s4 ⟨o, H4, I4, ps, eo, e4⟩ => ?_
  subst eo e4
  obtain ⟨l', rfl, hl⟩ := IsPart.raw pl
  obtain ⟨u', rfl, hu⟩ := IsPart.raw pu
  obtain ⟨st', rfl, hs⟩ := IsPart.raw ps
  have el : l' = none := by cases l' <;> simp_all
  have eu : u' = none := by cases u' <;> simp_all
  subst el eu
  obtain ⟨tk, rfl⟩ : ∃ tk, st' = some (-1, tk) := by
    cases st' with
    | none => simp at hs
    | some p => exact ⟨p.2, by simp at hs; cases p; simp_all⟩
  have I5 : Inv X pins σ H4 { s4 with heap := s4.heap.push { cls := .type "slice", data := .fields #[partValue none, partValue none, partValue (some (-1, tk))] } } := I4.kept (t' := s4.toks) fun b ob q => Heap.get?_push_of_some _ q
  show wpAny (model X.prog X.w) X.A (subscriptTail e (.Slice none none (some (.UnaryOp .USub (.Constant (.int 1) k p1) p2)) p3) (.ref a) (.ref s4.heap.objs.size)) (EP X pins σ Q) X.xe { s4 with heap := s4.heap.push { cls := .type "slice", data := .fields #[partValue none, partValue none, partValue (some (-1, tk))] } }
  obtain ⟨its, r, ht, hz⟩ := I5.tuple hx
  have hlen := r.length
  refine tail_any (ops := [.ref a, .ref s4.heap.objs.size]) ht.typeIs PyProof.Rows.slot_tuple_getitem.lookup ?_ (by with_unfolding_all rfl)
  refine getItem_tuple_rev (tk := tk) ht ⟨_, Heap.get?_push_size _ rfl, rfl, rfl⟩ (by rw [← hlen]; exact hz) ?_
  refine ⟨.ref _, _, I5.laid (o := .tup xs.reverse) (fun b ob q => Heap.get?_push_of_some _ q) (Nat.le_refl _) ?_, rfl, q _ (I5.hok.fresh (Nat.le_refl _))⟩
  exact ⟨by rw [List.length_reverse]; exact hz, its.reverse, vals_rev r, IsTup.new _ _⟩
theorem u_revT {k : Nat} {p1 p2 p3 : Pos} (he : ER X e σ H (isT X.K xs)) : EU X (.Subscript e (.Slice none none (some (.UnaryOp .USub (.Constant (.int 1) k p1) p2)) p3) pos) σ H xs.reverse :=
  EU.of (pe_revT pE) fun H1 e1 Q q => he H1 e1 _ fun v H2 e2 ⟨a, ev, hs⟩ => ⟨a, xs, ev, hs, fun p hp => q p _ (fresh_back e2 hp) (e2.trans (Ex.new hp)) upd_same⟩
end
end Wx
namespace Wx
open PySem PySem.Spec PySem.W PyProof.Rows L2 Evl
theorem preSum_list (ns : List Int) : ∀ n, preSum (fun i => ns.getD i 0) n = (ns.take n).sum
  | 0 => by simp [preSum]
  | n + 1 => by
    rw [preSum, preSum_list ns n, PySem.sum_take_succ]
theorem ints_get : ∀ {us : List Value} {ns : List Int}, IntsAre us ns → ∀ (i : Nat) (v : Value), us[i]? = some v → ∃ t, v = .int (ns.getD i 0) t
  | _, _, .nil, i, v, e => by simp at e
  | _, _, .cons n k h, 0, v, e => by
    simp at e
    exact ⟨k, e.symm⟩
  | _, _, .cons n k h, i + 1, v, e => by
    obtain ⟨t, ht⟩ := ints_get h i v (by simpa using e)
    exact ⟨t, by rw [ht]; rfl⟩
section
variable {X : Cx} {e a b c tg : Expr} {es : List Expr} {rest body : List Stmt} {σ : L2.St} {H : Hp} {v x y z : V} {te : TE} {pos : Pos} {m n k : Nat} {xs vs : List V} {u w : List Nat} {D : Ends}
def rSumT (K : PySem.W.Frag) : List V → Hp → VK → Prop := fun vs H Q => ∃ (a : Addr) (ns : List Int), vs = [V.ref a] ∧ SqT K H a (ns.map V.int) ∧ Q (.int ns.sum) H
theorem cr_sumT (hc : X.calm = true) : CallR X (.builtin "sum") (rSumT X.K) := by
  intro pins s σ H vs us Q I r h
  obtain ⟨a, ns, rfl, hs, q⟩ := h
  obtain ⟨its, rv, hl, _⟩ := I.tuple hs
  rw [Vals.ref1 r]
  have hI : IntsAre its ns := rv.ints
  have hn : its.toArray.size = ns.length := by rw [List.size_toArray]; exact hI.length
  refine call_sum_walkAnyS (iter_tupleW (A := X.A.in1) (I.ok.hd hc) (by obtain ⟨o, ho, hcl, n, hd⟩ := hl; exact ⟨o, ho, hcl, ⟨n, hd⟩⟩) fun s₂ e W st hfp hw hk => ?_)
  refine ⟨_, _, _, _, _, _, _, fun i => ns.getD i 0, rfl, W, st, hfp, fun i v hv => ints_get hI i v (by simpa using hv), fun s' t' m => ?_⟩
  obtain ⟨h', tk, rfl, hk'⟩ := moved_old e rfl m
  rw [preSum_list, List.take_of_length_le (by omega)]
  exact ⟨.int _, H, I.kept hk', ⟨_, rfl⟩, q⟩
theorem e_sumTN {p : Pos} {cs : List Nat} (hc : X.calm = true) (he : ER X e σ H (isT X.K (cs.map Nm))) (hm : X.mg "sum" = none) (hg : Gl X "sum" := by rfl) (ns : NS X e := by exact fun _ => rfl) : E X (.Call (.Name "sum" p) [e] [] pos) σ H (Nm cs.sum) :=
  E.is (E.of (pe_callB (cr_sumT hc) hg hm (by decide +kernel) (pa_cons pE pa_nil (ns [])) (he := ns [])) (ev_cb1 he fun v H1 _ hv Q q => let ⟨p, e, hs⟩ := hv; ⟨p, cs.map fun (n : Nat) => (n : Int), by rw [e], by rw [← nm_map]; exact hs, q H1 (Ex.refl H1)⟩)) (congrArg V.int (by
    clear he hm
    induction cs with
    | nil => rfl
    | cons x r ih =>
      rw [List.map_cons, List.sum_cons, List.sum_cons, ih]
      omega))
/-- tuples of numbers compared -/
theorem d_tupN {us : List Nat} (h : ER X e σ H (isT X.K (us.map Nm))) : ER X e σ H (dat X.K (Tup.mk (us.map fun (n : Nat) => (n : Int)))) := ERmono h fun v H1 ⟨p, ev, hs⟩ => by
  rw [ev]
  exact Dp.tup hs (dp_nms us)
theorem t_neTN {us ws : List Nat} (hu : X.A.units + 64 < cLine) (ha : ER X a σ H (isT X.K (us.map Nm))) (hb : ER X b σ H (isT X.K (ws.map Nm))) (hm : behindInMarks .NotEq b = false := by first | exact nobehind _ (by decide) (by decide) | rfl) : ET X (.Compare a [.NotEq] [b] pos) σ H (!decide (us = ws)) :=
  ET.is (t_neD hu (d_tupN ha) (d_tupN hb) (by decide) hm) (by
    congr 1
    exact decide_eq_decide.mpr (by rw [Tup.mk.injEq]; exact ⟨fun h => (List.map_inj_right fun _ _ => Int.ofNat_inj.mp).mp h, fun h => by rw [h]⟩))
/-- a text within a text: its count is not 0 -/
theorem count_pos {x y : Str} {i : Nat} (h : i + y.length ≤ x.length) (hs : Builtin.Str.subAt x y i = true) : Txt.count x y ≠ 0 := by
  unfold Txt.count
  rcases StrLaws.occ_head x y (x.length + 1) (by omega) with ⟨_, hn⟩ | ⟨j, r, e, _⟩
  · exact absurd ⟨h, hs⟩ (hn i)
  · rw [e]
    simp
    omega
theorem e_countP {p : Pos} (ha : E X a σ H (Tx u)) (hb : E X b σ H (Tx w)) (hs : starEach [b] X.env = [(false, eval b X.env)] := by rfl) (hbase : attributeBase a "count" X.env (eval a X.env) = eval a X.env := by rfl) (hline : (p.endLine == pos.line) = true := by rfl) :
    E X (.Call (.Attribute a "count" p) [b] [] pos) σ H (.int (Txt.count (sOf u) (sOf w))) := E.of (pe_m1 F.slot_str_count F.type_str_count mt_count pE pE hs hbase hline) fun H1 e1 Q q => ha H1 e1 _ fun H2 e2 => ⟨⟨_, rfl⟩, hb H2 (e1.trans e2) _ fun H3 e3 => ⟨_, _, rfl, rfl, q H3 (e2.trans e3)⟩⟩
theorem count_in {i : Nat} (hi : i + w.length ≤ u.length) (hsub : (u.drop i).take w.length = w) : Txt.count (sOf u) (sOf w) ≠ 0 := count_pos (i := i) (by rw [tx_len, tx_len]; exact hi) (by
    rw [StrLaws.subAt_eq, tx_len]
    simpa using hsub)
/-- sorted(numbers that rise) -/
theorem asc_int_uniq : ∀ {a b : List Int}, a.Pairwise (· ≤ ·) → b.Pairwise (· ≤ ·) → a.Perm b → a = b
  | [], b, _, _, h => (List.nil_perm.mp h).symm
  | x :: a, [], _, _, h => nomatch List.Perm.length_eq h
  | x :: a, y :: b, h1, h2, h => by
    obtain ⟨p1, p2⟩ := List.pairwise_cons.mp h1
    obtain ⟨q1, q2⟩ := List.pairwise_cons.mp h2
    have e : x = y := by
      have hx : x ∈ y :: b := h.mem_iff.mp List.mem_cons_self
      have hy : y ∈ x :: a := h.mem_iff.mpr List.mem_cons_self
      have h3 : x ≤ y := by
        rcases List.mem_cons.mp hy with e | hy
        · omega
        · exact p1 y hy
      have h4 : y ≤ x := by
        rcases List.mem_cons.mp hx with e | hx
        · omega
        · exact q1 x hx
      omega
    subst e
    rw [asc_int_uniq p2 q2 (List.Perm.cons_inv h)]
theorem l_sortedUp {p : Pos} {cs : List Nat} (he : ER X e σ H (isL X.K (cs.map Nm))) (hup : cs.Pairwise (· ≤ ·)) (hz : cs.length < 64) (hm : X.mg "sorted" = none) (hg : Gl X "sorted" := by rfl) (ns : NS X e := by exact fun _ => rfl) : EL X (.Call (.Name "sorted" p) [e] [] pos) σ H (cs.map Nm) :=
  EL.of (pe_callB cr_sorted hg hm (by decide +kernel) (pa_cons pE pa_nil (ns [])) (he := ns [])) (el_cb1 he fun v H1 _ hv Q q => let ⟨l, e, hs⟩ := hv; ⟨l, cs.map fun (n : Nat) => (n : Int), by rw [e], by rw [← nm_map]; exact hs, by rw [List.length_map]; exact hz, fun ns' p hp hs2 hn => by
    have e2 : ns' = cs.map fun (n : Nat) => (n : Int) := asc_int_uniq hs2 (List.pairwise_map.mpr (hup.imp fun {a b} h => by omega)) hp
    rw [e2, ← nm_map]
    exact q p _ hn (Ex.new hn) upd_same⟩)
/-- x not in (a, b), texts -/
theorem t_ninUT {ws : List (List Nat)} (ha : E X a σ H (Tx u)) (hb : EU X b σ H (ws.map Tx)) (hm : behindInMarks .NotIn b = false := by first | exact nobehind _ (by decide) (by decide) | rfl) : ET X (.Compare a [.NotIn] [b] pos) σ H (!decide (u ∈ ws)) :=
  t_cmpR op_notIn_seq (E.r ha) eqS (EvU.r hb) (fun v z H1 e1 h1 h2 => by
    obtain ⟨p, rfl, hs⟩ := h2
    rw [h1, ← inV_tx]
    exact rv_niT hs rfl (flat_txs ws)) hm
/-- a, b, c = x, y, z: by the exact heap -/
theorem b_tup3X {i j l : Nat} {n1 n2 n3 : Str} {px py pz pt pt2 : Pos} {kt k2} (ha : wE X a σ H fun x H1 => wE X b σ H1 fun y H2 => wE X c σ H2 fun z H3 => ∀ H4, Ex H3 H4 → wSs X rest D (((σ.set i (some x)).set j (some y)).set l (some z)) H4) (hc : X.calm = true) (hN : X.N.Nodup)
    (hi : X.N[i]? = some n1 := by rfl) (hj : X.N[j]? = some n2 := by rfl) (hl : X.N[l]? = some n3 := by rfl) (hx : Loc X.env.scope n1 := by first | exact Or.inl rfl | exact Or.inr rfl) (hy : Loc X.env.scope n2 := by first | exact Or.inl rfl | exact Or.inr rfl) (hz : Loc X.env.scope n3 := by first | exact Or.inl rfl | exact Or.inr rfl)
    (hf : X.fn n1 = true ∨ X.env.scope.names.lookup n1 = some .local := by first | exact .inl rfl | exact .inr rfl) (hf2 : X.fn n2 = true ∨ X.env.scope.names.lookup n2 = some .local := by first | exact .inl rfl | exact .inr rfl) (hf3 : X.fn n3 = true ∨ X.env.scope.names.lookup n3 = some .local := by first | exact .inl rfl | exact .inr rfl) (ns : NS X a := by exact fun _ => rfl) (ns2 : NS X b := by exact fun _ => rfl) (ns3 : NS X c := by exact fun _ => rfl)
    (hs : swapsWithSole [.Tuple [.Name n1 px, .Name n2 py, .Name n3 pz] kt pt] (.Tuple [a, b, c] k2 pt2) pos.line X.env = pure false := by rfl) (hw : swappedStores [.Tuple [.Name n1 px, .Name n2 py, .Name n3 pz] kt pt] (.Tuple [a, b, c] k2 pt2) X.env = pure none := by rfl) :
    wSs X (.Assign [.Tuple [.Name n1 px, .Name n2 py, .Name n3 pz] kt pt] (.Tuple [a, b, c] k2 pt2) pos :: rest) D σ H :=
  b_st (ps_asg (pe_tup (pa_cons pE (pa_cons pE (pa_cons pE pa_nil (ns3 [])) (ns2 [c])) (ns [b, c]))) (pg_tup hc (pgs_cons (pg_name hN hi hx hf) (pgs_cons (pg_name hN hj hy hf2) (pgs_cons (pg_name hN hl hz hf3) pgs_nil)))) hs hw) (fun pins s I => thn (ha pins s I) fun v s1 ⟨x, H1, I1, r1, q1⟩ => ⟨x, H1, I1, r1, fun pins2 s2 I2 => thn (q1 pins2 s2 I2) fun v2 s3 ⟨y, H2, I3, r3, q3⟩ => ⟨y, H2, I3, r3, fun pins4 s4 I4 => thn (q3 pins4 s4 I4) fun v4 s5 ⟨z, H3, I5, r5, q5⟩ => ⟨z, H3, I5, r5, sz_of (by simp), fun p hp => ⟨p, [x, y, z], rfl, st_of upd_same, rfl, x, [y, z], rfl, y, [z], rfl, z, [], rfl, rfl, q5 _ (Ex.new hp)⟩⟩⟩⟩)
/-! ### or, and, if: the last part by the exact heap -/
theorem x_or {Q : Bool → Hp → Prop} (ha : ET X a σ H false) (hb : ∀ H1, Ex H H1 → wW X (.BoolOp .Or (b :: es) pos) σ H1 Q) : wW X (.BoolOp .Or (a :: b :: es) pos) σ H Q := fun wh pins s I =>
  (pw_or pT pW).run wh pins s σ H Q I (ha H (Ex.refl H) _ fun H1 e1 => hb H1 e1)
theorem x_or1 {Q : Bool → Hp → Prop} (ha : wT X a σ H Q) : wW X (.BoolOp .Or [a] pos) σ H Q := fun wh pins s I => (pw_or1 pT).run wh pins s σ H Q I ha
theorem wT_w {Q : Bool → Hp → Prop} (h : wW X e σ H Q) : wT X e σ H Q := fun pins s I => pW.pt.run pins s σ H Q I h
/-- if, the test false, by the exact heap -/
theorem b_offX (h : wT X c σ H fun p H1 => p = false ∧ wSs X rest D σ H1) : wSs X (.If c body [] pos :: rest) D σ H :=
  b_st (ps_if pT pSs pSs) (fun pins s I => thn (h pins s I) fun q s1 ⟨H1, I1, e, k⟩ => ⟨H1, I1, by
    subst e
    exact fun pins2 s2 I2 => pss_nil.run pins2 s2 σ H1 _ I2 k⟩)
end
end Wx
namespace Wx
open PySem PySem.Spec PySem.W PyProof.Rows L2 Evl
section
variable {X : Cx} {e a b c tg : Expr} {es : List Expr} {rest body : List Stmt} {σ : L2.St} {H : Hp} {v x y z : V} {te : TE} {pos : Pos} {m n k : Nat} {xs vs : List V} {u w : List Nat} {D : Ends}
theorem wE_mono {Q Q' : VK} (h : wE X e σ H Q) (hq : ∀ v H1, Q v H1 → Q' v H1) : wE X e σ H Q' := fun pins s I => thn (h pins s I) fun v s1 ⟨x, H1, I1, r1, q1⟩ => ⟨x, H1, I1, r1, hq x H1 q1⟩
/-- len(a tuple), a by the exact heap -/
theorem x_lenT {p : Pos} {Q : VK} (ha : wE X e σ H fun v H1 => ∃ xs, isT X.K xs v H1 ∧ Q (Nm xs.length) H1) (hm : X.mg "len" = none) (hg : Gl X "len" := by rfl) (ns : NS X e := by exact fun _ => rfl) : wE X (.Call (.Name "len" p) [e] [] pos) σ H Q :=
  of_pe (pe_callB call_len_seq hg hm PySem.boot_len (pa_cons pE pa_nil (ns [])) (he := ns [])) (wE_mono ha fun v H1 ⟨xs, hv, q⟩ => by
    obtain ⟨p, rfl, hs⟩ := hv
    exact ⟨p, xs, rfl, .inr hs, q⟩)
theorem x_gtN {Q : Bool → Hp → Prop} (ha : wE X a σ H fun v H1 => ∃ m n : Nat, v = Nm m ∧ E X b σ H1 (Nm n) ∧ ∀ H2, Ex H1 H2 → Q (decide (n < m)) H2) (hm : behindInMarks .Gt b = false := by first | exact nobehind _ (by decide) (by decide) | rfl) : wT X (.Compare a [.Gt] [b] pos) σ H Q := fun pins s I =>
  (pt_cmpR (X := X) op_gt pE pE hm).run pins s σ H Q I (wE_mono ha fun v H1 ⟨m, n, ev, hE, q⟩ => hE H1 (Ex.refl H1) _ fun H2 e2 => ⟨(m : Int), (n : Int), ev, rfl, decide (n < m), by
    show V.bl (decide ((n : Int) < (m : Int))) = V.bl (decide (n < m))
    rw [in_dec (· < ·) (· < ·) (by simp)], q H2 e2⟩)
theorem x_eqN {Q : VK} (ha : wE X a σ H fun v H1 => ∃ m n : Nat, v = Nm m ∧ E X b σ H1 (Nm n) ∧ ∀ H2, Ex H1 H2 → Q (.bl (decide (m = n))) H2) (hm : behindInMarks .Eq b = false := by first | exact nobehind _ (by decide) (by decide) | rfl) : wE X (.Compare a [.Eq] [b] pos) σ H Q :=
  of_pe (pe_cmpR op_eq pE pE hm) (wE_mono ha fun v H1 ⟨m, n, ev, hE, q⟩ => hE H1 (Ex.refl H1) _ fun H2 e2 => by
    subst ev
    have := rv_eq (H := H2) (x := Nm m) (y := Nm n) rfl H2 (Ex.refl H2) Q fun H3 e3 => by
      rw [nm_dec]
      exact q H3 (e2.trans e3)
    exact this)
theorem x_and {Q : VK} (ha : wE X a σ H fun v H1 => v = .bl true ∧ wE X (.BoolOp .And (b :: es) pos) σ H1 Q) : wE X (.BoolOp .And (a :: b :: es) pos) σ H Q :=
  of_pe (pe_and pE pE) (wE_mono ha fun v H1 ⟨ev, q⟩ => by
    subst ev
    exact ⟨true, rfl, q⟩)
end
end Wx
namespace Wx
open PySem PySem.Spec PySem.W PyProof.Rows L2 Evl
/-- a lambda that captures nothing, called: its body by the readings of a def -/
theorem lam_call {P : Program} {w : World} {K : PySem.W.Frag} {mg : Str → Option Value} {base : Heap} {A : Around} {outer : List Env} {s : Shared} {H : Hp} {f c' : Addr} {nm q : Str} {params : Arguments} {body : Expr} {scope : Scope} {pm ctv : Value} {N ps : List Str} {us : List Value} {vs : List V} {k : Nat} {Q : VK}
    (S : FnScope N ps scope) (hr : Room (k + 1) A) (e0 : Env0 P w K mg base A outer s H) (hf : s.heap.get? f = some (PySem.W.kla_obj nm q params body scope [] pm c' ctv)) (hco : H c' = some (LamX.CodeO c' q))
    (hb : BindsTo s (PySem.W.kla_fn nm q params body scope [] pm (.ref c') ctv) ⟨us, []⟩ (ps.zip us)) (r : Vals vs us) (hl : vs.length = ps.length)
    (hbody : Room k (A.deeper (envOfC q scope s.heap.objs.size f (.ref c'))) → wE (cxOf CX0 P w K mg base N q scope f (.ref c') A outer s H E0).nox body (start N vs) H Q) :
    codeAny (model P w) A (.call (.ref f) ⟨us, []⟩) (CR CX0 outer P w H s Q E0) s := by
  have KX : K.In s.heap := e0.mod.kin.keeps fun b o e => (e0.bs b o e).1
  have lim : s.heap.NoLimit := e0.mod.nolimit.keeps fun b o e => (e0.bs b o e).1
  have hkind : ∀ y ∈ ps.zip us, scope.names.lookup y.1 = some .local ∨ (scope.names.lookup y.1 = some .cell ∧ ((cellsFrom (s.heap.objs.size + 1) scope.names []).lookup y.1).isSome = true) := fun ⟨n, v⟩ hy => by
    rcases S.par n (List.of_mem_zip hy).1 with q | q
    · exact .inl q
    · exact .inr ⟨q, PySem.W.cellsFrom_some _ _ _ (.inl q)⟩
  obtain ⟨oc, vs2, t, hoc, hdc, hvc⟩ := (e0.hok c' _ hco).1
  refine PySem.W.kla_callFunE hr.depth hf rfl S.co S.gen rfl ⟨c', oc, vs2, t, rfl, hoc, hdc, hvc⟩ (hb _ _ _ _ ?_)
  refine wpAny_newFunctionEnv_cells S.kind hkind fun env he s1 x => ?_
  subst he
  refine ⟨lim.keeps x.toInCall.keep, ?_⟩
  have I : Inv (cxOf CX0 P w K mg base N q scope f (.ref c') A outer s H E0) [] (start N vs) H s1 := inv_start S hr.hd e0 hl r x
  refine PySem.W.kla_codeExpr (wpAny_mono ((PE.nox (X := cxOf CX0 P w K mg base N q scope f (.ref c') A outer s H E0) (e := body) pE).run [] s1 (start N vs) H Q I (hbody (hr.deeper _))) (fun v s' hq => ?_) fun e s' hq => hq)
  obtain ⟨w', H', J, rv, q⟩ := hq
  exact ⟨w', H', J.os, J.bare, J.base, J.hok, rv, q⟩
end Wx
namespace Wx
open PySem PySem.Spec PySem.W PyProof.Rows L2 Evl
theorem vals_refs : ∀ {ps : List Addr} {us : List Value}, Vals (ps.map V.ref) us → us = ps.map Value.ref
  | [], _, .nil => rfl
  | p :: ps, _, .cons r t => by
    rw [List.map_cons, vals_refs t]
    cases r
    rfl
/-- the key of a row: its length and itself -/
def keyV (n : Nat) (p : Addr) : List V := [Nm n, .ref p]
section
variable {X : Cx} {pins : List (Addr × Obj)} {σ : L2.St} {H : Hp} {k : Nat} {f c' : Addr} {nm q : Str} {params : Arguments} {body : Expr} {scope : Scope} {pm ctv : Value} {N ps : List Str}
/-- what stands at a turn of min's loop -/
structure MinSt (X : Cx) (pins : List (Addr × Obj)) (σ : L2.St) (H : Hp) (f : Addr) (fo : Obj) (S I l : Addr) (rs : List Addr) (i : Nat) (H' : Hp) (s : Shared) : Prop where
  inv : Inv X pins σ H' s
  ex : Ex H H'
  fS : FpOk X pins H' S
  fI : FpOk X pins H' I
  fn : H' f = none ∧ f ∉ frs X.stack ∧ f ≠ S ∧ f ≠ I
  fo : s.heap.get? f = some fo
  it : s.heap.IsListIter I l i
  ls : s.heap.IsList l (rs.map Value.ref).toArray
  SI : S ≠ I
/-- over a change at S and I alone -/
theorem MinSt.moved {fo : Obj} {S I l : Addr} {rs : List Addr} {i i' : Nat} {H' : Hp} {s s' : Shared} (M : MinSt X pins σ H f fo S I l rs i H' s) (m : Moved [S, I] (fun a b => b = a) s s') (hit : s'.heap.IsListIter I l i') (hl : l ≠ S ∧ l ≠ I) : MinSt X pins σ H f fo S I l rs i' H' s' := by
  have e : s' = { s with heap := s'.heap, toks := s'.toks } := by
    obtain ⟨hp, g, d, tk, os⟩ := s'
    have h1 : g = s.gens := m.gens
    have h2 : d = s.drawn := m.drawn
    have h3 : os = s.os := m.os
    subst h1 h2 h3
    rfl
  refine ⟨?_, M.ex, M.fS, M.fI, M.fn, ?_, hit, ?_, M.SI⟩
  · rw [e]
    exact M.inv.turnedL (ch := [S, I]) (fun b o hb => m.heap b o hb) (fun b hb => by
      simp only [List.mem_cons, List.not_mem_nil, or_false] at hb
      rcases hb with rfl | rfl
      · exact M.fS
      · exact M.fI)
  · exact m.heap f _ (by simp; exact ⟨M.fn.2.2.1, M.fn.2.2.2⟩) M.fo
  · obtain ⟨o, ho, r⟩ := M.ls
    exact ⟨o, m.heap l o (by simp; exact hl) ho, r⟩
/-- the invariant alone, over a change at S and I -/
theorem MinSt.minv {fo : Obj} {S I l : Addr} {rs : List Addr} {i : Nat} {H' : Hp} {s s' : Shared} (M : MinSt X pins σ H f fo S I l rs i H' s) (m : Moved [S, I] (fun a b => b = a) s s') : Inv X pins σ H' s' := by
  have e : s' = { s with heap := s'.heap, toks := s'.toks } := by
    obtain ⟨hp, g, d, tk, os⟩ := s'
    have h1 : g = s.gens := m.gens
    have h2 : d = s.drawn := m.drawn
    have h3 : os = s.os := m.os
    subst h1 h2 h3
    rfl
  rw [e]
  exact M.inv.turnedL (ch := [S, I]) (fun b o hb => m.heap b o hb) (fun b hb => by
    simp only [List.mem_cons, List.not_mem_nil, or_false] at hb
    rcases hb with rfl | rfl
    · exact M.fS
    · exact M.fI)
/-- what the lambda makes of a row -/
def LamKey (X : Cx) (N : List Str) (q : Str) (scope : Scope) (f c' : Addr) (body : Expr) (k : Nat) : Prop := ∀ (A : Around) (outer : List Env) (s : Shared) (H1 : Hp) (p : Addr) (xs : List V), SqT X.K H1 p xs → Room k (A.deeper (envOfC q scope s.heap.objs.size f (.ref c'))) →
  wE (cxOf CX0 X.prog X.w X.K X.mg X.base N q scope f (.ref c') A outer s H1 E0).nox body (start N [.ref p]) H1 fun v H2 => ∃ a, v = .ref a ∧ H1 a = none ∧ Ex H1 H2 ∧ H2 a = some (.tup [Nm xs.length, .ref p])
/-- the key's call -/
theorem MinSt.turn {S I l : Addr} {rs : List Addr} {i : Nat} {H' : Hp} {s : Shared} {p : Addr} {xs : List V} {Q : Value → Shared → Prop} {E : Value → Shared → Prop} {oS : Obj}
    (M : MinSt X pins σ H f (PySem.W.kla_obj nm q params body scope [] pm c' ctv) S I l rs i H' s) (hl : H l = some (.lst (rs.map V.ref))) (hco : H c' = some (LamX.CodeO c' q)) (Sc : FnScope N ps scope) (hps : ps.length = 1) (hr : Room (k + 2) X.A) (hb : ∀ u : Value, BindsTo s (PySem.W.kla_fn nm q params body scope [] pm (.ref c') ctv) ⟨[u], []⟩ (ps.zip [u]))
    (hlam : LamKey X N q scope f c' body k) (hT : SqT X.K H' p xs) (hS : s.heap.get? S = some oS)
    (hq : ∀ a H'' s'', MinSt X pins σ H f (PySem.W.kla_obj nm q params body scope [] pm c' ctv) S I l rs i H'' s'' → Ex H' H'' → H' a = none → H'' a = some (.tup [Nm xs.length, .ref p]) → s''.heap.get? S = some oS → Q (.ref a) s'') :
    wpAny (model X.prog X.w) X.A.in1 (call (.ref f) [.ref p]) Q E s := by
  have rc := lam_call (Q := fun v H2 => ∃ a, v = .ref a ∧ H' a = none ∧ Ex H' H2 ∧ H2 a = some (.tup [Nm xs.length, .ref p])) Sc hr.in1 M.inv.env0.in1 M.fo (M.ex _ _ hco) (hb (.ref p)) (vs := [.ref p]) (.cons rfl .nil) (by rw [hps]; rfl) fun hr2 => hlam _ _ _ _ p xs hT hr2
  refine wpAny_call (codeAny_mono rc fun r s'' h => ?_)
  cases r with
  | error e => exact (show False from h).elim
  | ok fl =>
    cases fl with
    | next => exact False.elim h
    | brk => exact False.elim h
    | cont => exact False.elim h
    | ret u =>
      obtain ⟨v, H'', os, bare, un, hok, rv, a, rfl, hn, e2, ha⟩ := h
      obtain rfl : u = Value.ref a := rv
      have I2 : Inv X pins σ H'' s'' := M.inv.call' os un hok bare fun b z => absurd z (by simp)
      have nfr : ∀ {b : Addr}, FpOk X pins H' b → b ∉ frs X.stack := fun {b} hf z => by
        rcases List.mem_cons.mp (M.inv.stkSub b z) with e | e
        · exact hf.2.1 e
        · exact hf.2.2.1 e
      obtain ⟨oI, hI, rI⟩ := M.it
      obtain ⟨its, rv2, pl, _⟩ := I2.list (sq_of (e2 _ _ (M.ex _ _ hl)))
      have hits := vals_refs rv2
      refine hq a H'' s'' ⟨I2, M.ex.trans e2, ⟨un.free S oS hS M.fS.1 (by simp), M.fS.2⟩, ⟨un.free I oI hI M.fI.1 (by simp), M.fI.2⟩, ⟨un.free f _ M.fo M.fn.1 (by simp), M.fn.2⟩, un.keep f _ M.fo M.fn.1 M.fn.2.1 (by simp), ⟨oI, un.keep I oI hI M.fI.1 (nfr M.fI) (by simp), rI⟩, ?_, M.SI⟩ e2 hn ha (un.keep S oS hS M.fS.1 (nfr M.fS) (by simp))
      rw [← hits]
      exact pl.isList
end
end Wx
namespace Wx
open PySem PySem.Spec PySem.W PyProof.Rows L2 Evl
theorem pair_lt {m n : Int} {x y : Tup Str} : (DatumOrd.lt (m, x) (n, y) = true → m ≤ n) ∧ (DatumOrd.lt (m, x) (n, y) = false → n ≤ m) := by
  have e : DatumOrd.lt (m, x) (n, y) = (if m = n then DatumOrd.lt x y else decide (m < n)) := rfl
  rw [e]
  by_cases h : m = n
  · subst h
    exact ⟨fun _ => Int.le_refl _, fun _ => Int.le_refl _⟩
  · rw [if_neg h]
    constructor
    · intro h2
      have := of_decide_eq_true h2
      omega
    · intro h2
      have := of_decide_eq_false h2
      omega
section
variable {X : Cx} {pins : List (Addr × Obj)} {σ : L2.St} {H : Hp} {k : Nat} {f c' : Addr} {nm q : Str} {params : Arguments} {body : Expr} {scope : Scope} {pm ctv : Value} {N ps : List Str}
theorem key_holds {H' : Hp} {s : Shared} {a p : Addr} {ws : List (List Nat)} (I : Inv X pins σ H' s) (ha : H' a = some (.tup [Nm ws.length, .ref p])) (hT : SqT X.K H' p (ws.map Tx)) : Holds s.heap (.ref a) (((ws.length : Nat) : Int), Tup.mk (ws.map sOf)) :=
  Dp.reads I _ _ _ (Dp.tup (st_of ha) (.cons (.int _) (.cons (.tup hT (dp_txs ws)) .nil))) rfl
theorem min_loop {S I l : Addr} {rs : List Addr} {fs : Nat → List (List Nat)} {R : Result → Shared → Prop} (kw : List (Str × Value))
    (W : WalksS X.prog X.w X.A.in1 I [I, l] [I] (fun a b => b = a) (rs.map Value.ref).toArray.size (fun i v => (rs.map Value.ref).toArray[i]? = some v) (fun i s' => s'.heap.IsListIter I l i ∧ s'.heap.IsList l (rs.map Value.ref).toArray))
    (hl : H l = some (.lst (rs.map V.ref))) (hco : H c' = some (LamX.CodeO c' q)) (Sc : FnScope N ps scope) (hps : ps.length = 1) (hr : Room (k + 2) X.A) (hbs : ∀ s (u : Value), BindsTo s (PySem.W.kla_fn nm q params body scope [] pm (.ref c') ctv) ⟨[u], []⟩ (ps.zip [u]))
    (hlam : LamKey X N q scope f c' body k) (hrow : ∀ (i : Nat) p, rs[i]? = some p → SqT X.K H p ((fs i).map Tx)) (hlS : l ≠ S ∧ l ≠ I)
    (hR : ∀ (b : Nat) pb H' s', rs[b]? = some pb → (∀ i, i < rs.length → (fs b).length ≤ (fs i).length) → Inv X pins σ H' s' → Ex H H' → R (.ok (.ret (.ref pb))) s') :
    ∀ (m j : Nat) (s : Shared) (b : Nat) (pb a : Addr) (H' : Hp) (cc : Nat), rs.length - (j + 1) = m → j + 1 ≤ rs.length → MinSt X pins σ H f (PySem.W.kla_obj nm q params body scope [] pm c' ctv) S I l rs (j + 1) H' s → rs[b]? = some pb → H' a = some (.tup [Nm (fs b).length, .ref pb]) → (∀ i, i ≤ j → (fs b).length ≤ (fs i).length) →
      s.heap.get? S = some { cls := .type "list", dict := none, data := .seq #[.ref pb, .ref a] cc, slots := #[] } → codeAny (model X.prog X.w) X.A (.builtin "min.loop" ⟨[.ref I, .ref f, .ref S], kw⟩) R s := by
  have hname : (toString "min" ++ toString ".loop" : String) = "min.loop" := by decide
  have hsz : (rs.map Value.ref).toArray.size = rs.length := by simp
  intro m
  induction m with
  | zero =>
    intro j s b pb a H' cc hm hj M hbp ha hbest hS
    have hin : j + 1 = rs.length := by omega
    refine codeAny_builtin F.entry_min_loop ?_
    rw [Around.under_plainId F.plain_min_loop _]
    show wpAny _ X.A.in1 (seqItems? (.ref S) >>= _) _ _ s
    refine wpAny_bind (wpAny_seqItems hS rfl ?_)
    show wpAny _ X.A.in1 (tryCatch (pyNext (.ref I)) _ >>= _) _ _ s
    refine wpAny_bind (wpAny_tryCatch (W.done s _ _ (by rw [hsz, ← hin]; exact ⟨M.it, M.ls⟩) fun s' hmv => ?_))
    have hS' := hmv.heap S _ (by simp; exact M.SI) hS
    have hm2 : Moved [S, I] (fun a b => b = a) s s' := hmv.mono (by simp)
    show wpAny _ X.A.in1 (updateSeq S (fun _ => #[]) >>= _) _ _ _
    refine wpAny_bind ?_
    refine wpAny_updateSeq hS' rfl (wpAny_bind (wpAny_letGo (wpAny_pure ?_)))
    exact hR b pb H' _ hbp (fun i hi => hbest i (by omega)) (M.minv (hm2.then_heap (tk := s'.toks) (Nat.le_refl _) fun b o hb e => (Heap.get?_update_other _ _ (by simp at hb; exact Ne.symm hb.1)).trans e)) M.ex
  | succ m ih =>
    intro j s b pb a H' cc hm hj M hbp ha hbest hS
    have hlt : j + 1 < rs.length := by omega
    refine codeAny_builtin F.entry_min_loop ?_
    rw [Around.under_plainId F.plain_min_loop _]
    show wpAny _ X.A.in1 (seqItems? (.ref S) >>= _) _ _ s
    refine wpAny_bind (wpAny_seqItems hS rfl ?_)
    show wpAny _ X.A.in1 (tryCatch (pyNext (.ref I)) _ >>= _) _ _ s
    refine wpAny_bind (wpAny_tryCatch (W.item (j + 1) s _ _ (by rw [hsz]; exact hlt) ⟨M.it, M.ls⟩ fun v s' hP hst' hmv => ?_))
    have hm2 : Moved [S, I] (fun a b => b = a) s s' := hmv.mono (by simp)
    have M1 := M.moved hm2 hst'.1 hlS
    have hS' := hmv.heap S _ (by simp; exact M.SI) hS
    obtain ⟨p, hp, rfl⟩ : ∃ p, rs[j + 1]? = some p ∧ v = .ref p := by
      have hP : (rs.map Value.ref).toArray[j + 1]? = some v := hP
      rw [List.getElem?_toArray, List.getElem?_map] at hP
      cases hq : rs[j + 1]? with
      | none =>
        rw [hq] at hP
        cases hP
      | some p =>
        rw [hq] at hP
        exact ⟨p, rfl, (Option.some.inj hP).symm⟩
    have hTb := ex_t M1.ex (hrow b pb hbp)
    have hTp := ex_t M1.ex (hrow (j + 1) p hp)
    show wpAny _ X.A.in1 (tryCatch (holding [.ref p] (call (.ref f) [.ref p])) _ >>= _) _ _ _
    refine wpAny_bind (wpAny_tryCatch (wpAny_holding (M1.turn hl hco Sc hps hr (fun u => hbs _ u) hlam hTp hS' fun a2 H2 s2 M2 e2 hn2 ha2 hS2 => ?_)))
    rw [List.length_map] at ha2
    show wpAny _ X.A.in1 (tryCatch (holding [.ref p, .ref a2] (richCompare .Lt (.ref a2) (.ref a) >>= _)) _ >>= _) _ _ _
    have hx := key_holds M2.inv ha2 (ex_t e2 hTp)
    have hy := key_holds M2.inv (e2 _ _ ha) (ex_t e2 hTb)
    have hu : X.A.in1.units + Datum.depth (Int × Tup Str) < cLine := by
      have := hr.in1.un
      show X.A.in1.units + 2 < cLine
      omega
    refine wpAny_bind (wpAny_tryCatch (wpAny_holding (wpAny_bind (show wpAny _ X.A.in1 (richCompare .Lt (.ref a2) (.ref a)) _ _ s2 from lt_datum hx hy hu ?_))))
    refine wpAny_bind (wpAny_holding (wpAny_truthy_bool ?_))
    refine wpAny_bind (wpAny_letGo (wpAny_pure ?_))
    cases hb : DatumOrd.lt ((((fs (j + 1)).length : Nat) : Int), Tup.mk ((fs (j + 1)).map sOf)) ((((fs b).length : Nat) : Int), Tup.mk ((fs b).map sOf)) with
    | true =>
      have hle := pair_lt.1 hb
      simp only [if_true]
      refine wpAny_bind ?_
      refine wpAny_updateSeq hS2 rfl (wpAny_bind (wpAny_letGo ?_))
      rw [hname]
      have hm3 : Moved [S, I] (fun a b => b = a) s2 { s2 with heap := s2.heap.update S (Obj.mapSeq fun _ => #[.ref p, .ref a2]), toks := s2.toks } := (Moved.refl (wr := [S, I]) (G := fun a b => b = a) fun _ => rfl).then_heap (tk := s2.toks) (Nat.le_refl _) fun b o hb e => (Heap.get?_update_other _ _ (by simp at hb; exact Ne.symm hb.1)).trans e
      obtain ⟨oI, hI, rI⟩ := M2.it
      refine wpAny_pure ⟨plainId_quiet F.plain_min_loop _, ih (j + 1) _ (j + 1) p a2 H2 _ (by omega) hlt (M2.moved hm3 ⟨oI, (Heap.get?_update_other _ _ M2.SI).trans hI, rI⟩ hlS) hp ha2 (fun i hi => ?_) (Heap.get?_update_self _ hS2 rfl)⟩
      rcases Nat.lt_or_ge i (j + 1) with h | h
      · have := hbest i (by omega)
        omega
      · have : i = j + 1 := by omega
        subst this
        exact Nat.le_refl _
    | false =>
      have hle := pair_lt.2 hb
      simp only [Bool.false_eq_true, if_false]
      refine wpAny_bind (wpAny_letGo ?_)
      rw [hname]
      refine wpAny_pure ⟨plainId_quiet F.plain_min_loop _, ih (j + 1) _ b pb a H2 cc (by omega) hlt M2 hbp (e2 _ _ ha) (fun i hi => ?_) hS2⟩
      rcases Nat.lt_or_ge i (j + 1) with h | h
      · exact hbest i (by omega)
      · have : i = j + 1 := by omega
        subst this
        omega
end
end Wx
namespace Wx
open PySem PySem.Spec PySem.W PyProof.Rows L2 Evl
section
variable {X : Cx} {pins : List (Addr × Obj)} {σ : L2.St} {H : Hp} {k : Nat} {f c' : Addr} {nm q : Str} {params : Arguments} {body : Expr} {scope : Scope} {pm ctv : Value} {N ps : List Str}
/-- min(a list of tuples, key=a lambda that gives (len(row), row)) -/
theorem min_lam {s : Shared} {l : Addr} {rs : List Addr} {fs : Nat → List (List Nat)} {Q : VK} (I0 : Inv X pins σ H s) (hc : X.calm = true) (hl : H l = some (.lst (rs.map V.ref))) (hne : 0 < rs.length) (hco : H c' = some (LamX.CodeO c' q)) (Sc : FnScope N ps scope) (hps : ps.length = 1) (hr : Room (k + 2) X.A)
    (hbs : ∀ s (u : Value), BindsTo s (PySem.W.kla_fn nm q params body scope [] pm (.ref c') ctv) ⟨[u], []⟩ (ps.zip [u])) (hlam : LamKey X N q scope f c' body k) (hrow : ∀ (i : Nat) p, rs[i]? = some p → SqT X.K H p ((fs i).map Tx))
    (hf : s.heap.get? f = some (PySem.W.kla_obj nm q params body scope [] pm c' ctv)) (hfn : H f = none) (hfr : f ∉ frs X.stack)
    (hR : ∀ (b : Nat) pb H', rs[b]? = some pb → (∀ i, i < rs.length → (fs b).length ≤ (fs i).length) → Ex H H' → Q (.ref pb) H') :
    wpAny (model X.prog X.w) X.A (call (.builtin "min") [.ref l] [(Str.ofString "key", .ref f)]) (EP X pins σ Q) X.xe s := by
  have hname : (toString "min" ++ toString ".loop" : String) = "min.loop" := by decide
  have hsz : (rs.map Value.ref).toArray.size = rs.length := by simp
  obtain ⟨its, rv, hpl, _⟩ := I0.list (sq_of hl)
  have hits := vals_refs rv
  subst hits
  have hls : s.heap.IsList l (rs.map Value.ref).toArray := hpl.isList
  have hlt : l < s.heap.objs.size := by obtain ⟨_, e, _⟩ := hls; exact Heap.lt_size e
  have hflt : f < s.heap.objs.size := Heap.lt_size hf
  refine PyProof.Rows.kmk_tree F.kind_min F.plain_min F.entry_min (PyProof.Rows.kmk_min_key _ _) ?_
  show wpAny _ X.A.in1 (Builtin.Builtins.bindParams "min" ["key", "default"] 0 ⟨[], [(Str.ofString "key", .ref f)]⟩ >>= _) _ _ s
  refine wpAny_bind (wpAny_of_eq (show Builtin.Builtins.bindParams "min" ["key", "default"] 0 ⟨[], [(Str.ofString "key", .ref f)]⟩ = pure [some (.ref f), none] from rfl) ?_)
  refine wpAny_bind (wpAny_pure ?_)
  refine wpAny_bind (iter_listW (A := X.A.in1) (I0.ok.hd hc) hls fun s₂ e W st hfp hw hk => ?_)
  refine wpAny_bind (wpAny_newObj_type ?_)
  rw [hname]
  have h2 : s₂.heap.objs.size = s.heap.objs.size + 1 := by subst e; exact Heap.size_push ..
  refine wpAny_pure ⟨plainId_quiet F.plain_min_loop _, ?_⟩
  have M0 : MinSt X pins σ H f (PySem.W.kla_obj nm q params body scope [] pm c' ctv) s₂.heap.objs.size s.heap.objs.size l rs 0 H { s₂ with heap := s₂.heap.push { cls := .type "list", data := .seq #[] 0 } } := by
    refine ⟨?_, Ex.refl H, I0.fpOk (by omega) (I0.hok.fresh (by omega)), I0.fpOk (Nat.le_refl _) (I0.hok.fresh (Nat.le_refl _)), ⟨hfn, hfr, Nat.ne_of_lt (by rw [h2]; exact Nat.lt_succ_of_lt hflt), Nat.ne_of_lt hflt⟩, Heap.get?_push_of_some _ (hk _ _ hf), ?_, ?_, by rw [h2]; exact Nat.succ_ne_self _⟩
    · subst e
      exact I0.kept (t' := s.toks) fun b o e => Heap.get?_push_of_some _ (Heap.get?_push_of_some _ e)
    · obtain ⟨oI, hI, rI⟩ := st.1
      exact ⟨oI, Heap.get?_push_of_some _ hI, rI⟩
    · obtain ⟨o, ho, r⟩ := st.2
      exact ⟨o, Heap.get?_push_of_some _ ho, r⟩
  have hlS : l ≠ s₂.heap.objs.size ∧ l ≠ s.heap.objs.size := ⟨Nat.ne_of_lt (by rw [h2]; exact Nat.lt_succ_of_lt hlt), Nat.ne_of_lt hlt⟩
  have hS0 : ({ s₂ with heap := s₂.heap.push { cls := .type "list", data := .seq #[] 0 } } : Shared).heap.get? s₂.heap.objs.size = some { cls := .type "list", dict := none, data := .seq #[] 0, slots := #[] } := Heap.get?_push_size _ rfl
  generalize ({ s₂ with heap := s₂.heap.push { cls := .type "list", data := .seq #[] 0 } } : Shared) = s3 at M0 hS0 ⊢
  generalize s₂.heap.objs.size = S at M0 hS0 hlS ⊢
  generalize s.heap.objs.size = I at M0 hlS W ⊢
  refine codeAny_builtin F.entry_min_loop ?_
  rw [Around.under_plainId F.plain_min_loop _]
  show wpAny _ X.A.in1 (seqItems? (.ref S) >>= _) _ _ s3
  refine wpAny_bind (wpAny_seqItems hS0 rfl ?_)
  show wpAny _ X.A.in1 (tryCatch (pyNext (.ref I)) _ >>= _) _ _ s3
  refine wpAny_bind (wpAny_tryCatch (W.item 0 s3 _ _ (by rw [hsz]; exact hne) ⟨M0.it, M0.ls⟩ fun v s' hP hst' hmv => ?_))
  have M1 := M0.moved (hmv.mono (by simp)) hst'.1 hlS
  have hS' := hmv.heap S _ (by simp; exact M0.SI) hS0
  obtain ⟨p, hp, rfl⟩ : ∃ p, rs[0]? = some p ∧ v = .ref p := by
    have hP : (rs.map Value.ref).toArray[0]? = some v := hP
    rw [List.getElem?_toArray, List.getElem?_map] at hP
    cases hq : rs[0]? with
    | none =>
      rw [hq] at hP
      cases hP
    | some p =>
      rw [hq] at hP
      exact ⟨p, rfl, (Option.some.inj hP).symm⟩
  show wpAny _ X.A.in1 (tryCatch (holding [.ref p] (call (.ref f) [.ref p])) _ >>= _) _ _ _
  refine wpAny_bind (wpAny_tryCatch (wpAny_holding (M1.turn hl hco Sc hps hr (fun u => hbs _ u) hlam (ex_t M1.ex (hrow 0 p hp)) hS' fun a2 H2 s2 M2 e2 hn2 ha2 hS2 => ?_)))
  rw [List.length_map] at ha2
  show wpAny _ X.A.in1 (updateSeq S (fun _ => #[.ref p, .ref a2]) >>= _) _ _ _
  refine wpAny_bind ?_
  refine wpAny_updateSeq hS2 rfl ?_
  rw [hname]
  have hm3 : Moved [S, I] (fun a b => b = a) s2 { s2 with heap := s2.heap.update S (Obj.mapSeq fun _ => #[.ref p, .ref a2]), toks := s2.toks } := (Moved.refl (wr := [S, I]) (G := fun a b => b = a) fun _ => rfl).then_heap (tk := s2.toks) (Nat.le_refl _) fun b o hb e => (Heap.get?_update_other _ _ (by simp at hb; exact Ne.symm hb.1)).trans e
  obtain ⟨oI, hI, rI⟩ := M2.it
  refine wpAny_pure ⟨plainId_quiet F.plain_min_loop _, min_loop [] W hl hco Sc hps hr hbs hlam hrow hlS (fun b pb H' s' h1 h3 I' e' => ?_) _ 0 _ 0 p a2 H2 _ rfl hne (M2.moved hm3 ⟨oI, (Heap.get?_update_other _ _ M2.SI).trans hI, rI⟩ hlS) hp ha2 (fun i hi => by
    have : i = 0 := by omega
    subst this
    exact Nat.le_refl _) (Heap.get?_update_self _ hS2 rfl)⟩
  exact ⟨.ref pb, H', I', rfl, hR b pb H' h1 h3 e'⟩
end
end Wx
namespace Wx
open PySem PySem.Spec PySem.W PyProof.Rows L2 Evl
section
variable {X : Cx} {e : Expr} {te : TE} {pos : Pos} {params : Arguments} {body : Expr} {scope : Scope}
def tMinLam (T : List (Addr × Str)) (te : TE) : TE := fun σ H Q => te σ H fun v H1 => ∃ (l : Addr) (rs : List Addr) (fs : Nat → List (List Nat)), v = .ref l ∧ H1 l = some (.lst (rs.map V.ref)) ∧ 0 < rs.length ∧ (∀ (i : Nat) p, rs[i]? = some p → H1 p = some (.tup ((fs i).map Tx))) ∧ LamX.Tabs T H1 ∧
  ∀ (b : Nat) pb H2, rs[b]? = some pb → (∀ i, i < rs.length → (fs b).length ≤ (fs i).length) → LamX.ExtN H1 H2 → LamX.Tabs T H2 → Q (.ref pb) H2
theorem pe_minLam {T : List (Addr × Str)} {c P : Addr} {p kp lpos : Pos} {k : Nat} {N ps : List Str} (hc : X.calm = true) (he : PE X e te) (hm : X.mg "min" = none) (TB : LamX.TabB X.base X.mg c P) (hcode : X.env.code = .ref c) (hT : (P, X.env.qual ++ "<lambda>") ∈ T) (hu : ∀ p ∈ T, p.1 = P → p.2 = X.env.qual ++ "<lambda>") (hdef : defaultsOf params X.env = ([], []))
    (hfree : ∀ y ∈ scope.names, y.2 ≠ .free) (hclo : cloFrom X.env.cells scope.names [] = []) (Sc : FnScope N ps scope) (hps : ps.length = 1) (hr : Room (k + 2) X.A) (hbs : ∀ (pm cv ctv : Value) s (u : Value), BindsTo s (PySem.W.kla_fn "<lambda>" (X.env.qual ++ "<lambda>") params body scope [] pm cv ctv) ⟨[u], []⟩ (ps.zip [u]))
    (hlam : ∀ f c', LamKey X N (X.env.qual ++ "<lambda>") scope f c' body k) (hg : Gl X "min" := by rfl) (ns : NS X e := by exact fun _ => rfl) (hb : backTo pos (starEach [e] X.env) = (false, eval e X.env) :: backTo pos (starEach [] X.env) := by rfl) (hpl : (backTo pos (starEach [e] X.env)).any (·.1) = false := by rfl) :
    PE X (.Call (.Name "min" p) [e] [⟨some "key", .Lambda params body scope lpos, kp⟩] pos) (tMinLam T te) := by
  refine ⟨fun pins s σ H Q I h => ?_⟩
  refine wpAny_Call_Name_kw (ld_blt I hg hm (show bootBuiltins "min" = some (.builtin "min") by decide +kernel) ?_ (by decide) (by decide))
  refine PyProof.Rows.callWith_kw (thn ((pa_cons he pa_nil (ns [])).run pos pins s σ H (fun vs H1 => match vs with | [v] => ∃ (l : Addr) (rs : List Addr) (fs : Nat → List (List Nat)), v = .ref l ∧ H1 l = some (.lst (rs.map V.ref)) ∧ 0 < rs.length ∧ (∀ (i : Nat) p, rs[i]? = some p → H1 p = some (.tup ((fs i).map Tx))) ∧ LamX.Tabs T H1 ∧ (∀ (b : Nat) pb H2, rs[b]? = some pb → (∀ i, i < rs.length → (fs b).length ≤ (fs i).length) → LamX.ExtN H1 H2 → LamX.Tabs T H2 → Q (.ref pb) H2) | _ => False) I h) fun us s1 ⟨vs, H1, I1, r1, q1⟩ => ?_) hb hpl (by rfl) (by rfl)
  show wpAny _ _ (evalAll ((do let v ← eval (.Lambda params body scope lpos) X.env; standAt pos; pure v) :: [])) _ _ s1
  obtain ⟨v0, rfl, l, rs, fs, rfl, hl, hne, hrow, hT1, q⟩ : ∃ v0, vs = [v0] ∧ ∃ (l : Addr) (rs : List Addr) (fs : Nat → List (List Nat)), v0 = .ref l ∧ H1 l = some (.lst (rs.map V.ref)) ∧ 0 < rs.length ∧ (∀ (i : Nat) p, rs[i]? = some p → H1 p = some (.tup ((fs i).map Tx))) ∧ LamX.Tabs T H1 ∧ (∀ (b : Nat) pb H2, rs[b]? = some pb → (∀ i, i < rs.length → (fs b).length ≤ (fs i).length) → LamX.ExtN H1 H2 → LamX.Tabs T H2 → Q (.ref pb) H2) := by
    match vs, q1 with
    | [v0], q1 => exact ⟨v0, rfl, q1⟩
  rw [Vals.ref1 r1]
  refine wpAny_evalAll_cons (wpAny_bind (LamX.lam_make2 I1 TB hcode hT hu hT1 hdef (fun y hy e => absurd e (hfree y hy)) fun f c' pm ctv H2 s' I2 eN T2 hf hfn hfr hco => wpAny_bind (wpAny_standAt (wpAny_pure (wpAny_evalAll_nil ?_)))))
  rw [hclo] at hf
  exact min_lam I2 hc (eN _ _ hl (by simp)) hne hco Sc hps hr (hbs _ _ _) (hlam f c') (fun i p hp => st_of (eN _ _ (hrow i p hp) (by simp))) hf hfn hfr fun b pb H3 h1 h2 e3 => q b pb H3 h1 h2 (eN.trans (LamX.ExtN.of e3)) (T2.ext e3)
end
end Wx
namespace Wx
open PySem PySem.Spec PySem.W PyProof.Rows L2 Evl
/-- the refs rs are tuples, their items xss -/
structure RowsAt (H : Hp) (rs : List Addr) (xss : List (List V)) : Prop where
  len : rs.length = xss.length
  row : ∀ (i : Nat) r, rs[i]? = some r → ∃ xs, xss[i]? = some xs ∧ H r = some (.tup xs)
theorem RowsAt.nil {H : Hp} : RowsAt H [] [] := ⟨rfl, fun i r h => by simp at h⟩
theorem RowsAt.ext {H H' : Hp} {rs : List Addr} {xss : List (List V)} (h : RowsAt H rs xss) (e : ∀ r xs, H r = some (.tup xs) → H' r = some (.tup xs)) : RowsAt H' rs xss := ⟨h.len, fun i r hr => by
  obtain ⟨xs, h1, h2⟩ := h.row i r hr
  exact ⟨xs, h1, e _ _ h2⟩⟩
theorem RowsAt.snoc {H : Hp} {rs : List Addr} {xss : List (List V)} {r : Addr} {xs : List V} (h : RowsAt H rs xss) (hr : H r = some (.tup xs)) : RowsAt H (rs ++ [r]) (xss ++ [xs]) := ⟨by simp [h.len], fun i q hq => by
  rcases Nat.lt_or_ge i rs.length with l | l
  · rw [List.getElem?_append_left l] at hq
    obtain ⟨ys, h1, h2⟩ := h.row i q hq
    exact ⟨ys, by rw [List.getElem?_append_left (by rw [← h.len]; exact l)]; exact h1, h2⟩
  · rw [List.getElem?_append_right l] at hq
    obtain ⟨hz, e⟩ : i - rs.length = 0 ∧ q = r := by
      cases hk : i - rs.length with
      | zero =>
        rw [hk] at hq
        exact ⟨rfl, (Option.some.inj hq).symm⟩
      | succ m =>
        rw [hk] at hq
        simp at hq
    have hi : i = xss.length := by have := h.len; omega
    subst hi
    exact ⟨xs, by simp, by rw [e]; exact hr⟩⟩
theorem RowsAt.upd {H : Hp} {rs : List Addr} {xss : List (List V)} {D : Addr} {ys zs : List V} (h : RowsAt H rs xss) (hD : H D = some (.lst ys)) : RowsAt (L2.upd H D (.lst zs)) rs xss := h.ext fun r xs hr => by
  rw [upd_ne fun z => by
    rw [z, hD] at hr
    cases hr]
  exact hr
theorem take_turnG {α β : Type} {as : List α} {i : Nat} {a : α} (p : α → Bool) (g : α → β) (h : as[i]? = some a) : (((as.take (i + 1)).filter p).map g) = ((as.take i).filter p).map g ++ (if p a then [g a] else []) := by
  rw [List.take_add_one, h, List.filter_append, List.map_append]
  congr 1
  by_cases hp : p a <;> simp [hp]
section
variable {X : Cx} {e a b c tg : Expr} {es : List Expr} {rest : List Stmt} {σ : L2.St} {H : Hp} {v x y z : V} {te : TE} {tt : TT} {pos : Pos} {m n k : Nat} {xs ys : List V} {D : Ends}
/-- a tuple, by its items -/
def tupV (xs : List V) : V → Hp → Prop := fun v H => ∃ r, v = .ref r ∧ H r = some (.tup xs)
/-- one clause with a test: the elements are tuples -/
theorem ex_compT {α : Type} {wi : TI} {j : Nat} {ws : List Nat} {as : List α} {A : α → V} (p : α → Bool) (g : α → List V) (hi : EvI wi σ H (as.map A)) (hz : as.length ≤ 90000) (hw : ∀ x, wipe ((wipe σ ws).set j (some x)) ws = wipe σ ws)
    (ht : ∀ a ∈ as, ∀ H1, Ex H H1 → EvT tt ((wipe σ ws).set j (some (A a))) H1 (p a)) (he : ∀ a ∈ as, p a = true → ∀ H1, Ex H H1 → EvR te ((wipe σ ws).set j (some (A a))) H1 (tupV (g a))) {Q : VK}
    (q : ∀ D rs H1, H D = none → Ex H H1 → H1 D = some (.lst (rs.map V.ref)) → RowsAt H1 rs ((as.filter p).map g) → Q (.ref D) H1) :
    tLc wi (gName j) tt te ws σ H Q := hi H (Ex.refl H) _ fun J H1 e1 src Dl hD => by
  refine ⟨fun i m H' => m = as.length - i ∧ i ≤ as.length ∧ Ex H1 H' ∧ ∃ rs, H' Dl = some (.lst (rs.map V.ref)) ∧ RowsAt H' rs (((as.take i).filter p).map g), ⟨as.length, by omega, Nat.zero_le _, Ex.new hD, [], upd_same, RowsAt.nil⟩, ?_⟩
  rintro i m H' ⟨rfl, hi, eH, rs, hl, hR⟩
  by_cases hlt : i < as.length
  · have ha : as[i]? = some as[i] := List.getElem?_eq_getElem hlt
    have hmem : as[i] ∈ as := List.getElem_mem hlt
    generalize as[i] = a at ha hmem
    have hlen : (rs.map V.ref).length ≤ 90000 := by
      rw [List.length_map, hR.len, List.length_map]
      have := List.length_filter_le p (as.take i)
      rw [List.length_take] at this
      omega
    refine .inr ⟨src.go i H' eH (by simpa using hlt), fun H'' => Ex H1 H'' ∧ ∃ rs, H'' Dl = some (.lst (rs.map V.ref)) ∧ RowsAt H'' rs (((as.take (i + 1)).filter p).map g), fun H'' h => ⟨as.length - (i + 1), by omega, rfl, hlt, h.1, h.2⟩, fun x H'' hy => ?_⟩
    obtain ⟨rfl, hx⟩ := src.yld i H' x H'' eH hy (by simpa using hlt)
    rw [List.getElem?_map, ha] at hx
    have hx : A a = x := Option.some.inj hx
    subst hx
    refine ⟨hw _, ht a hmem H1 e1 H'' eH _ fun H3 e3 => ?_⟩
    rw [take_turnG p g ha]
    cases hp : p a with
    | true =>
      simp only [if_true]
      refine he a hmem hp H1 e1 H3 (eH.trans e3) _ fun v H4 e4 hv => ?_
      obtain ⟨r, rfl, hr⟩ := hv
      have hl4 := e4 _ _ (e3 _ _ hl)
      have hR4 : RowsAt H4 rs (((as.take i).filter p).map g) := hR.ext fun r xs h => e4 _ _ (e3 _ _ h)
      refine ⟨_, hl4, sz_lt (by omega), Ex.mut ((eH.trans e3).trans e4) hD, rs ++ [r], by rw [upd_same, List.map_append]; rfl, (hR4.snoc hr).upd hl4⟩
    | false =>
      simp only [Bool.false_eq_true, if_false, List.append_nil]
      exact ⟨eH.trans e3, rs, e3 _ _ hl, hR.ext fun r xs h => e3 _ _ h⟩
  · have : i = as.length := by omega
    subst this
    rw [List.take_length] at hR
    exact .inl ⟨by simpa using src.stop H' eH, q Dl rs H' (fresh_back e1 hD) (e1.trans eH) hl hR⟩
/-- within the block -/
abbrev RB (X : Cx) (sc : Scope) (e : Expr) (σ : L2.St) (H : Hp) (R : V → Hp → Prop) : Prop := ∀ (s : Shared) (H0 : Hp) (C : Addr) (cl : List (Str × Addr)) (fp : List Addr), ER (X.blk s H0 sc (compEnvC sc cl C X.env) fp) e σ H R
theorem RB.ev {sc : Scope} {R : V → Hp → Prop} (h : RB X sc e σ H R) : EvR (wEb X sc e) σ H R := fun H1 a Q k s H0 C cl fp => h s H0 C cl fp H1 a Q k
/-- name = [elt for x in .. if t], the elements tuples -/
theorem b_asgCT {α : Type} {i : Nat} {y : Str} {py spos : Pos} {sc : Scope} {elt iter tst : Expr} {own : List (Str × Nat)} {nm : Str} {j : Nat} {gp : Pos} {as : List α} {A : α → V} (p : α → Bool) (g : α → List V) (hc : X.calm = true) (hN : X.N.Nodup) (ok : BlkOk X.N X.env.scope sc own)
    (hg : ∀ (s : Shared) (H0 : Hp) (C : Addr) (cl : List (Str × Addr)) (fp : List Addr), PG (X.blk s H0 sc (compEnvC sc cl C X.env) fp) (.Name nm gp) (gName j))
    (hi : EI X (.Name nm gp) iter σ H (as.map A)) (hz : as.length ≤ 90000) (hw : ∀ x, wipe ((wipe σ (own.map (·.2))).set j (some x)) (own.map (·.2)) = wipe σ (own.map (·.2)))
    (ht : ∀ a ∈ as, ∀ H1, Ex H H1 → TB X sc tst ((wipe σ (own.map (·.2))).set j (some (A a))) H1 (p a))
    (he : ∀ a ∈ as, p a = true → ∀ H1, Ex H H1 → RB X sc elt ((wipe σ (own.map (·.2))).set j (some (A a))) H1 (tupV (g a)))
    (k : ∀ q rs H1, H q = none → Ex H H1 → H1 q = some (.lst (rs.map V.ref)) → RowsAt H1 rs ((as.filter p).map g) → wSs X rest D (σ.set i (some (.ref q))) H1) (hs : ∀ x, foldedSetIterable iter X.env x = pure x := by intro _; rfl) (hy : X.N[i]? = some y := by rfl) (hyl : X.env.scope.names.lookup y = some .local := by rfl)
    (hsw : swapsWith (.ListComp elt [⟨.Name nm gp, iter, [tst], 0⟩] sc pos) (some (.Name y py)) spos.line X.env = pure true := by rfl) :
    wSs X (.Assign [.Name y py] (.ListComp elt [⟨.Name nm gp, iter, [tst], 0⟩] sc pos) spos :: rest) D σ H :=
  b_st (ps_setLc (te := wEb X sc elt) (tt := wTb X sc tst) hc hN hy hyl hsw pI ok hg (fun s H0 C cl fp => pts_one ⟨fun pins s1 _ _ _ I h => h s H0 C cl fp pins s1 I⟩) (fun s H0 C cl fp => ⟨fun pins s1 _ _ _ I h => h s H0 C cl fp pins s1 I⟩) hs)
    (ex_compT (A := A) p g hi.ev hz hw (fun a ha H1 e1 => TB.ev (ht a ha H1 e1)) (fun a ha hp H1 e1 => RB.ev (he a ha hp H1 e1)) k)
/-- t + (..,) -/
theorem r_catA {p : Addr} (ha : E X a σ H (.ref p)) (hp : H p = some (.tup xs)) (hb : EU X b σ H ys) (hy : ys ≠ []) (hz : xs.length + ys.length ≤ 100000) : ER X (.BinOp a .Add b pos) σ H (tupV (xs ++ ys)) :=
  ER.of (pe_op op_catA pE pE) fun H1 e Q k => ha H1 e _ fun H2 e2 => hb H2 (e.trans e2) _ fun q H3 hq e3 h3 => by
    have hp3 := e3 _ _ (e2 _ _ (e _ _ hp))
    refine ⟨p, q, xs, ys, rfl, rfl, st_of hp3, st_of h3, Nat.le_trans hz (by decide), fun hx => k _ H3 (e2.trans e3) ⟨q, rfl, ?_⟩, fun _ z => absurd z hy, fun _ _ r hr => k _ _ ((e2.trans e3).trans (Ex.new hr)) ⟨r, rfl, upd_same⟩⟩
    rw [hx]
    exact h3
/-- xs.append(e), by what e may leave -/
theorem b_appX {p p1 : Pos} {l : Addr} (hl : H l = some (.lst xs)) (ho : E X a σ H (.ref l)) (he : ∀ H1, Ex H H1 → wE X e σ H1 fun v H2 => ∃ ys, H2 l = some (.lst ys) ∧ ys.length < 100000 ∧ wSs X rest D σ (upd H2 l (.lst (ys ++ [v])))) (ns : NS X e := by exact fun _ => rfl)
    (hbase : attributeBase a "append" X.env (eval a X.env) = eval a X.env := by rfl)
    (hfew : ((backTo p1 (starEach [e] X.env)).all (fun x => !x.1) && (backToKw p1 (keywordEach [] X.env)).all (fun x => x.1.isSome) && decide (([e] : List Expr).length + ([] : List Keyword).length + (if ([] : List Keyword).isEmpty then 0 else 1) < 30)) = true := by rfl)
    (hline : (p.endLine == p1.line) = true := by rfl) (hsw : swapsWith (.Call (.Attribute a "append" p) [e] [] p1) none pos.line X.env = pure false := by rfl) : wSs X (.Expr (.Call (.Attribute a "append" p) [e] [] p1) pos :: rest) D σ H :=
  b_st (ps_expr (pe_bm PySem.F.plainAttrs_list PySem.F.slot_list_append PySem.F.type_list_append mt_append pE (pa_cons pE pa_nil (ns [])) hbase hfew hline (ns []) rfl) hsw) (ho H (Ex.refl H) _ fun H1 e1 => ⟨Or.inl ⟨rfl, xs, sq_of (e1 l _ hl)⟩, fun pins s I => thn (he H1 e1 pins s I) fun v s2 ⟨x, H2, I2, r2, zs, h1, h2, q⟩ => ⟨x, H2, I2, r2, l, zs, x, rfl, rfl, h1, sz_lt h2, q⟩⟩)
end
/-- the rule of a def that knows its own code object -/
theorem okC {P : Program} {w : World} {K : PySem.W.Frag} {mg : Str → Option Value} {base : Heap} {k : Nat} {x : Str} {st : Stmt} {N ps : List Str} {sp : Sp} {f : Addr} {oc : Value} {od an : Option Addr} {osl : Array (Option Value)} {kV doc pm cdv ct : Value}
    (lk : K.lookup f = some ⟨oc, od, .func (PySem.W.fnOf x x (defArgs st) (defBody st) (defScope st) .none kV doc pm an cdv ct), osl⟩) (hcd : PySem.W.codeIn K cdv x = true) (S : FnScope N ps (defScope st)) (len : ∀ vs H Q E, sp vs H Q E → vs.length = ps.length)
    (body : ∀ (A : Around) (outer : List Env) (s : Shared) (H : Hp) (vs : List V) (Q : VK) (E : XK), Room k (A.deeper (envOfC x (defScope st) s.heap.objs.size f cdv)) → sp vs H Q E →
      wSs (cxOf CX0 P w K mg base N x (defScope st) f cdv A outer s H E).nox (defBody st) { nx := fun _ H' => Q .non H', rt := Q } (start N vs) H) : FnOk P w K mg base CX0 (k + 1) f (PySem.W.fnOf x x (defArgs st) (defBody st) (defScope st) .none kV doc pm an cdv ct) ps sp :=
  fn_of lk hcd S len fun A outer s H vs Q E hr hsp => ⟨_, PSs.nox pSs, body A outer s H vs Q E hr hsp⟩
end Wx
namespace K70
open PySem PySem.Spec PyProof.Rows L2 Evl Wx
def topS (i : Nat) : Stmt := PySem.Challenge.pw_wordwright_k70_whole_mirrors_by_middles.main.body.getD i (.Pass ⟨0, 0, 0, 0⟩)
theorem reps_rep (k : Nat) (u : List Nat) : reps k u = Lyn.rep k u := rfl
section
variable {P : Program} {w : World} {K : PySem.W.Frag} {mg : Str → Option Value} {base : Heap}
abbrev sBord : Stmt := topS 15
theorem scBord : FnScope ["word", "k"] ["word"] (defScope sBord) := ⟨rfl, rfl, rfl, by decide +kernel, rfl, by decide +kernel, by decide +kernel⟩
def rBord (vs : List V) (xs : List V) : Prop := ∃ w : List Nat, vs = [Tx w] ∧ w.length ≤ 1000 ∧ xs = (Lyn.bordersF w).map Nm
theorem ok_bord (D : Dx K mg "borders" sBord ["word"]) (mr : mg "range" = none) (ml : mg "len" = none) : Df P w K mg base 1 "borders" ["word"] (spL rBord) := by
  refine D.ok scBord (fun vs H Q _ h => by obtain ⟨z, ⟨u, rfl, _⟩, _⟩ := h; rfl) fun f cdv A outer s H vs Q Er hr h => ?_
  obtain ⟨z, ⟨u, rfl, hlen, rfl⟩, q⟩ := h
  refine b_retL (l_compIf (own := [("k", 1)]) (j := 1) (A := Nm) (fun k => decide (u.take k = u.drop (u.length - k))) Nm rfl scBord.nd (blkOk_by (N := ["word", "k"]) (sc := defScope sBord) (by decide +kernel)) (fun _ _ _ _ _ => pg_name (i := 1) scBord.nd rfl (Or.inl rfl))
    (i_n1 (e_lenS (e_var (i := 0) rfl) ml (by omega)) mr (by omega)) (by simp; omega) (fun x => rfl) (fun k hk H1 e1 _ _ _ _ _ => ?_) fun k hk _ H1 e1 _ _ _ _ _ => e_var (i := 1) rfl) fun p H1 hp e1 h1 => q.go (Ex.refl H) hp e1 h1
  rw [List.mem_range] at hk
  exact t_eqS (e_slTo (e_var (i := 0) rfl) (e_var (i := 1) rfl) (by omega)) (e_slFrom (e_var (i := 0) rfl) (n_sub (e_lenS (e_var (i := 0) rfl) ml (by omega)) (e_var (i := 1) rfl) (by omega)) (by omega))

/-! ### forms -/
def isLet (c : Nat) : Bool := decide (c ∈ [97, 98, 99, 100])
def isWd (w : List Nat) : Bool := decide (w.length ≤ 60) && w.all isLet
abbrev sWord : Stmt := topS 3
theorem scWord : FnScope ["value", "letter"] ["value"] (defScope sWord) := ⟨rfl, rfl, rfl, by decide +kernel, rfl, by decide +kernel, by decide +kernel⟩
def rWord (vs : List V) (z : V) : Prop := ∃ w : List Nat, vs = [Tx w] ∧ w.length ≤ 1000 ∧ z = .bl (isWd w)
theorem rv_sign {H : Hp} {c : Nat} {w : List Nat} : RV (fun x y H Q => ∃ (c : Nat) (z : Str), x = .str ⟨#[c]⟩ ∧ y = .str z ∧ Q (.bl (decide (c ∈ z.cps.toList))) H) (Tx [c]) (Tx w) H (.bl (decide (c ∈ w))) := fun H1 _ Q q => ⟨c, _, rfl, rfl, by simpa using q H1 (Ex.refl H1)⟩
theorem ok_word (D : Dx K mg "is_word" sWord ["value"]) (mi : mg "isinstance" = none) (ms : mg "str" = none) (ml : mg "len" = none) (ma : mg "all" = none) (gM : ∃ t, mg "MOST" = some (.int 60 t)) (gL : ∃ t, mg "LETTERS" = some (.str "abcd" t)) : Df P w K mg base 1 "is_word" ["value"] (spV rWord) := by
  obtain ⟨tM, gM⟩ := gM
  obtain ⟨tL, gL⟩ := gL
  refine D.ok scWord (fun vs H Q _ h => by obtain ⟨z, ⟨u, rfl, _⟩, _⟩ := h; rfl) fun f cdv A outer s H vs Q Er hr h => ?_
  obtain ⟨z, ⟨u, rfl, hlen, rfl⟩, q⟩ := h
  refine b_ret (E.is (e_and (p := true) (e_isi (U := "str") (T := "str") (E.r (e_var (i := 0) rfl)) eqS (fun v H1 hv => hv ▸ .base (.str _)) (by decide +kernel) (by decide +kernel) mi ms) fun _ => e_and (en_le (e_lenS (e_var (i := 0) rfl) ml (by omega)) (e_glob (v := Nm 60) gM ⟨_, rfl⟩)) fun _ =>
    e_one (e_all (bs := u.map isLet) rfl (EvL.r ?_) ma)) ?_) fun H1 e1 => q.go e1
  · rw [List.map_map]
    refine l_comp (own := [("letter", 1)]) (j := 1) (A := fun c => Tx [c]) (fun c => V.bl (isLet c)) rfl scWord.nd (blkOk_by (N := ["value", "letter"]) (sc := defScope sWord) (by decide +kernel)) (fun _ _ _ _ _ => pg_name (i := 1) scWord.nd rfl (Or.inl rfl)) (i_str (e_var (i := 0) rfl)) (by omega) (fun x => rfl) fun c hc H1 e1 _ _ _ _ _ => ?_
    exact e_cmp op_in_sign (e_var (i := 1) rfl) (e_glob (v := Tx [97, 98, 99, 100]) gL ⟨_, rfl⟩) rv_sign
  · rw [List.all_map]
    rfl
abbrev sWords : Stmt := topS 4
theorem scWords : FnScope ["value", "item"] ["value"] (defScope sWords) := ⟨rfl, rfl, rfl, by decide +kernel, rfl, by decide +kernel, by decide +kernel⟩
def spWords (K : PySem.W.Frag) : Sp := fun vs H Q _ => ∃ (p : Addr) (ws : List (List Nat)), vs = [.ref p] ∧ SqT K H p (ws.map Tx) ∧ ws.length ≤ 1000 ∧ (∀ u ∈ ws, u.length ≤ 1000) ∧ RetV (.bl (ws.all isWd)) H Q
theorem ok_words (D : Dx K mg "is_words" sWords ["value"]) (R : Df P w K mg base 1 "is_word" ["value"] (spV rWord)) (mi : mg "isinstance" = none) (mt : mg "tuple" = none) (ma : mg "all" = none) : Df P w K mg base 2 "is_words" ["value"] (spWords K) := by
  refine D.ok scWords (fun vs H Q _ h => by obtain ⟨p, ws, rfl, _⟩ := h; rfl) fun f cdv A outer s H vs Q Er hr h => ?_
  obtain ⟨p, ws, rfl, hp, hl, hu, q⟩ := h
  refine b_ret (E.is (e_and (p := true) (e_isi (T := "tuple") (e_varT (i := 0) rfl hp) isTS (fun v H1 hv => ty_tup hv) (by decide +kernel) (by decide +kernel) mi mt) fun _ => e_one (e_all (bs := ws.map isWd) rfl (EvL.r ?_) ma)) ?_) fun H1 e1 => q.go e1
  · rw [List.map_map]
    exact l_comp (own := [("item", 1)]) (j := 1) (A := Tx) (fun u => V.bl (isWd u)) rfl scWords.nd (blkOk_by (N := ["value", "item"]) (sc := defScope sWords) (by decide +kernel)) (fun _ _ _ _ _ => pg_name (i := 1) scWords.nd rfl (Or.inl rfl)) (i_tup (e_varT (i := 0) rfl hp)) (by omega) (fun x => rfl) fun u hm H1 e1 _ _ _ _ _ => e_call R hr (a_one (e_var (i := 1) rfl)) (spV.val ⟨u, rfl, hu u hm, rfl⟩)
  · rw [List.all_map]
    rfl
end
end K70
namespace K70
open PySem PySem.Spec PyProof.Rows L2 Evl Wx
section
variable {P : Program} {w : World} {K : PySem.W.Frag} {mg : Str → Option Value} {base : Heap}
/-! ### the law's draws: which numbers come does not matter -/
abbrev sCell : Stmt := topS 19
abbrev nCell : List Str := ["script", "k"]
theorem scCell : FnScope nCell ["script", "k"] (defScope sCell) := ⟨rfl, rfl, rfl, by decide +kernel, rfl, by decide +kernel, by decide +kernel⟩
def spCellA (K : PySem.W.Frag) : Sp := fun vs H Q _ => ∃ (l : Addr) (ns : List Int) (k : Nat), vs = [.ref l, Nm k] ∧ SqL K H l (ns.map V.int) ∧ ∀ z : Int, RetV (.int z) H Q
theorem ok_cell (D : Dx K mg "_law_cell" sCell ["script", "k"]) (ml : mg "len" = none) : Df P w K mg base 1 "_law_cell" ["script", "k"] (spCellA K) := by
  refine D.ok scCell (fun vs H Q _ h => by obtain ⟨l, ns, k, rfl, _⟩ := h; rfl) fun f cdv A outer s H vs Q Er hr h => ?_
  obtain ⟨l, ns, k, rfl, hl, q⟩ := h
  refine b_when (tn_lt (e_var (i := 1) rfl) (e_lenLm (e_varL (i := 0) rfl hl) ml)) (fun hp H1 e1 => ?_) (fun hp H1 e1 => b_ret (nm 0) fun H2 e2 => (q 0).go (e1.trans e2))
  have hk := of_decide_eq_true hp
  exact b_ret (e_ixL (e_varL (i := 0) rfl (ex_l e1 hl)) (e_var (i := 1) rfl) (at_nat (v := .int ns[k]) (by rw [List.getElem?_map, List.getElem?_eq_getElem hk]; rfl))) fun H2 e2 => (q _).go (e1.trans e2)
abbrev sDraws : Stmt := topS 20
abbrev nDraws : List Str := ["cell", "amount", "rows", "left", "k", "blended"]
theorem scDraws : FnScope nDraws ["cell", "amount"] (defScope sDraws) := ⟨rfl, rfl, rfl, by decide +kernel, rfl, by decide +kernel, by decide +kernel⟩
def spDraws : Sp := fun vs H Q _ => ∃ (c : Int) (n : Nat), vs = [.int c, Nm n] ∧ n ≤ 1000 ∧ ∀ zs : List Int, zs.length = n → RetL (zs.map V.int) H Q
theorem small_mod {a m : Int} (h : 0 < m) : 0 ≤ a % m ∧ a % m < m := ⟨Int.emod_nonneg _ (by omega), Int.emod_lt_of_pos _ h⟩
theorem cmul_small {a b : Int} (h : 0 ≤ a ∧ a < 2147483647) : CMul a b := .inl ⟨by omega, by omega⟩
theorem cmul_right {a b : Int} (h : 0 ≤ b ∧ b < 2147483647) : CMul a b := .inr ⟨by omega, by omega⟩
theorem ok_draws (D : Dx K mg "_law_draws" sDraws ["cell", "amount"]) (mr : mg "range" = none) (mi : mg "int" = none) : Df P w K mg base 1 "_law_draws" ["cell", "amount"] spDraws := by
  refine D.ok scDraws (fun vs H Q _ h => by obtain ⟨c, n, rfl, _⟩ := h; rfl) fun f cdv A outer s H vs Q Er hr h => ?_
  obtain ⟨c, n, rfl, hn, q⟩ := h
  refine b_asgL (i := 2) (l_disp a_nil (by decide)) (fun p H0 hp e0 h0 => ?_) scDraws.nd
  refine b_asg (i := 3) (e_var (i := 0) rfl) (fun H1 e1 => ?_) scDraws.nd
  refine b_for (j := 4) (i_r1 (e_var (i := 1) rfl) mr (by omega)) (fun i σ' H' => ∃ zs : List Int, zs.length = i ∧ H' p = some (.lst (zs.map V.int)) ∧ Ex H H' ∧ ∃ (l : Int) (o4 : Option V) (o5 : Option V), σ' = [some (.int c), some (Nm n), some (.ref p), some (.int l), o4, o5])
    (fun H2 e2 => ⟨[], rfl, e2 p _ (e1 p _ h0), (e0.trans e1).trans e2, c, none, none, rfl⟩) (fun i x σ' H' hx hP => ?_) (fun σ' H' hP => ?_) PassesOwn.never rfl scDraws.nd
  · obtain ⟨zs, hz, hL, eH, l, o4, o5, rfl⟩ := hP
    have hin : i < n := by
      have := (List.getElem?_eq_some_iff.mp hx).1
      rwa [rng_len] at this
    rw [rng_get hin] at hx
    cases hx
    refine b_if (p := decide ((1000000000000000000 : Int) ≤ c) && decide ((0 : Int) < l)) (ET.w (w_and (t_ge (e_var (i := 0) rfl) (E.is (e_bin op_pow (e_int (i := 10)) (e_int (i := 18)) (rv_I ⟨by decide, by decide, by decide⟩)) (show _ = V.int 1000000000000000000 from rfl))) fun _ => w_and1 (t_gt (e_var (i := 3) rfl) e_int))) (fun _ H2 e2 => ?_) (fun _ H2 e2 => ?_)
    · -- a great cell: its digits
      refine b_app (e2 p _ hL) (e_var (i := 2) rfl) (e_mod (e_intI (e_var (i := 3) rfl) mi) (e_int (i := 4096)) (by decide)) (by rw [List.length_map]; omega) fun H3 e3 => ?_
      refine b_asg (i := 3) (e_div (e_var (i := 3) rfl) (e_int (i := 4096)) ⟨by decide, by decide⟩) (fun H4 e4 => b_nil ?_) scDraws.nd
      exact b_nil ⟨zs ++ [_], by simp [hz], by rw [List.map_append]; exact e4 p _ upd_same, (Ex.mut ((eH.trans e2).trans e3) hp).trans e4, _, _, _, rfl⟩
    · -- blended
      refine b_asg (i := 5) (e_mod (e_intI (e_add (e_mul (e_var (i := 0) rfl) (e_int (i := 48271)) (cmul_right (by decide))) (e_mul (n_add (e_var (i := 4) rfl) (nm 1)) (e_int (i := 69621)) (cmul_right (by decide)))) mi) (e_int (i := 2147483647)) (by decide)) (fun H3 e3 => ?_) scDraws.nd
      have m1 := small_mod (a := c * 48271 + (((0 + i) + 1 : Nat) : Int) * 69621) (m := 2147483647) (by decide)
      generalize (c * 48271 + (((0 + i) + 1 : Nat) : Int) * 69621) % 2147483647 = b1 at m1 ⊢
      refine b_asg (i := 5) (e_mod (e_intI (e_add (e_add (e_mul (e_var (i := 5) rfl) (e_var (i := 5) rfl) (cmul_small m1)) (e_mul (e_var (i := 5) rfl) (e_int (i := 16807)) (cmul_small m1))) (e_mul (e_var (i := 4) rfl) (e_int (i := 7919)) (cmul_right (by decide)))) mi) (e_int (i := 2147483629)) (by decide)) (fun H4 e4 => ?_) scDraws.nd
      have m2 := small_mod (a := b1 * b1 + b1 * 16807 + ((0 + i : Nat) : Int) * 7919) (m := 2147483629) (by decide)
      generalize (b1 * b1 + b1 * 16807 + ((0 + i : Nat) : Int) * 7919) % 2147483629 = b2 at m2 ⊢
      refine b_asg (i := 5) (e_mod (e_intI (e_add (e_add (e_mul (e_var (i := 5) rfl) (e_var (i := 5) rfl) (cmul_small ⟨m2.1, by omega⟩)) (e_var (i := 0) rfl)) (e_mul (e_int (i := 13)) (e_var (i := 4) rfl) (cmul_small (by decide)))) mi) (e_int (i := 2147483587)) (by decide)) (fun H5 e5 => ?_) scDraws.nd
      refine b_app (e5 p _ (e4 p _ (e3 p _ (e2 p _ hL)))) (e_var (i := 2) rfl) (e_mod (e_div (e_var (i := 5) rfl) (e_int (i := 7)) ⟨by decide, by decide⟩) (e_int (i := 4096)) (by decide)) (by rw [List.length_map]; omega) fun H6 e6 => b_nil ?_
      exact b_nil ⟨zs ++ [_], by simp [hz], by rw [List.map_append]; exact upd_same, Ex.mut (((((eH.trans e2).trans e3).trans e4).trans e5).trans e6) hp, _, _, _, rfl⟩
  · obtain ⟨zs, hz, hL, eH, l, o4, o5, rfl⟩ := hP
    rw [rng_len] at hz
    refine b_ret (e_var (i := 2) rfl) fun H2 e2 => q zs hz p H2 hp (eH.trans e2) (e2 p _ hL)
end
end K70
namespace K70
open PySem PySem.Spec PyProof.Rows L2 Evl Wx
section
variable {P : Program} {w : World} {K : PySem.W.Frag} {mg : Str → Option Value} {base : Heap}
/-- the pool at p: its draws at r, its counter at c -/
structure Pool (H : Hp) (p r c : Addr) (zs : List Int) (t : Nat) : Prop where
  top : H p = some (.lst [.ref r, .ref c])
  row : H r = some (.lst (zs.map V.int))
  cnt : H c = some (.lst [Nm t])
  len : 2 ≤ zs.length ∧ zs.length ≤ 1000
theorem Pool.ne {H : Hp} {p r c : Addr} {zs : List Int} {t : Nat} (h : Pool H p r c zs t) : p ≠ c ∧ r ≠ c := by
  refine ⟨ne_of h.top h.cnt (by simp), ne_of h.row h.cnt fun e => ?_⟩
  injection e with e
  have := congrArg List.length e
  rw [List.length_map] at this
  have := h.len
  simp at *
  omega
theorem Pool.ex {H H' : Hp} {p r c : Addr} {zs : List Int} {t : Nat} (h : Pool H p r c zs t) (e : Ex H H') : Pool H' p r c zs t := ⟨e _ _ h.top, e _ _ h.row, e _ _ h.cnt, h.len⟩
/-- only the counter at c has moved on -/
structure Adv (c : Addr) (H H' : Hp) (t' : Nat) : Prop where
  keep : ∀ a o, a ≠ c → H a = some o → H' a = some o
  cnt : H' c = some (.lst [Nm t'])
theorem Adv.ex {c : Addr} {H H' H'' : Hp} {t : Nat} (a : Adv c H H' t) (e : Ex H' H'') : Adv c H H'' t := ⟨fun b o n h => e b o (a.keep b o n h), e _ _ a.cnt⟩
theorem Adv.of_ex {c : Addr} {H H' : Hp} {t : Nat} (e : Ex H H') (h : H c = some (.lst [Nm t])) : Adv c H H' t := ⟨fun b o n h => e b o h, e _ _ h⟩
theorem Adv.trans {c : Addr} {H H' H'' : Hp} {t t' : Nat} (a : Adv c H H' t) (b : Adv c H' H'' t') : Adv c H H'' t' := ⟨fun x o n h => b.keep x o n (a.keep x o n h), b.cnt⟩
theorem Pool.adv {H H' : Hp} {p r c : Addr} {zs : List Int} {t t' : Nat} (h : Pool H p r c zs t) (a : Adv c H H' t') : Pool H' p r c zs t' := ⟨a.keep _ _ h.ne.1 h.top, a.keep _ _ h.ne.2 h.row, a.cnt, h.len⟩
/-- what is new and no list of one number stays apart from the counter -/
theorem Adv.new {c p : Addr} {H H' : Hp} {t : Nat} {o : HO} (a : Adv c H H' t) (h : H p = some o) (n : p ≠ c) : H' p = some o := a.keep p o n h

abbrev sPool : Stmt := topS 21
abbrev nPool : List Str := ["script", "rows", "k"]
theorem scPool : FnScope nPool ["script"] (defScope sPool) := ⟨rfl, rfl, rfl, by decide +kernel, rfl, by decide +kernel, by decide +kernel⟩
def spPool (K : PySem.W.Frag) : Sp := fun vs H Q _ => ∃ (l : Addr) (ns : List Int), vs = [.ref l] ∧ SqL K H l (ns.map V.int) ∧ ns.length ≤ 1000 ∧ ∀ p r c zs H', Ex H H' → Pool H' p r c zs 0 → Q (.ref p) H'
theorem ok_pool (D : Dx K mg "_law_pool" sPool ["script"]) (R1 : Df P w K mg base 1 "_law_draws" ["cell", "amount"] spDraws) (R2 : Df P w K mg base 1 "_law_cell" ["script", "k"] (spCellA K)) (mr : mg "range" = none) (mx : mg "max" = none) (mn : mg "min" = none) (ml : mg "len" = none) : Df P w K mg base 2 "_law_pool" ["script"] (spPool K) := by
  refine D.ok scPool (fun vs H Q _ h => by obtain ⟨l, ns, rfl, _⟩ := h; rfl) fun f cdv A outer s H vs Q Er hr h => ?_
  obtain ⟨l, ns, rfl, hl, hlen, q⟩ := h
  refine b_asgL (i := 1) (l_disp a_nil (by decide)) (fun p0 H0 hp0 e0 h0 => ?_) scPool.nd
  refine b_for (j := 2) (i_r1 (n_min rfl (nm 4) (n_max rfl (nm 1) (e_lenLm (e_varL (i := 0) rfl (ex_l e0 hl)) ml) mx) mn) mr (by omega)) (fun i σ' H' => ∃ (zs : List Int) (b : Addr) (o2 : Option V), zs.length = 20 * i ∧ i ≤ 4 ∧ H' b = some (.lst (zs.map V.int)) ∧ Ex H H' ∧ σ' = [some (.ref l), some (.ref b), o2])
    (fun H2 e2 => ⟨[], p0, none, rfl, by decide, e2 _ _ h0, e0.trans e2, rfl⟩) (fun i x σ' H' hx hP => ?_) (fun σ' H' hP => ?_) PassesOwn.never rfl scPool.nd
  · obtain ⟨zs, b, o2, hz, hi4, hL, eH, rfl⟩ := hP
    have hin : i < min 4 (max 1 ns.length) := by
      have := (List.getElem?_eq_some_iff.mp hx).1
      rwa [rng_len] at this
    rw [rng_get hin] at hx
    cases hx
    -- rows + draws
    refine b_asgX (i := 1) (of_pe (pe_op op_cat pE (pe_df2 R1 hr)) ?_) scPool.nd
    refine (e_var (i := 1) rfl) H' (Ex.refl _) _ fun H2 e2 => ?_
    -- the cell
    refine (r_add (ER.of (R := anI) (pe_df2 R2 hr) fun H1 e1 Q k => ?_) (E.anI (e_mul (e_int (i := 7)) (e_var (i := 2) rfl) (cmul_small (by decide))))) H2 (Ex.refl _) _ fun v H3 e3 hv => ?_
    · refine (e_var (i := 0) rfl) H1 e1 _ fun H3 e3 => (e_var (i := 2) rfl) H3 (e1.trans e3) _ fun H4 e4 => ?_
      exact ⟨l, ns, 0 + i, rfl, ex_l ((((eH.trans e2).trans e1).trans e3).trans e4) hl, fun z H5 e5 => k _ H5 ((e3.trans e4).trans e5) ⟨z, rfl⟩⟩
    obtain ⟨z, rfl⟩ := hv
    refine (nm 20) H3 e3 _ fun H4 e4 => ?_
    refine ⟨z, 20, rfl, by decide, fun zs' hz' p' H5 hp' e5 h5 => ?_⟩
    have e25 := (e3.trans e4).trans e5
    refine ⟨b, p', zs.map V.int, zs'.map V.int, rfl, rfl, e25 _ _ (e2 _ _ hL), h5, ?_, fun p6 hp6 => ?_⟩
    · rw [List.length_map, List.length_map, hz, hz']
      exact sz_of (by omega)
    · exact b_nil ⟨zs ++ zs', p6, some (Nm (0 + i)), by rw [List.length_append, hz, hz']; omega, by omega, by rw [upd_same, List.map_append], ((eH.trans e2).trans e25).trans (Ex.new hp6), rfl⟩
  · obtain ⟨zs, b, o2, hz, hi4, hL, eH, rfl⟩ := hP
    rw [rng_len] at hz
    refine b_st (ps_ret (pe_lst (pa_cons pE (pa_cons (pe_lst (pa_cons pE pa_nil)) pa_nil)))) ?_
    refine (e_var (i := 1) rfl) H' (Ex.refl _) _ fun H2 e2 => (nm 0) H2 (Ex.refl _) _ fun H3 e3 => ⟨sz_of (by simp), fun c hc => ⟨sz_of (by simp), fun p hp => q p b c zs _ ((((eH.trans e2).trans e3).trans (Ex.new hc)).trans (Ex.new hp)) ⟨upd_same, ?_, ?_, ?_⟩⟩⟩
    · have h3 := e3 _ _ (e2 _ _ hL)
      have hcb : b ≠ c := ne_of_none h3 hc
      have h4 : upd H3 c (.lst [Nm 0]) b = some (.lst (zs.map V.int)) := by rw [upd_ne hcb]; exact h3
      rw [upd_ne (ne_of_none h4 hp)]
      exact h4
    · have h4 : upd H3 c (.lst [Nm 0]) c = some (.lst [Nm 0]) := upd_same
      rw [upd_ne (ne_of_none h4 hp)]
      exact h4
    · omega
abbrev sPick : Stmt := topS 22
abbrev nPick : List Str := ["pool", "amount", "at", "turn"]
theorem scPick : FnScope nPick ["pool", "amount"] (defScope sPick) := ⟨rfl, rfl, rfl, by decide +kernel, rfl, by decide +kernel, by decide +kernel⟩
def spPick : Sp := fun vs H Q _ => ∃ (p r c : Addr) (zs : List Int) (t n : Nat), vs = [.ref p, Nm n] ∧ 0 < n ∧ t ≤ 100000 ∧ Pool H p r c zs t ∧ ∀ z H', z < n → Adv c H H' (t + 1) → Q (Nm z) H'
theorem ok_pick (D : Dx K mg "_law_pick" sPick ["pool", "amount"]) (ml : mg "len" = none) (mi : mg "int" = none) : Df P w K mg base 1 "_law_pick" ["pool", "amount"] spPick := by
  refine D.ok scPick (fun vs H Q _ h => by obtain ⟨p, r, c, zs, t, n, rfl, _⟩ := h; rfl) fun f cdv A outer s H vs Q Er hr h => ?_
  obtain ⟨p, r, c, zs, t, n, rfl, hn, ht, hP, q⟩ := h
  have hc : ∀ {X1 : Cx} {H1 : Hp} {σ : L2.St} {e1 e2 : Expr} {q : Pos}, X1.K = K → Ex H H1 → E X1 e1 σ H1 (.ref p) → E X1 e2 σ H1 (.int 1) → PlainIx e2 → ER X1 (.Subscript e1 e2 q) σ H1 (isL X1.K [Nm t]) := fun {X1 H1 σ e1 e2 q} hK eH h1 h2 hs => by
    subst hK
    exact Ev.r (e_ixL (xs := [.ref r, .ref c]) (Ev.r h1 fun H2 e2 => ⟨p, rfl, sq_of (e2 _ _ (eH _ _ hP.top))⟩) h2 (at_nat (j := 1) rfl) hs) fun H2 e2 => ⟨c, rfl, sq_of (e2 _ _ (eH _ _ hP.cnt))⟩
  have hrow : ∀ {X1 : Cx} {H0 H1 : Hp} {σ : L2.St} {e1 e2 : Expr} {q : Pos}, X1.K = K → Pool H0 p r c zs (t + 1) → Ex H0 H1 → E X1 e1 σ H1 (.ref p) → E X1 e2 σ H1 (.int 0) → PlainIx e2 → ER X1 (.Subscript e1 e2 q) σ H1 (isL X1.K (zs.map V.int)) := fun {X1 H0 H1 σ e1 e2 q} hK hP eH h1 h2 hs => by
    subst hK
    exact Ev.r (e_ixL (xs := [.ref r, .ref c]) (Ev.r h1 fun H2 e2 => ⟨p, rfl, sq_of (e2 _ _ (eH _ _ hP.top))⟩) h2 (at_nat (j := 0) rfl) hs) fun H2 e2 => ⟨r, rfl, sq_of (e2 _ _ (eH _ _ hP.row))⟩
  refine b_asg (i := 2) (v := Nm t) (e_ixL (hc rfl (Ex.refl H) (e_var (i := 0) rfl) (nm 1) (fun _ _ => rfl)) (nm 0) (at_nat (xs := [Nm t]) rfl)) (fun H1 e1 => ?_) scPick.nd
  refine b_st (ps_asg pE (pg_sub pE pE set_list)) ?_
  refine (n_add (e_var (i := 2) rfl) (nm 1)) H1 (Ex.refl _) _ fun H2 e2 => ?_
  have e12 := e1.trans e2
  refine (e_ixL (xs := [.ref r, .ref c]) (v := .ref c) (e_varL (i := 0) rfl (sq_of (e12 _ _ hP.top))) (nm 1) (at_nat (j := 1) rfl)) H2 (Ex.refl _) _ fun H3 e3 => ?_
  refine (nm 0) H3 (Ex.refl _) _ fun H4 e4 => ?_
  have e14 := (e12.trans e3).trans e4
  refine ⟨c, [Nm t], 0, 0, rfl, rfl, e14 _ _ hP.cnt, rfl, ?_⟩
  have hA : Adv c H (upd H4 c (.lst ([Nm t].set 0 (Nm (t + 1))))) (t + 1) := ⟨fun a o hn ha => by rw [upd_ne hn]; exact e14 _ _ ha, upd_same⟩
  generalize upd H4 c (.lst ([Nm t].set 0 (Nm (t + 1)))) = H5 at hA
  have hP5 := hP.adv hA
  have hl := hP.len
  refine b_asg (i := 3) (n_div (e_var (i := 2) rfl) (e_lenLm (hrow rfl hP5 (Ex.refl _) (e_var (i := 0) rfl) (nm 0) (fun _ _ => rfl)) ml) (by omega) (by omega)) (fun H6 e6 => ?_) scPick.nd
  have hd : t / zs.length ≤ 100000 := Nat.le_trans (Nat.div_le_self _ _) ht
  have hd0 : (0 : Int) ≤ ((t / zs.length : Nat) : Int) := Int.natCast_nonneg _
  have hm : t % zs.length < zs.length := Nat.mod_lt _ (by omega)
  refine b_ret (e_mod (e_intI (e_add (e_add (e_ixL (hrow rfl hP5 e6 (e_var (i := 0) rfl) (nm 0) (fun _ _ => rfl)) (n_mod (e_var (i := 2) rfl) (e_lenLm (hrow rfl hP5 e6 (e_var (i := 0) rfl) (nm 0) (fun _ _ => rfl)) ml) (by omega)) (at_nat (v := .int zs[t % zs.length]) (by rw [List.getElem?_map, List.getElem?_eq_getElem hm]; rfl))) (e_mul (e_var (i := 3) rfl) (nm 1009) (cmul_right (by decide)))) (e_mul (e_var (i := 3) rfl) (e_var (i := 2) rfl) (cmul_small ⟨hd0, by omega⟩))) mi) (e_var (i := 1) rfl) (by omega)) fun H7 e7 => ?_
  generalize zs[t % zs.length] + ((t / zs.length : Nat) : Int) * ((1009 : Nat) : Int) + ((t / zs.length : Nat) : Int) * (t : Int) = z
  have z0 : 0 ≤ z % (n : Int) := Int.emod_nonneg _ (by omega)
  have z1 : z % (n : Int) < (n : Int) := Int.emod_lt_of_pos _ (by omega)
  have e : z % (n : Int) = ((z % (n : Int)).toNat : Int) := by omega
  rw [e]
  exact q _ H7 (by omega) (hA.ex (e6.trans e7))
end
end K70
namespace K70
open PySem PySem.Spec PyProof.Rows L2 Evl Wx
section
variable {X : Cx} {e a b c0 : Expr} {es : List Expr} {σ : L2.St} {H : Hp} {v x y z : V} {pos : Pos} {m n k : Nat} {mg' : Str → Option Value}
/-- a pick, read with the heap it leaves -/
theorem x_pick {k' : Nat} {q1 : Pos} {p r c : Addr} {zs : List Int} {t : Nat} {Q : VK} (D : Df X.prog X.w X.K X.mg X.base 1 "_law_pick" ["pool", "amount"] spPick) (hr : Room k' X.A) (ha : E X a σ H (.ref p)) (hb : E X b σ H (Nm n)) (hP : Pool H p r c zs t) (hn : 0 < n) (ht : t ≤ 100000)
    (q : ∀ z H', z < n → Adv c H H' (t + 1) → Q (Nm z) H') (hk : 1 ≤ k' := by decide) (hg : Gl X "_law_pick" := by rfl) (ns : NS X a := by exact fun _ => rfl) (ns2 : NS X b := by exact fun _ => rfl) (hpl : (backTo pos (starEach [b] X.env)).any (·.1) = false := by rfl) : wE X (.Call (.Name "_law_pick" q1) [a, b] [] pos) σ H Q :=
  of_pe (pe_df2 D hr hk hg (by decide) ns ns2 hpl) (ha H (Ex.refl H) _ fun H1 e1 => hb H1 e1 _ fun H2 e2 => ⟨p, r, c, zs, t, n, rfl, hn, ht, hP.ex (e1.trans e2), fun z H' hz hA => q z H' hz ⟨fun a o hne h => hA.keep a o hne (e2 _ _ (e1 _ _ h)), hA.cnt⟩⟩)
end
section
variable {P : Program} {w : World} {K : PySem.W.Frag} {mg : Str → Option Value} {base : Heap}
/-- letters of the law's words -/
abbrev letS (u : List Nat) : Prop := ∀ c ∈ u, 97 ≤ c ∧ c ≤ 100
abbrev sDrawn : Stmt := topS 23
abbrev nDrawn : List Str := ["pool", "low", "most", "size", "n", "word", "way", "k"]
theorem scDrawn : FnScope nDrawn ["pool", "low", "most", "size"] (defScope sDrawn) := ⟨rfl, rfl, rfl, by decide +kernel, rfl, by decide +kernel, by decide +kernel⟩
def spDrawn : Sp := fun vs H Q _ => ∃ (p r c : Addr) (zs : List Int) (t low most size : Nat), vs = [.ref p, Nm low, Nm most, Nm size] ∧ 1 ≤ low ∧ low ≤ most ∧ most ≤ 30 ∧ 0 < size ∧ size ≤ 4 ∧ t ≤ 50000 ∧ Pool H p r c zs t ∧
  ∀ u H' t', low ≤ u.length → u.length ≤ most → letS u → t' ≤ t + 40 → Adv c H H' t' → Q (Tx u) H'
theorem letS_rep {u : List Nat} (h : letS u) : ∀ k, letS (reps k u)
  | 0, c, hc => by simp [reps] at hc
  | k + 1, c, hc => by
    unfold reps at hc
    rw [List.replicate_succ, List.flatten_cons, List.mem_append] at hc
    rcases hc with hc | hc
    · exact h c hc
    · exact letS_rep h k c hc
theorem reps_len (k : Nat) (u : List Nat) : (reps k u).length = k * u.length := Lyn.rep_len u k
theorem abcd_get {z : Nat} (h : z < 4) : ([97, 98, 99, 100] : List Nat)[z]? = some (97 + z) := by
  match z, h with
  | 0, _ => rfl
  | 1, _ => rfl
  | 2, _ => rfl
  | 3, _ => rfl
theorem flat_one (us : List Nat) : (us.map fun c => [c]).flatten = us := by
  induction us with
  | nil => rfl
  | cons x us ih => rw [List.map_cons, List.flatten_cons, ih]; rfl
theorem ok_drawn (D : Dx K mg "_law_drawn" sDrawn ["pool", "low", "most", "size"]) (R : Df P w K mg base 1 "_law_pick" ["pool", "amount"] spPick) (mr : mg "range" = none) : Df P w K mg base 2 "_law_drawn" ["pool", "low", "most", "size"] spDrawn := by
  refine D.ok scDrawn (fun vs H Q _ h => by obtain ⟨p, r, c, zs, t, low, most, size, rfl, _⟩ := h; rfl) fun f cdv A outer s H vs Q Er hr h => ?_
  obtain ⟨p, r, c, zs, t, low, most, size, rfl, hl1, hl2, hm, hs0, hs4, ht, hP, q⟩ := h
  -- n = low + pick
  refine b_asgX (i := 4) (x_add (e_var (i := 1) rfl) fun H1 e1 => ?_) scDrawn.nd
  refine x_pick R hr (e_var (i := 0) rfl) (n_add (n_sub (e_var (i := 2) rfl) (e_var (i := 1) rfl) hl2) (nm 1)) (hP.ex e1) (by omega) (by omega) fun z H2 hz a2 => ?_
  have a2 : Adv c H H2 (t + 1) := ⟨fun b o n h => a2.keep b o n (e1 _ _ h), a2.cnt⟩
  refine ⟨z, rfl, ?_⟩
  have hn1 : low ≤ low + z := by omega
  have hn2 : low + z ≤ most := by omega
  generalize low + z = n at hn1 hn2 ⊢
  have hP2 := hP.adv a2
  -- word = ''.join([..])
  refine b_asgX (i := 5) (of_pe (pe_join pE pE) ?_) scDrawn.nd
  refine (e_tx (w := [])) H2 (Ex.refl _) _ fun H3 e3 => ⟨⟨_, rfl⟩, ?_⟩
  have hP3 := hP2.ex e3
  have a3 := a2.ex e3
  refine x_comp (own := [("k", 7)]) (j := 7) (fun D i H' => (D ≠ c ∧ H D = none) ∧ ∃ us : List Nat, us.length = i ∧ letS us ∧ H' D = some (.lst (us.map fun c => Tx [c])) ∧ Adv c H H' (t + 1 + i)) rfl scDrawn.nd (blkOk_by (N := nDrawn) (sc := defScope sDrawn) (by decide +kernel)) (fun _ _ _ _ _ => pg_name (i := 7) scDrawn.nd rfl (Or.inl rfl)) (i_r1 (e_var (i := 4) rfl) mr (by omega)) (fun x => rfl) (fun D4 H4 e4 h4 => ?_) (fun D4 i x H4 hx hP4 s0 H0 C cl fp => ?_) (fun D4 H4 hP4 => ?_)
  · have hDc : D4 ≠ c := fun z => by
      rw [z, e4 _ _ hP3.cnt] at h4
      cases h4
    refine ⟨⟨hDc, ?_⟩, [], rfl, fun c hc => by simp at hc, upd_same, (a3.ex e4).ex (Ex.new h4)⟩
    cases h : H D4 with
    | none => rfl
    | some o =>
      rw [(a3.ex e4).keep _ _ hDc h] at h4
      cases h4
  · obtain ⟨⟨hDc, hDn⟩, us, hus, hlet, hD, a4⟩ := hP4
    have hin : i < n := by
      have := (List.getElem?_eq_some_iff.mp hx).1
      rwa [rng_len] at this
    rw [rng_get hin] at hx
    cases hx
    refine of_pe (pe_ix ix_str pE pE (fun _ _ => rfl)) ?_
    refine (e_tx (w := [97, 98, 99, 100])) H4 (Ex.refl _) _ fun H5 e5 => ?_
    refine x_pick R hr (e_var (i := 0) rfl) (e_var (i := 3) rfl) ((hP.adv a4).ex e5) hs0 (by omega) fun z H6 hz a6 => ?_
    have hD6 := a6.keep _ _ hDc (e5 _ _ hD)
    have a6 := (a4.ex e5).trans a6
    refine ⟨_, _, _, rfl, rfl, by rw [tx_len]; exact sz_of (by simp), by simpa using atI_nat (abcd_get (by omega)), us.map (fun c => Tx [c]), hD6, sz_lt (by rw [List.length_map]; omega), ⟨hDc, hDn⟩, us ++ [97 + z], by simp [hus], fun c hc => ?_, by rw [List.map_append]; exact upd_same, ⟨fun b o hb h => ?_, ?_⟩⟩
    · rcases List.mem_append.mp hc with hc | hc
      · exact hlet c hc
      · simp at hc
        omega
    · have hDb : b ≠ D4 := fun z => by
        rw [z, hDn] at h
        cases h
      rw [upd_ne hDb]
      exact a6.keep b o hb h
    · rw [upd_ne (Ne.symm hDc)]
      exact a6.cnt
  obtain ⟨⟨hDc, hDn⟩, us, hus, hlet, hD, a4⟩ := hP4
  rw [rng_len] at hus a4
  refine ⟨⟨#[]⟩, D4, (us.map fun c => [c]).map fun w => (⟨w.toArray⟩ : Str), rfl, rfl, .inl (by rw [map_tx, List.map_map]; exact sq_of hD), ?_, ?_⟩
  · rw [sum_lens, flat_one]
    show us.length + _ * 0 ≤ 16777216
    omega
  show wSs _ _ _ (List.set _ 5 (some (V.str (Txt.join ⟨#[]⟩ _)))) H4
  rw [Wx.join_nil, flat_one]
  clear hD hDn hDc e3 hP3 a3
  have hP4 := hP.adv a4
  -- way = pick 4
  refine b_asgX (i := 6) (x_pick R hr (e_var (i := 0) rfl) (nm 4) hP4 (by decide) (by omega) fun way H5 _ a5 => ?_) scDrawn.nd
  have a5 := a4.trans a5
  refine b_if (p := decide (way = 0) && decide (1 < n)) (ET.w (w_and (tn_eq (e_var (i := 6) rfl) (nm 0)) fun _ => w_and1 (tn_gt (e_var (i := 4) rfl) (nm 1)))) (fun hp H6 e6 => ?_) (fun hp H6 e6 => b_nil ?_)
  · rw [Bool.and_eq_true, decide_eq_true_eq, decide_eq_true_eq] at hp
    refine b_asgX (i := 7) (x_add (nm 1) fun H7 e7 => ?_) scDrawn.nd
    refine x_pick R hr (e_var (i := 0) rfl) (n_sub (e_var (i := 4) rfl) (nm 1) (by omega)) ((hP.adv a5).ex (e6.trans e7)) (by omega) (by omega) fun z H8 hz a8 => ?_
    have a8 := ((a5.ex (e6.trans e7)).trans a8)
    refine ⟨z, rfl, ?_⟩
    refine b_asg (i := 5) (e_slTo (e_mulS (e_slTo (e_var (i := 5) rfl) (e_var (i := 7) rfl) (by omega)) (e_var (i := 4) rfl) (by rw [List.length_take]; omega) (by omega)) (e_var (i := 4) rfl) ?_) (fun H9 e9 => b_nil ?_) scDrawn.nd
    · rw [reps_len]
      have : (us.take (1 + z)).length ≤ 30 := by rw [List.length_take]; omega
      exact Nat.le_trans (Nat.mul_le_mul (show n ≤ 30 by omega) this) (by decide)
    refine b_off (ET.is (ET.w (w_and (tn_eq (e_var (i := 6) rfl) (nm 1)) fun _ => w_and1 (tn_gt (e_var (i := 4) rfl) (nm 1)))) (by rw [hp.1]; rfl)) fun H10 e10 => b_ret (e_var (i := 5) rfl) fun H11 e11 => ?_
    have hlen : ((reps n (us.take (1 + z))).take n).length = n := by
      rw [List.length_take, reps_len, List.length_take]
      refine Nat.min_eq_left ?_
      exact Nat.le_trans (by omega) (Nat.mul_le_mul_left n (show 1 ≤ min (1 + z) us.length by omega))
    exact q _ H11 _ (by omega) (by omega) (fun c hc => letS_rep (fun c hc => hlet c (List.mem_of_mem_take hc)) n c (List.mem_of_mem_take hc)) (by omega) (a8.ex ((e9.trans e10).trans e11))
  · refine b_if (p := decide (way = 1) && decide (1 < n)) (ET.w (w_and (tn_eq (e_var (i := 6) rfl) (nm 1)) fun _ => w_and1 (tn_gt (e_var (i := 4) rfl) (nm 1)))) (fun hp H7 e7 => ?_) (fun hp H7 e7 => b_nil ?_)
    · refine b_asg (i := 7) (n_div (e_var (i := 4) rfl) (nm 2) (by decide) (by decide)) (fun H8 e8 => ?_) scDrawn.nd
      refine b_asg (i := 5) (e_catS (e_slTo (e_var (i := 5) rfl) (n_sub (e_var (i := 4) rfl) (e_var (i := 7) rfl) (by omega)) (by omega)) (e_revS (e_slTo (e_var (i := 5) rfl) (e_var (i := 7) rfl) (by omega)) (by rw [List.length_take]; omega)) (by rw [List.length_reverse, List.length_take, List.length_take]; omega)) (fun H9 e9 => b_nil ?_) scDrawn.nd
      refine b_ret (e_var (i := 5) rfl) fun H11 e11 => ?_
      have hlen : (us.take (n - n / 2) ++ (us.take (n / 2)).reverse).length = n := by
        rw [List.length_append, List.length_reverse, List.length_take, List.length_take]
        omega
      refine q _ H11 _ (by omega) (by omega) (fun c hc => ?_) (by omega) (a5.ex ((((e6.trans e7).trans e8).trans e9).trans e11))
      rcases List.mem_append.mp hc with hc | hc
      · exact hlet c (List.mem_of_mem_take hc)
      · exact hlet c (List.mem_of_mem_take (List.mem_reverse.mp hc))
    · exact b_ret (e_var (i := 5) rfl) fun H8 e8 => q _ H8 _ (by omega) (by omega) hlet (by omega) (a5.ex ((e6.trans e7).trans e8))
end
end K70
namespace K70
open PySem PySem.Spec PyProof.Rows L2 Evl Wx
section
variable {P : Program} {w : World} {K : PySem.W.Frag} {mg : Str → Option Value} {base : Heap}
abbrev sUnlike : Stmt := topS 5
theorem scUnlike : FnScope ["items"] ["items"] (defScope sUnlike) := ⟨rfl, rfl, rfl, by decide +kernel, rfl, by decide +kernel, by decide +kernel⟩
def spUnlike (K : PySem.W.Frag) : Sp := fun vs H Q _ => ∃ (l : Addr) (ws : List (List Nat)), vs = [.ref l] ∧ SqL K H l (ws.map Tx) ∧ ws.length < 4000 ∧ RetL ((Lyn.sortU ws).map Tx) H Q
theorem ok_unlike (D : Dx K mg "unlike" sUnlike ["items"]) (ms : mg "sorted" = none) (mt : mg "set" = none) : Df P w K mg base 1 "unlike" ["items"] (spUnlike K) := by
  refine D.ok scUnlike (fun vs H Q _ h => by obtain ⟨l, ws, rfl, _⟩ := h; rfl) fun f cdv A outer s H vs Q Er hr h => ?_
  obtain ⟨l, ws, rfl, hl, hz, q⟩ := h
  exact b_retL (l_sortedSet rfl (e_varL (i := 0) rfl hl) hz ms mt) fun p H1 hp e1 h1 => q p H1 hp e1 h1
abbrev sMir : Stmt := topS 7
theorem scMir : FnScope ["word"] ["word"] (defScope sMir) := ⟨rfl, rfl, rfl, by decide +kernel, rfl, by decide +kernel, by decide +kernel⟩
def rMir (vs : List V) (z : V) : Prop := ∃ u : List Nat, vs = [Tx u] ∧ u.length ≤ 1000 ∧ z = .bl (Pal.isM u)
theorem ok_mir (D : Dx K mg "is_mirror" sMir ["word"]) : Df P w K mg base 1 "is_mirror" ["word"] (spV rMir) := by
  refine D.ok scMir (fun vs H Q _ h => by obtain ⟨z, ⟨u, rfl, _⟩, _⟩ := h; rfl) fun f cdv A outer s H vs Q Er hr h => ?_
  obtain ⟨z, ⟨u, rfl, hl, rfl⟩, q⟩ := h
  exact b_ret (e_eqS (e_var (i := 0) rfl) (e_revS (e_var (i := 0) rfl) (by omega))) fun H1 e1 => q.go e1
abbrev sMirs : Stmt := topS 8
abbrev nMirs : List Str := ["word", "n", "j", "k"]
theorem scMirs : FnScope nMirs ["word"] (defScope sMirs) := ⟨rfl, rfl, rfl, by decide +kernel, rfl, by decide +kernel, by decide +kernel⟩
def rMirs (vs : List V) (xs : List V) : Prop := ∃ u : List Nat, vs = [Tx u] ∧ u.length ≤ 60 ∧ xs = (Pal.mirrorsF u).map Tx
theorem flat_small {α : Type} {n m : Nat} {f : Nat → List α} (h : ∀ j, j < n → (f j).length ≤ m) : ((List.range n).flatMap f).length ≤ n * m := by
  induction n with
  | zero => simp
  | succ n ih =>
    rw [List.range_succ, List.flatMap_append, List.length_append, Nat.succ_mul]
    have h1 := ih fun j hj => h j (by omega)
    have h2 := h n (by omega)
    have e : ([n].flatMap f) = f n := by simp
    rw [e]
    omega
theorem ok_mirs (D : Dx K mg "mirrors" sMirs ["word"]) (R1 : Df P w K mg base 1 "unlike" ["items"] (spUnlike K)) (R2 : Df P w K mg base 1 "is_mirror" ["word"] (spV rMir)) (mr : mg "range" = none) (ml : mg "len" = none) : Df P w K mg base 2 "mirrors" ["word"] (spL rMirs) := by
  refine D.ok scMirs (fun vs H Q _ h => by obtain ⟨z, ⟨u, rfl, _⟩, _⟩ := h; rfl) fun f cdv A outer s H vs Q Er hr h => ?_
  obtain ⟨z, ⟨u, rfl, hl, rfl⟩, q⟩ := h
  refine b_asg (i := 1) (e_lenS (e_var (i := 0) rfl) ml (by omega)) (fun H1 e1 => ?_) scMirs.nd
  have hcomp : ((Pal.pairs u).map fun (p : Nat × Nat) => Pal.sub u p.1 p.2).map Tx = (List.range u.length).flatMap fun j => ((List.range' (j + 1) (u.length + 1 - (j + 1))).filter fun k => Pal.isM (Pal.sub u j k)).map fun k => Tx (Pal.sub u j k) := by
    unfold Pal.pairs
    rw [List.map_flatMap, List.map_flatMap]
    congr 1
    funext j
    rw [List.map_map, List.map_map, show u.length + 1 - (j + 1) = u.length - j by omega]
    rfl
  have hsmall : ((List.range u.length).flatMap fun j => ((List.range' (j + 1) (u.length + 1 - (j + 1))).filter fun k => Pal.isM (Pal.sub u j k)).map fun k => Tx (Pal.sub u j k)).length ≤ u.length * u.length := flat_small fun j hj => by
    rw [List.length_map]
    refine Nat.le_trans (List.length_filter_le _ _) ?_
    rw [List.length_range']
    omega
  have h3600 : u.length * u.length ≤ 3600 := Nat.mul_le_mul hl hl
  refine b_retL (l_callL R1 hr (ys := (Pal.mirrorsF u).map Tx) (xs := ((Pal.pairs u).map fun (p : Nat × Nat) => Pal.sub u p.1 p.2).map Tx) ?_ fun q1 H2 h2 Q k' => ⟨q1, (Pal.pairs u).map fun (p : Nat × Nat) => Pal.sub u p.1 p.2, rfl, sq_of h2, ?_, k'⟩) fun p H2 hp e2 h2 => q p H2 (fresh_back e1 hp) (e1.trans e2) h2
  · rw [hcomp]
    exact l_comp2If (own := [("j", 2), ("k", 3)]) (j := 2) (j1 := 3) (as := List.range u.length) (A := Nm) (bs := fun j => List.range' (j + 1) (u.length + 1 - (j + 1))) (B := Nm) [3] (fun j k => Pal.isM (Pal.sub u j k)) (fun j k => Tx (Pal.sub u j k)) rfl scMirs.nd (blkOk_by (N := nMirs) (sc := defScope sMirs) (by decide +kernel)) (by decide)
      (fun _ _ _ _ _ => pg_name (i := 2) scMirs.nd rfl (Or.inl rfl)) (fun _ _ _ _ _ => pg_name (i := 3) scMirs.nd rfl (Or.inl rfl)) (i_n1 (e_var (i := 1) rfl) mr (by omega)) (by omega) (fun x => rfl) (fun x y => rfl)
      (fun j hj H1 e1 _ _ _ _ _ => n_r2 (n_add (m := j) (e_var (i := 2) rfl) (nm 1)) (n_add (m := u.length) (e_var (i := 1) rfl) (nm 1)) mr (by rw [List.mem_range] at hj; omega) (by omega))
      (fun j hj k hk H1 e1 _ _ _ _ _ => t_val (e_call R2 hr (a_one (e_sl (e_var (i := 0) rfl) (e_var (i := 2) rfl) (e_var (i := 3) rfl) (by omega))) (spV.val ⟨_, rfl, by rw [List.length_take, List.length_drop]; omega, rfl⟩)))
      fun j hj k hk hp H1 e1 _ _ _ _ _ => e_sl (e_var (i := 0) rfl) (e_var (i := 2) rfl) (e_var (i := 3) rfl) (by omega)
  · have := congrArg List.length hcomp
    rw [List.length_map] at this
    omega
end
end K70
namespace K70
open PySem PySem.Spec PyProof.Rows L2 Evl Wx
section
variable {P : Program} {w : World} {K : PySem.W.Frag} {mg : Str → Option Value} {base : Heap}
abbrev sRadii : Stmt := topS 9
abbrev nRadii : List Str := ["word", "found", "centre", "low", "high", "size"]
theorem scRadii : FnScope nRadii ["word"] (defScope sRadii) := ⟨rfl, rfl, rfl, by decide +kernel, rfl, by decide +kernel, by decide +kernel⟩
def rRadii (vs : List V) (xs : List V) : Prop := ∃ u : List Nat, vs = [Tx u] ∧ 1 ≤ u.length ∧ u.length ≤ 1000 ∧ xs = (Pal.radiiF u).map Nm
theorem get_at {u : List Nat} {i : Nat} (h : i < u.length) : u[i]? = some u[i] := List.getElem?_eq_getElem h
theorem ok_radii (D : Dx K mg "radii" sRadii ["word"]) (mr : mg "range" = none) (ml : mg "len" = none) (mt : mg "tuple" = none) : Df P w K mg base 1 "radii" ["word"] (spU rRadii) := by
  refine D.ok scRadii (fun vs H Q _ h => by obtain ⟨z, ⟨u, rfl, _⟩, _⟩ := h; rfl) fun f cdv A outer s H vs Q Er hr h => ?_
  obtain ⟨z, ⟨u, rfl, hl1, hl, rfl⟩, q⟩ := h
  refine b_asgL (i := 1) (l_disp a_nil (by decide)) (fun fp H0 hfp e0 h0 => ?_) scRadii.nd
  refine b_for (j := 2) (i_r1 (n := 2 * u.length - 1) (n_sub (n_mul (m := 2) (nm 2) (e_lenS (e_var (i := 0) rfl) ml (by omega)) (by decide)) (nm 1) (by omega)) mr (by omega)) (fun i σ' H' => H' fp = some (.lst (((List.range i).map (Pal.rad u)).map Nm)) ∧ Ex H H' ∧ ∃ o2 o3 o4 o5, σ' = [some (Tx u), some (.ref fp), o2, o3, o4, o5])
    (fun H1 e1 => ⟨e1 _ _ h0, e0.trans e1, none, none, none, none, rfl⟩) (fun i x σ' H' hx hP => ?_) (fun σ' H' hP => ?_) PassesOwn.never rfl scRadii.nd
  · obtain ⟨hF, eH, o2, o3, o4, o5, rfl⟩ := hP
    have hin : i < 2 * u.length - 1 := by
      have := (List.getElem?_eq_some_iff.mp hx).1
      rwa [rng_len] at this
    rw [rng_get hin] at hx
    cases hx
    obtain ⟨r1, r2, r3⟩ := Pal.rad_spec u (0 + i)
    refine b_par (i := 3) (j := 4) (n_div (e_var (i := 2) rfl) (nm 2) (by decide) (by decide)) (n_div (n_add (e_var (i := 2) rfl) (nm 1)) (nm 2) (by decide) (by decide)) (fun H1 e1 => ?_) rfl scRadii.nd
    refine b_asg (i := 5) (nm 0) (fun H2 e2 => ?_) scRadii.nd
    refine b_while (fun m σ' H' => ∃ sz, m = Pal.rad u (0 + i) - sz ∧ sz ≤ Pal.rad u (0 + i) ∧ H' fp = some (.lst (((List.range i).map (Pal.rad u)).map Nm)) ∧ Ex H H' ∧ σ' = [some (Tx u), some (.ref fp), some (Nm (0 + i)), some (Nm ((0 + i) / 2)), some (Nm ((0 + i + 1) / 2)), some (Nm sz)]) (Pal.rad u (0 + i))
      ⟨0, rfl, Nat.zero_le _, e2 _ _ (e1 _ _ hF), (eH.trans e1).trans e2, rfl⟩ (fun m σ' H' hW => ?_) PassesOwn.never
    obtain ⟨sz, rfl, hsz, hF3, eH3, rfl⟩ := hW
    refine ⟨Pal.okC u (0 + i) sz, ?_, fun hp H4 e4 => ?_, fun hp H4 e4 => ?_⟩
    · refine ET.is (p := decide ((0 : Int) ≤ (((0 + i) / 2 : Nat) : Int) - (sz : Int)) && (decide ((0 + i + 1) / 2 + sz < u.length) && decide (u[(0 + i) / 2 - sz]? = u[(0 + i + 1) / 2 + sz]?))) (ET.w (w_and (t_ge (e_sub (e_var (i := 3) rfl) (e_var (i := 5) rfl)) (e_int (i := 0))) fun ha => w_and (tn_lt (n_add (e_var (i := 4) rfl) (e_var (i := 5) rfl)) (e_lenS (e_var (i := 0) rfl) ml (by omega))) fun hb => w_and1 ?_)) ?_
      · have ha := of_decide_eq_true ha
        have hb := of_decide_eq_true hb
        have g1 : (0 + i) / 2 - sz < u.length := by omega
        refine ET.is (tc_eq (e_ixS (e_var (i := 0) rfl) (n_sub (e_var (i := 3) rfl) (e_var (i := 5) rfl) (by omega)) (get_at g1) (by omega)) (e_ixS (e_var (i := 0) rfl) (n_add (e_var (i := 4) rfl) (e_var (i := 5) rfl)) (get_at hb) (by omega))) ?_
        rw [get_at g1, get_at hb]
        exact decide_eq_decide.mpr ⟨fun h => by rw [h], fun h => Option.some.inj h⟩
      · unfold Pal.okC
        congr 1
        exact decide_eq_decide.mpr (by omega)
    · have hlt : sz < Pal.rad u (0 + i) := by
        rcases Nat.lt_or_ge sz (Pal.rad u (0 + i)) with l | l
        · exact l
        · have : sz = Pal.rad u (0 + i) := by omega
          rw [this, r2] at hp
          cases hp
      exact b_augN (i := 5) (m := sz) (n := 1) rfl (nm 1) (fun H5 e5 => b_nil ⟨_, by omega, sz + 1, rfl, hlt, e5 _ _ (e4 _ _ hF3), (eH3.trans e4).trans e5, rfl⟩) scRadii.nd
    · have heq : sz = Pal.rad u (0 + i) := by
        rcases Nat.lt_or_ge sz (Pal.rad u (0 + i)) with l | l
        · rw [r1 _ l] at hp
          cases hp
        · omega
      refine b_app (e4 _ _ hF3) (e_var (i := 1) rfl) (e_var (i := 5) rfl) (by simp; omega) fun H5 e5 => b_nil ⟨?_, Ex.mut ((eH3.trans e4).trans e5) hfp, _, _, _, _, rfl⟩
      rw [upd_same, List.range_succ, List.map_append, List.map_append, heq]
      simp
  · obtain ⟨hF, eH, o2, o3, o4, o5, rfl⟩ := hP
    rw [rng_len] at hF
    exact b_retU (u_tuple (e_varL (i := 1) rfl (sq_of hF)) mt) fun p H1 hp e1 h1 => q.go eH hp e1 h1
/-! ### the longest -/
abbrev sLong : Stmt := topS 10
abbrev nLong : List Str := ["word", "best", "j", "k"]
theorem scLong : FnScope nLong ["word"] (defScope sLong) := ⟨rfl, rfl, rfl, by decide +kernel, rfl, by decide +kernel, by decide +kernel⟩
def spLong : Sp := fun vs H Q _ => ∃ u : List Nat, vs = [Tx u] ∧ 1 ≤ u.length ∧ u.length ≤ 1000 ∧ ∀ x, Pal.Longest u x → RetV (Tx x) H Q
/-- the best of what was seen: every pair before (j, k) -/
def Best (u x : List Nat) (S : Nat → Nat → Prop) : Prop := (x = [] ∨ x ∈ Pal.mirrorsF u) ∧ ∀ j k, S j k → j < k → k ≤ u.length → Pal.isM (Pal.sub u j k) = true → k - j ≤ x.length
theorem ok_long (D : Dx K mg "longest_mirror" sLong ["word"]) (R : Df P w K mg base 1 "is_mirror" ["word"] (spV rMir)) (mr : mg "range" = none) (ml : mg "len" = none) : Df P w K mg base 2 "longest_mirror" ["word"] spLong := by
  refine D.ok scLong (fun vs H Q _ h => by obtain ⟨u, rfl, _⟩ := h; rfl) fun f cdv A outer s H vs Q Er hr h => ?_
  obtain ⟨u, rfl, hl1, hl, q⟩ := h
  refine b_asg (i := 1) (e_tx (w := [])) (fun H0 e0 => ?_) scLong.nd
  refine b_for (j := 2) (i_r1 (e_lenS (e_var (i := 0) rfl) ml (by omega)) mr (by omega)) (fun i σ' H' => Ex H H' ∧ ∃ x o2 o3, Best u x (fun j _ => j < i) ∧ σ' = [some (Tx u), some (Tx x), o2, o3])
    (fun H1 e1 => ⟨e0.trans e1, [], none, none, ⟨.inl rfl, fun j k h => absurd h (Nat.not_lt_zero _)⟩, rfl⟩) (fun i v σ' H' hv hP => ?_) (fun σ' H' hP => ?_) PassesOwn.never rfl scLong.nd
  · obtain ⟨eH, x, o2, o3, hB, rfl⟩ := hP
    have hin : i < u.length := by
      have := (List.getElem?_eq_some_iff.mp hv).1
      rwa [rng_len] at this
    rw [rng_get hin] at hv
    cases hv
    refine b_for (j := 3) (n_r2 (n_add (m := 0 + i) (e_var (i := 2) rfl) (nm 1)) (n_add (e_lenS (e_var (i := 0) rfl) ml (by omega)) (nm 1)) mr (by omega) (by omega)) (fun t σ' H' => Ex H H' ∧ ∃ x o3, Best u x (fun j k => j < i ∨ (j = i ∧ k < i + 1 + t)) ∧ σ' = [some (Tx u), some (Tx x), some (Nm (0 + i)), o3])
      (fun H1 e1 => ⟨eH.trans e1, x, o3, ⟨hB.1, fun j k hjk h1 h2 h3 => hB.2 j k (by omega) h1 h2 h3⟩, rfl⟩) (fun t v σ' H' hv hP => ?_) (fun σ' H' hP => ?_) PassesOwn.never rfl scLong.nd
    · obtain ⟨eH2, x2, o3', hB2, rfl⟩ := hP
      have htn : t < u.length + 1 - (0 + i + 1) := by
        have := (List.getElem?_eq_some_iff.mp hv).1
        rwa [rng_len] at this
      rw [rng_get htn] at hv
      cases hv
      have hkl : 0 + i + 1 + t ≤ u.length := by omega
      have hsl := Pal.sub_len (u := u) (j := 0 + i) hkl
      have hx2 : x2.length ≤ 1000 := by
        rcases hB2.1 with rfl | hm
        · simp
        · have := (Pal.mirror_ne hm).2.2
          omega
      refine b_when (ET.w (w_and (tn_gt (n_sub (m := 0 + i + 1 + t) (n := 0 + i) (e_var (i := 3) rfl) (e_var (i := 2) rfl) (by omega)) (e_lenS (e_var (i := 1) rfl) ml (by omega))) fun _ => w_and1 (t_val (e_call R hr (a_one (e_sl (i' := 0 + i) (j' := 0 + i + 1 + t) (e_var (i := 0) rfl) (e_var (i := 2) rfl) (e_var (i := 3) rfl) (by omega))) (spV.val ⟨Pal.sub u (0 + i) (0 + i + 1 + t), rfl, by omega, rfl⟩))))) (fun hp H3 e3 => ?_) (fun hp H3 e3 => b_nil ⟨eH2.trans e3, x2, _, ⟨hB2.1, fun j k hjk h1 h2 h3 => ?_⟩, rfl⟩)
      · rw [Bool.and_eq_true, decide_eq_true_eq] at hp
        refine b_asg (i := 1) (e_sl (i' := 0 + i) (j' := 0 + i + 1 + t) (e_var (i := 0) rfl) (e_var (i := 2) rfl) (e_var (i := 3) rfl) (by omega)) (fun H4 e4 => b_nil (b_nil ⟨(eH2.trans e3).trans e4, Pal.sub u (0 + i) (0 + i + 1 + t), _, ⟨.inr (Pal.mem_mirrors.mpr ⟨_, _, by omega, hkl, hp.2, rfl⟩), fun j k hjk h1 h2 h3 => ?_⟩, rfl⟩)) scLong.nd
        rcases Nat.lt_or_ge k (i + 1 + t) with l | l
        · have := hB2.2 j k (by omega) h1 h2 h3
          omega
        · rcases hjk with hjk | ⟨rfl, hjk⟩
          · have := hB2.2 j k (.inl hjk) h1 h2 h3
            omega
          · omega
      · by_cases hold : j < i ∨ (j = i ∧ k < i + 1 + t)
        · exact hB2.2 j k hold h1 h2 h3
        · have e1 : j = 0 + i := by omega
          have e2 : k = 0 + i + 1 + t := by omega
          subst e1
          subst e2
          rw [h3, Bool.and_true, decide_eq_false_iff_not] at hp
          omega
    · obtain ⟨eH2, x2, o3', hB2, rfl⟩ := hP
      rw [rng_len] at hB2
      exact b_nil ⟨eH2, x2, _, _, ⟨hB2.1, fun j k hjk h1 h2 h3 => hB2.2 j k (by omega) h1 h2 h3⟩, rfl⟩
  · obtain ⟨eH, x, o2, o3, hB, rfl⟩ := hP
    rw [rng_len] at hB
    have hx : Pal.Longest u x := by
      refine ⟨?_, fun j k h1 h2 h3 => hB.2 j k (by omega) h1 h2 h3⟩
      rcases hB.1 with rfl | h
      · have := hB.2 0 1 (by omega) (by omega) hl1 (by
          have := Pal.row_ex (u := u) (k := 1) hl1 (by decide)
          exact this)
        simp at this
      · exact h
    exact b_ret (e_var (i := 1) rfl) fun H1 e1 => (q x hx).go (eH.trans e1)
end
end K70
namespace K70
open PySem PySem.Spec PyProof.Rows L2 Evl Wx
section
variable {P : Program} {w : World} {K : PySem.W.Frag} {mg : Str → Option Value} {base : Heap}
theorem flat_le {u : List Nat} : ∀ {ws : List (List Nat)}, u ∈ ws → u.length ≤ ws.flatten.length ∧ ∀ c ∈ u, c ∈ ws.flatten
  | x :: ws, h => by
    rcases List.mem_cons.mp h with rfl | h
    · exact ⟨by simp, fun c hc => by simp [hc]⟩
    · obtain ⟨h1, h2⟩ := flat_le h
      exact ⟨by rw [List.flatten_cons, List.length_append]; omega, fun c hc => by rw [List.flatten_cons]; exact List.mem_append_right _ (h2 c hc)⟩
theorem isWd_part {u : List Nat} {ws : List (List Nat)} (h : isWd ws.flatten = true) (hu : u ∈ ws) : isWd u = true := by
  unfold isWd at h ⊢
  rw [Bool.and_eq_true, decide_eq_true_eq, List.all_eq_true] at h ⊢
  obtain ⟨h1, h2⟩ := flat_le hu
  exact ⟨by omega, fun c hc => h.2 c (h2 c hc)⟩

abbrev sClosed : Stmt := topS 13
theorem scClosed : FnScope ["word", "k"] ["word"] (defScope sClosed) := ⟨rfl, rfl, rfl, by decide +kernel, rfl, by decide +kernel, by decide +kernel⟩
def rClosed (vs : List V) (z : V) : Prop := ∃ u : List Nat, vs = [Tx u] ∧ u ≠ [] ∧ u.length ≤ 1000 ∧ z = Tx (Pal.closedF u)
theorem ok_closed (D : Dx K mg "closed_mirror" sClosed ["word"]) (R : Df P w K mg base 1 "is_mirror" ["word"] (spV rMir)) (mr : mg "range" = none) (ml : mg "len" = none) : Df P w K mg base 2 "closed_mirror" ["word"] (spV rClosed) := by
  refine D.ok scClosed (fun vs H Q _ h => by obtain ⟨z, ⟨u, rfl, _⟩, _⟩ := h; rfl) fun f cdv A outer s H vs Q Er hr h => ?_
  obtain ⟨z, ⟨u, rfl, hne, hl, rfl⟩, q⟩ := h
  obtain ⟨c1, c2, c3⟩ := Pal.closedK_spec hne
  refine b_for (j := 1) (i_r1 (e_lenS (e_var (i := 0) rfl) ml (by omega)) mr (by omega)) (fun i σ' H' => Ex H H' ∧ i ≤ Pal.closedK u ∧ ∃ o, σ' = [some (Tx u), o]) (fun H1 e1 => ⟨e1, Nat.zero_le _, none, rfl⟩) (fun i x σ' H' hx hP => ?_) (fun σ' H' hP => ?_) PassesOwn.never rfl scClosed.nd
  · obtain ⟨eH, hi, o, rfl⟩ := hP
    have hin : i < u.length := by omega
    rw [rng_get hin] at hx
    cases hx
    refine b_when (t_val (e_call R hr (a_one (e_slFrom (e_var (i := 0) rfl) (e_var (i := 1) rfl) (by omega))) (spV.val ⟨u.drop (0 + i), rfl, by rw [List.length_drop]; omega, rfl⟩))) (fun hp H1 e1 => ?_) (fun hp H1 e1 => b_nil ⟨eH.trans e1, ?_, _, rfl⟩)
    · have e : Pal.closedK u = 0 + i := by
        rcases Nat.lt_or_ge i (Pal.closedK u) with l | l
        · rw [c3 (0 + i) (by omega)] at hp
          cases hp
        · omega
      unfold Pal.closedF at q
      rw [e] at q
      exact b_ret (e_catS (e_var (i := 0) rfl) (e_revS (e_slTo (e_var (i := 0) rfl) (e_var (i := 1) rfl) (by omega)) (by rw [List.length_take]; omega)) (by rw [List.length_reverse, List.length_take]; omega)) fun H2 e2 => q.go ((eH.trans e1).trans e2)
    · rcases Nat.lt_or_ge i (Pal.closedK u) with l | l
      · exact l
      · have e : Pal.closedK u = 0 + i := by omega
        rw [← e, c2] at hp
        cases hp
  · obtain ⟨eH, hi, o, rfl⟩ := hP
    rw [rng_len] at hi
    omega
abbrev sIsMs : Stmt := topS 12
theorem scIsMs : FnScope ["word", "value", "part"] ["word", "value"] (defScope sIsMs) := ⟨rfl, rfl, rfl, by decide +kernel, rfl, by decide +kernel, by decide +kernel⟩
def spIsMs (K : PySem.W.Frag) : Sp := fun vs H Q _ => ∃ (u : List Nat) (p : Addr) (ws : List (List Nat)), vs = [Tx u, .ref p] ∧ SqT K H p (ws.map Tx) ∧ Pal.Cut u ws ∧ isWd u = true ∧ RetV (.bl true) H Q
theorem cut_len {u : List Nat} {ws : List (List Nat)} (h : Pal.Cut u ws) : ws.length ≤ u.length := by
  have key : ∀ ws : List (List Nat), (∀ p ∈ ws, p ≠ []) → ws.length ≤ ws.flatten.length := by
    intro ws
    induction ws with
    | nil => exact fun _ => Nat.zero_le _
    | cons x r ih =>
      intro h
      have h1 := ih fun p hp => h p (List.mem_cons_of_mem _ hp)
      have h2 := List.length_pos_iff.mpr (h x List.mem_cons_self)
      rw [List.flatten_cons, List.length_append, List.length_cons]
      omega
  rw [← h.1]
  exact key ws fun p hp => (h.2 p hp).1
theorem ok_isms (D : Dx K mg "is_mirrors" sIsMs ["word", "value"]) (R1 : Df P w K mg base 2 "is_words" ["value"] (spWords K)) (R2 : Df P w K mg base 1 "is_mirror" ["word"] (spV rMir)) (ma : mg "all" = none) (ml : mg "len" = none) : Df P w K mg base 3 "is_mirrors" ["word", "value"] (spIsMs K) := by
  refine D.ok scIsMs (fun vs H Q _ h => by obtain ⟨u, p, ws, rfl, _⟩ := h; rfl) fun f cdv A outer s H vs Q Er hr h => ?_
  obtain ⟨u, p, ws, rfl, hp, hc, hw, q⟩ := h
  have hl60 : u.length ≤ 60 := by
    unfold isWd at hw
    rw [Bool.and_eq_true, decide_eq_true_eq] at hw
    exact hw.1
  have hfl := hc.1
  have hwl := cut_len hc
  have hpl : ∀ x ∈ ws, x.length ≤ 60 := fun x hx => by have := (flat_le hx).1; rw [hfl] at this; omega
  have hall : ws.all isWd = true := List.all_eq_true.mpr fun x hx => isWd_part (by rw [hfl]; exact hw) hx
  refine b_off (ET.is (ET.w (w_or (t_not (t_val (e_call R1 hr (a_one (e_var (i := 1) rfl)) fun H1 e1 Q k E => ⟨p, ws, rfl, ex_t e1 hp, by omega, fun x hx => by have := hpl x hx; omega, k⟩))) fun _ => w_or1 (t_neS (e_joinT e_tx (e_varT (i := 1) rfl hp) (by rw [hfl]; omega)) (e_var (i := 0) rfl)))) ?_) fun H1 e1 => ?_
  · rw [hall, hfl]
    simp
  · refine b_ret (E.is (e_all (bs := ws.map fun x => decide (0 < x.length) && Pal.isM x) rfl (EvL.r ?_) ma) ?_) fun H2 e2 => q.go (e1.trans e2)
    · rw [List.map_map]
      exact l_comp (own := [("part", 2)]) (j := 2) (A := Tx) (fun x => V.bl (decide (0 < x.length) && Pal.isM x)) rfl scIsMs.nd (blkOk_by (N := ["word", "value", "part"]) (sc := defScope sIsMs) (by decide +kernel)) (fun _ _ _ _ _ => pg_name (i := 2) scIsMs.nd rfl (Or.inl rfl)) (i_tup (e_varT (i := 1) rfl (ex_t e1 hp))) (by omega) (fun x => rfl) fun x hm H2 e2 _ _ _ _ _ => e_and (en_gt (e_lenS (e_var (i := 2) rfl) ml (by have := hpl x hm; omega)) (nm 0)) fun _ => e_one (e_call R2 hr (a_one (e_var (i := 2) rfl)) (spV.val ⟨x, rfl, by have := hpl x hm; omega, rfl⟩))
    · rw [List.all_map]
      have : (ws.all fun x => (id ∘ fun x => decide (0 < x.length) && Pal.isM x) x) = true := List.all_eq_true.mpr fun x hx => by
        show (decide (0 < x.length) && Pal.isM x) = true
        rw [(hc.2 x hx).2, decide_eq_true (List.length_pos_iff.mpr (hc.2 x hx).1)]
        rfl
      exact congrArg V.bl this
/-! ### the border row -/
abbrev sRow : Stmt := topS 16
abbrev nRow : List Str := ["word", "found", "k", "place"]
theorem scRow : FnScope nRow ["word"] (defScope sRow) := ⟨rfl, rfl, rfl, by decide +kernel, rfl, by decide +kernel, by decide +kernel⟩
def rRow (vs : List V) (xs : List V) : Prop := ∃ u : List Nat, vs = [Tx u] ∧ u.length ≤ 1000 ∧ xs = (Pal.rowF u).map Nm
theorem pre_get {u : List Nat} {i k : Nat} (hk : 0 < k) (hi : k ≤ i) : (((List.range' 1 i).map (Pal.F u)).map Nm)[k - 1]? = some (Nm (Pal.F u k)) := by
  rw [List.getElem?_map, List.getElem?_map, List.getElem?_range' (by omega), show 1 + 1 * (k - 1) = k by omega]
  rfl
theorem F_one (u : List Nat) : Pal.F u 1 = 0 := Pal.F_eq ⟨by decide, Pal.Bd.zero _ _ _, fun k' h _ => by omega⟩
theorem ok_row (D : Dx K mg "border_row" sRow ["word"]) (mr : mg "range" = none) (ml : mg "len" = none) (mt : mg "tuple" = none) : Df P w K mg base 1 "border_row" ["word"] (spU rRow) := by
  refine D.ok scRow (fun vs H Q _ h => by obtain ⟨z, ⟨u, rfl, _⟩, _⟩ := h; rfl) fun f cdv A outer s H vs Q Er hr h => ?_
  obtain ⟨z, ⟨u, rfl, hl, rfl⟩, q⟩ := h
  refine b_asgL (i := 1) (l_disp a_nil (by decide)) (fun fp H0 hfp e0 h0 => ?_) scRow.nd
  refine b_asg (i := 2) (nm 0) (fun H1 e1 => ?_) scRow.nd
  refine b_for (j := 3) (i_r1 (e_lenS (e_var (i := 0) rfl) ml (by omega)) mr (by omega)) (fun i σ' H' => H' fp = some (.lst (((List.range' 1 i).map (Pal.F u)).map Nm)) ∧ Ex H H' ∧ ∃ o, σ' = [some (Tx u), some (.ref fp), some (Nm (if i = 0 then 0 else Pal.F u i)), o])
    (fun H2 e2 => ⟨e2 _ _ (e1 _ _ h0), (e0.trans e1).trans e2, none, rfl⟩) (fun i x σ' H' hx hP => ?_) (fun σ' H' hP => ?_) PassesOwn.never rfl scRow.nd
  · obtain ⟨hF, eH, o, rfl⟩ := hP
    have hin : i < u.length := by
      have := (List.getElem?_eq_some_iff.mp hx).1
      rwa [rng_len] at this
    rw [rng_get hin, Nat.zero_add] at hx
    cases hx
    have hnext : ∀ k, Pal.IsF u (i + 1) k → ((List.range' 1 i).map (Pal.F u)).map Nm ++ [Nm k] = ((List.range' 1 (i + 1)).map (Pal.F u)).map Nm := fun k hk => by
      rw [List.range'_1_concat, List.map_append, List.map_append]
      congr 1
      rw [Nat.add_comm 1 i, ← Pal.F_eq hk]
      rfl
    refine b_if (tn_gt (e_var (i := 3) rfl) (nm 0)) (fun hp H2 e2 => ?_) (fun hp H2 e2 => b_nil ?_)
    · have hi0 : 0 < i := of_decide_eq_true hp
      have hk0 : (if i = 0 then 0 else Pal.F u i) = Pal.F u i := if_neg (by omega)
      rw [hk0]
      obtain ⟨f1, f2, f3⟩ := Pal.F_is (x := u) hi0
      refine b_while (fun m σ' H' => ∃ k, m = k ∧ k < i ∧ Pal.Seek u u i i k ∧ H' fp = some (.lst (((List.range' 1 i).map (Pal.F u)).map Nm)) ∧ Ex H H' ∧ σ' = [some (Tx u), some (.ref fp), some (Nm k), some (Nm i)]) (Pal.F u i)
        ⟨Pal.F u i, rfl, f1, Pal.Seek.start f2 f3, e2 _ _ hF, eH.trans e2, rfl⟩ (fun m σ' H' hW => ?_) PassesOwn.never
      obtain ⟨k, rfl, hki, hS, hF3, eH3, rfl⟩ := hW
      have hkn : m < u.length := by omega
      have hgrow : Pal.Grow u u i m ↔ u[i] = u[m] := by
        unfold Pal.Grow
        rw [get_at hin, get_at hkn]
        exact ⟨fun h => Option.some.inj h.2, fun h => ⟨hkn, by rw [h]⟩⟩
      refine ⟨_, ET.w (w_and (tn_gt (e_var (i := 2) rfl) (nm 0)) fun _ => w_and1 (tc_ne (e_ixS (e_var (i := 0) rfl) (e_var (i := 3) rfl) (get_at hin) (by omega)) (e_ixS (e_var (i := 0) rfl) (e_var (i := 2) rfl) (get_at hkn) (by omega)))), fun hq H4 e4 => ?_, fun hq H4 e4 => ?_⟩
      · rw [Bool.and_eq_true, decide_eq_true_eq, Bool.not_eq_true', decide_eq_false_iff_not] at hq
        have hng : ¬ Pal.Grow u u i m := fun z => hq.2 (hgrow.mp z)
        have hlt := (Pal.F_is (x := u) hq.1).1
        exact b_asg (i := 2) (e_ixL (e_varL (i := 1) rfl (sq_of (e4 _ _ hF3))) (n_sub (e_var (i := 2) rfl) (nm 1) (by omega)) (at_nat (pre_get hq.1 (by omega)))) (fun H5 e5 => b_nil ⟨_, hlt, _, rfl, by omega, hS.back (by omega) hq.1 hng, e5 _ _ (e4 _ _ hF3), (eH3.trans e4).trans e5, rfl⟩) scRow.nd
      · -- k = k + 1 if .. else 0
        have hstep : ∃ r, Pal.IsF u (i + 1) r ∧ r = if u[i] = u[m] then m + 1 else 0 := by
          by_cases he : u[i] = u[m]
          · obtain ⟨g1, g2⟩ := hS.grow hin (hgrow.mpr he)
            exact ⟨m + 1, ⟨by omega, g1, g2⟩, by rw [if_pos he]⟩
          · have hm0 : m = 0 := by
              rcases Nat.eq_zero_or_pos m with l | l
              · exact l
              · rw [decide_eq_true l, decide_eq_false he] at hq
                cases hq
            subst hm0
            obtain ⟨g1, g2⟩ := hS.stop hin fun z => he (hgrow.mp z)
            exact ⟨0, ⟨by omega, g1, g2⟩, by rw [if_neg he]⟩
        obtain ⟨r, hr1, hr2⟩ := hstep
        refine b_asg (i := 2) (v := Nm r) (e_if (tc_eq (e_ixS (e_var (i := 0) rfl) (e_var (i := 3) rfl) (get_at hin) (by omega)) (e_ixS (e_var (i := 0) rfl) (e_var (i := 2) rfl) (get_at hkn) (by omega))) (fun hh => E.is (n_add (e_var (i := 2) rfl) (nm 1)) (by rw [hr2, if_pos (of_decide_eq_true hh)])) (fun hh => E.is (nm 0) (by rw [hr2, if_neg (of_decide_eq_false hh)]))) (fun H5 e5 => b_nil ?_) scRow.nd
        refine b_app (e5 _ _ (e4 _ _ hF3)) (e_var (i := 1) rfl) (e_var (i := 2) rfl) (by simp; omega) fun H6 e6 => b_nil ⟨?_, Ex.mut (((eH3.trans e4).trans e5).trans e6) hfp, some (Nm i), ?_⟩
        · rw [upd_same, hnext r hr1]
        · have hk1 : (if i + 1 = 0 then 0 else Pal.F u (i + 1)) = r := by rw [if_neg (by omega), Pal.F_eq hr1]
          rw [hk1]
          rfl
    · have hi0 : i = 0 := by
        have := of_decide_eq_false hp
        omega
      subst hi0
      refine b_app (e2 _ _ hF) (e_var (i := 1) rfl) (e_var (i := 2) rfl) (by simp) fun H6 e6 => b_nil ⟨?_, Ex.mut ((eH.trans e2).trans e6) hfp, some (Nm 0), ?_⟩
      · rw [upd_same]
        show some (HO.lst [Nm 0]) = some (HO.lst [Nm (Pal.F u 1)])
        rw [F_one]
      · show _ = [_, _, some (Nm (Pal.F u 1)), _]
        rw [F_one]
        rfl
  · obtain ⟨hF, eH, o, rfl⟩ := hP
    rw [rng_len] at hF
    exact b_retU (u_tuple (e_varL (i := 1) rfl (sq_of hF)) mt) fun p H1 hp e1 h1 => q.go eH hp e1 h1
end
end K70
namespace K70
open PySem PySem.Spec PyProof.Rows L2 Evl Wx
section
variable {P : Program} {w : World} {K : PySem.W.Frag} {mg : Str → Option Value} {base : Heap}
abbrev sPl : Stmt := topS 17
abbrev nPl : List Str := ["small", "word", "row", "found", "k", "place"]
theorem scPl : FnScope nPl ["small", "word"] (defScope sPl) := ⟨rfl, rfl, rfl, by decide +kernel, rfl, by decide +kernel, by decide +kernel⟩
def rPl (vs : List V) (xs : List V) : Prop := ∃ x u : List Nat, vs = [Tx x, Tx u] ∧ x ≠ [] ∧ x.length ≤ 1000 ∧ u.length ≤ 1000 ∧ xs = (Pal.foundF x u u.length).map Nm
theorem found_small (x u : List Nat) (p : Nat) : (Pal.foundF x u p).length ≤ p := by
  unfold Pal.foundF Pal.ends
  rw [List.length_map]
  refine Nat.le_trans (List.length_filter_le _ _) ?_
  rw [List.length_range']
  exact Nat.le_refl _
theorem found_succ (x u : List Nat) (p : Nat) : Pal.foundF x u (p + 1) = Pal.foundF x u p ++ (if Pal.Bd x u (p + 1) x.length then [p + 1 - x.length] else []) := by
  unfold Pal.foundF
  rw [Pal.ends_succ, List.map_append]
  congr 1
  split <;> rfl
theorem ok_pl (D : Dx K mg "places_of" sPl ["small", "word"]) (R : Df P w K mg base 1 "border_row" ["word"] (spU rRow)) (mr : mg "range" = none) (ml : mg "len" = none) : Df P w K mg base 2 "places_of" ["small", "word"] (spL rPl) := by
  refine D.ok scPl (fun vs H Q _ h => by obtain ⟨z, ⟨x, u, rfl, _⟩, _⟩ := h; rfl) fun f cdv A outer s H vs Q Er hr h => ?_
  obtain ⟨z, ⟨x, u, rfl, hxne, hxl, hul, rfl⟩, q⟩ := h
  have hx0 := List.length_pos_iff.mpr hxne
  refine b_asgU (i := 2) (u_call R hr (a_one (e_var (i := 0) rfl)) (spU.tup ⟨x, rfl, hxl, rfl⟩)) (fun rp H0 hrp e0 h0 => ?_) scPl.nd
  refine b_asgL (i := 3) (l_disp a_nil (by decide)) (fun fp H1 hfp e1 h1 => ?_) scPl.nd
  have hfpH : H fp = none := fresh_back e0 hfp
  have hrf : rp ≠ fp := fun z => by
    rw [z] at h0
    rw [h0] at hfp
    cases hfp
  have hrowget : ∀ k, 0 < k → k ≤ x.length → ((Pal.rowF x).map Nm)[k - 1]? = some (Nm (Pal.F x k)) := fun k h1 h2 => by
    rw [List.getElem?_map, Pal.rowF_get (by omega), show k - 1 + 1 = k by omega]
    rfl
  refine b_asg (i := 4) (nm 0) (fun H2 e2 => ?_) scPl.nd
  refine b_for (j := 5) (i_r1 (e_lenS (e_var (i := 1) rfl) ml (by omega)) mr (by omega)) (fun i σ' H' => H' fp = some (.lst ((Pal.foundF x u i).map Nm)) ∧ H' rp = some (.tup ((Pal.rowF x).map Nm)) ∧ Ex H H' ∧ ∃ k o, Pal.Bd x u i k ∧ (∀ k', Pal.Bd x u i k' → k' ≤ k) ∧ σ' = [some (Tx x), some (Tx u), some (.ref rp), some (.ref fp), some (Nm k), o])
    (fun H3 e3 => ⟨e3 _ _ (e2 _ _ h1), e3 _ _ (e2 _ _ (e1 _ _ h0)), ((e0.trans e1).trans e2).trans e3, 0, none, Pal.Bd.zero _ _ _, fun k' hk' => hk'.2.1, rfl⟩) (fun i v σ' H' hv hP => ?_) (fun σ' H' hP => ?_) PassesOwn.never rfl scPl.nd
  · obtain ⟨hF, hR, eH, k, o, hb, hmax, rfl⟩ := hP
    have hin : i < u.length := by
      have := (List.getElem?_eq_some_iff.mp hv).1
      rwa [rng_len] at this
    rw [rng_get hin, Nat.zero_add] at hv
    cases hv
    refine b_while (fun m σ' H' => ∃ k, m = k ∧ Pal.Seek x u i (x.length + 1) k ∧ H' fp = some (.lst ((Pal.foundF x u i).map Nm)) ∧ H' rp = some (.tup ((Pal.rowF x).map Nm)) ∧ Ex H H' ∧ σ' = [some (Tx x), some (Tx u), some (.ref rp), some (.ref fp), some (Nm k), some (Nm i)]) k
      ⟨k, rfl, Pal.Seek.start hb fun k' _ h => hmax k' h, hF, hR, eH, rfl⟩ (fun m σ' H' hW => ?_) PassesOwn.never
    obtain ⟨k2, rfl, hS, hF3, hR3, eH3, rfl⟩ := hW
    have hmx : m ≤ x.length := hS.bd.1
    have hgrow : ∀ (hm : m < x.length), (Pal.Grow x u i m ↔ u[i] = x[m]) := fun hm => by
      unfold Pal.Grow
      rw [get_at hin, get_at hm]
      exact ⟨fun h => Option.some.inj h.2, fun h => ⟨hm, by rw [h]⟩⟩
    have hgd : Decidable (Pal.Grow x u i m) := inferInstanceAs (Decidable (_ ∧ _))
    refine ⟨decide (0 < m) && (decide (m = x.length) || !decide (u[i]? = x[m]?)), ET.w (w_and (tn_gt (e_var (i := 4) rfl) (nm 0)) fun _ => w_and1 (ET.w (w_or (tn_eq (e_var (i := 4) rfl) (e_lenS (e_var (i := 0) rfl) ml (by omega))) fun hne => w_or1 ?_))), fun hq H4 e4 => ?_, fun hq H4 e4 => ?_⟩
    · have hm : m < x.length := by
        have := of_decide_eq_false hne
        omega
      refine ET.is (tc_ne (e_ixS (e_var (i := 1) rfl) (e_var (i := 5) rfl) (get_at hin) (by omega)) (e_ixS (e_var (i := 0) rfl) (e_var (i := 4) rfl) (get_at hm) (by omega))) ?_
      rw [get_at hin, get_at hm]
      congr 1
      exact decide_eq_decide.mpr ⟨fun h => by rw [h], fun h => Option.some.inj h⟩
    · simp only [Bool.and_eq_true, Bool.or_eq_true, decide_eq_true_eq, Bool.not_eq_true', decide_eq_false_iff_not] at hq
      have hng : ¬ Pal.Grow x u i m := fun z => by
        rcases hq.2 with h | h
        · exact Nat.ne_of_lt z.1 h
        · exact h z.2
      have hlt := (Pal.F_is (x := x) hq.1).1
      exact b_asg (i := 4) (e_ixT (e_varT (i := 2) rfl (st_of (e4 _ _ hR3))) (n_sub (e_var (i := 4) rfl) (nm 1) (by omega)) (at_nat (hrowget m hq.1 hmx))) (fun H5 e5 => b_nil ⟨_, hlt, _, rfl, hS.back (by omega) hq.1 hng, e5 _ _ (e4 _ _ hF3), e5 _ _ (e4 _ _ hR3), (eH3.trans e4).trans e5, rfl⟩) scPl.nd
    · -- the letter is taken or not
      have hcond : m = 0 ∨ Pal.Grow x u i m := by
        rcases Nat.eq_zero_or_pos m with l | l
        · exact .inl l
        · rw [decide_eq_true l, Bool.true_and, Bool.or_eq_false_iff, decide_eq_false_iff_not, Bool.not_eq_false', decide_eq_true_eq] at hq
          exact .inr ⟨by omega, hq.2⟩
      refine b_if (p := decide (m < x.length) && decide (u[i]? = x[m]?)) (ET.w (w_and (tn_lt (e_var (i := 4) rfl) (e_lenS (e_var (i := 0) rfl) ml (by omega))) fun hm => w_and1 ?_)) (fun hg H5 e5 => ?_) (fun hg H5 e5 => b_nil ?_)
      · have hm := of_decide_eq_true hm
        refine ET.is (tc_eq (e_ixS (e_var (i := 1) rfl) (e_var (i := 5) rfl) (get_at hin) (by omega)) (e_ixS (e_var (i := 0) rfl) (e_var (i := 4) rfl) (get_at hm) (by omega))) ?_
        rw [get_at hin, get_at hm]
        exact decide_eq_decide.mpr ⟨fun h => by rw [h], fun h => Option.some.inj h⟩
      · rw [Bool.and_eq_true, decide_eq_true_eq, decide_eq_true_eq] at hg
        obtain ⟨g1, g2⟩ := hS.grow hin hg
        have g2 : ∀ k', Pal.Bd x u (i + 1) k' → k' ≤ m + 1 := fun k' hk' => g2 k' (by have := hk'.1; omega) hk'
        refine b_augN (i := 4) (m := m) (n := 1) rfl (nm 1) (fun H6 e6 => b_nil ?_) scPl.nd
        refine b_when (tn_eq (m := (m + 1)) (e_var (i := 4) rfl) (e_lenS (e_var (i := 0) rfl) ml (by omega))) (fun hr H7 e7 => ?_) (fun hr H7 e7 => b_nil ⟨?_, e7 _ _ (e6 _ _ (e5 _ _ (e4 _ _ hR3))), (((eH3.trans e4).trans e5).trans e6).trans e7, (m + 1), some (Nm i), g1, g2, rfl⟩)
        · have hr := of_decide_eq_true hr
          have hb2 : Pal.Bd x u (i + 1) x.length := by
            have := g1
            rw [hr] at this
            exact this
          have hxi : x.length ≤ i + 1 := hb2.2.1
          refine b_app (e7 _ _ (e6 _ _ (e5 _ _ (e4 _ _ hF3)))) (e_var (i := 3) rfl) (E.is (e_add (e_sub (i := (i : Int)) (j := (((m + 1) : Nat) : Int)) (e_var (i := 5) rfl) (e_var (i := 4) rfl)) (e_int (i := 1))) (show V.int ((i : Int) - (((m + 1) : Nat) : Int) + 1) = Nm (i + 1 - x.length) from congrArg V.int (by omega))) (by rw [List.length_map]; have := found_small x u i; omega) fun H8 e8 => b_nil (b_nil ⟨?_, ?_, Ex.mut (((((eH3.trans e4).trans e5).trans e6).trans e7).trans e8) hfpH, (m + 1), some (Nm i), g1, g2, rfl⟩)
          · rw [upd_same, found_succ, if_pos hb2, List.map_append]
            rfl
          · rw [upd_ne hrf]
            exact e8 _ _ (e7 _ _ (e6 _ _ (e5 _ _ (e4 _ _ hR3))))
        · have hr := of_decide_eq_false hr
          have hb2 : ¬ Pal.Bd x u (i + 1) x.length := fun z => hr (Nat.le_antisymm g1.1 (g2 _ z))
          rw [found_succ, if_neg hb2, List.append_nil]
          exact e7 _ _ (e6 _ _ (e5 _ _ (e4 _ _ hF3)))
      · have hng : ¬ Pal.Grow x u i m := fun z => by
          rw [decide_eq_true z.1, decide_eq_true z.2] at hg
          cases hg
        have hm0 : m = 0 := by
          rcases hcond with h | h
          · exact h
          · exact absurd h hng
        subst hm0
        obtain ⟨g1, g2⟩ := hS.stop hin hng
        have g2 : ∀ k', Pal.Bd x u (i + 1) k' → k' ≤ 0 := fun k' hk' => g2 k' (by have := hk'.1; omega) hk'
        refine b_when (tn_eq (m := 0) (e_var (i := 4) rfl) (e_lenS (e_var (i := 0) rfl) ml (by omega))) (fun hr H7 e7 => ?_) (fun hr H7 e7 => b_nil ⟨?_, e7 _ _ (e5 _ _ (e4 _ _ hR3)), ((eH3.trans e4).trans e5).trans e7, 0, some (Nm i), g1, g2, rfl⟩)
        · have hr := of_decide_eq_true hr
          have hb2 : Pal.Bd x u (i + 1) x.length := by
            have := g1
            rw [hr] at this
            exact this
          have hxi : x.length ≤ i + 1 := hb2.2.1
          refine b_app (e7 _ _ (e5 _ _ (e4 _ _ hF3))) (e_var (i := 3) rfl) (E.is (e_add (e_sub (i := (i : Int)) (j := ((0 : Nat) : Int)) (e_var (i := 5) rfl) (e_var (i := 4) rfl)) (e_int (i := 1))) (show V.int ((i : Int) - ((0 : Nat) : Int) + 1) = Nm (i + 1 - x.length) from congrArg V.int (by omega))) (by rw [List.length_map]; have := found_small x u i; omega) fun H8 e8 => b_nil (b_nil ⟨?_, ?_, Ex.mut ((((eH3.trans e4).trans e5).trans e7).trans e8) hfpH, 0, some (Nm i), g1, g2, rfl⟩)
          · rw [upd_same, found_succ, if_pos hb2, List.map_append]
            rfl
          · rw [upd_ne hrf]
            exact e8 _ _ (e7 _ _ (e5 _ _ (e4 _ _ hR3)))
        · have hr := of_decide_eq_false hr
          have hb2 : ¬ Pal.Bd x u (i + 1) x.length := fun z => hr (Nat.le_antisymm g1.1 (g2 _ z))
          rw [found_succ, if_neg hb2, List.append_nil]
          exact e7 _ _ (e5 _ _ (e4 _ _ hF3))
  · obtain ⟨hF, hR, eH, k, o, hb, hmax, rfl⟩ := hP
    rw [rng_len] at hF
    exact b_ret (e_var (i := 3) rfl) fun H1 e1 => q fp H1 hfpH (eH.trans e1) (e1 _ _ hF)
end
end K70
namespace K70
open PySem PySem.Spec PyProof.Rows L2 Evl Wx
section
variable {X : Cx} {e a b c0 : Expr} {es : List Expr} {σ : L2.St} {H : Hp} {v x y z : V} {pos : Pos} {m n k : Nat}
/-- a def called on a value and a fresh tuple -/
theorem e_callVU {k' k : Nat} {nm : Str} {ps : List Str} {sp : Sp} {p : Pos} {xs : List V} (D : Df X.prog X.w X.K X.mg X.base k nm ps sp) (hr : Room k' X.A) (ha : E X a σ H x) (hb : EU X b σ H xs) (hs : ∀ q H1, Ex H H1 → H1 q = some (.tup xs) → ∀ Q : VK, (∀ H2, Ex H1 H2 → Q z H2) → sp [x, .ref q] H1 Q E0) (hk : k ≤ k' := by decide) (hg : Gl X nm := by rfl) (hdb : (nm == ("__debug__" : Str)) = false := by decide) (ns : NS X a := by exact fun _ => rfl) (ns2 : NS X b := by exact fun _ => rfl)
    (hpl : (backTo pos (starEach [b] X.env)).any (·.1) = false := by rfl) : E X (.Call (.Name nm p) [a, b] [] pos) σ H z :=
  E.of (pe_df2 D hr hk hg hdb ns ns2 hpl) fun H1 e1 Q q => ha H1 e1 _ fun H2 e2 => hb H2 (e1.trans e2) _ fun p H3 _ e3 h3 => hs p H3 ((e1.trans e2).trans e3) h3 Q fun H4 e4 => q H4 ((e2.trans e3).trans e4)
/-- a drawn word, its last argument may pick -/
theorem x_drawn {a1 a2 a3 a4 : Expr} {k' low most : Nat} {q1 : Pos} {p r c : Addr} {zs : List Int} {Q : VK} (D : Df X.prog X.w X.K X.mg X.base 2 "_law_drawn" ["pool", "low", "most", "size"] spDrawn) (hr : Room k' X.A) (h1 : E X a1 σ H (.ref p)) (h2 : E X a2 σ H (Nm low)) (h3 : E X a3 σ H (Nm most))
    (h4 : ∀ H1, Ex H H1 → wE X a4 σ H1 fun v H2 => ∃ size t, v = Nm size ∧ 1 ≤ low ∧ low ≤ most ∧ most ≤ 30 ∧ 0 < size ∧ size ≤ 4 ∧ t ≤ 50000 ∧ Pool H2 p r c zs t ∧ ∀ u H' t', low ≤ u.length → u.length ≤ most → letS u → t' ≤ t + 40 → Adv c H2 H' t' → Q (Tx u) H')
    (hk : 2 ≤ k' := by decide) (hg : Gl X "_law_drawn" := by rfl) (n1 : NS X a1 := by exact fun _ => rfl) (n2 : NS X a2 := by exact fun _ => rfl) (n3 : NS X a3 := by exact fun _ => rfl) (n4 : NS X a4 := by exact fun _ => rfl) (hpl : (backTo pos (starEach [a2, a3, a4] X.env)).any (·.1) = false := by rfl) :
    wE X (.Call (.Name "_law_drawn" q1) [a1, a2, a3, a4] [] pos) σ H Q := by
  obtain ⟨f, fd, F, hm, hkp, hb⟩ := D.ex
  refine of_pe (pe_call F (hr.mono hk) hg hm hkp hb .nil pass0 (pa_cons pE (pa_cons pE (pa_cons pE (pa_cons pE pa_nil (n4 [])) (n3 _)) (n2 _)) (n1 _)) (by decide) (n1 _) hpl) ?_
  refine h1 H (Ex.refl H) _ fun H1 e1 => h2 H1 e1 _ fun H2 e2 => h3 H2 (e1.trans e2) _ fun H3 e3 => ?_
  intro pins s I
  refine thn (h4 H3 ((e1.trans e2).trans e3) pins s I) fun v s2 ⟨x, H4, I4, r4, size, t, hx, q1, q2, q3, q4, q5, q6, q7, q8⟩ => ?_
  subst hx
  exact ⟨Nm size, H4, I4, r4, p, r, c, zs, t, low, most, size, rfl, q1, q2, q3, q4, q5, q6, q7, q8⟩
end
section
variable {P : Program} {w : World} {K : PySem.W.Frag} {mg : Str → Option Value} {base : Heap} {T : List (Addr × Str)}
/-- the fewest palindromes; the code tables may move -/
def spFew (T : List (Addr × Str)) : Sp := fun vs H Q _ => ∃ u : List Nat, vs = [Tx u] ∧ 1 ≤ u.length ∧ u.length ≤ 60 ∧ LamX.Tabs T H ∧ ∀ p fs H', LamX.ExtN H H' → LamX.Tabs T H' → H' p = some (.tup (fs.map Tx)) → Pal.Few u fs → Q (.ref p) H'
abbrev sLaw : Stmt := topS 24
abbrev nLaw : List Str := ["script", "pool", "word", "n", "row", "all_ones", "x", "long", "k", "best", "ends", "whole", "few"]
theorem scLaw : FnScope nLaw ["script"] (defScope sLaw) := ⟨rfl, rfl, rfl, by decide +kernel, rfl, by decide +kernel, by decide +kernel⟩
def spLaw (T : List (Addr × Str)) (K : PySem.W.Frag) : Sp := fun vs H Q _ => ∃ (l : Addr) (ns : List Int), vs = [.ref l] ∧ SqL K H l (ns.map V.int) ∧ ns.length ≤ 1000 ∧ LamX.Tabs T H ∧ ∀ H2, Q (.bl true) H2
theorem tabs_ex {H H' : Hp} (h : LamX.Tabs T H) (e : Ex H H') : LamX.Tabs T H' := h.ext e
theorem letS_wd {u : List Nat} (h : letS u) (hl : u.length ≤ 60) : isWd u = true := by
  unfold isWd
  rw [decide_eq_true hl, Bool.true_and, List.all_eq_true]
  intro c hc
  have := h c hc
  unfold isLet
  rw [decide_eq_true_eq]
  simp only [List.mem_cons, List.not_mem_nil, or_false]
  omega
theorem longest_ex {u : List Nat} (h : 1 ≤ u.length) : ∃ x, Pal.Longest u x := by
  have hne : ((Pal.mirrorsF u).map List.length) ≠ [] := fun z => by
    have h2 : Pal.sub u 0 1 ∈ Pal.mirrorsF u := Pal.mem_mirrors.mpr ⟨0, 1, by decide, h, Pal.row_ex (u := u) (k := 1) h (by decide), rfl⟩
    rw [List.map_eq_nil_iff] at z
    rw [z] at h2
    cases h2
  obtain ⟨m, hm, hmax⟩ := ex_max hne
  obtain ⟨x, hx, rfl⟩ := List.mem_map.mp hm
  refine ⟨x, hx, fun j k h1 h2 h3 => ?_⟩
  have := hmax (Pal.sub u j k).length (List.mem_map_of_mem (Pal.mem_mirrors.mpr ⟨j, k, h1, h2, h3, rfl⟩))
  rw [Pal.sub_len h2] at this
  exact this
theorem tabs_adv {H H' : Hp} {c : Addr} {t t' : Nat} (h : LamX.Tabs T H) (hc : H c = some (.lst [Nm t])) (a : Adv c H H' t') : LamX.Tabs T H' := fun p hp => by
  obtain ⟨ps, h1, h2, h3⟩ := h p hp
  refine ⟨ps, a.keep _ _ (ne_of h1 hc (by simp)) h1, h2, fun pos cv hcv => ?_⟩
  obtain ⟨c2, e1, e2⟩ := h3 pos cv hcv
  exact ⟨c2, e1, a.keep _ _ (ne_of e2 hc (by unfold LamX.CodeO; simp)) e2⟩
theorem ok_law {f : Addr} {fd : FuncData} (F : Fun K "law" "law" sLaw f fd) (rPool : Df P w K mg base 2 "_law_pool" ["script"] (spPool K)) (rPick : Df P w K mg base 1 "_law_pick" ["pool", "amount"] spPick) (rDrawn : Df P w K mg base 2 "_law_drawn" ["pool", "low", "most", "size"] spDrawn)
    (rRad : Df P w K mg base 1 "radii" ["word"] (spU rRadii)) (rMs : Df P w K mg base 2 "mirrors" ["word"] (spL rMirs)) (rP : Df P w K mg base 2 "places_of" ["small", "word"] (spL rPl)) (rLo : Df P w K mg base 2 "longest_mirror" ["word"] spLong) (rM : Df P w K mg base 1 "is_mirror" ["word"] (spV rMir)) (rC : Df P w K mg base 2 "closed_mirror" ["word"] (spV rClosed))
    (rB : Df P w K mg base 1 "borders" ["word"] (spL rBord)) (rIs : Df P w K mg base 3 "is_mirrors" ["word", "value"] (spIsMs K)) (rFew : Df P w K mg base 4 "fewest_mirrors" ["word"] (spFew T))
    (mr : mg "range" = none) (ml : mg "len" = none) (ms : mg "sum" = none) (mx : mg "max" = none) (mo : mg "sorted" = none) : FnOk P w K mg base CX0 5 f fd ["script"] (spLaw T K) := by
  refine okW F scLaw (fun vs H Q _ h => by obtain ⟨l, ns, rfl, _⟩ := h; rfl) fun cdv A outer s H vs Q Er hr h => ?_
  obtain ⟨l, ns, rfl, hl, hlen, hT, q⟩ := h
  -- pool, word
  refine b_asgX (i := 1) (of_pe (pe_df1 rPool hr) ((e_var (i := 0) rfl) H (Ex.refl _) _ fun H1 e1 => ⟨l, ns, rfl, ex_l e1 hl, hlen, fun p r c zs H2 e2 hP => ?_⟩)) scLaw.nd
  have hT2 := (hT.ext e1).ext e2
  refine b_asgX (i := 2) (x_drawn rDrawn hr (e_var (i := 1) rfl) (nm 1) (nm 12) fun H3 e3 => x_add (nm 1) fun H4 e4 => x_pick rPick hr (e_var (i := 1) rfl) (nm 3) ((hP.ex e3).ex e4) (by decide) (by decide) fun z H5 hz a5 => ⟨z, rfl, 1 + z, 1, rfl, by decide, by decide, by decide, by omega, by omega, by decide, ((hP.ex e3).ex e4).adv a5, fun u H6 t6 hu1 hu2 hlet ht6 a6 => ?_⟩) scLaw.nd
  have hP4 := (hP.ex e3).ex e4
  have hT5 := tabs_adv ((hT2.ext e3).ext e4) hP4.cnt a5
  have hT6 := tabs_adv hT5 (hP4.adv a5).cnt a6
  clear hT5 hP4 a6 a5 e4 e3 hP hT2 e2 e1 hT hl
  have hne : u ≠ [] := List.ne_nil_of_length_pos hu1
  have hur : u.reverse.length = u.length := List.length_reverse
  -- n, row, all_ones
  refine b_tup3X (i := 3) (j := 4) (l := 5) ((e_lenS (e_var (i := 2) rfl) ml (by omega)) H6 (Ex.refl _) _ fun H7 e7 => (u_call rRad hr (a_one (e_var (i := 2) rfl)) (spU.tup ⟨u, rfl, hu1, by omega, rfl⟩)) H7 (Ex.refl _) _ fun ra H8 hra e8 h8 => (l_call rMs hr (a_one (e_var (i := 2) rfl)) (spL.lst ⟨u, rfl, by omega, rfl⟩)) H8 (Ex.refl _) _ fun ao H9 hao e9 h9 H10 e10 => ?_) rfl scLaw.nd
  have hR : SqT K H10 ra ((Pal.radiiF u).map Nm) := st_of (e10 _ _ (e9 _ _ h8))
  have hA : H10 ao = some (.lst ((Pal.mirrorsF u).map Tx)) := e10 _ _ h9
  have hT10 := (((hT6.ext e7).ext e8).ext e9).ext e10
  clear hT6 e10 e9 e8 e7 h8 h9
  have hrl : (Pal.radiiF u).length = 2 * u.length - 1 := by
    unfold Pal.radiiF
    simp
  have hml := Pal.mirrors_le u
  refine b_off (ET.is (ET.w (w_or (tn_ne (e_lenTm (e_varT (i := 4) rfl hR) ml) (n_sub (n_mul (m := 2) (nm 2) (e_var (i := 3) rfl) (by decide)) (nm 1) (by omega))) fun _ =>
    w_or (tn_ne (m := (Pal.radiiF u).sum) (n := ((Pal.mirrorsF u).map fun x => (Pal.foundF x u u.length).length).sum) (e_sumTN rfl (e_varT (i := 4) rfl hR) ms) (e_sumN rfl (EvL.r ?_) ms)) fun _ =>
    w_or1 (t_neTN (ws := (Pal.radiiF u.reverse).reverse) (room64 hr) (e_varT (i := 4) rfl hR) (EvU.r ?_)))) ?_) fun H11 e11 => ?_
  · rw [List.map_map]
    exact l_comp (own := [("x", 6)]) (j := 6) (A := Tx) (fun x => Nm (Pal.foundF x u u.length).length) rfl scLaw.nd (blkOk_by (N := nLaw) (sc := defScope sLaw) (by decide +kernel)) (fun _ _ _ _ _ => pg_name (i := 6) scLaw.nd rfl (Or.inl rfl)) (i_list (e_varL (i := 5) rfl (sq_of hA))) (by omega) (fun x => rfl) fun x hx H1 e1 _ _ _ _ _ => by
      obtain ⟨x1, x2, x3⟩ := Pal.mirror_ne hx
      exact e_lenLm (EvL.r (l_call rP hr (a_cons (e_var (i := 6) rfl) (a_one (e_var (i := 2) rfl))) (spL.lst ⟨x, u, rfl, x1, by omega, by omega, rfl⟩))) ml
  · rw [List.map_reverse]
    exact u_revT (EvU.r (u_call rRad hr (a_one (e_revS (e_var (i := 2) rfl) (by omega))) (spU.tup ⟨u.reverse, rfl, by omega, by omega, rfl⟩)))
  · have e1 : ((Pal.mirrorsF u).map fun x => (Pal.foundF x u u.length).length) = (Pal.mirrorsF u).map fun x => (Pal.occ x u).length := List.map_congr_left fun x hx => Pal.found_len (Pal.mirror_ne hx).1
    have e2 : (Pal.radiiF u).sum = ((List.range (2 * u.length - 1)).map (Pal.rad u)).sum := rfl
    rw [hrl, Pal.radii_rev, e1, Pal.sum_occ, e2, Pal.sum_rad]
    simp
  have hR := ex_t e11 hR
  have hA := e11 _ _ hA
  have hT11 := hT10.ext e11
  -- long, best
  obtain ⟨bx, hbx⟩ : ∃ bx, Pal.Longest u bx := longest_ex hu1
  have hbl := (Pal.mirror_ne hbx.1).2.2
  refine b_asg (i := 7) (v := .int (bx.length : Int)) (e_maxL (zs := (List.range (2 * u.length - 1)).map (Pal.lenC u)) rfl (EvL.r ?_) hbx.mem (fun y hy => by
    obtain ⟨c', hc', rfl⟩ := List.mem_map.mp hy
    exact hbx.le (List.mem_range.mp hc')) mx) (fun H12 e12 => ?_) scLaw.nd
  · rw [List.map_map]
    exact l_comp (own := [("k", 8)]) (j := 8) (A := Nm) (fun k => V.int (Pal.lenC u k)) rfl scLaw.nd (blkOk_by (N := nLaw) (sc := defScope sLaw) (by decide +kernel)) (fun _ _ _ _ _ => pg_name (i := 8) scLaw.nd rfl (Or.inl rfl)) (i_n1 (n_sub (n_mul (m := 2) (nm 2) (e_var (i := 3) rfl) (by decide)) (nm 1) (by omega)) mr (by omega)) (by rw [List.length_range]; omega) (fun x => rfl) fun k hk H1 e1 _ _ _ _ _ => by
      rw [List.mem_range] at hk
      have hg : ((Pal.radiiF u).map Nm)[k]? = some (Nm (Pal.rad u k)) := by
        unfold Pal.radiiF
        rw [List.getElem?_map, List.getElem?_map, List.getElem?_range hk]
        rfl
      exact E.is (e_add (i := 2 * ((Pal.rad u k : Nat) : Int) - 1) (j := ((k % 2 : Nat) : Int)) (e_sub (i := 2 * ((Pal.rad u k : Nat) : Int)) (j := 1) (e_mul (i := 2) (j := ((Pal.rad u k : Nat) : Int)) e_int (e_ixT (e_varT (i := 4) rfl (ex_t e1 hR)) (e_var (i := 8) rfl) (at_nat hg)) (cmul_small (by decide))) e_int) (n_mod (m := k) (n := 2) (e_var (i := 8) rfl) (nm 2) (by decide))) rfl
  refine b_asgR (i := 9) (R := fun v _ => ∃ x, v = Tx x ∧ Pal.Longest u x) (r_call rLo hr (a_one (e_var (i := 2) rfl)) fun H1 e1 Q k E => ⟨u, rfl, hu1, by omega, fun x hx => fun H2 e2 => k _ H2 e2 ⟨x, rfl, hx⟩⟩) (fun v H13 e13 hv => ?_) scLaw.nd
  obtain ⟨be, rfl, hbe⟩ := hv
  have hblen : be.length = bx.length := by
    have h1 := hbe.mem
    have h2 := hbx.mem
    obtain ⟨c1, hc1, e1⟩ := List.mem_map.mp h1
    obtain ⟨c2, hc2, e2⟩ := List.mem_map.mp h2
    have h3 := hbx.le (List.mem_range.mp hc1)
    have h4 := hbe.le (List.mem_range.mp hc2)
    omega
  obtain ⟨be1, be2, be3⟩ := Pal.mirror_ne hbe.1
  have hR := ex_t e13 (ex_t e12 hR)
  have hA := e13 _ _ (e12 _ _ hA)
  have hT13 := (hT11.ext e12).ext e13
  refine b_off (ET.is (ET.w (w_or (tn_ne (n := bx.length) (e_lenS (e_var (i := 9) rfl) ml (by omega)) (e_var (i := 7) rfl)) fun _ =>
    w_or (t_notB (e_call rM hr (a_one (e_var (i := 9) rfl)) (spV.val ⟨be, rfl, by omega, rfl⟩)) e_bl) fun _ =>
    w_or (t_neLT (us := Pal.mirrorsF u.reverse) (ws := Pal.mirrorsF u) (room64 hr) (EvL.r (l_call rMs hr (a_one (e_revS (e_var (i := 2) rfl) (by omega))) (spL.lst ⟨u.reverse, rfl, by omega, rfl⟩))) (e_varL (i := 5) rfl (sq_of hA))) fun _ =>
    w_or1 (tn_gt (e_lenLm (e_varL (i := 5) rfl (sq_of hA)) ml) (e_var (i := 3) rfl)))) ?_) fun H14 e14 => ?_
  · rw [hblen, be2, Pal.mirrors_rev]
    simp
    exact hml
  have hA := e14 _ _ hA
  have hT14 := hT13.ext e14
  -- ends, whole
  refine b_asgCIf (i := 10) (own := [("k", 8)]) (j := 8) (A := Nm) (fun k => Pal.isM (u.drop k)) Nm rfl scLaw.nd (blkOk_by (N := nLaw) (sc := defScope sLaw) (by decide +kernel)) (fun _ _ _ _ _ => pg_name (i := 8) scLaw.nd rfl (Or.inl rfl)) (i_n1 (e_var (i := 3) rfl) mr (by omega)) (by rw [List.length_range]; omega) (fun x => rfl)
    (fun k hk H1 e1 _ _ _ _ _ => t_val (e_call rM hr (a_one (e_slFrom (e_var (i := 2) rfl) (e_var (i := 8) rfl) (by omega))) (spV.val ⟨u.drop k, rfl, by rw [List.length_drop]; omega, rfl⟩))) (fun k hk hp H1 e1 _ _ _ _ _ => e_var (i := 8) rfl) fun en H15 hen e15 h15 => ?_
  have h15 : H15 en = some (.lst ((Pal.endsF u).map Nm)) := h15
  refine b_asg (i := 11) (e_call rC hr (a_one (e_var (i := 2) rfl)) (spV.val ⟨u, rfl, hne, by omega, rfl⟩)) (fun H16 e16 => ?_) scLaw.nd
  have hA := e16 _ _ (e15 _ _ hA)
  have hT16 := (hT14.ext e15).ext e16
  have h16 := e16 _ _ h15
  have hwl := Pal.closed_len hne
  have hck := (Pal.closedK_spec hne).1
  have hwne : Pal.closedF u ≠ [] := fun z => by
    rw [z] at hwl
    simp at hwl
    omega
  have he0 : ((Pal.endsF u).map Nm)[0]? = some (Nm (Pal.closedK u)) := by
    rw [List.getElem?_map, Pal.ends_head hne]
    rfl
  refine b_off (ET.is (ET.w (w_or (tn_ne (e_lenS (e_var (i := 11) rfl) ml (by omega)) (n_add (e_var (i := 3) rfl) (e_ixL (e_varL (i := 10) rfl (sq_of h16)) (nm 0) (at_nat he0)))) fun _ =>
    w_or (t_notB (e_call rM hr (a_one (e_var (i := 11) rfl)) (spV.val ⟨Pal.closedF u, rfl, by omega, rfl⟩)) e_bl) fun _ =>
    w_or (t_neS (e_slTo (e_var (i := 11) rfl) (e_var (i := 3) rfl) (by omega)) (e_var (i := 2) rfl)) fun _ =>
    w_or (t_ninUT (ws := [(Pal.closedF u).take u.length, be]) (e_var (i := 2) rfl) (u_disp (a_cons (e_slTo (e_var (i := 11) rfl) (e_var (i := 3) rfl) (by omega)) (a_one (e_var (i := 9) rfl))) (by simp))) fun _ =>
    w_or1 (t_neS (e_call rC hr (a_one (e_var (i := 11) rfl)) (spV.val ⟨Pal.closedF u, rfl, hwne, by omega, rfl⟩)) (e_var (i := 11) rfl)))) ?_) fun H17 e17 => ?_
  · rw [hwl, Pal.closed_isM hne, Pal.closed_take, Pal.closed_of_isM hwne (Pal.closed_isM hne)]
    simp
  have hA := e17 _ _ hA
  have hT17 := hT16.ext e17
  -- mirrors are mirrors, and occur
  refine b_off (ET.is (ET.w (w_or (t_ne (x := .bl (Pal.isM u)) (y := .bl (decide (Pal.closedF u = u))) (e_call rM hr (a_one (e_var (i := 2) rfl)) (spV.val ⟨u, rfl, by omega, rfl⟩)) (e_eqS (e_call rC hr (a_one (e_var (i := 2) rfl)) (spV.val ⟨u, rfl, hne, by omega, rfl⟩)) (e_var (i := 2) rfl))) fun _ =>
    w_or1 (t_neLT (us := (Pal.mirrorsF u).filter fun _ => false) (ws := []) (room64 hr) (EvL.r ?_) (EvL.r (l_disp a_nil (by decide)))))) ?_) fun H18 e18 => ?_
  · exact l_compIf (own := [("x", 6)]) (j := 6) (A := Tx) (fun _ => false) Tx rfl scLaw.nd (blkOk_by (N := nLaw) (sc := defScope sLaw) (by decide +kernel)) (fun _ _ _ _ _ => pg_name (i := 6) scLaw.nd rfl (Or.inl rfl)) (i_list (e_varL (i := 5) rfl (sq_of hA))) (by omega) (fun x => rfl) (fun x hx H1 e1 s0 H0 C0 cl fp => by
      obtain ⟨x1, x2, x3⟩ := Pal.mirror_ne hx
      obtain ⟨j, k, h1, h2, h3, h4⟩ := Pal.mem_mirrors.mp hx
      have hl4 := Pal.sub_len (u := u) (j := j) h2
      rw [h4] at hl4
      have hsub : (u.drop j).take x.length = x := by
        rw [hl4]
        exact h4
      have hcn := count_in (u := u) (w := x) (i := j) (by omega) hsub
      refine ET.is (ET.w (w_or (t_neS (e_revS (e_var (i := 6) rfl) (by omega)) (e_var (i := 6) rfl)) fun _ => w_or1 (t_eq (y := .int 0) (e_countP (e_var (i := 2) rfl) (e_var (i := 6) rfl)) e_int))) ?_
      rw [Pal.isM_iff.mp x2, decide_eq_false (fun z => hcn (V.int.inj z))]
      simp) fun x hx hp => by cases hp
  · rw [Pal.closed_iff hne]
    simp
  have hA := e18 _ _ hA
  have hT18 := hT17.ext e18
  -- for x in all_ones
  refine b_forE (j := 6) (i_list (e_varL (i := 5) rfl (sq_of hA))) (fun i σ' H' => Ex H18 H' ∧ ∃ o, σ' = [some (.ref l), some (.ref p), some (Tx u), some (Nm u.length), some (.ref ra), some (.ref ao), o, some (.int (bx.length : Int)), none, some (Tx be), some (.ref en), some (Tx (Pal.closedF u)), none]) (fun H1 e1 => ⟨e1, none, rfl⟩) (fun i v σ' H' hv eHH hPv => ?_) (fun σ' H' eHH hPv => ?_) PassesOwn.never rfl scLaw.nd
  · obtain ⟨eH, o, rfl⟩ := hPv
    rw [List.getElem?_map] at hv
    cases hg : (Pal.mirrorsF u)[i]? with
    | none =>
      rw [hg] at hv
      cases hv
    | some x =>
      rw [hg] at hv
      cases hv
      obtain ⟨x1, x2, x3⟩ := Pal.mirror_ne (List.mem_of_getElem? hg)
      obtain ⟨b1, b2⟩ := Pal.borders_pal x2
      have hbn : (Lyn.bordersF x).length ≤ x.length := by
        unfold Lyn.bordersF
        exact Nat.le_trans (List.length_filter_le _ _) (by rw [List.length_range]; exact Nat.le_refl _)
      have hfn : ((List.range x.length).filter fun k => Pal.isM (x.drop (x.length - k))).length ≤ x.length := Nat.le_trans (List.length_filter_le _ _) (by rw [List.length_range]; exact Nat.le_refl _)
      refine b_off (ET.is (ET.w (w_or (t_neLN (us := (Lyn.bordersF x).filter fun k => !Pal.isM (x.take k)) (ws := []) (room64 hr) (EvL.r ?_) (EvL.r (l_disp a_nil (by decide)))) fun _ =>
        w_or1 (t_neLN (us := (List.range x.length).filter fun k => Pal.isM (x.drop (x.length - k))) (ws := Lyn.bordersF x) (room64 hr) (EvL.r (l_sortedUp (EvL.r ?_) ?_ (by omega) mo)) (EvL.r (l_call rB hr (a_one (e_var (i := 6) rfl)) (spL.lst ⟨x, rfl, by omega, rfl⟩)))))) ?_) fun H19 e19 => b_nil ⟨e19, eH.trans e19, _, rfl⟩
      · exact l_compIf (own := [("k", 8)]) (j := 8) (A := Nm) (fun k => !Pal.isM (x.take k)) Nm rfl scLaw.nd (blkOk_by (N := nLaw) (sc := defScope sLaw) (by decide +kernel)) (fun _ _ _ _ _ => pg_name (i := 8) scLaw.nd rfl (Or.inl rfl)) (i_list (EvL.r (l_call rB hr (a_one (e_var (i := 6) rfl)) (spL.lst ⟨x, rfl, by omega, rfl⟩)))) (by omega) (fun x => rfl)
          (fun k hk H1 e1 _ _ _ _ _ => t_not (t_val (e_call rM hr (a_one (e_slTo (e_var (i := 6) rfl) (e_var (i := 8) rfl) (by omega))) (spV.val ⟨x.take k, rfl, by rw [List.length_take]; omega, rfl⟩)))) fun k hk hp H1 e1 _ _ _ _ _ => e_var (i := 8) rfl
      · exact l_compIf (own := [("k", 8)]) (j := 8) (A := Nm) (fun k => Pal.isM (x.drop (x.length - k))) Nm rfl scLaw.nd (blkOk_by (N := nLaw) (sc := defScope sLaw) (by decide +kernel)) (fun _ _ _ _ _ => pg_name (i := 8) scLaw.nd rfl (Or.inl rfl)) (i_n1 (e_lenS (e_var (i := 6) rfl) ml (by omega)) mr (by omega)) (by rw [List.length_range]; omega) (fun x => rfl)
          (fun k hk H1 e1 _ _ _ _ _ => t_val (e_call rM hr (a_one (e_slFrom (e_var (i := 6) rfl) (n_sub (m := x.length) (n := k) (e_lenS (e_var (i := 6) rfl) ml (by omega)) (e_var (i := 8) rfl) (by rw [List.mem_range] at hk; omega)) (by omega))) (spV.val ⟨x.drop (x.length - k), rfl, by rw [List.length_drop]; omega, rfl⟩))) fun k hk hp H1 e1 _ _ _ _ _ => e_var (i := 8) rfl
      · exact List.Pairwise.filter _ (List.pairwise_lt_range.imp fun h => Nat.le_of_lt h)
      · rw [b1, b2]
        simp
  obtain ⟨eH, o6, rfl⟩ := hPv
  have hA := eH _ _ hA
  have hT19 := hT18.ext eH
  -- few
  have hwd := letS_wd hlet (by omega : u.length ≤ 60)
  have hwr : isWd u.reverse = true := letS_wd (fun c hc => hlet c (List.mem_reverse.mp hc)) (by omega)
  refine b_asgX (i := 12) (of_pe (pe_df1 rFew hr) ((e_var (i := 2) rfl) H' (Ex.refl _) _ fun H20 e20 => ⟨u, rfl, hu1, by omega, hT19.ext e20, fun pf fs H21 eN T21 hpf hfew => ?_⟩)) scLaw.nd
  have hA := eN _ _ (e20 _ _ hA) (by simp)
  have hfs := cut_len hfew.1
  have hF : SqT K H21 pf (fs.map Tx) := st_of hpf
  refine b_offX (wT_w ?_)
  refine x_or ?_ fun H22 e22 => ?_
  · exact ET.is (t_notB (e_call rIs hr (a_cons (e_var (i := 2) rfl) (a_one (e_var (i := 12) rfl))) fun H1 e1 Q k' E => ⟨u, pf, fs, rfl, ex_t e1 hF, hfew.1, hwd, k'⟩) e_bl) (by simp)
  refine x_or ?_ fun H23 e23 => ?_
  · refine ET.is (t_notB (p := true) (e_callVU rIs hr (xs := fs.reverse.map Tx) (e_revS (e_var (i := 2) rfl) (by omega)) ?_ fun q1 H1 e1 h1 Q k' => ⟨u.reverse, q1, fs.reverse, rfl, st_of h1, hfew.1.rev, hwr, k'⟩) e_bl) (by simp)
    rw [List.map_reverse]
    exact u_revT (e_varT (i := 12) rfl (ex_t e22 hF))
  refine x_or ?_ fun H24 e24 => ?_
  · exact ET.is (t_ne (x := .bl (decide (fs.length = 1))) (y := .bl (Pal.isM u)) (en_eq (e_lenTm (e_varT (i := 12) rfl (ex_t e23 (ex_t e22 hF))) ml) (nm 1)) (e_call rM hr (a_one (e_var (i := 2) rfl)) (spV.val ⟨u, rfl, by omega, rfl⟩))) (by rw [hfew.one hne]; simp)
  refine x_or1 ?_
  have hA := e24 _ _ (e23 _ _ (e22 _ _ hA))
  have hF := ex_t e24 (ex_t e23 (ex_t e22 hF))
  have hpf := e24 _ _ (e23 _ _ (e22 _ _ hpf))
  have T24 := ((T21.ext e22).ext e23).ext e24
  refine x_gtN ?_
  refine x_lenT ?_ ml
  refine of_pe (pe_df1 rFew hr) ?_
  refine (e_catS (u := u) (w := u) (e_var (i := 2) rfl) (e_var (i := 2) rfl) (by omega)) H24 (Ex.refl _) _ fun H25 e25 => ?_
  refine ⟨u ++ u, rfl, by rw [List.length_append]; omega, by rw [List.length_append]; omega, T24.ext e25, fun p2 gs H26 eN2 T26 hp2 hfew2 => ?_⟩
  have hpf := eN2 _ _ (e25 _ _ hpf) (by simp)
  have hA := eN2 _ _ (e25 _ _ hA) (by simp)
  have htw := hfew.twice hfew2
  refine ⟨gs.map Tx, ⟨p2, rfl, st_of hp2⟩, gs.length, 2 * fs.length, by rw [List.length_map], n_mul (m := 2) (nm 2) (e_lenTm (e_varT (i := 12) rfl (st_of hpf)) ml) (by decide), fun H27 e27 => ⟨decide_eq_false (by omega), ?_⟩⟩
  have hpf := e27 _ _ hpf
  have hA := e27 _ _ hA
  have T27 := T26.ext e27
  -- return
  refine b_st (ps_ret pE) ?_
  refine x_and ?_
  refine x_eqN ?_
  refine x_lenT ?_ ml
  refine of_pe (pe_df1 rFew hr) ?_
  refine (e_revS (w := u) (e_var (i := 2) rfl) (by omega)) H27 (Ex.refl _) _ fun H28 e28 => ?_
  refine ⟨u.reverse, rfl, by omega, by omega, T27.ext e28, fun p3 gs3 H29 eN3 T29 hp3 hfew3 => ?_⟩
  have hpf := eN3 _ _ (e28 _ _ hpf) (by simp)
  have hA := eN3 _ _ (e28 _ _ hA) (by simp)
  refine ⟨gs3.map Tx, ⟨p3, rfl, st_of hp3⟩, gs3.length, fs.length, by rw [List.length_map], e_lenTm (e_varT (i := 12) rfl (st_of hpf)) ml, fun H30 e30 => ⟨by rw [hfew.rev_len hfew3, decide_eq_true rfl], ?_⟩⟩
  have hA := e30 _ _ hA
  have hml2 := Pal.mirrors_app u u.reverse
  have hmr : (u ++ u.reverse).length ≤ 60 := by rw [List.length_append]; omega
  refine (E.is (e_one (en_ge (e_lenLm (EvL.r (l_call rMs hr (a_one (e_catS (e_var (i := 2) rfl) (e_revS (e_var (i := 2) rfl) (by omega)) (by omega))) (spL.lst ⟨u ++ u.reverse, rfl, hmr, rfl⟩))) ml) (e_lenLm (e_varL (i := 5) rfl (sq_of hA)) ml))) (show _ = V.bl true by rw [decide_eq_true hml2])) H30 (Ex.refl _) _ fun H31 e31 => q H31
end
end K70
namespace K70
open PySem PySem.Spec PyProof.Rows L2 Evl Wx
abbrev sFew : Stmt := topS 11
abbrev lamE : Expr := match (defBody sFew).getD 1 (.Pass ⟨0, 0, 0, 0⟩) with
  | .For _ _ b _ _ => match b.getD 1 (.Pass ⟨0, 0, 0, 0⟩) with
    | .Expr (.Call _ [.Call _ _ [⟨_, e, _⟩] _] _ _) _ => e
    | _ => .Constant .none 0 ⟨0, 0, 0, 0⟩
  | _ => .Constant .none 0 ⟨0, 0, 0, 0⟩
abbrev lamScope : Scope := match lamE with
  | .Lambda _ _ s _ => s
  | _ => defScope sFew
abbrev lamBody : Expr := match lamE with
  | .Lambda _ b _ _ => b
  | e => e
theorem scLam : FnScope ["row"] ["row"] lamScope := ⟨rfl, rfl, rfl, by decide +kernel, rfl, by decide +kernel, by decide +kernel⟩
theorem lam_key {X : Cx} {q : Str} {f c' : Addr} (ml : X.mg "len" = none) : LamKey X ["row"] q lamScope f c' lamBody 0 := fun A outer s H1 p xs hT hr => by
  refine (u_disp (X := (cxOf CX0 X.prog X.w X.K X.mg X.base ["row"] q lamScope f (.ref c') A outer s H1 E0).nox) (a_cons (e_lenT (e_varT (i := 0) rfl hT) ml) (a_one (e_var (i := 0) rfl))) (by simp)) H1 (Ex.refl _) _ fun a H2 hn e2 h2 => ⟨a, rfl, hn, e2, h2⟩
end K70
namespace K70
open PySem PySem.Spec PyProof.Rows L2 Evl Wx
abbrev nFew : List Str := ["word", "best", "k", "rows", "j"]
theorem scFew : FnScope nFew ["word"] (defScope sFew) := ⟨rfl, rfl, rfl, by decide +kernel, rfl, by decide +kernel, by decide +kernel⟩
/-- the name of the lambda's code -/
abbrev qFew : Str := ("fewest_mirrors" : Str) ++ ".<locals>." ++ "<lambda>"
theorem tabs_upd {T : List (Addr × Str)} {H : Hp} {D : Addr} {ys : List V} {o : HO} (h : LamX.Tabs T H) (hD : H D = some (.lst ys)) : LamX.Tabs T (upd H D o) := fun p hp => by
  obtain ⟨ps, h1, h2, h3⟩ := h p hp
  have n1 : p.1 ≠ D := fun z => by
    rw [z, hD] at h1
    cases h1
  refine ⟨ps, by rw [upd_ne n1]; exact h1, h2, fun pos cv hcv => ?_⟩
  obtain ⟨c2, e1, e2⟩ := h3 pos cv hcv
  have n2 : c2 ≠ D := fun z => by
    rw [z, hD] at e2
    unfold LamX.CodeO at e2
    cases e2
  exact ⟨c2, e1, by rw [upd_ne n2]; exact e2⟩
theorem extN_upd {H H' : Hp} {D : Addr} {o : HO} (e : LamX.ExtN H H') (h : H D = none) : LamX.ExtN H (upd H' D o) := fun b u hb hn => by
  rw [upd_ne fun z => by
    rw [z, h] at hb
    cases hb]
  exact e b u hb hn
/-- the rows of one turn -/
def cand (u : List Nat) (fss : List (List (List Nat))) (k j : Nat) : List (List Nat) := (fss[j]?.getD []) ++ [Pal.sub u j k]
def cols (u : List Nat) (k : Nat) : List Nat := (List.range k).filter fun j => Pal.isM (Pal.sub u j k)
theorem mem_cols {u : List Nat} {k j : Nat} : j ∈ cols u k ↔ j < k ∧ Pal.isM (Pal.sub u j k) = true := by
  unfold cols
  rw [List.mem_filter, List.mem_range]
/-- the best of the table after k letters -/
theorem few_turn {u : List Nat} {k : Nat} {fss : List (List (List Nat))} (hk : k ≤ u.length) (h0 : 0 < k) (hl : fss.length = k) (hF : ∀ j fs, fss[j]? = some fs → Pal.Few (u.take j) fs) {b : Nat} {jb : Nat} (hb : (cols u k)[b]? = some jb)
    (hmin : ∀ (i j : Nat), (cols u k)[i]? = some j → (cand u fss k jb).length ≤ (cand u fss k j).length) : Pal.Few (u.take k) (cand u fss k jb) := by
  have hjb := mem_cols.mp (List.mem_of_getElem? hb)
  refine Pal.Few.step hk h0 (fun j => fss[j]?.getD []) (fun j hj => ?_) ⟨jb, hjb.1, hjb.2, rfl⟩ fun j hj hm => ?_
  · refine hF j _ ?_
    rw [List.getElem?_eq_getElem (by omega)]
    rfl
  · obtain ⟨i, hi⟩ := List.mem_iff_getElem?.mp (mem_cols.mpr ⟨hj, hm⟩)
    have := hmin i j hi
    unfold cand at this ⊢
    rw [List.length_append (bs := [Pal.sub u j k])] at this
    exact this
section
variable {P : Program} {w : World} {K : PySem.W.Frag} {mg : Str → Option Value} {base : Heap}
theorem ok_few {c Pt f : Addr} {oc : Value} {od an : Option Addr} {osl : Array (Option Value)} {kV doc pm ct : Value}
    (lk : K.lookup f = some ⟨oc, od, .func (PySem.W.fnOf "fewest_mirrors" "fewest_mirrors" (defArgs sFew) (defBody sFew) (defScope sFew) .none kV doc pm an (.ref c) ct), osl⟩) (hcd : PySem.W.codeIn K (.ref c) "fewest_mirrors" = true) (hm : mg "fewest_mirrors" = some (.ref f)) (kp : PySem.W.keepIn K (.ref f) = true)
    (TB : LamX.TabB base mg c Pt) (R : Df P w K mg base 1 "is_mirror" ["word"] (spV rMir)) (mr : mg "range" = none) (ml : mg "len" = none) (mm : mg "min" = none) : Df P w K mg base 4 "fewest_mirrors" ["word"] (spFew [(Pt, qFew)]) := by
  refine ⟨f, _, okC lk hcd scFew (fun vs H Q _ h => by obtain ⟨u, rfl, _⟩ := h; rfl) fun A outer s H vs Q Er hr h => ?_, hm, kp, .all fun us hl => match us, hl with | [_], _ => rfl⟩
  obtain ⟨u, rfl, hl1, hl, hT, q⟩ := h
  refine b_asgX (i := 1) (of_pe (pe_lst (pa_cons (pe_tup pa_nil) pa_nil)) ⟨by decide, fun p0 hp0 => ⟨show (1 : Nat) ≤ sizeLine by decide, fun bp hbp => ?_⟩⟩) scFew.nd
  have e0 : Ex H (upd H p0 (.tup [])) := Ex.new hp0
  have e1 := e0.trans (Ex.new (o := .lst [.ref p0]) hbp)
  have hbH : H bp = none := fresh_back e0 hbp
  have hp1 : upd (upd H p0 (.tup [])) bp (.lst [.ref p0]) p0 = some (.tup []) := Ex.new hbp _ _ upd_same
  have hb1 : upd (upd H p0 (.tup [])) bp (.lst [.ref p0]) bp = some (.lst [.ref p0]) := upd_same
  generalize upd (upd H p0 (.tup [])) bp (.lst [.ref p0]) = H1 at e1 hp1 hb1 ⊢
  refine b_for (j := 2) (n_r2 (nm 1) (n_add (e_lenS (e_var (i := 0) rfl) ml (by omega)) (nm 1)) mr (by omega) (by omega))
    (fun i σ' H' => ∃ (bs : List Addr) (fss : List (List (List Nat))) (o2 o3 o4 : Option V), H' bp = some (.lst (bs.map V.ref)) ∧ RowsAt H' bs (fss.map fun fs => fs.map Tx) ∧ fss.length = i + 1 ∧ (∀ j fs, fss[j]? = some fs → Pal.Few (u.take j) fs) ∧ LamX.ExtN H H' ∧ LamX.Tabs [(Pt, qFew)] H' ∧ σ' = [some (Tx u), some (.ref bp), o2, o3, o4])
    (fun H2 e2 => ⟨[p0], [[]], none, none, none, e2 _ _ hb1, RowsAt.snoc RowsAt.nil (e2 _ _ hp1), rfl, fun j fs hj => ?_, LamX.ExtN.of (e1.trans e2), (hT.ext e1).ext e2, rfl⟩) (fun i v σ' H' hv hP => ?_) (fun σ' H' hP => ?_) PassesOwn.never rfl scFew.nd
  · cases j with
    | zero =>
      cases hj
      exact Pal.Few.nil
    | succ j => simp at hj
  · obtain ⟨bs, fss, o2, o3, o4, hB, hR, hlen, hF, eN, hT', rfl⟩ := hP
    have hin : i < u.length + 1 - 1 := by
      have := (List.getElem?_eq_some_iff.mp hv).1
      rwa [rng_len] at this
    rw [rng_get hin] at hv
    cases hv
    have hk : 1 + i ≤ u.length := by omega
    refine b_asgCT (i := 3) (own := [("j", 4)]) (j := 4) (A := Nm) (as := List.range (1 + i)) (fun j => Pal.isM (Pal.sub u j (1 + i))) (fun j => (cand u fss (1 + i) j).map Tx) rfl scFew.nd (blkOk_by (N := nFew) (sc := defScope sFew) (by decide +kernel)) (fun _ _ _ _ _ => pg_name (i := 4) scFew.nd rfl (Or.inl rfl)) (i_n1 (e_var (i := 2) rfl) mr (by omega)) (by rw [List.length_range]; omega) (fun x => rfl)
      (fun j hj H2 e2 _ _ _ _ _ => t_val (e_call R hr (a_one (e_sl (i' := j) (j' := 1 + i) (e_var (i := 0) rfl) (e_var (i := 4) rfl) (e_var (i := 2) rfl) (by omega))) (spV.val ⟨Pal.sub u j (1 + i), rfl, by rw [Pal.sub_len hk]; omega, rfl⟩)))
      (fun j hj hp H2 e2 _ _ _ _ _ => ?_) fun rp rs H2 hrp e2 h2 hR2 => ?_
    · have hj := List.mem_range.mp hj
      have hjf : fss[j]? = some fss[j] := List.getElem?_eq_getElem (by omega)
      have hjl : j < bs.length := by rw [hR.len, List.length_map]; omega
      have hjb : bs[j]? = some bs[j] := List.getElem?_eq_getElem hjl
      obtain ⟨xs, hx1, hx2⟩ := hR.row j _ hjb
      rw [List.getElem?_map, hjf] at hx1
      cases hx1
      unfold cand
      rw [hjf, List.map_append]
      refine r_catA (e_ixL (i := (j : Int)) (e_varL (i := 1) rfl (sq_of (e2 _ _ hB))) (e_var (i := 4) rfl) (atI_nat (by rw [List.getElem?_map, hjb]; rfl))) (e2 _ _ hx2) (u_disp (a_one (e_sl (i' := j) (j' := 1 + i) (e_var (i := 0) rfl) (e_var (i := 4) rfl) (e_var (i := 2) rfl) (by omega))) (by simp)) (by simp) ?_
      have hcl := cut_len (hF j _ hjf).1
      rw [List.length_take] at hcl
      rw [List.length_map]
      show fss[j].length + 1 ≤ 100000
      omega
    · refine b_appX (e2 _ _ hB) (e_var (i := 1) rfl) fun H3 e3 => of_pe (pe_minLam (c := c) (P := Pt) (N := ["row"]) (ps := ["row"]) (k := 0) (T := [(Pt, qFew)]) rfl pE mm TB rfl (List.mem_cons_self) (fun p hp _ => by rw [List.mem_singleton] at hp; rw [hp]; rfl) rfl (by decide +kernel) rfl scLam rfl (hr.mono (by decide)) (fun _ _ _ _ _ => .of_eq rfl) (fun f c' => lam_key ml))
        ((e_var (i := 3) rfl) H3 e3 _ fun H4 e4 => ⟨rp, rs, fun t => ((cols u (1 + i))[t]?.map (cand u fss (1 + i))).getD [], rfl, e4 _ _ (e3 _ _ h2), ?_, fun t r hr => ?_, ((hT'.ext e2).ext e3).ext e4, fun b pb H5 hb hmin eN5 hT5 => ?_⟩)
      · rw [hR2.len, List.length_map]
        exact List.length_pos_of_mem (mem_cols.mpr ⟨by omega, Pal.row_ex hk (by omega)⟩)
      · obtain ⟨xs, hx1, hx2⟩ := hR2.row t r hr
        rw [List.getElem?_map] at hx1
        have hx1 : Option.map (fun j => (cand u fss (1 + i) j).map Tx) (cols u (1 + i))[t]? = some xs := hx1
        show H4 r = some (.tup ((((cols u (1 + i))[t]?.map (cand u fss (1 + i))).getD []).map Tx))
        cases hc : (cols u (1 + i))[t]? with
        | none =>
          rw [hc] at hx1
          cases hx1
        | some j =>
          rw [hc] at hx1
          cases hx1
          exact e4 _ _ (e3 _ _ hx2)
      · have hlenC : rs.length = (cols u (1 + i)).length := by
          rw [hR2.len, List.length_map]
          rfl
        have hbl : b < rs.length := (List.getElem?_eq_some_iff.mp hb).1
        obtain ⟨jb, hjb⟩ : ∃ jb, (cols u (1 + i))[b]? = some jb := ⟨_, List.getElem?_eq_getElem (by omega)⟩
        obtain ⟨xs, hx1, hx2⟩ := hR2.row b pb hb
        rw [List.getElem?_map] at hx1
        have hx1 : Option.map (fun j => (cand u fss (1 + i) j).map Tx) (cols u (1 + i))[b]? = some xs := hx1
        rw [hjb] at hx1
        cases hx1
        have hFew := few_turn hk (by omega) (by omega) hF hjb fun t j hj => by
          have h1 : ((Option.map (cand u fss (1 + i)) (cols u (1 + i))[b]?).getD []).length ≤ ((Option.map (cand u fss (1 + i)) (cols u (1 + i))[t]?).getD []).length := hmin t (by rw [hlenC]; exact (List.getElem?_eq_some_iff.mp hj).1)
          rw [hjb, hj] at h1
          exact h1
        have hB5 : H5 bp = some (.lst (bs.map V.ref)) := eN5 _ _ (e4 _ _ (e3 _ _ (e2 _ _ hB))) (by simp)
        have hR5 : RowsAt H5 bs (fss.map fun fs => fs.map Tx) := hR.ext fun r xs h => eN5 _ _ (e4 _ _ (e3 _ _ (e2 _ _ h))) (by simp)
        have hp5 : H5 pb = some (.tup ((cand u fss (1 + i) jb).map Tx)) := eN5 _ _ (e4 _ _ (e3 _ _ hx2)) (by simp)
        refine ⟨bs.map V.ref, hB5, by rw [List.length_map, hR.len, List.length_map]; omega, b_nil ⟨bs ++ [pb], fss ++ [cand u fss (1 + i) jb], _, _, _, by rw [upd_same, List.map_append]; rfl, ?_, by simp [hlen], fun j fs hj => ?_, extN_upd ((eN.trans (LamX.ExtN.of ((e2.trans e3).trans e4))).trans eN5) hbH, tabs_upd hT5 hB5, rfl⟩⟩
        · rw [List.map_append]
          exact (hR5.snoc hp5).upd hB5
        · rcases Nat.lt_or_ge j fss.length with l | l
          · rw [List.getElem?_append_left l] at hj
            exact hF j fs hj
          · have hj2 : j = i + 1 := by
              have := (List.getElem?_eq_some_iff.mp hj).1
              simp [hlen] at this
              omega
            subst hj2
            rw [← hlen, List.getElem?_concat_length] at hj
            cases hj
            rw [Nat.add_comm i 1]
            exact hFew
  · obtain ⟨bs, fss, o2, o3, o4, hB, hR, hlen, hF, eN, hT', rfl⟩ := hP
    rw [rng_len] at hlen
    have hlen : fss.length = u.length + 1 := by omega
    have hjf : fss[u.length]? = some fss[u.length] := List.getElem?_eq_getElem (by omega)
    have hjl : u.length < bs.length := by rw [hR.len, List.length_map]; omega
    have hjb : bs[u.length]? = some bs[u.length] := List.getElem?_eq_getElem hjl
    obtain ⟨xs, hx1, hx2⟩ := hR.row _ _ hjb
    rw [List.getElem?_map, hjf] at hx1
    cases hx1
    refine b_ret (e_ixL (i := (u.length : Int)) (e_varL (i := 1) rfl (sq_of hB)) (e_lenS (e_var (i := 0) rfl) ml (by omega)) (atI_nat (by rw [List.getElem?_map, hjb]; rfl))) fun H2 e2 => q _ _ H2 (eN.trans (LamX.ExtN.of e2)) (hT'.ext e2) (e2 _ _ hx2) ?_
    have := hF _ _ hjf
    rwa [List.take_length] at this
end
end K70
namespace K70
open PySem PySem.Spec PyProof.Rows L2 Evl Wx
theorem all_mk {l : PySem.W.OpenLaw} {w : World} {K : PySem.W.Frag} {h : Heap} {mg : Str → Option Value} {fa : Addr} {c Pt : Addr} (X : K.In h) (G : h.Ns mainGlobals mg) (hfa : mg "law" = some (.ref fa))
    {f0 : Addr} {od0 an0 : Option Addr} {sl0 : Array (Option Value)} {oc0 kV0 dc0 pm0 cd0 ct0 : Value}
    {f1 : Addr} {od1 an1 : Option Addr} {sl1 : Array (Option Value)} {oc1 kV1 dc1 pm1 cd1 ct1 : Value}
    {f2 : Addr} {od2 an2 : Option Addr} {sl2 : Array (Option Value)} {oc2 kV2 dc2 pm2 cd2 ct2 : Value}
    {f3 : Addr} {od3 an3 : Option Addr} {sl3 : Array (Option Value)} {oc3 kV3 dc3 pm3 cd3 ct3 : Value}
    {f4 : Addr} {od4 an4 : Option Addr} {sl4 : Array (Option Value)} {oc4 kV4 dc4 pm4 cd4 ct4 : Value}
    {f5 : Addr} {od5 an5 : Option Addr} {sl5 : Array (Option Value)} {oc5 kV5 dc5 pm5 cd5 ct5 : Value}
    {f6 : Addr} {od6 an6 : Option Addr} {sl6 : Array (Option Value)} {oc6 kV6 dc6 pm6 cd6 ct6 : Value}
    {f7 : Addr} {od7 an7 : Option Addr} {sl7 : Array (Option Value)} {oc7 kV7 dc7 pm7 cd7 ct7 : Value}
    {f8 : Addr} {od8 an8 : Option Addr} {sl8 : Array (Option Value)} {oc8 kV8 dc8 pm8 cd8 ct8 : Value}
    {f9 : Addr} {od9 an9 : Option Addr} {sl9 : Array (Option Value)} {oc9 kV9 dc9 pm9 cd9 ct9 : Value}
    {f10 : Addr} {od10 an10 : Option Addr} {sl10 : Array (Option Value)} {oc10 kV10 dc10 pm10 cd10 ct10 : Value}
    {f11 : Addr} {od11 an11 : Option Addr} {sl11 : Array (Option Value)} {oc11 kV11 dc11 pm11 cd11 ct11 : Value}
    {f12 : Addr} {od12 an12 : Option Addr} {sl12 : Array (Option Value)} {oc12 kV12 dc12 pm12 cd12 ct12 : Value}
    {f13 : Addr} {od13 an13 : Option Addr} {sl13 : Array (Option Value)} {oc13 kV13 dc13 pm13 cd13 ct13 : Value}
    {f14 : Addr} {od14 an14 : Option Addr} {sl14 : Array (Option Value)} {oc14 kV14 dc14 pm14 cd14 ct14 : Value}
    {f15 : Addr} {od15 an15 : Option Addr} {sl15 : Array (Option Value)} {oc15 kV15 dc15 pm15 cd15 ct15 : Value}
    {f16 : Addr} {od16 an16 : Option Addr} {sl16 : Array (Option Value)} {oc16 kV16 dc16 pm16 cd16 ct16 : Value}
    {f17 : Addr} {od17 an17 : Option Addr} {sl17 : Array (Option Value)} {oc17 kV17 dc17 pm17 ct17 : Value}
    {f18 : Addr} {od18 an18 : Option Addr} {sl18 : Array (Option Value)} {oc18 kV18 dc18 pm18 cd18 ct18 : Value}
    (a0 : PySem.W.nsIn K mainGlobals "borders" = some (some (.ref f0))) (l0 : K.lookup f0 = some ⟨oc0, od0, .func (PySem.W.fnOf "borders" "borders" (defArgs sBord) (defBody sBord) (defScope sBord) .none kV0 dc0 pm0 an0 cd0 ct0), sl0⟩) (c0 : PySem.W.codeIn K cd0 "borders" = true) (k0 : PySem.W.keepIn K (.ref f0) = true)
    (a1 : PySem.W.nsIn K mainGlobals "is_word" = some (some (.ref f1))) (l1 : K.lookup f1 = some ⟨oc1, od1, .func (PySem.W.fnOf "is_word" "is_word" (defArgs sWord) (defBody sWord) (defScope sWord) .none kV1 dc1 pm1 an1 cd1 ct1), sl1⟩) (c1 : PySem.W.codeIn K cd1 "is_word" = true) (k1 : PySem.W.keepIn K (.ref f1) = true)
    (a2 : PySem.W.nsIn K mainGlobals "is_words" = some (some (.ref f2))) (l2 : K.lookup f2 = some ⟨oc2, od2, .func (PySem.W.fnOf "is_words" "is_words" (defArgs sWords) (defBody sWords) (defScope sWords) .none kV2 dc2 pm2 an2 cd2 ct2), sl2⟩) (c2 : PySem.W.codeIn K cd2 "is_words" = true) (k2 : PySem.W.keepIn K (.ref f2) = true)
    (a3 : PySem.W.nsIn K mainGlobals "_law_cell" = some (some (.ref f3))) (l3 : K.lookup f3 = some ⟨oc3, od3, .func (PySem.W.fnOf "_law_cell" "_law_cell" (defArgs sCell) (defBody sCell) (defScope sCell) .none kV3 dc3 pm3 an3 cd3 ct3), sl3⟩) (c3 : PySem.W.codeIn K cd3 "_law_cell" = true) (k3 : PySem.W.keepIn K (.ref f3) = true)
    (a4 : PySem.W.nsIn K mainGlobals "_law_draws" = some (some (.ref f4))) (l4 : K.lookup f4 = some ⟨oc4, od4, .func (PySem.W.fnOf "_law_draws" "_law_draws" (defArgs sDraws) (defBody sDraws) (defScope sDraws) .none kV4 dc4 pm4 an4 cd4 ct4), sl4⟩) (c4 : PySem.W.codeIn K cd4 "_law_draws" = true) (k4 : PySem.W.keepIn K (.ref f4) = true)
    (a5 : PySem.W.nsIn K mainGlobals "_law_pool" = some (some (.ref f5))) (l5 : K.lookup f5 = some ⟨oc5, od5, .func (PySem.W.fnOf "_law_pool" "_law_pool" (defArgs sPool) (defBody sPool) (defScope sPool) .none kV5 dc5 pm5 an5 cd5 ct5), sl5⟩) (c5 : PySem.W.codeIn K cd5 "_law_pool" = true) (k5 : PySem.W.keepIn K (.ref f5) = true)
    (a6 : PySem.W.nsIn K mainGlobals "_law_pick" = some (some (.ref f6))) (l6 : K.lookup f6 = some ⟨oc6, od6, .func (PySem.W.fnOf "_law_pick" "_law_pick" (defArgs sPick) (defBody sPick) (defScope sPick) .none kV6 dc6 pm6 an6 cd6 ct6), sl6⟩) (c6 : PySem.W.codeIn K cd6 "_law_pick" = true) (k6 : PySem.W.keepIn K (.ref f6) = true)
    (a7 : PySem.W.nsIn K mainGlobals "_law_drawn" = some (some (.ref f7))) (l7 : K.lookup f7 = some ⟨oc7, od7, .func (PySem.W.fnOf "_law_drawn" "_law_drawn" (defArgs sDrawn) (defBody sDrawn) (defScope sDrawn) .none kV7 dc7 pm7 an7 cd7 ct7), sl7⟩) (c7 : PySem.W.codeIn K cd7 "_law_drawn" = true) (k7 : PySem.W.keepIn K (.ref f7) = true)
    (a8 : PySem.W.nsIn K mainGlobals "unlike" = some (some (.ref f8))) (l8 : K.lookup f8 = some ⟨oc8, od8, .func (PySem.W.fnOf "unlike" "unlike" (defArgs sUnlike) (defBody sUnlike) (defScope sUnlike) .none kV8 dc8 pm8 an8 cd8 ct8), sl8⟩) (c8 : PySem.W.codeIn K cd8 "unlike" = true) (k8 : PySem.W.keepIn K (.ref f8) = true)
    (a9 : PySem.W.nsIn K mainGlobals "is_mirror" = some (some (.ref f9))) (l9 : K.lookup f9 = some ⟨oc9, od9, .func (PySem.W.fnOf "is_mirror" "is_mirror" (defArgs sMir) (defBody sMir) (defScope sMir) .none kV9 dc9 pm9 an9 cd9 ct9), sl9⟩) (c9 : PySem.W.codeIn K cd9 "is_mirror" = true) (k9 : PySem.W.keepIn K (.ref f9) = true)
    (a10 : PySem.W.nsIn K mainGlobals "mirrors" = some (some (.ref f10))) (l10 : K.lookup f10 = some ⟨oc10, od10, .func (PySem.W.fnOf "mirrors" "mirrors" (defArgs sMirs) (defBody sMirs) (defScope sMirs) .none kV10 dc10 pm10 an10 cd10 ct10), sl10⟩) (c10 : PySem.W.codeIn K cd10 "mirrors" = true) (k10 : PySem.W.keepIn K (.ref f10) = true)
    (a11 : PySem.W.nsIn K mainGlobals "radii" = some (some (.ref f11))) (l11 : K.lookup f11 = some ⟨oc11, od11, .func (PySem.W.fnOf "radii" "radii" (defArgs sRadii) (defBody sRadii) (defScope sRadii) .none kV11 dc11 pm11 an11 cd11 ct11), sl11⟩) (c11 : PySem.W.codeIn K cd11 "radii" = true) (k11 : PySem.W.keepIn K (.ref f11) = true)
    (a12 : PySem.W.nsIn K mainGlobals "longest_mirror" = some (some (.ref f12))) (l12 : K.lookup f12 = some ⟨oc12, od12, .func (PySem.W.fnOf "longest_mirror" "longest_mirror" (defArgs sLong) (defBody sLong) (defScope sLong) .none kV12 dc12 pm12 an12 cd12 ct12), sl12⟩) (c12 : PySem.W.codeIn K cd12 "longest_mirror" = true) (k12 : PySem.W.keepIn K (.ref f12) = true)
    (a13 : PySem.W.nsIn K mainGlobals "closed_mirror" = some (some (.ref f13))) (l13 : K.lookup f13 = some ⟨oc13, od13, .func (PySem.W.fnOf "closed_mirror" "closed_mirror" (defArgs sClosed) (defBody sClosed) (defScope sClosed) .none kV13 dc13 pm13 an13 cd13 ct13), sl13⟩) (c13 : PySem.W.codeIn K cd13 "closed_mirror" = true) (k13 : PySem.W.keepIn K (.ref f13) = true)
    (a14 : PySem.W.nsIn K mainGlobals "is_mirrors" = some (some (.ref f14))) (l14 : K.lookup f14 = some ⟨oc14, od14, .func (PySem.W.fnOf "is_mirrors" "is_mirrors" (defArgs sIsMs) (defBody sIsMs) (defScope sIsMs) .none kV14 dc14 pm14 an14 cd14 ct14), sl14⟩) (c14 : PySem.W.codeIn K cd14 "is_mirrors" = true) (k14 : PySem.W.keepIn K (.ref f14) = true)
    (a15 : PySem.W.nsIn K mainGlobals "border_row" = some (some (.ref f15))) (l15 : K.lookup f15 = some ⟨oc15, od15, .func (PySem.W.fnOf "border_row" "border_row" (defArgs sRow) (defBody sRow) (defScope sRow) .none kV15 dc15 pm15 an15 cd15 ct15), sl15⟩) (c15 : PySem.W.codeIn K cd15 "border_row" = true) (k15 : PySem.W.keepIn K (.ref f15) = true)
    (a16 : PySem.W.nsIn K mainGlobals "places_of" = some (some (.ref f16))) (l16 : K.lookup f16 = some ⟨oc16, od16, .func (PySem.W.fnOf "places_of" "places_of" (defArgs sPl) (defBody sPl) (defScope sPl) .none kV16 dc16 pm16 an16 cd16 ct16), sl16⟩) (c16 : PySem.W.codeIn K cd16 "places_of" = true) (k16 : PySem.W.keepIn K (.ref f16) = true)
    (a17 : PySem.W.nsIn K mainGlobals "fewest_mirrors" = some (some (.ref f17))) (l17 : K.lookup f17 = some ⟨oc17, od17, .func (PySem.W.fnOf "fewest_mirrors" "fewest_mirrors" (defArgs sFew) (defBody sFew) (defScope sFew) .none kV17 dc17 pm17 an17 (.ref c) ct17), sl17⟩) (c17 : PySem.W.codeIn K (.ref c) "fewest_mirrors" = true) (k17 : PySem.W.keepIn K (.ref f17) = true)
    (a18 : PySem.W.nsIn K mainGlobals "law" = some (some (.ref f18))) (l18 : K.lookup f18 = some ⟨oc18, od18, .func (PySem.W.fnOf "law" "law" (defArgs sLaw) (defBody sLaw) (defScope sLaw) .none kV18 dc18 pm18 an18 cd18 ct18), sl18⟩) (c18 : PySem.W.codeIn K cd18 "law" = true) (k18 : PySem.W.keepIn K (.ref f18) = true)
    (z0 : PySem.W.nsIn K mainGlobals "range" = some none)
    (z1 : PySem.W.nsIn K mainGlobals "len" = some none)
    (z2 : PySem.W.nsIn K mainGlobals "min" = some none)
    (z3 : PySem.W.nsIn K mainGlobals "max" = some none)
    (z4 : PySem.W.nsIn K mainGlobals "sorted" = some none)
    (z5 : PySem.W.nsIn K mainGlobals "set" = some none)
    (z6 : PySem.W.nsIn K mainGlobals "tuple" = some none)
    (z7 : PySem.W.nsIn K mainGlobals "isinstance" = some none)
    (z8 : PySem.W.nsIn K mainGlobals "int" = some none)
    (z9 : PySem.W.nsIn K mainGlobals "str" = some none)
    (z10 : PySem.W.nsIn K mainGlobals "all" = some none)
    (z11 : PySem.W.nsIn K mainGlobals "sum" = some none)
    {ti0 : Tok} (y0 : PySem.W.nsIn K mainGlobals "MOST" = some (some (.int 60 ti0)))
    {ts0 : Tok} (x0 : PySem.W.nsIn K mainGlobals "LETTERS" = some (some (.str "abcd" ts0)))
    (hP : h.get? Pt = some { cls := .none, data := .fields #[] }) (hcH : PySem.W.codeHdIn K c Pt = true) (nP : K.lookup Pt = none)
    : LamX.LawAtS l w K CX0 5 63 "script" mg fa h := by
  have e := hfa.symm.trans (PySem.W.mg_of X G a18)
  cases e
  have F0 := fun_mk (x := "borders") (qual := "borders") (st := sBord) l0 c0 k0
  have D_borders : Dx K mg "borders" sBord ["word"] := ⟨⟨_, _, F0, PySem.W.mg_of X G a0, F0.binds (ps := ["word"]) fun _ _ _ _ _ _ us hl => match us, hl with | [_], _ => rfl⟩⟩
  have F1 := fun_mk (x := "is_word") (qual := "is_word") (st := sWord) l1 c1 k1
  have D_is_word : Dx K mg "is_word" sWord ["value"] := ⟨⟨_, _, F1, PySem.W.mg_of X G a1, F1.binds (ps := ["value"]) fun _ _ _ _ _ _ us hl => match us, hl with | [_], _ => rfl⟩⟩
  have F2 := fun_mk (x := "is_words") (qual := "is_words") (st := sWords) l2 c2 k2
  have D_is_words : Dx K mg "is_words" sWords ["value"] := ⟨⟨_, _, F2, PySem.W.mg_of X G a2, F2.binds (ps := ["value"]) fun _ _ _ _ _ _ us hl => match us, hl with | [_], _ => rfl⟩⟩
  have F3 := fun_mk (x := "_law_cell") (qual := "_law_cell") (st := sCell) l3 c3 k3
  have D__law_cell : Dx K mg "_law_cell" sCell ["script", "k"] := ⟨⟨_, _, F3, PySem.W.mg_of X G a3, F3.binds (ps := ["script", "k"]) fun _ _ _ _ _ _ us hl => match us, hl with | [_, _], _ => rfl⟩⟩
  have F4 := fun_mk (x := "_law_draws") (qual := "_law_draws") (st := sDraws) l4 c4 k4
  have D__law_draws : Dx K mg "_law_draws" sDraws ["cell", "amount"] := ⟨⟨_, _, F4, PySem.W.mg_of X G a4, F4.binds (ps := ["cell", "amount"]) fun _ _ _ _ _ _ us hl => match us, hl with | [_, _], _ => rfl⟩⟩
  have F5 := fun_mk (x := "_law_pool") (qual := "_law_pool") (st := sPool) l5 c5 k5
  have D__law_pool : Dx K mg "_law_pool" sPool ["script"] := ⟨⟨_, _, F5, PySem.W.mg_of X G a5, F5.binds (ps := ["script"]) fun _ _ _ _ _ _ us hl => match us, hl with | [_], _ => rfl⟩⟩
  have F6 := fun_mk (x := "_law_pick") (qual := "_law_pick") (st := sPick) l6 c6 k6
  have D__law_pick : Dx K mg "_law_pick" sPick ["pool", "amount"] := ⟨⟨_, _, F6, PySem.W.mg_of X G a6, F6.binds (ps := ["pool", "amount"]) fun _ _ _ _ _ _ us hl => match us, hl with | [_, _], _ => rfl⟩⟩
  have F7 := fun_mk (x := "_law_drawn") (qual := "_law_drawn") (st := sDrawn) l7 c7 k7
  have D__law_drawn : Dx K mg "_law_drawn" sDrawn ["pool", "low", "most", "size"] := ⟨⟨_, _, F7, PySem.W.mg_of X G a7, F7.binds (ps := ["pool", "low", "most", "size"]) fun _ _ _ _ _ _ us hl => match us, hl with | [_, _, _, _], _ => rfl⟩⟩
  have F8 := fun_mk (x := "unlike") (qual := "unlike") (st := sUnlike) l8 c8 k8
  have D_unlike : Dx K mg "unlike" sUnlike ["items"] := ⟨⟨_, _, F8, PySem.W.mg_of X G a8, F8.binds (ps := ["items"]) fun _ _ _ _ _ _ us hl => match us, hl with | [_], _ => rfl⟩⟩
  have F9 := fun_mk (x := "is_mirror") (qual := "is_mirror") (st := sMir) l9 c9 k9
  have D_is_mirror : Dx K mg "is_mirror" sMir ["word"] := ⟨⟨_, _, F9, PySem.W.mg_of X G a9, F9.binds (ps := ["word"]) fun _ _ _ _ _ _ us hl => match us, hl with | [_], _ => rfl⟩⟩
  have F10 := fun_mk (x := "mirrors") (qual := "mirrors") (st := sMirs) l10 c10 k10
  have D_mirrors : Dx K mg "mirrors" sMirs ["word"] := ⟨⟨_, _, F10, PySem.W.mg_of X G a10, F10.binds (ps := ["word"]) fun _ _ _ _ _ _ us hl => match us, hl with | [_], _ => rfl⟩⟩
  have F11 := fun_mk (x := "radii") (qual := "radii") (st := sRadii) l11 c11 k11
  have D_radii : Dx K mg "radii" sRadii ["word"] := ⟨⟨_, _, F11, PySem.W.mg_of X G a11, F11.binds (ps := ["word"]) fun _ _ _ _ _ _ us hl => match us, hl with | [_], _ => rfl⟩⟩
  have F12 := fun_mk (x := "longest_mirror") (qual := "longest_mirror") (st := sLong) l12 c12 k12
  have D_longest_mirror : Dx K mg "longest_mirror" sLong ["word"] := ⟨⟨_, _, F12, PySem.W.mg_of X G a12, F12.binds (ps := ["word"]) fun _ _ _ _ _ _ us hl => match us, hl with | [_], _ => rfl⟩⟩
  have F13 := fun_mk (x := "closed_mirror") (qual := "closed_mirror") (st := sClosed) l13 c13 k13
  have D_closed_mirror : Dx K mg "closed_mirror" sClosed ["word"] := ⟨⟨_, _, F13, PySem.W.mg_of X G a13, F13.binds (ps := ["word"]) fun _ _ _ _ _ _ us hl => match us, hl with | [_], _ => rfl⟩⟩
  have F14 := fun_mk (x := "is_mirrors") (qual := "is_mirrors") (st := sIsMs) l14 c14 k14
  have D_is_mirrors : Dx K mg "is_mirrors" sIsMs ["word", "value"] := ⟨⟨_, _, F14, PySem.W.mg_of X G a14, F14.binds (ps := ["word", "value"]) fun _ _ _ _ _ _ us hl => match us, hl with | [_, _], _ => rfl⟩⟩
  have F15 := fun_mk (x := "border_row") (qual := "border_row") (st := sRow) l15 c15 k15
  have D_border_row : Dx K mg "border_row" sRow ["word"] := ⟨⟨_, _, F15, PySem.W.mg_of X G a15, F15.binds (ps := ["word"]) fun _ _ _ _ _ _ us hl => match us, hl with | [_], _ => rfl⟩⟩
  have F16 := fun_mk (x := "places_of") (qual := "places_of") (st := sPl) l16 c16 k16
  have D_places_of : Dx K mg "places_of" sPl ["small", "word"] := ⟨⟨_, _, F16, PySem.W.mg_of X G a16, F16.binds (ps := ["small", "word"]) fun _ _ _ _ _ _ us hl => match us, hl with | [_, _], _ => rfl⟩⟩
  have mgL := PySem.W.mg_of X G a17
  have F18 := fun_mk (x := "law") (qual := "law") (st := sLaw) l18 c18 k18
  have m_range := PySem.W.mg_none_of X G z0
  have m_len := PySem.W.mg_none_of X G z1
  have m_min := PySem.W.mg_none_of X G z2
  have m_max := PySem.W.mg_none_of X G z3
  have m_sorted := PySem.W.mg_none_of X G z4
  have m_set := PySem.W.mg_none_of X G z5
  have m_tuple := PySem.W.mg_none_of X G z6
  have m_isinstance := PySem.W.mg_none_of X G z7
  have m_int := PySem.W.mg_none_of X G z8
  have m_str := PySem.W.mg_none_of X G z9
  have m_all := PySem.W.mg_none_of X G z10
  have m_sum := PySem.W.mg_none_of X G z11
  have g_MOST : ∃ t, mg "MOST" = some (.int 60 t) := ⟨_, PySem.W.mg_of X G y0⟩
  have g_LETTERS : ∃ t, mg "LETTERS" = some (.str "abcd" t) := ⟨_, PySem.W.mg_of X G x0⟩
  refine ⟨PySem.W.fnOf "law" "law" (defArgs sLaw) (defBody sLaw) (defScope sLaw) .none kV18 dc18 pm18 an18 cd18 ct18, [(c, Pt)], spLaw [(Pt, qFew)] K, fun p hp => ?_, fun p hp => ?_, fun p hp => ?_, fun s v => .of_eq rfl, fun H a ns hl _ hT hS => ⟨a, ns, rfl, hS, Nat.le_trans hl (by decide), fun p hp => ?_, fun _ => rfl⟩, fun base _ _ hTB => ?_⟩
  · rw [List.mem_singleton] at hp
    rw [hp]
    exact hP
  · rw [List.mem_singleton] at hp
    rw [hp]
    exact nP
  · rw [List.mem_singleton] at hp
    rw [hp]
    exact PySem.W.codeHd_of_K X hcH
  · rw [List.mem_singleton] at hp
    rw [hp]
    exact LamX.TabS.nil (hT (c, Pt) List.mem_cons_self)
  have r1 := ok_bord (P := l.prog) (w := w) (base := base) D_borders m_range m_len
  have r2 := ok_word (P := l.prog) (w := w) (base := base) D_is_word m_isinstance m_str m_len m_all g_MOST g_LETTERS
  have r3 := ok_words (P := l.prog) (w := w) (base := base) D_is_words r2 m_isinstance m_tuple m_all
  have r4 := ok_cell (P := l.prog) (w := w) (base := base) D__law_cell m_len
  have r5 := ok_draws (P := l.prog) (w := w) (base := base) D__law_draws m_range m_int
  have r6 := ok_pool (P := l.prog) (w := w) (base := base) D__law_pool r5 r4 m_range m_max m_min m_len
  have r7 := ok_pick (P := l.prog) (w := w) (base := base) D__law_pick m_len m_int
  have r8 := ok_drawn (P := l.prog) (w := w) (base := base) D__law_drawn r7 m_range
  have r9 := ok_unlike (P := l.prog) (w := w) (base := base) D_unlike m_sorted m_set
  have r10 := ok_mir (P := l.prog) (w := w) (base := base) D_is_mirror
  have r11 := ok_mirs (P := l.prog) (w := w) (base := base) D_mirrors r9 r10 m_range m_len
  have r12 := ok_radii (P := l.prog) (w := w) (base := base) D_radii m_range m_len m_tuple
  have r13 := ok_long (P := l.prog) (w := w) (base := base) D_longest_mirror r10 m_range m_len
  have r14 := ok_closed (P := l.prog) (w := w) (base := base) D_closed_mirror r10 m_range m_len
  have r15 := ok_isms (P := l.prog) (w := w) (base := base) D_is_mirrors r3 r10 m_all m_len
  have r16 := ok_row (P := l.prog) (w := w) (base := base) D_border_row m_range m_len m_tuple
  have r17 := ok_pl (P := l.prog) (w := w) (base := base) D_places_of r16 m_range m_len
  have r18 := ok_few (P := l.prog) (w := w) (base := base) l17 c17 mgL k17 (hTB (c, Pt) List.mem_cons_self) r10 m_range m_len m_min
  exact ok_law F18 r6 r7 r8 r12 r11 r17 r13 r10 r14 r1 r15 r18 m_range m_len m_sum m_max m_sorted
end K70
open PySem PySem.W PyProof.Rows
set_option maxHeartbeats 0 in
theorem PySem.Challenge.cw_wordwright_k70_whole_mirrors_by_middles_holds : PySem.Challenge.rw_wordwright_k70_whole_mirrors_by_middles.Holds := by
  w_on; o_law; k_head; (case hw => w_witness2)
  k_fill
  refine LamX.walk_ofTs (l := PySem.Challenge.rw_wordwright_k70_whole_mirrors_by_middles) (n := 63) (k := 5) (x := "script") (CX := fun _ => L2.CX0) rfl (by decide) rfl ⟨rfl, by decide, by decide⟩ (fun w h Y => PySem.W.km_in_of Y) ?F (fun _ _ _ _ _ h => h)
  case F =>
    intro w mg fa h Y KX G hmg
    have hT := PySem.W.km_tabs_of Y
    refine' K70.all_mk KX G hmg ?a0 ?l0 ?c0 ?k0 ?a1 ?l1 ?c1 ?k1 ?a2 ?l2 ?c2 ?k2 ?a3 ?l3 ?c3 ?k3 ?a4 ?l4 ?c4 ?k4 ?a5 ?l5 ?c5 ?k5 ?a6 ?l6 ?c6 ?k6 ?a7 ?l7 ?c7 ?k7 ?a8 ?l8 ?c8 ?k8 ?a9 ?l9 ?c9 ?k9 ?a10 ?l10 ?c10 ?k10 ?a11 ?l11 ?c11 ?k11 ?a12 ?l12 ?c12 ?k12 ?a13 ?l13 ?c13 ?k13 ?a14 ?l14 ?c14 ?k14 ?a15 ?l15 ?c15 ?k15 ?a16 ?l16 ?c16 ?k16 ?a17 ?l17 ?c17 ?k17 ?a18 ?l18 ?c18 ?k18 ?z0 ?z1 ?z2 ?z3 ?z4 ?z5 ?z6 ?z7 ?z8 ?z9 ?z10 ?z11 ?y0 ?x0 (hT _ List.mem_cons_self) ?hcH ?nP
    (case a0 => k_is); (case l0 => k_is); (case c0 => k_is); (case k0 => k_is); (case a1 => k_is); (case l1 => k_is); (case c1 => k_is); (case k1 => k_is)
    (case a2 => k_is); (case l2 => k_is); (case c2 => k_is); (case k2 => k_is); (case a3 => k_is); (case l3 => k_is); (case c3 => k_is); (case k3 => k_is)
    (case a4 => k_is); (case l4 => k_is); (case c4 => k_is); (case k4 => k_is); (case a5 => k_is); (case l5 => k_is); (case c5 => k_is); (case k5 => k_is)
    (case a6 => k_is); (case l6 => k_is); (case c6 => k_is); (case k6 => k_is); (case a7 => k_is); (case l7 => k_is); (case c7 => k_is); (case k7 => k_is)
    (case a8 => k_is); (case l8 => k_is); (case c8 => k_is); (case k8 => k_is); (case a9 => k_is); (case l9 => k_is); (case c9 => k_is); (case k9 => k_is)
    (case a10 => k_is); (case l10 => k_is); (case c10 => k_is); (case k10 => k_is); (case a11 => k_is); (case l11 => k_is); (case c11 => k_is); (case k11 => k_is)
    (case a12 => k_is); (case l12 => k_is); (case c12 => k_is); (case k12 => k_is); (case a13 => k_is); (case l13 => k_is); (case c13 => k_is); (case k13 => k_is)
    (case a14 => k_is); (case l14 => k_is); (case c14 => k_is); (case k14 => k_is); (case a15 => k_is); (case l15 => k_is); (case c15 => k_is); (case k15 => k_is)
    (case a16 => k_is); (case l16 => k_is); (case c16 => k_is); (case k16 => k_is); (case a17 => k_is); (case l17 => k_is); (case c17 => k_is); (case k17 => k_is)
    (case a18 => k_is); (case l18 => k_is); (case c18 => k_is); (case k18 => k_is); (case z0 => k_is); (case z1 => k_is); (case z2 => k_is); (case z3 => k_is)
    (case z4 => k_is); (case z5 => k_is); (case z6 => k_is); (case z7 => k_is); (case z8 => k_is); (case z9 => k_is); (case z10 => k_is); (case z11 => k_is)
    (case y0 => k_is); (case x0 => k_is)
    (case hcH => kernel_rfl); (case nP => kernel_rfl)

