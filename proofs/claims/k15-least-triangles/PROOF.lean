import PyProof.Rows.All
import Wide.All
import OpenK.AllK
import Wide.FinOn
import HandS.ForMost
import HandS.Wide
import HandS.Deep
import HandS.IsInst
import HandS.NoneIn
import HandS.More
import HandS.Rev
import KE.Datum
import KE.KDictKeyed
import HandS.ForExc
import KE.KExcIs
import KE.KIsAll
import HandS.TupSets
import HandS.SetFor
import KE.DatumOrd
import HandS.Iter
import PySem.Challenge.RW_fencefield_k15_whole_least_triangles
set_option Elab.async false
set_option linter.all false
set_option maxRecDepth 100000
set_option maxHeartbeats 4000000

/-! part MFence -/
/-! fences, plain -/
namespace LW
abbrev Pt := Int × Int
def cr (o a b : Pt) : Int := (a.1 - o.1) * (b.2 - o.2) - (a.2 - o.2) * (b.1 - o.1)
def dt (a m b : Pt) : Int := (a.1 - m.1) * (b.1 - m.1) + (a.2 - m.2) * (b.2 - m.2)
abbrev Sd := Pt × Pt
theorem sq_nn (a : Int) : 0 ≤ a * a := by
  rcases Int.le_total 0 a with h | h
  · exact Int.mul_nonneg h h
  · have := Int.mul_nonneg (show 0 ≤ -a by omega) (show 0 ≤ -a by omega)
    grind
/-! ### sides of a row that closes -/
def chain (p : Pt) : List Pt → List Sd
  | [] => []
  | q :: r => (p, q) :: chain q r
def sdsL : List Pt → List Sd
  | [] => []
  | p :: r => chain p (r ++ [p])
theorem chain_app (q : Pt) (y : List Pt) : ∀ (x : List Pt) (p : Pt), chain p (x ++ q :: y) = chain p (x ++ [q]) ++ chain q y
  | [], p => rfl
  | a :: x, p => by
    show (p, a) :: chain a (x ++ q :: y) = (p, a) :: (chain a (x ++ [q]) ++ chain q y)
    rw [chain_app q y x a]
theorem sds_rot : ∀ (a b : List Pt), (sdsL (a ++ b)).Perm (sdsL (b ++ a))
  | [], b => by rw [List.nil_append, List.append_nil]
  | p :: x, [] => by rw [List.append_nil, List.nil_append]
  | p :: x, q :: y => by
    show (chain p (x ++ q :: y ++ [p])).Perm (chain q (y ++ p :: x ++ [q]))
    rw [List.append_assoc, List.append_assoc]
    show (chain p (x ++ q :: (y ++ [p]))).Perm (chain q (y ++ p :: (x ++ [q])))
    rw [chain_app q (y ++ [p]) x p, chain_app p (x ++ [q]) y q]
    exact List.perm_append_comm
def flip (s : Sd) : Sd := (s.2, s.1)
theorem chain_rev : ∀ (x : List Pt) (p q : Pt), (chain p (x ++ [q])).reverse.map flip = chain q (x.reverse ++ [p])
  | [], p, q => rfl
  | a :: x, p, q => by
    show (((p, a) :: chain a (x ++ [q])).reverse).map flip = _
    rw [List.reverse_cons, List.map_append, chain_rev x a q, List.reverse_cons, List.append_assoc]
    show chain q (x.reverse ++ [a]) ++ [(a, p)] = chain q (x.reverse ++ a :: [p])
    rw [chain_app a [p] x.reverse q]
    rfl
theorem sds_rev : ∀ (a : List Pt), (sdsL a.reverse).Perm ((sdsL a).map flip)
  | [] => List.Perm.refl _
  | p :: x => by
    rw [List.reverse_cons]
    refine (sds_rot x.reverse [p]).trans ?_
    show (chain p (x.reverse ++ [p])).Perm ((chain p (x ++ [p])).map flip)
    rw [← chain_rev x p p]
    exact (List.reverse_perm _).map _
theorem chain_map (f : Pt → Pt) : ∀ (x : List Pt) (p : Pt), chain (f p) (x.map f) = (chain p x).map fun s => (f s.1, f s.2)
  | [], _ => rfl
  | a :: x, p => by
    show (f p, f a) :: chain (f a) (x.map f) = (f p, f a) :: _
    rw [chain_map f x a]
theorem sds_map (f : Pt → Pt) : ∀ (a : List Pt), sdsL (a.map f) = (sdsL a).map fun s => (f s.1, f s.2)
  | [] => rfl
  | p :: x => by
    show chain (f p) (x.map f ++ [f p]) = _
    rw [show x.map f ++ [f p] = (x ++ [p]).map f by simp, chain_map]
    rfl
theorem chain_len : ∀ (x : List Pt) (p : Pt), (chain p x).length = x.length
  | [], _ => rfl
  | a :: x, p => by show (chain a x).length + 1 = x.length + 1; rw [chain_len x a]
theorem sds_len : ∀ (a : List Pt), (sdsL a).length = a.length
  | [] => rfl
  | p :: x => by show (chain p (x ++ [p])).length = _; rw [chain_len]; simp
theorem chain_get : ∀ (x : List Pt) (p : Pt) (k : Nat) (s : Sd), (chain p x)[k]? = some s ↔ ((p :: x)[k]? = some s.1 ∧ x[k]? = some s.2)
  | [], p, k, s => by simp [chain]
  | a :: x, p, 0, s => by
    show some (p, a) = some s ↔ (some p = some s.1 ∧ some a = some s.2)
    constructor
    · intro h; cases h; exact ⟨rfl, rfl⟩
    · rintro ⟨h1, h2⟩; cases h1; cases h2; rfl
  | a :: x, p, k + 1, s => by
    show (chain a x)[k]? = some s ↔ ((a :: x)[k]? = some s.1 ∧ x[k]? = some s.2)
    exact chain_get x a k s
/-- the k-th side: from the k-th corner to the next -/
theorem sds_get {a : List Pt} {k : Nat} (h : k < a.length) : (sdsL a)[k]? = some (a[k], a[(k + 1) % a.length]'(Nat.mod_lt _ (by omega))) := by
  cases a with
  | nil => cases h
  | cons p x =>
    show (chain p (x ++ [p]))[k]? = _
    rw [chain_get]
    refine ⟨?_, ?_⟩
    · show (p :: (x ++ [p]))[k]? = some (p :: x)[k]
      rw [show p :: (x ++ [p]) = (p :: x) ++ [p] from rfl, List.getElem?_append_left h, List.getElem?_eq_getElem h]
    · show (x ++ [p])[k]? = some ((p :: x)[(k + 1) % (x.length + 1)]'_)
      have h' : k < x.length + 1 := h
      by_cases c : k < x.length
      · rw [List.getElem?_append_left c, List.getElem?_eq_getElem c]
        congr 1
        have e : (k + 1) % (x.length + 1) = k + 1 := Nat.mod_eq_of_lt (by omega)
        simp only [e]
        rfl
      · have e : k = x.length := by omega
        subst e
        rw [List.getElem?_append_right (Nat.le_refl _), Nat.sub_self]
        simp only [Nat.mod_self]
        rfl
/-! ### sums along the sides -/
def sumBy (f : Sd → Int) (l : List Sd) : Int := (l.map f).sum
theorem perm_sum {l m : List Int} (h : l.Perm m) : l.sum = m.sum := by
  induction h with
  | nil => rfl
  | cons x _ ih => rw [List.sum_cons, List.sum_cons, ih]
  | swap x y l => simp only [List.sum_cons]; omega
  | trans _ _ a b => exact a.trans b
theorem sumBy_perm {f : Sd → Int} {l m : List Sd} (h : l.Perm m) : sumBy f l = sumBy f m := perm_sum (h.map f)
theorem sumBy_app (f : Sd → Int) (l m : List Sd) : sumBy f (l ++ m) = sumBy f l + sumBy f m := by
  unfold sumBy; rw [List.map_append, List.sum_append]
theorem sumBy_cons (f : Sd → Int) (s : Sd) (m : List Sd) : sumBy f (s :: m) = f s + sumBy f m := by
  unfold sumBy; rw [List.map_cons, List.sum_cons]
theorem sumBy_nil (f : Sd → Int) : sumBy f [] = 0 := rfl
theorem sumBy_map (f : Sd → Int) (g : Sd → Sd) (l : List Sd) : sumBy f (l.map g) = sumBy (fun s => f (g s)) l := by
  unfold sumBy; rw [List.map_map]; rfl
theorem sumBy_congr {f g : Sd → Int} {l : List Sd} (h : ∀ s ∈ l, f s = g s) : sumBy f l = sumBy g l := by
  unfold sumBy; rw [List.map_congr_left h]
theorem sumBy_add (f g : Sd → Int) : ∀ l : List Sd, sumBy (fun s => f s + g s) l = sumBy f l + sumBy g l
  | [] => rfl
  | s :: l => by rw [sumBy_cons, sumBy_cons, sumBy_cons, sumBy_add f g l]; omega
theorem sumBy_mul (c : Int) (f : Sd → Int) : ∀ l : List Sd, sumBy (fun s => c * f s) l = c * sumBy f l
  | [] => by simp [sumBy]
  | s :: l => by rw [sumBy_cons, sumBy_cons, sumBy_mul c f l, Int.mul_add]
/-- what goes up and down along a row that closes -/
theorem chain_tel (φ : Pt → Int) (q : Pt) : ∀ (x : List Pt) (p : Pt), sumBy (fun s => φ s.2 - φ s.1) (chain p (x ++ [q])) = φ q - φ p
  | [], p => by show sumBy _ [(p, q)] = _; rw [sumBy_cons, sumBy_nil]; simp
  | a :: x, p => by
    show sumBy _ ((p, a) :: chain a (x ++ [q])) = _
    rw [sumBy_cons, chain_tel φ q x a]
    show φ a - φ p + (φ q - φ a) = _
    omega
theorem sds_tel (φ : Pt → Int) : ∀ (a : List Pt), sumBy (fun s => φ s.2 - φ s.1) (sdsL a) = 0
  | [] => rfl
  | p :: x => by show sumBy _ (chain p (x ++ [p])) = 0; rw [chain_tel]; omega
/-- twice the area, with its sign -/
def wt (s : Sd) : Int := s.1.1 * s.2.2 - s.1.2 * s.2.1
def A2 (a : List Pt) : Int := sumBy wt (sdsL a)
theorem A2_rot (a b : List Pt) : A2 (a ++ b) = A2 (b ++ a) := sumBy_perm (sds_rot a b)
theorem A2_rev (a : List Pt) : A2 a.reverse = - A2 a := by
  unfold A2
  rw [sumBy_perm (sds_rev a), sumBy_map]
  have := sumBy_mul (-1) wt (sdsL a)
  rw [show -sumBy wt (sdsL a) = -1 * sumBy wt (sdsL a) by omega, ← this]
  refine sumBy_congr fun s _ => ?_
  show s.2.1 * s.1.2 - s.2.2 * s.1.1 = -1 * (s.1.1 * s.2.2 - s.1.2 * s.2.1)
  grind
/-- an affine map -/
structure Aff where
  a : Int
  b : Int
  c : Int
  d : Int
  e : Int
  f : Int
def Aff.det (t : Aff) : Int := t.a * t.d - t.b * t.c
def Aff.ap (t : Aff) (p : Pt) : Pt := (t.a * p.1 + t.b * p.2 + t.e, t.c * p.1 + t.d * p.2 + t.f)
theorem A2_aff (t : Aff) (l : List Pt) : A2 (l.map t.ap) = t.det * A2 l := by
  unfold A2
  rw [sds_map, sumBy_map, ← sumBy_mul]
  have h0 := sds_tel (fun p => t.e * (t.c * p.1 + t.d * p.2) - t.f * (t.a * p.1 + t.b * p.2)) l
  have h1 := sumBy_add (fun s => t.det * wt s) (fun s => (fun p : Pt => t.e * (t.c * p.1 + t.d * p.2) - t.f * (t.a * p.1 + t.b * p.2)) s.2 - (fun p : Pt => t.e * (t.c * p.1 + t.d * p.2) - t.f * (t.a * p.1 + t.b * p.2)) s.1) (sdsL l)
  rw [h0, Int.add_zero] at h1
  rw [← h1]
  refine sumBy_congr fun s _ => ?_
  simp only [wt, Aff.ap, Aff.det]
  grind
/-- the other form of the sum -/
def wl (s : Sd) : Int := (s.1.1 - s.2.1) * (s.1.2 + s.2.2)
theorem A2_wl (l : List Pt) : sumBy wl (sdsL l) = A2 l := by
  unfold A2
  have h0 := sds_tel (fun p => p.1 * p.2) l
  have h1 := sumBy_add wl (fun s => (fun p : Pt => p.1 * p.2) s.2 - (fun p : Pt => p.1 * p.2) s.1) (sdsL l)
  rw [h0, Int.add_zero] at h1
  rw [← h1]
  refine sumBy_congr fun s _ => ?_
  simp only [wl, wt]
  grind
theorem A2_swap (l : List Pt) : A2 (l.map fun p => (p.2, p.1)) = - A2 l := by
  have := A2_aff ⟨0, 1, 1, 0, 0, 0⟩ l
  have e : (fun p : Pt => (p.2, p.1)) = (Aff.mk 0 1 1 0 0 0).ap := by
    funext p; simp [Aff.ap]
  rw [e, this]; simp [Aff.det]
/-! ### two sides that do not disturb each other -/
/-- a line parts them: p x + q y + r is at most nought on the one and above nought on the other -/
def Line (s t : Sd) : Prop := ∃ p q r : Int, p * s.1.1 + q * s.1.2 + r ≤ 0 ∧ p * s.2.1 + q * s.2.2 + r ≤ 0 ∧ 0 < p * t.1.1 + q * t.1.2 + r ∧ 0 < p * t.2.1 + q * t.2.2 + r
def Apart (s t : Sd) : Prop := Line s t ∨ Line t s
/-- from the corner m: the two do not lie on one another -/
def NoFold (a m b : Pt) : Prop := ¬ (cr a m b = 0 ∧ 0 < dt a m b)
def Share (s t : Sd) : Prop := (s.2 = t.1 ∧ NoFold s.1 s.2 t.2) ∨ (s.1 = t.2 ∧ NoFold t.1 s.1 s.2) ∨ (s.1 = t.1 ∧ NoFold s.2 s.1 t.2) ∨ (s.2 = t.2 ∧ NoFold s.1 s.2 t.1)
def Rel (s t : Sd) : Prop := Apart s t ∨ Share s t
theorem NoFold.symm {a m b : Pt} (h : NoFold a m b) : NoFold b m a := fun ⟨h1, h2⟩ => h ⟨by simp only [cr] at *; grind, by simp only [dt] at *; grind⟩
theorem Rel.symm {s t : Sd} (h : Rel s t) : Rel t s := by
  rcases h with h | h | h | h | h
  · exact .inl h.symm
  · exact .inr (.inr (.inl ⟨h.1.symm, by rw [← h.1]; exact h.2⟩))
  · exact .inr (.inl ⟨h.1.symm, by rw [← h.1]; exact h.2⟩)
  · exact .inr (.inr (.inr (.inl ⟨h.1.symm, by rw [← h.1]; exact h.2.symm⟩)))
  · exact .inr (.inr (.inr (.inr ⟨h.1.symm, by rw [← h.1]; exact h.2.symm⟩)))
theorem Line.flipL {s t : Sd} (h : Line s t) : Line (flip s) t := by
  obtain ⟨p, q, r, h1, h2, h3, h4⟩ := h; exact ⟨p, q, r, h2, h1, h3, h4⟩
theorem Line.flipR {s t : Sd} (h : Line s t) : Line s (flip t) := by
  obtain ⟨p, q, r, h1, h2, h3, h4⟩ := h; exact ⟨p, q, r, h1, h2, h4, h3⟩
theorem Rel.flipL {s t : Sd} (h : Rel s t) : Rel (flip s) t := by
  rcases h with (h | h) | h | h | h | h
  · exact .inl (.inl h.flipL)
  · exact .inl (.inr h.flipR)
  · exact .inr (.inr (.inr (.inl h)))
  · exact .inr (.inr (.inr (.inr ⟨h.1, h.2.symm⟩)))
  · exact .inr (.inl h)
  · exact .inr (.inr (.inl ⟨h.1, h.2.symm⟩))
theorem Rel.flipR {s t : Sd} (h : Rel s t) : Rel s (flip t) := h.symm.flipL.symm
/-- linear maps keep it -/
theorem Line.aff {s t : Sd} {m : Aff} (hd : m.det = 1 ∨ m.det = -1) (h : Line s t) : Line (m.ap s.1, m.ap s.2) (m.ap t.1, m.ap t.2) := by
  obtain ⟨p, q, r, h1, h2, h3, h4⟩ := h
  -- the functional led back
  have key : ∀ z : Pt, (p * m.d - q * m.c) * m.det * (m.ap z).1 + (q * m.a - p * m.b) * m.det * (m.ap z).2 + (r - (p * m.d - q * m.c) * m.det * m.e - (q * m.a - p * m.b) * m.det * m.f) = p * z.1 + q * z.2 + r := fun z => by
    have dd : m.det * m.det = 1 := by rcases hd with h | h <;> rw [h] <;> rfl
    have e : (p * m.d - q * m.c) * m.det * (m.ap z).1 + (q * m.a - p * m.b) * m.det * (m.ap z).2 + (r - (p * m.d - q * m.c) * m.det * m.e - (q * m.a - p * m.b) * m.det * m.f) = m.det * (m.a * m.d - m.b * m.c) * (p * z.1 + q * z.2) + r := by
      simp only [Aff.ap]; grind
    have e2 : m.a * m.d - m.b * m.c = m.det := rfl
    rw [e, e2, dd]; omega
  exact ⟨_, _, _, by rw [key]; exact h1, by rw [key]; exact h2, by rw [key]; exact h3, by rw [key]; exact h4⟩
theorem cr_aff (m : Aff) (a b c : Pt) : cr (m.ap a) (m.ap b) (m.ap c) = m.det * cr a b c := by
  simp only [cr, Aff.ap, Aff.det]; grind
/-- folding told by multiples: b - m is a positive part of a - m -/
theorem fold_iff {a m b : Pt} : (cr a m b = 0 ∧ 0 < dt a m b) ↔ ∃ i j : Int, 0 < i ∧ 0 < j ∧ (a ≠ m) ∧ (b ≠ m) ∧ i * (a.1 - m.1) = j * (b.1 - m.1) ∧ i * (a.2 - m.2) = j * (b.2 - m.2) := by
  constructor
  · rintro ⟨h1, h2⟩
    have ha : a ≠ m := fun e => by subst e; simp [dt] at h2
    have hb : b ≠ m := fun e => by subst e; simp [dt] at h2
    refine ⟨dt a m b, (a.1 - m.1) * (a.1 - m.1) + (a.2 - m.2) * (a.2 - m.2), h2, ?_, ha, hb, ?_, ?_⟩
    · have x1 := sq_nn (a.1 - m.1)
      have x2 := sq_nn (a.2 - m.2)
      rcases Int.lt_or_eq_of_le (show 0 ≤ (a.1 - m.1) * (a.1 - m.1) + (a.2 - m.2) * (a.2 - m.2) by omega) with h | h
      · exact h
      · have z1 : (a.1 - m.1) * (a.1 - m.1) = 0 := by omega
        have z2 : (a.2 - m.2) * (a.2 - m.2) = 0 := by omega
        have z3 : a.1 - m.1 = 0 := by rcases Int.mul_eq_zero.mp z1 with h | h <;> exact h
        have z4 : a.2 - m.2 = 0 := by rcases Int.mul_eq_zero.mp z2 with h | h <;> exact h
        exact absurd (Prod.ext (by omega) (by omega)) ha
    · simp only [cr, dt] at *; grind
    · simp only [cr, dt] at *; grind
  · rintro ⟨i, j, hi, hj, ha, hb, h1, h2⟩
    refine ⟨?_, ?_⟩
    · have e : i * j * cr a m b = 0 := by simp only [cr]; grind
      rcases Int.mul_eq_zero.mp e with h | h
      · have := Int.mul_pos hi hj; omega
      · exact h
    · have e : j * dt a m b = i * ((a.1 - m.1) * (a.1 - m.1) + (a.2 - m.2) * (a.2 - m.2)) := by simp only [dt]; grind
      have x1 := sq_nn (a.1 - m.1)
      have x2 := sq_nn (a.2 - m.2)
      have x3 : 0 < (a.1 - m.1) * (a.1 - m.1) + (a.2 - m.2) * (a.2 - m.2) := by
        rcases Int.lt_or_eq_of_le (show 0 ≤ (a.1 - m.1) * (a.1 - m.1) + (a.2 - m.2) * (a.2 - m.2) by omega) with h | h
        · exact h
        · have z1 : (a.1 - m.1) * (a.1 - m.1) = 0 := by omega
          have z2 : (a.2 - m.2) * (a.2 - m.2) = 0 := by omega
          have z3 : a.1 - m.1 = 0 := by rcases Int.mul_eq_zero.mp z1 with h | h <;> exact h
          have z4 : a.2 - m.2 = 0 := by rcases Int.mul_eq_zero.mp z2 with h | h <;> exact h
          exact absurd (Prod.ext (by omega) (by omega)) ha
      have x4 := Int.mul_pos hi x3
      rw [← e] at x4
      rcases Int.lt_trichotomy (dt a m b) 0 with h | h | h
      · have := Int.mul_neg_of_pos_of_neg hj h; omega
      · rw [h, Int.mul_zero] at x4; omega
      · exact h
theorem Aff.inj {m : Aff} (hd : m.det ≠ 0) {p q : Pt} (h : m.ap p = m.ap q) : p = q := by
  have h1 := congrArg Prod.fst h
  have h2 := congrArg Prod.snd h
  simp only [Aff.ap] at h1 h2
  have e1 : m.det * (p.1 - q.1) = 0 := by simp only [Aff.det]; grind
  have e2 : m.det * (p.2 - q.2) = 0 := by simp only [Aff.det]; grind
  have f1 : p.1 - q.1 = 0 := by rcases Int.mul_eq_zero.mp e1 with h | h; exact absurd h hd; exact h
  have f2 : p.2 - q.2 = 0 := by rcases Int.mul_eq_zero.mp e2 with h | h; exact absurd h hd; exact h
  exact Prod.ext (by omega) (by omega)
theorem fold_aff {m : Aff} (hd : m.det ≠ 0) {a o b : Pt} : (cr (m.ap a) (m.ap o) (m.ap b) = 0 ∧ 0 < dt (m.ap a) (m.ap o) (m.ap b)) ↔ (cr a o b = 0 ∧ 0 < dt a o b) := by
  rw [fold_iff, fold_iff]
  constructor
  · rintro ⟨i, j, hi, hj, ha, hb, h1, h2⟩
    refine ⟨i, j, hi, hj, fun e => ha (by rw [e]), fun e => hb (by rw [e]), ?_, ?_⟩
    · have e : m.det * (i * (a.1 - o.1) - j * (b.1 - o.1)) = 0 := by simp only [Aff.det, Aff.ap] at *; grind
      rcases Int.mul_eq_zero.mp e with h | h
      · exact absurd h hd
      · omega
    · have e : m.det * (i * (a.2 - o.2) - j * (b.2 - o.2)) = 0 := by simp only [Aff.det, Aff.ap] at *; grind
      rcases Int.mul_eq_zero.mp e with h | h
      · exact absurd h hd
      · omega
  · rintro ⟨i, j, hi, hj, ha, hb, h1, h2⟩
    refine ⟨i, j, hi, hj, fun e => ha (Aff.inj hd e), fun e => hb (Aff.inj hd e), ?_, ?_⟩
    · simp only [Aff.ap]; grind
    · simp only [Aff.ap]; grind
theorem NoFold.aff {m : Aff} (hd : m.det ≠ 0) {a o b : Pt} (h : NoFold a o b) : NoFold (m.ap a) (m.ap o) (m.ap b) := fun z => h ((fold_aff hd).mp z)
theorem Rel.aff {s t : Sd} {m : Aff} (hd : m.det = 1 ∨ m.det = -1) (h : Rel s t) : Rel (m.ap s.1, m.ap s.2) (m.ap t.1, m.ap t.2) := by
  have h0 : m.det ≠ 0 := by rcases hd with h | h <;> omega
  rcases h with (h | h) | h | h | h | h
  · exact .inl (.inl (h.aff hd))
  · exact .inl (.inr (h.aff hd))
  · exact .inr (.inl ⟨by show m.ap s.2 = m.ap t.1; rw [h.1], h.2.aff h0⟩)
  · exact .inr (.inr (.inl ⟨by show m.ap s.1 = m.ap t.2; rw [h.1], h.2.aff h0⟩))
  · exact .inr (.inr (.inr (.inl ⟨by show m.ap s.1 = m.ap t.1; rw [h.1], h.2.aff h0⟩)))
  · exact .inr (.inr (.inr (.inr ⟨by show m.ap s.2 = m.ap t.2; rw [h.1], h.2.aff h0⟩)))
end LW
/-! part MGood -/
namespace LW
structure Good (l : List Pt) : Prop where
  lo : 3 ≤ l.length
  hi : l.length ≤ 12
  nd : l.Nodup
  rel : (sdsL l).Pairwise Rel
theorem pw_perm {α : Type} {R : α → α → Prop} (hs : ∀ {a b}, R a b → R b a) {l m : List α} (h : l.Perm m) (p : l.Pairwise R) : m.Pairwise R := h.pairwise p hs
theorem Good.rot {a b : List Pt} (g : Good (a ++ b)) : Good (b ++ a) := by
  have p : (a ++ b).Perm (b ++ a) := List.perm_append_comm
  exact ⟨by rw [← p.length_eq]; exact g.lo, by rw [← p.length_eq]; exact g.hi, p.nodup_iff.mp g.nd, pw_perm Rel.symm (sds_rot a b) g.rel⟩
theorem Good.rev {a : List Pt} (g : Good a) : Good a.reverse := by
  refine ⟨by rw [List.length_reverse]; exact g.lo, by rw [List.length_reverse]; exact g.hi, (List.reverse_perm a).nodup_iff.mpr g.nd, pw_perm Rel.symm (sds_rev a).symm ?_⟩
  rw [List.pairwise_map]
  exact g.rel.imp fun h => h.flipL.flipR
theorem Good.aff {a : List Pt} (g : Good a) {m : Aff} (hd : m.det = 1 ∨ m.det = -1) : Good (a.map m.ap) := by
  have h0 : m.det ≠ 0 := by rcases hd with h | h <;> omega
  refine ⟨by rw [List.length_map]; exact g.lo, by rw [List.length_map]; exact g.hi, ?_, ?_⟩
  · refine List.pairwise_map.mpr (g.nd.imp fun h e => h (Aff.inj h0 e))
  · rw [sds_map, List.pairwise_map]
    exact g.rel.imp fun h => h.aff hd
theorem Good.swap {a : List Pt} (g : Good a) : Good (a.map fun p => (p.2, p.1)) := by
  have e : (fun p : Pt => (p.2, p.1)) = (Aff.mk 0 1 1 0 0 0).ap := by funext p; simp [Aff.ap]
  rw [e]; exact g.aff (.inr rfl)
/-! ### a corner more, straight on a side -/
/-- b lies between a and c: n (b - a) = k (c - a), 0 < k < n -/
def Btw (a b c : Pt) : Prop := ∃ n k : Int, 0 < k ∧ k < n ∧ n * (b.1 - a.1) = k * (c.1 - a.1) ∧ n * (b.2 - a.2) = k * (c.2 - a.2)
theorem Btw.symm {a b c : Pt} (h : Btw a b c) : Btw c b a := by
  obtain ⟨n, k, h1, h2, h3, h4⟩ := h
  exact ⟨n, n - k, by omega, by omega, by grind, by grind⟩
theorem Btw.sub {a b c : Pt} (h : Btw a b c) {p q r : Int} (h1 : p * a.1 + q * a.2 + r ≤ 0) (h2 : p * c.1 + q * c.2 + r ≤ 0) : p * b.1 + q * b.2 + r ≤ 0 := by
  obtain ⟨n, k, k0, kn, e1, e2⟩ := h
  have e : n * (p * b.1 + q * b.2 + r) = (n - k) * (p * a.1 + q * a.2 + r) + k * (p * c.1 + q * c.2 + r) := by grind
  have x1 : (n - k) * (p * a.1 + q * a.2 + r) ≤ 0 := Int.mul_nonpos_of_nonneg_of_nonpos (by omega) h1
  have x2 : k * (p * c.1 + q * c.2 + r) ≤ 0 := Int.mul_nonpos_of_nonneg_of_nonpos (by omega) h2
  rcases Int.lt_or_le 0 (p * b.1 + q * b.2 + r) with h | h
  · have := Int.mul_pos (show 0 < n by omega) h; omega
  · exact h
theorem Btw.sup {a b c : Pt} (h : Btw a b c) {p q r : Int} (h1 : 0 < p * a.1 + q * a.2 + r) (h2 : 0 < p * c.1 + q * c.2 + r) : 0 < p * b.1 + q * b.2 + r := by
  obtain ⟨n, k, k0, kn, e1, e2⟩ := h
  have e : n * (p * b.1 + q * b.2 + r) = (n - k) * (p * a.1 + q * a.2 + r) + k * (p * c.1 + q * c.2 + r) := by grind
  have x1 := Int.mul_pos (show 0 < n - k by omega) h1
  have x2 := Int.mul_pos k0 h2
  rcases Int.lt_or_le 0 (p * b.1 + q * b.2 + r) with h | h
  · exact h
  · have := Int.mul_nonpos_of_nonneg_of_nonpos (show 0 ≤ n by omega) h; omega
theorem Apart.cut {a b c : Pt} (h : Btw a b c) {t : Sd} (x : Apart (a, c) t) : Apart (a, b) t := by
  rcases x with ⟨p, q, r, h1, h2, h3, h4⟩ | ⟨p, q, r, h1, h2, h3, h4⟩
  · exact .inl ⟨p, q, r, h1, h.sub h1 h2, h3, h4⟩
  · exact .inr ⟨p, q, r, h1, h2, h3, h.sup h3 h4⟩
/-- the far part of a side lies apart from what meets its near end -/
theorem Apart.far {a b c d : Pt} (h : Btw a b c) (hac : a ≠ c) (hn : NoFold a c d) : Apart (a, b) (c, d) := by
  obtain ⟨n, k, k0, kn, e1, e2⟩ := h
  -- g(p) = (c - a).(p - b) * n, tilted
  let u := c.1 - a.1
  let v := c.2 - a.2
  have hu : u = c.1 - a.1 := rfl
  have hv : v = c.2 - a.2 := rfl
  have uv : 0 < u * u + v * v := by
    have x1 := sq_nn u
    have x2 := sq_nn v
    rcases Int.lt_or_eq_of_le (show 0 ≤ u * u + v * v by omega) with h | h
    · exact h
    · have z1 : u * u = 0 := by omega
      have z2 : v * v = 0 := by omega
      have z3 : u = 0 := by rcases Int.mul_eq_zero.mp z1 with h | h <;> exact h
      have z4 : v = 0 := by rcases Int.mul_eq_zero.mp z2 with h | h <;> exact h
      exact absurd (Prod.ext (by omega) (by omega)) hac
  let w := cr a c d
  have hw : w = u * (d.2 - a.2) - v * (d.1 - a.1) := rfl
  -- the tilt
  let L := (n * (u * (d.1 - b.1) + v * (d.2 - b.2))).natAbs
  have hL : L = (n * (u * (d.1 - b.1) + v * (d.2 - b.2))).natAbs := rfl
  let T : Int := ((L : Int) + 1) * w
  have hT : T = ((L : Int) + 1) * w := rfl
  refine .inl ⟨n * u - T * v, n * v + T * u, -(n * (u * b.1 + v * b.2)) + T * (v * a.1 - u * a.2), ?_, ?_, ?_, ?_⟩
  · -- at a
    have e : (n * u - T * v) * a.1 + (n * v + T * u) * a.2 + (-(n * (u * b.1 + v * b.2)) + T * (v * a.1 - u * a.2)) = -(k * (u * u + v * v)) := by
      rw [hu, hv]; grind
    show (n * u - T * v) * a.1 + (n * v + T * u) * a.2 + (-(n * (u * b.1 + v * b.2)) + T * (v * a.1 - u * a.2)) ≤ 0
    rw [e]
    have := Int.mul_pos k0 uv
    omega
  · -- at b
    have e : (n * u - T * v) * b.1 + (n * v + T * u) * b.2 + (-(n * (u * b.1 + v * b.2)) + T * (v * a.1 - u * a.2)) = T * (u * (b.2 - a.2) - v * (b.1 - a.1)) := by grind
    show (n * u - T * v) * b.1 + (n * v + T * u) * b.2 + (-(n * (u * b.1 + v * b.2)) + T * (v * a.1 - u * a.2)) ≤ 0
    rw [e]
    have z : n * (u * (b.2 - a.2) - v * (b.1 - a.1)) = 0 := by rw [hu, hv]; grind
    have z2 : u * (b.2 - a.2) - v * (b.1 - a.1) = 0 := by
      rcases Int.mul_eq_zero.mp z with h | h
      · omega
      · exact h
    rw [z2, Int.mul_zero]; exact Int.le_refl 0
  · -- at c
    have e : (n * u - T * v) * c.1 + (n * v + T * u) * c.2 + (-(n * (u * b.1 + v * b.2)) + T * (v * a.1 - u * a.2)) = (n - k) * (u * u + v * v) := by
      rw [hu, hv]; grind
    show 0 < (n * u - T * v) * c.1 + (n * v + T * u) * c.2 + (-(n * (u * b.1 + v * b.2)) + T * (v * a.1 - u * a.2))
    rw [e]
    exact Int.mul_pos (by omega) uv
  · -- at d
    have e : (n * u - T * v) * d.1 + (n * v + T * u) * d.2 + (-(n * (u * b.1 + v * b.2)) + T * (v * a.1 - u * a.2)) = n * (u * (d.1 - b.1) + v * (d.2 - b.2)) + T * w := by
      rw [hw]; grind
    show 0 < (n * u - T * v) * d.1 + (n * v + T * u) * d.2 + (-(n * (u * b.1 + v * b.2)) + T * (v * a.1 - u * a.2))
    rw [e]
    by_cases hw0 : w = 0
    · rw [hw0, Int.mul_zero, Int.add_zero]
      have hd : ¬ 0 < dt a c d := fun z => hn ⟨hw0, z⟩
      have hd2 : dt a c d = -(u * (d.1 - c.1) + v * (d.2 - c.2)) := by simp only [dt]; rw [hu, hv]; grind
      have e3 : n * (u * (d.1 - b.1) + v * (d.2 - b.2)) = n * (u * (d.1 - c.1) + v * (d.2 - c.2)) + (n - k) * (u * u + v * v) := by rw [hu, hv]; grind
      rw [e3]
      have y1 : 0 ≤ n * (u * (d.1 - c.1) + v * (d.2 - c.2)) := Int.mul_nonneg (by omega) (by omega)
      have y2 := Int.mul_pos (show 0 < n - k by omega) uv
      omega
    · have y1 : 0 < w * w := by
        rcases Int.lt_or_eq_of_le (sq_nn w) with h | h
        · exact h
        · rcases Int.mul_eq_zero.mp h.symm with h | h <;> exact absurd h hw0
      have y2 : T * w = ((L : Int) + 1) * (w * w) := by rw [hT, Int.mul_assoc]
      have y3 : ((L : Int) + 1) * 1 ≤ ((L : Int) + 1) * (w * w) := Int.mul_le_mul_of_nonneg_left (by omega) (by omega)
      rw [y2]
      omega
theorem NoFold.near {a b c d : Pt} (h : Btw a b c) (hn : NoFold a c d) : NoFold b c d := fun z => hn (by
  rw [fold_iff] at z ⊢
  obtain ⟨i, j, hi, hj, hb, hd, e1, e2⟩ := z
  obtain ⟨n, k, k0, kn, f1, f2⟩ := h
  have key1 : n * (b.1 - c.1) = (n - k) * (a.1 - c.1) := by grind
  have key2 : n * (b.2 - c.2) = (n - k) * (a.2 - c.2) := by grind
  refine ⟨i * (n - k), j * n, Int.mul_pos hi (by omega), Int.mul_pos hj (by omega), fun e => hb ?_, hd, by grind, by grind⟩
  subst e
  refine Prod.ext ?_ ?_
  · rw [Int.sub_self, Int.mul_zero] at key1
    rcases Int.mul_eq_zero.mp key1 with h | h <;> omega
  · rw [Int.sub_self, Int.mul_zero] at key2
    rcases Int.mul_eq_zero.mp key2 with h | h <;> omega)
theorem NoFold.mid {a b c : Pt} (h : Btw a b c) (hac : a ≠ c) : NoFold a b c := fun z => by
  obtain ⟨n, k, k0, kn, f1, f2⟩ := h
  obtain ⟨_, z⟩ := z
  have x1 := sq_nn (c.1 - a.1)
  have x2 := sq_nn (c.2 - a.2)
  have e : n * n * dt a b c = -(k * (n - k) * ((c.1 - a.1) * (c.1 - a.1) + (c.2 - a.2) * (c.2 - a.2))) := by simp only [dt]; grind
  have y1 : 0 ≤ k * (n - k) * ((c.1 - a.1) * (c.1 - a.1) + (c.2 - a.2) * (c.2 - a.2)) := Int.mul_nonneg (Int.mul_nonneg (by omega) (by omega)) (by omega)
  have y2 := Int.mul_pos (Int.mul_pos (show 0 < n by omega) (show 0 < n by omega)) z
  omega
/-- both halves of a cut side get on with whatever the whole one did -/
theorem Rel.cut {a b c : Pt} (h : Btw a b c) (hac : a ≠ c) {t : Sd} (x : Rel (a, c) t) (h1 : ¬ (t.1 = a ∧ t.2 = c)) (h2 : ¬ (t.1 = c ∧ t.2 = a)) : Rel (a, b) t ∧ Rel (b, c) t := by
  have near : ∀ {d : Pt} {t : Sd}, t = (c, d) ∨ t = (d, c) → NoFold a c d → Rel (a, b) t ∧ Rel (b, c) t := fun {d t} ht hn => by
    have far := Apart.far h hac hn
    rcases ht with rfl | rfl
    · exact ⟨.inl far, .inr (.inl ⟨rfl, NoFold.near h hn⟩)⟩
    · refine ⟨(Rel.flipR (.inl far)), .inr (.inr (.inr (.inr ⟨rfl, NoFold.near h hn⟩)))⟩
  have near2 : ∀ {d : Pt} {t : Sd}, t = (a, d) ∨ t = (d, a) → NoFold c a d → Rel (a, b) t ∧ Rel (b, c) t := fun {d t} ht hn => by
    have far : Apart (c, b) (a, d) := Apart.far h.symm (Ne.symm hac) hn
    have n2 := NoFold.near h.symm hn
    rcases ht with rfl | rfl
    · exact ⟨.inr (.inr (.inr (.inl ⟨rfl, n2⟩))), Rel.flipL (.inl far)⟩
    · exact ⟨.inr (.inr (.inl ⟨rfl, n2.symm⟩)), Rel.flipR (Rel.flipL (.inl far))⟩
  rcases x with x | x | x | x | x
  · have y : Apart (c, a) t := by
      rcases x with x | x
      · exact .inl x.flipL
      · exact .inr x.flipR
    have z : Apart (c, b) t := Apart.cut h.symm y
    refine ⟨.inl (Apart.cut h x), ?_⟩
    exact Rel.flipL (s := (c, b)) (.inl z)
  · obtain ⟨e, hn⟩ := x
    exact near (d := t.2) (.inl (Prod.ext e.symm rfl)) hn
  · obtain ⟨e, hn⟩ := x
    have e' : a = t.2 := e
    exact near2 (d := t.1) (.inr (Prod.ext rfl e'.symm)) (by have := hn.symm; exact this)
  · obtain ⟨e, hn⟩ := x
    exact near2 (d := t.2) (.inl (Prod.ext e.symm rfl)) hn
  · obtain ⟨e, hn⟩ := x
    have e' : c = t.2 := e
    exact near (d := t.1) (.inr (Prod.ext rfl e'.symm)) hn
end LW
/-! part MFlat -/
namespace LW
theorem chain_mem2 : ∀ {x : List Pt} {p : Pt} {t : Sd}, t ∈ chain p x → t.1 ∈ p :: x ∧ t.2 ∈ x
  | [], _, _, h => by cases h
  | a :: x, p, t, h => by
    rcases List.mem_cons.mp h with rfl | h
    · exact ⟨List.mem_cons_self, List.mem_cons_self⟩
    · have := chain_mem2 h
      exact ⟨List.mem_cons_of_mem _ this.1, List.mem_cons_of_mem _ this.2⟩
theorem chain_from : ∀ {x : List Pt} {p e : Pt}, e ∈ p :: x → e ∉ x.getLast? → x ≠ [] → ∃ t ∈ chain p x, t.1 = e
  | [], _, _, _, _, h => absurd rfl h
  | a :: x, p, e, h, hl, _ => by
    rcases List.mem_cons.mp h with rfl | h
    · exact ⟨(e, a), List.mem_cons_self, rfl⟩
    · by_cases hx : x = []
      · subst hx
        rcases List.mem_cons.mp h with rfl | h
        · exact absurd rfl hl
        · cases h
      · have hl' : e ∉ x.getLast? := by
          intro z; apply hl
          rw [List.getLast?_cons]
          rw [Option.mem_def] at z
          rw [z]; rfl
        obtain ⟨t, h1, h2⟩ := chain_from h hl' hx
        exact ⟨t, List.mem_cons_of_mem _ h1, h2⟩
theorem Btw.ne {a b c : Pt} (h : Btw a b c) (hac : a ≠ c) : b ≠ a := fun e => by
  obtain ⟨n, k, k0, kn, e1, e2⟩ := h
  subst e
  rw [Int.sub_self, Int.mul_zero] at e1 e2
  rcases Int.mul_eq_zero.mp e1.symm with h | h
  · omega
  · rcases Int.mul_eq_zero.mp e2.symm with h' | h'
    · omega
    · exact hac (Prod.ext (by omega) (by omega))
theorem Btw.fold {a b c : Pt} (h : Btw a b c) (hac : a ≠ c) : ¬ NoFold b a c := fun z => z (by
  rw [fold_iff]
  have hb := h.ne hac
  obtain ⟨n, k, k0, kn, e1, e2⟩ := h
  exact ⟨n, k, by omega, k0, hb, Ne.symm hac, e1, e2⟩)
theorem Good.flat0 {a b c : Pt} {w : List Pt} (g : Good (c :: w ++ [a])) (h : Btw a b c) (hl : w.length + 2 ≤ 11) : Good (b :: (c :: w ++ [a])) := by
  have nd := g.nd
  have hac : a ≠ c := fun e => by
    subst e
    have := List.nodup_append.mp nd
    exact this.2.2 a List.mem_cons_self a List.mem_cons_self rfl
  have hw : w ≠ [] := fun e => by
    subst e; have := g.lo; simp at this
  have er : sdsL (c :: w ++ [a]) = chain c (w ++ [a]) ++ [(a, c)] := by
    show chain c (w ++ [a] ++ [c]) = _
    rw [List.append_assoc, List.singleton_append, chain_app a [c] w c]; rfl
  have en : sdsL (b :: (c :: w ++ [a])) = (b, c) :: (chain c (w ++ [a]) ++ [(a, b)]) := by
    show (b, c) :: chain c (w ++ [a] ++ [b]) = _
    rw [List.append_assoc, List.singleton_append, chain_app a [b] w c]; rfl
  have rel := g.rel
  rw [er, List.pairwise_append] at rel
  obtain ⟨r1, _, r2⟩ := rel
  have ndc : c ∉ w ++ [a] := (List.nodup_cons.mp nd).1
  have ndw : (w ++ [a]).Nodup := (List.nodup_cons.mp nd).2
  have cut : ∀ t ∈ chain c (w ++ [a]), Rel (a, b) t ∧ Rel (b, c) t := fun t ht => by
    refine Rel.cut h hac (Rel.symm (r2 t ht (a, c) List.mem_cons_self)) ?_ ?_
    · rintro ⟨_, e⟩
      have := (chain_mem2 ht).2
      rw [e] at this; exact ndc this
    · rintro ⟨e1, e2⟩
      cases w with
      | nil => exact hw rfl
      | cons q w =>
        rcases List.mem_cons.mp (show t ∈ (c, q) :: chain q (w ++ [a]) from ht) with rfl | ht
        · have e3 : q = a := e2
          subst e3
          exact (List.nodup_cons.mp ndw).1 (List.mem_append.mpr (.inr List.mem_cons_self))
        · have := (chain_mem2 ht).1
          rw [e1] at this
          exact ndc this
  refine ⟨by have := g.lo; simp at this ⊢, by simp; omega, ?_, ?_⟩
  · refine List.nodup_cons.mpr ⟨?_, nd⟩
    intro hb
    have hba : b ≠ a := h.ne hac
    have hbc : b ≠ c := h.symm.ne (Ne.symm hac)
    obtain ⟨t, ht, te⟩ := chain_from (x := w ++ [a]) (p := c) (e := b) hb (by rw [List.getLast?_append]; simp; exact Ne.symm hba) (by simp)
    have rt := r2 t ht (a, c) List.mem_cons_self
    subst te
    rcases rt with (⟨p, q, r, h1, h2, h3, h4⟩ | ⟨p, q, r, h1, h2, h3, h4⟩) | x | x | x | x
    · have := h.sup h3 h4; omega
    · have := h.sub h1 h2; omega
    · obtain ⟨e, hn⟩ := x
      have e' : t.2 = a := e
      rw [e'] at hn
      exact h.fold hac hn
    · exact absurd x.1 hbc
    · exact absurd x.1 hba
    · obtain ⟨e, hn⟩ := x
      have e' : t.2 = c := e
      rw [e'] at hn
      exact h.symm.fold (Ne.symm hac) hn
  · rw [en]
    refine List.pairwise_cons.mpr ⟨?_, ?_⟩
    · intro t ht
      rcases List.mem_append.mp ht with ht | ht
      · exact (cut t ht).2
      · rw [List.mem_singleton] at ht
        subst ht
        exact Rel.symm (.inr (.inl ⟨rfl, by
          have n1 := NoFold.mid h hac
          exact n1⟩))
    · refine List.pairwise_append.mpr ⟨r1, List.pairwise_singleton _ _, ?_⟩
      intro t ht s hs
      rw [List.mem_singleton] at hs
      subst hs
      exact Rel.symm (cut t ht).1
theorem sum_flat0 {f : Sd → Int} {a b c : Pt} {w : List Pt} (h : f (a, b) + f (b, c) = f (a, c)) : sumBy f (sdsL (b :: (c :: w ++ [a]))) = sumBy f (sdsL (c :: w ++ [a])) := by
  have er : sdsL (c :: w ++ [a]) = chain c (w ++ [a]) ++ [(a, c)] := by
    show chain c (w ++ [a] ++ [c]) = _
    rw [List.append_assoc, List.singleton_append, chain_app a [c] w c]; rfl
  have en : sdsL (b :: (c :: w ++ [a])) = (b, c) :: (chain c (w ++ [a]) ++ [(a, b)]) := by
    show (b, c) :: chain c (w ++ [a] ++ [b]) = _
    rw [List.append_assoc, List.singleton_append, chain_app a [b] w c]; rfl
  rw [er, en, sumBy_cons, sumBy_app, sumBy_app, sumBy_cons, sumBy_cons, sumBy_nil]
  omega
theorem wt_btw {a b c : Pt} (h : Btw a b c) : wt (a, b) + wt (b, c) = wt (a, c) := by
  obtain ⟨n, k, k0, kn, e1, e2⟩ := h
  have e : n * (wt (a, b) + wt (b, c) - wt (a, c)) = 0 := by simp only [wt]; grind
  rcases Int.mul_eq_zero.mp e with h | h
  · omega
  · omega
/-- the corner put in ahead of the at-th -/
theorem flat_shape {l : List Pt} {at' : Nat} (ha : at' < l.length) (h2 : 2 ≤ l.length) : ∃ a c w, l.drop at' ++ l.take at' = c :: w ++ [a] ∧ l[at']? = some c ∧ l[(at' + l.length - 1) % l.length]? = some a := by
  have hlen : (l.drop at' ++ l.take at').length = l.length := by simp; omega
  have h0 : l[at']? = some l[at'] := List.getElem?_eq_getElem ha
  have hd : l.drop at' = l[at'] :: l.drop (at' + 1) := List.drop_eq_getElem_cons ha
  have hb : (at' + l.length - 1) % l.length < l.length := Nat.mod_lt _ (by omega)
  by_cases h : at' = 0
  · subst h
    have e : (0 + l.length - 1) % l.length = l.length - 1 := by rw [Nat.zero_add]; exact Nat.mod_eq_of_lt (by omega)
    cases l with
    | nil => cases ha
    | cons c w =>
      have hw : w ≠ [] := by intro e; subst e; simp at h2
      refine ⟨w.getLast hw, c, w.dropLast, ?_, rfl, ?_⟩
      · show c :: w ++ [] = c :: w.dropLast ++ [w.getLast hw]
        rw [List.append_nil, List.cons_append, List.dropLast_concat_getLast hw]
      · rw [e]
        show (c :: w)[w.length]? = _
        have : 0 < w.length := List.length_pos_iff.mpr hw
        rw [show w.length = (w.length - 1) + 1 by omega, List.getElem?_cons_succ, List.getLast_eq_getElem, List.getElem?_eq_getElem (by omega)]
  · have e : (at' + l.length - 1) % l.length = at' - 1 := by
      rw [show at' + l.length - 1 = (at' - 1) + l.length by omega, Nat.add_mod_right]
      exact Nat.mod_eq_of_lt (by omega)
    refine ⟨l[at' - 1], l[at'], l.drop (at' + 1) ++ l.take (at' - 1), ?_, h0, ?_⟩
    · have ht : l.take at' = l.take (at' - 1) ++ [l[at' - 1]] := by
        have z := List.take_succ_eq_append_getElem (l := l) (i := at' - 1) (by omega)
        have e1 : at' - 1 + 1 = at' := by omega
        rw [e1] at z
        exact z
      rw [ht, hd, ← List.append_assoc]; rfl
    · rw [e]; exact List.getElem?_eq_getElem (by omega)
theorem Good.flat {l : List Pt} {at' : Nat} {a b c : Pt} (g : Good l) (ha : at' < l.length) (hc : l[at']? = some c) (hb : l[(at' + l.length - 1) % l.length]? = some a) (h : Btw a b c) (hl : l.length ≤ 11) : Good (l.take at' ++ b :: l.drop at') := by
  obtain ⟨a', c', w, e1, e2, e3⟩ := flat_shape ha (by have := g.lo; omega)
  rw [hc] at e2; cases e2
  rw [hb] at e3; cases e3
  have g1 : Good (l.drop at' ++ l.take at') := Good.rot (by rw [List.take_append_drop]; exact g)
  have hlen : (l.drop at' ++ l.take at').length = l.length := by simp; omega
  rw [e1] at g1 hlen
  have g2 := g1.flat0 h (by simp at hlen; omega)
  rw [← e1] at g2
  have g3 : Good ((b :: l.drop at') ++ l.take at') := g2
  exact g3.rot
theorem sum_flat {f : Sd → Int} {l : List Pt} {at' : Nat} {a b c : Pt} (h2 : 2 ≤ l.length) (ha : at' < l.length) (hc : l[at']? = some c) (hb : l[(at' + l.length - 1) % l.length]? = some a) (h : f (a, b) + f (b, c) = f (a, c)) : sumBy f (sdsL (l.take at' ++ b :: l.drop at')) = sumBy f (sdsL l) := by
  obtain ⟨a', c', w, e1, e2, e3⟩ := flat_shape ha h2
  rw [hc] at e2; cases e2
  rw [hb] at e3; cases e3
  rw [sumBy_perm (sds_rot (l.take at') (b :: l.drop at'))]
  show sumBy f (sdsL (b :: (l.drop at' ++ l.take at'))) = _
  rw [e1, sum_flat0 h, ← e1, sumBy_perm (sds_rot _ _), List.take_append_drop]
end LW
/-! part MCols -/
namespace LW
/-- a column: x, the low and the high corner -/
structure Col where
  x : Int
  l : Int
  u : Int
def Col.lo (c : Col) : Pt := (c.x, c.l)
def Col.hi (c : Col) : Pt := (c.x, c.u)
def nd (c : Col) : Bool := decide (c.l < c.u)
def colFence (cs : List Col) : List Pt := cs.map Col.lo ++ ((cs.filter nd).map Col.hi).reverse
/-- from the second on: rising x, within open, the last maybe shut -/
def okT : Col → List Col → Prop
  | _, [] => True
  | c, d :: r => c.x < d.x ∧ d.l ≤ d.u ∧ (r ≠ [] → d.l < d.u) ∧ okT d r
def okC : List Col → Prop
  | [] => False
  | [_] => False
  | c :: d :: r => c.l ≤ c.u ∧ okT c (d :: r) ∧ (c.l < c.u ∨ d.l < d.u)
def vert (c : Col) : List Sd := if c.l < c.u then [(c.lo, c.hi)] else []
def colS : Col → List Col → List Sd
  | c, [] => vert c
  | c, d :: r => (c.lo, d.lo) :: (d.hi, c.hi) :: colS d r
theorem vert_mem {c : Col} {t : Sd} (h : t ∈ vert c) : t = (c.lo, c.hi) ∧ c.l < c.u := by
  unfold vert at h
  by_cases e : c.l < c.u
  · rw [if_pos e] at h; exact ⟨List.mem_singleton.mp h, e⟩
  · rw [if_neg e] at h; cases h
theorem colS_x : ∀ {r : List Col} {c : Col} {t : Sd}, okT c r → t ∈ colS c r → c.x ≤ t.1.1 ∧ c.x ≤ t.2.1
  | [], c, t, _, h => by
    obtain ⟨rfl, _⟩ := vert_mem h
    exact ⟨Int.le_refl _, Int.le_refl _⟩
  | d :: r, c, t, o, h => by
    obtain ⟨h1, _, _, o'⟩ := o
    rcases List.mem_cons.mp h with rfl | h
    · exact ⟨Int.le_refl _, Int.le_of_lt h1⟩
    · rcases List.mem_cons.mp h with rfl | h
      · exact ⟨Int.le_of_lt h1, Int.le_refl _⟩
      · have := colS_x o' h
        omega
/-- left of a column, right of it -/
theorem apart_x {s t : Sd} {x : Int} (h1 : s.1.1 ≤ x) (h2 : s.2.1 ≤ x) (h3 : x < t.1.1) (h4 : x < t.2.1) : Rel s t :=
  .inl (.inl ⟨1, 0, -x, by omega, by omega, by omega, by omega⟩)
theorem noFold_x {a m b : Pt} (h1 : a.1 < m.1) (h2 : m.1 < b.1) : NoFold a m b := fun z => by
  rw [fold_iff] at z
  obtain ⟨i, j, hi, hj, _, _, e1, e2⟩ := z
  have x1 := Int.mul_neg_of_pos_of_neg hi (show a.1 - m.1 < 0 by omega)
  have x2 := Int.mul_pos hj (show 0 < b.1 - m.1 by omega)
  omega
theorem noFold_v {a m b : Pt} (h1 : a.1 ≠ m.1) (h2 : m.1 = b.1) : NoFold a m b := fun z => by
  rw [fold_iff] at z
  obtain ⟨i, j, hi, hj, _, _, e1, e2⟩ := z
  rw [h2, Int.sub_self, Int.mul_zero] at e1
  rcases Int.mul_eq_zero.mp e1 with h | h <;> omega
/-- across a column: one from the left to a low point, one to the right from a high one -/
theorem apart_tilt {p q : Pt} {x y z : Int} (hp : p.1 < x) (hq : x < q.1) (hyz : y < z) : Line (p, (x, y)) ((x, z), q) := by
  let N : Int := (p.2 - y).natAbs + (q.2 - y).natAbs + 1
  have hN : N = (p.2 - y).natAbs + (q.2 - y).natAbs + 1 := rfl
  have hN0 : 0 < N := by omega
  refine ⟨N, 1, -(N * x) - y, ?_, ?_, ?_, ?_⟩
  · show N * p.1 + 1 * p.2 + (-(N * x) - y) ≤ 0
    have e : N * p.1 + 1 * p.2 + (-(N * x) - y) = -(N * (x - p.1)) + (p.2 - y) := by grind
    have : N * 1 ≤ N * (x - p.1) := Int.mul_le_mul_of_nonneg_left (by omega) (by omega)
    rw [e]; omega
  · show N * x + 1 * y + (-(N * x) - y) ≤ 0
    omega
  · show 0 < N * x + 1 * z + (-(N * x) - y)
    omega
  · show 0 < N * q.1 + 1 * q.2 + (-(N * x) - y)
    have e : N * q.1 + 1 * q.2 + (-(N * x) - y) = N * (q.1 - x) + (q.2 - y) := by grind
    have : N * 1 ≤ N * (q.1 - x) := Int.mul_le_mul_of_nonneg_left (by omega) (by omega)
    rw [e]; omega
theorem apart_tilt2 {p q : Pt} {x y z : Int} (hp : p.1 < x) (hq : x < q.1) (hyz : y < z) : Line ((x, y), q) (p, (x, z)) := by
  let N : Int := (p.2 - y).natAbs + (q.2 - y).natAbs + 1
  have hN : N = (p.2 - y).natAbs + (q.2 - y).natAbs + 1 := rfl
  have hN0 : 0 < N := by omega
  refine ⟨-N, 1, N * x - y, ?_, ?_, ?_, ?_⟩
  · show -N * x + 1 * y + (N * x - y) ≤ 0
    rw [Int.neg_mul]; omega
  · show -N * q.1 + 1 * q.2 + (N * x - y) ≤ 0
    have e : -N * q.1 + 1 * q.2 + (N * x - y) = -(N * (q.1 - x)) + (q.2 - y) := by grind
    have : N * 1 ≤ N * (q.1 - x) := Int.mul_le_mul_of_nonneg_left (by omega) (by omega)
    rw [e]; omega
  · show 0 < -N * p.1 + 1 * p.2 + (N * x - y)
    have e : -N * p.1 + 1 * p.2 + (N * x - y) = N * (x - p.1) + (p.2 - y) := by grind
    have : N * 1 ≤ N * (x - p.1) := Int.mul_le_mul_of_nonneg_left (by omega) (by omega)
    rw [e]; omega
  · show 0 < -N * x + 1 * z + (N * x - y)
    rw [Int.neg_mul]; omega
/-- the low and the high side between two columns -/
theorem rel_slab {c d : Col} (hx : c.x < d.x) (hc : c.l ≤ c.u) (hd : d.l ≤ d.u) (h : c.l < c.u ∨ d.l < d.u) : Rel (c.lo, d.lo) (d.hi, c.hi) := by
  by_cases ec : c.l < c.u
  · by_cases ed : d.l < d.u
    · refine .inl (.inl ⟨-(d.l - c.l), d.x - c.x, (d.l - c.l) * c.x - (d.x - c.x) * c.l, ?_, ?_, ?_, ?_⟩
      )
      · show -(d.l - c.l) * c.x + (d.x - c.x) * c.l + ((d.l - c.l) * c.x - (d.x - c.x) * c.l) ≤ 0
        rw [Int.neg_mul]; omega
      · show -(d.l - c.l) * d.x + (d.x - c.x) * d.l + ((d.l - c.l) * c.x - (d.x - c.x) * c.l) ≤ 0
        have e : -(d.l - c.l) * d.x + (d.x - c.x) * d.l + ((d.l - c.l) * c.x - (d.x - c.x) * c.l) = 0 := by grind
        omega
      · show 0 < -(d.l - c.l) * d.x + (d.x - c.x) * d.u + ((d.l - c.l) * c.x - (d.x - c.x) * c.l)
        have e : -(d.l - c.l) * d.x + (d.x - c.x) * d.u + ((d.l - c.l) * c.x - (d.x - c.x) * c.l) = (d.x - c.x) * (d.u - d.l) := by grind
        rw [e]; exact Int.mul_pos (by omega) (by omega)
      · show 0 < -(d.l - c.l) * c.x + (d.x - c.x) * c.u + ((d.l - c.l) * c.x - (d.x - c.x) * c.l)
        have e : -(d.l - c.l) * c.x + (d.x - c.x) * c.u + ((d.l - c.l) * c.x - (d.x - c.x) * c.l) = (d.x - c.x) * (c.u - c.l) := by grind
        rw [e]; exact Int.mul_pos (by omega) (by omega)
    · have e : d.l = d.u := by omega
      refine .inr (.inl ⟨?_, ?_⟩)
      · show (d.x, d.l) = (d.x, d.u); rw [e]
      · intro z
        have z1 : (d.x - c.x) * (c.u - c.l) = 0 := by
          have := z.1; simp only [cr, Col.lo, Col.hi] at this; grind
        have := Int.mul_pos (show 0 < d.x - c.x by omega) (show 0 < c.u - c.l by omega)
        omega
  · have e : c.l = c.u := by omega
    have ed : d.l < d.u := by omega
    refine .inr (.inr (.inl ⟨?_, ?_⟩))
    · show (c.x, c.l) = (c.x, c.u); rw [e]
    · intro z
      have z1 : (d.x - c.x) * (d.u - d.l) = 0 := by
        have := z.1; simp only [cr, Col.lo, Col.hi] at this; grind
      have := Int.mul_pos (show 0 < d.x - c.x by omega) (show 0 < d.u - d.l by omega)
      omega
/-- a side into a column from the left gets on with what begins there -/
theorem rel_into {c d : Col} {r : List Col} (o : okT c (d :: r)) : ∀ t ∈ colS d r, Rel (c.lo, d.lo) t ∧ Rel (d.hi, c.hi) t := by
  intro t ht
  obtain ⟨hx, hd, hn, o'⟩ := o
  cases r with
  | nil =>
    obtain ⟨rfl, hv⟩ := vert_mem ht
    refine ⟨.inr (.inl ⟨rfl, noFold_v ?_ rfl⟩), .inr (.inr (.inl ⟨rfl, (noFold_v (a := c.hi) (m := d.hi) (b := d.lo) ?_ rfl).symm⟩))⟩
    · show c.x ≠ d.x; omega
    · show c.x ≠ d.x; omega
  | cons e r =>
    have hlu := hn (by simp)
    obtain ⟨hx2, _, _, o2⟩ := o'
    rcases List.mem_cons.mp ht with rfl | ht
    · refine ⟨.inr (.inl ⟨rfl, noFold_x hx hx2⟩), ?_⟩
      refine Rel.flipL (s := (c.hi, d.hi)) (.inl (.inr ?_))
      exact apart_tilt2 (p := c.hi) (q := e.lo) hx hx2 hlu
    · rcases List.mem_cons.mp ht with rfl | ht
      · refine ⟨Rel.flipR (t := (d.hi, e.hi)) (.inl (.inl ?_)), .inr (.inr (.inl ⟨rfl, ?_⟩))⟩
        · exact apart_tilt (p := c.lo) (q := e.hi) hx hx2 hlu
        · exact NoFold.symm (noFold_x (a := c.hi) (m := d.hi) (b := e.hi) hx hx2)
      · have := colS_x o2 ht
        refine ⟨apart_x (x := d.x) (Int.le_of_lt hx) (Int.le_refl _) (by omega) (by omega), apart_x (x := d.x) (Int.le_refl _) (Int.le_of_lt hx) (by omega) (by omega)⟩
theorem rel_colS : ∀ {r : List Col} {c : Col}, okT c r → c.l ≤ c.u → (∀ d ∈ r.head?, c.l < c.u ∨ d.l < d.u) → (colS c r).Pairwise Rel
  | [], c, _, _, _ => by
    unfold colS vert
    by_cases e : c.l < c.u
    · rw [if_pos e]; exact List.pairwise_singleton _ _
    · rw [if_neg e]; exact List.Pairwise.nil
  | d :: r, c, o, hc, hh => by
    have into := rel_into o
    obtain ⟨hx, hd, hn, o'⟩ := o
    refine List.pairwise_cons.mpr ⟨?_, List.pairwise_cons.mpr ⟨fun t ht => (into t ht).2, rel_colS o' hd ?_⟩⟩
    · intro t ht
      rcases List.mem_cons.mp ht with rfl | ht
      · exact rel_slab hx hc hd (hh d rfl)
      · exact (into t ht).1
    · intro e he
      cases r with
      | nil => cases he
      | cons f r => exact .inl (hn (by simp))
/-- from the low corner over the right to the high one -/
theorem path_colS : ∀ (r : List Col) (c : Col), okT c r → (r = [] → c.l < c.u) → chain c.lo (r.map Col.lo ++ ((r.filter nd).map Col.hi).reverse ++ [c.hi]) = (colS c r).take 0 ++ chain c.lo (r.map Col.lo ++ ((r.filter nd).map Col.hi).reverse ++ [c.hi]) ∧ (chain c.lo (r.map Col.lo ++ ((r.filter nd).map Col.hi).reverse ++ [c.hi])).Perm (colS c r)
  | [], c, _, hc => by
    refine ⟨rfl, ?_⟩
    show [(c.lo, c.hi)].Perm (vert c)
    unfold vert; rw [if_pos (hc rfl)]
  | d :: r, c, o, _ => by
    refine ⟨rfl, ?_⟩
    obtain ⟨hx, hd, hn, o'⟩ := o
    by_cases e : d.l < d.u
    · have ih := (path_colS r d o' fun _ => e).2
      have ef : (d :: r).filter nd = d :: r.filter nd := by rw [List.filter_cons, if_pos (by unfold nd; exact decide_eq_true e)]
      rw [ef]
      show ((c.lo, d.lo) :: chain d.lo (r.map Col.lo ++ (d.hi :: (r.filter nd).map Col.hi).reverse ++ [c.hi])).Perm _
      rw [List.reverse_cons, ← List.append_assoc, List.append_assoc, List.singleton_append, chain_app d.hi [c.hi]]
      show ((c.lo, d.lo) :: (_ ++ [(d.hi, c.hi)])).Perm ((c.lo, d.lo) :: (d.hi, c.hi) :: colS d r)
      refine List.Perm.cons _ ?_
      refine List.perm_append_comm.trans ?_
      exact List.Perm.cons _ ih
    · have er : r = [] := Classical.byContradiction fun z => e (hn z)
      subst er
      have ef : [d].filter nd = [] := by rw [List.filter_cons, if_neg (by unfold nd; simp; omega)]; rfl
      rw [ef]
      have eq : d.lo = d.hi := by show (d.x, d.l) = (d.x, d.u); rw [show d.l = d.u by omega]
      show [(c.lo, d.lo), (d.lo, c.hi)].Perm ((c.lo, d.lo) :: (d.hi, c.hi) :: vert d)
      unfold vert; rw [if_neg e, eq]
def colAll (c : Col) (r : List Col) : List Sd := (vert c).map flip ++ colS c r
theorem sds_col {c : Col} {r : List Col} (o : okC (c :: r)) : (sdsL (colFence (c :: r))).Perm (colAll c r) := by
  cases r with
  | nil => exact o.elim
  | cons d r =>
    obtain ⟨hc, o', _⟩ := o
    have path := (path_colS (d :: r) c o' (fun h => by cases h)).2
    unfold colFence colAll vert
    by_cases e : c.l < c.u
    · have ef : (c :: d :: r).filter nd = c :: (d :: r).filter nd := by rw [List.filter_cons, if_pos (by unfold nd; exact decide_eq_true e)]
      rw [ef, if_pos e, List.map_cons (f := Col.hi), List.reverse_cons, ← List.append_assoc]
      show (chain c.lo ((d :: r).map Col.lo ++ (((d :: r).filter nd).map Col.hi).reverse ++ [c.hi] ++ [c.lo])).Perm _
      rw [List.append_assoc, List.singleton_append, chain_app c.hi [c.lo]]
      refine List.perm_append_comm.trans ?_
      exact List.Perm.cons _ path
    · have ef : (c :: d :: r).filter nd = (d :: r).filter nd := by rw [List.filter_cons, if_neg (by unfold nd; simp; omega)]
      have eq : c.lo = c.hi := by show (c.x, c.l) = (c.x, c.u); rw [show c.l = c.u by omega]
      rw [ef, if_neg e]
      show (chain c.lo ((d :: r).map Col.lo ++ (((d :: r).filter nd).map Col.hi).reverse ++ [c.lo])).Perm (colS c (d :: r))
      conv => lhs; arg 2; rw [eq]
      exact path
theorem rel_col {c : Col} {r : List Col} (o : okC (c :: r)) : (colAll c r).Pairwise Rel := by
  cases r with
  | nil => exact o.elim
  | cons d r =>
    obtain ⟨hc, o', hh⟩ := o
    unfold colAll
    refine List.pairwise_append.mpr ⟨?_, rel_colS o' hc (fun e he => by cases he; exact hh), ?_⟩
    · unfold vert
      by_cases e : c.l < c.u
      · rw [if_pos e]; exact List.pairwise_singleton _ _
      · rw [if_neg e]; exact List.Pairwise.nil
    · intro s hs t ht
      obtain ⟨s', hs', rfl⟩ := List.mem_map.mp hs
      obtain ⟨rfl, hv⟩ := vert_mem hs'
      obtain ⟨hx, _, _, o2⟩ := o'
      refine Rel.flipL (s := (c.lo, c.hi)) ?_
      rcases List.mem_cons.mp ht with rfl | ht
      · exact .inr (.inr (.inr (.inl ⟨rfl, (noFold_v (a := d.lo) (m := c.lo) (b := c.hi) (by show d.x ≠ c.x; omega) rfl).symm⟩)))
      · rcases List.mem_cons.mp ht with rfl | ht
        · exact .inr (.inr (.inr (.inr ⟨rfl, (noFold_v (a := d.hi) (m := c.hi) (b := c.lo) (by show d.x ≠ c.x; omega) rfl).symm⟩)))
        · have := colS_x o2 ht
          exact apart_x (x := c.x) (Int.le_refl _) (Int.le_refl _) (by omega) (by omega)
/-! area -/
def colA : Col → List Col → Int
  | _, [] => 0
  | c, d :: r => (d.x - c.x) * ((c.u - c.l) + (d.u - d.l)) + colA d r
theorem wt_vert (c : Col) (hc : c.l ≤ c.u) : sumBy wt (vert c) = c.x * (c.u - c.l) := by
  unfold vert
  by_cases e : c.l < c.u
  · rw [if_pos e, sumBy_cons, sumBy_nil]; simp only [wt, Col.lo, Col.hi]; grind
  · rw [if_neg e, sumBy_nil, show c.u = c.l by omega, Int.sub_self, Int.mul_zero]
theorem wt_colS : ∀ (r : List Col) (c : Col), okT c r → c.l ≤ c.u → sumBy wt (colS c r) = c.x * (c.u - c.l) + colA c r
  | [], c, _, hc => by show sumBy wt (vert c) = _ + 0; rw [wt_vert c hc, Int.add_zero]
  | d :: r, c, o, _ => by
    obtain ⟨hx, hd, _, o'⟩ := o
    show sumBy wt ((c.lo, d.lo) :: (d.hi, c.hi) :: colS d r) = c.x * (c.u - c.l) + ((d.x - c.x) * ((c.u - c.l) + (d.u - d.l)) + colA d r)
    rw [sumBy_cons, sumBy_cons, wt_colS r d o' hd]
    simp only [wt, Col.lo, Col.hi]; grind
theorem A2_col {c : Col} {r : List Col} (o : okC (c :: r)) : A2 (colFence (c :: r)) = colA c r := by
  unfold A2
  rw [sumBy_perm (sds_col o)]
  cases r with
  | nil => exact o.elim
  | cons d r =>
    obtain ⟨hc, o', hh⟩ := o
    unfold colAll
    rw [sumBy_app, wt_colS _ c o' hc, sumBy_map]
    have e : sumBy (fun s => wt (flip s)) (vert c) = -1 * sumBy wt (vert c) := by
      rw [← sumBy_mul]; refine sumBy_congr fun s _ => ?_
      simp only [wt, flip]; grind
    rw [e, wt_vert c hc]; grind
theorem colA_nn : ∀ (r : List Col) (c : Col), okT c r → c.l ≤ c.u → 0 ≤ colA c r
  | [], _, _, _ => Int.le_refl _
  | d :: r, c, o, hc => by
    obtain ⟨hx, hd, _, o'⟩ := o
    have := colA_nn r d o' hd
    have := Int.mul_nonneg (show 0 ≤ d.x - c.x by omega) (show 0 ≤ (c.u - c.l) + (d.u - d.l) by omega)
    show 0 ≤ _ + _; omega
theorem A2_col_pos {cs : List Col} (o : okC cs) : 0 < A2 (colFence cs) := by
  match cs, o with
  | c :: d :: r, o =>
    rw [A2_col o]
    obtain ⟨hc, o', hh⟩ := o
    obtain ⟨hx, hd, _, o2⟩ := o'
    have := colA_nn r d o2 hd
    have := Int.mul_pos (show 0 < d.x - c.x by omega) (show 0 < (c.u - c.l) + (d.u - d.l) by omega)
    show 0 < _ + _; omega
theorem okT_x : ∀ {r : List Col} {c : Col}, okT c r → ∀ d ∈ r, c.x < d.x
  | [], _, _, d, h => by cases h
  | e :: r, c, o, d, h => by
    obtain ⟨hx, _, _, o'⟩ := o
    rcases List.mem_cons.mp h with rfl | h
    · exact hx
    · have := okT_x o' d h; omega
theorem okT_pw : ∀ {r : List Col} {c : Col}, okT c r → (c :: r).Pairwise fun a b => a.x < b.x
  | [], _, _ => List.pairwise_singleton _ _
  | e :: r, c, o => List.pairwise_cons.mpr ⟨okT_x o, okT_pw o.2.2.2⟩
theorem pw_unique {cs : List Col} (h : cs.Pairwise fun a b => a.x < b.x) : ∀ a ∈ cs, ∀ b ∈ cs, a.x = b.x → a = b := by
  induction cs with
  | nil => intro a ha; cases ha
  | cons c cs ih =>
    obtain ⟨h1, h2⟩ := List.pairwise_cons.mp h
    intro a ha b hb e
    rcases List.mem_cons.mp ha with ha | ha
    · rcases List.mem_cons.mp hb with hb | hb
      · rw [ha, hb]
      · have := h1 b hb; rw [ha] at e; omega
    · rcases List.mem_cons.mp hb with hb | hb
      · have := h1 a ha; rw [hb] at e; omega
      · exact ih h2 a ha b hb e
theorem nodup_col {cs : List Col} (h : cs.Pairwise fun a b => a.x < b.x) : (colFence cs).Nodup := by
  unfold colFence
  refine List.nodup_append.mpr ⟨?_, ?_, ?_⟩
  · refine List.pairwise_map.mpr (h.imp fun {a b} hab e => ?_)
    have : a.x = b.x := congrArg Prod.fst e
    omega
  · rw [(List.reverse_perm _).nodup_iff]
    refine List.pairwise_map.mpr ((h.filter _).imp fun {a b} hab e => ?_)
    have : a.x = b.x := congrArg Prod.fst e
    omega
  · intro p hp q hq e
    obtain ⟨a, ha, rfl⟩ := List.mem_map.mp hp
    rw [List.mem_reverse] at hq
    obtain ⟨b, hb, rfl⟩ := List.mem_map.mp hq
    obtain ⟨hb, hn⟩ := List.mem_filter.mp hb
    have hx : a.x = b.x := congrArg Prod.fst e
    have := pw_unique h a ha b hb hx
    subst this
    have hl : a.l = a.u := congrArg Prod.snd e
    unfold nd at hn
    have := of_decide_eq_true hn
    omega
theorem okC_pw {cs : List Col} (o : okC cs) : cs.Pairwise fun a b => a.x < b.x := by
  match cs, o with
  | c :: d :: r, o => exact okT_pw o.2.1
theorem okC_len {cs : List Col} (o : okC cs) : 3 ≤ (colFence cs).length := by
  match cs, o with
  | c :: d :: r, o =>
    unfold colFence
    rw [List.length_append, List.length_map, List.length_reverse, List.length_map]
    have h : 0 < ((c :: d :: r).filter nd).length := by
      rw [List.length_pos_iff]
      intro z
      rw [List.filter_eq_nil_iff] at z
      rcases o.2.2 with h | h
      · exact z c List.mem_cons_self (decide_eq_true h)
      · exact z d (List.mem_cons_of_mem _ List.mem_cons_self) (decide_eq_true h)
    simp only [List.length_cons]; omega
theorem Good.col {cs : List Col} (o : okC cs) (h6 : cs.length ≤ 6) : Good (colFence cs) := by
  refine ⟨okC_len o, ?_, nodup_col (okC_pw o), ?_⟩
  · unfold colFence
    rw [List.length_append, List.length_map, List.length_reverse, List.length_map]
    have := List.length_filter_le LW.nd cs
    omega
  · match cs, o with
    | c :: r, o => exact pw_perm Rel.symm (sds_col o).symm (rel_col o)
end LW
/-! part MDraw -/
namespace LW
/-! ### columns with tips left out -/
def Col.shut (c : Col) : Col := ⟨c.x, c.l, c.l⟩
theorem okT_of : ∀ (r : List Col) (c : Col), ((c :: r).Pairwise fun a b => a.x < b.x) → (∀ d ∈ r, d.l ≤ d.u) → (∀ d ∈ r.dropLast, d.l < d.u) → okT c r
  | [], _, _, _, _ => trivial
  | d :: r, c, hp, h1, h2 => by
    obtain ⟨p1, p2⟩ := List.pairwise_cons.mp hp
    refine ⟨p1 d List.mem_cons_self, h1 d List.mem_cons_self, ?_, okT_of r d p2 (fun e he => h1 e (List.mem_cons_of_mem _ he)) ?_⟩
    · intro hr
      cases r with
      | nil => exact absurd rfl hr
      | cons e r => exact h2 d (by rw [List.dropLast_cons_cons]; exact List.mem_cons_self)
    · intro e he
      cases r with
      | nil => cases he
      | cons f r => exact h2 e (by rw [List.dropLast_cons_cons]; exact List.mem_cons_of_mem _ he)
theorem pw_x {cs ds : List Col} (h : cs.map Col.x = ds.map Col.x) (p : cs.Pairwise fun a b => a.x < b.x) : ds.Pairwise fun a b => a.x < b.x := by
  have : (cs.map Col.x).Pairwise (· < ·) := List.pairwise_map.mpr p
  rw [h] at this
  exact List.pairwise_map.mp this
theorem filter_all {cs : List Col} (h : ∀ d ∈ cs, d.l < d.u) : cs.filter nd = cs := by
  rw [List.filter_eq_self]; intro d hd; exact decide_eq_true (h d hd)
theorem filter_shut (c : Col) (r : List Col) : (c.shut :: r).filter nd = r.filter nd := by
  rw [List.filter_cons, if_neg (by unfold nd Col.shut; simp)]
theorem filter_shut2 (c : Col) (w : List Col) : (w ++ [c.shut]).filter nd = w.filter nd := by
  rw [List.filter_append, filter_shut]; simp
/-- low corners, then the high ones that stay, from the right -/
def joinC (cs : List Col) (odd cut : Bool) : List Pt := cs.map Col.lo ++ (((if cut then (if odd then cs.tail else cs).dropLast else (if odd then cs.tail else cs))).map Col.hi).reverse
def tipC (cs : List Col) (odd cut : Bool) : List Col :=
  match cs with
  | [] => []
  | c :: r => match r.getLast? with
    | none => [c]
    | some d => (if odd then c.shut else c) :: (r.dropLast ++ [if cut then d.shut else d])
theorem tip_ok {cs : List Col} {odd cut : Bool} (h2 : 2 ≤ cs.length) (hp : cs.Pairwise fun a b => a.x < b.x) (hn : ∀ d ∈ cs, d.l < d.u) (hc : odd = true → cut = true → 3 ≤ cs.length) :
    okC (tipC cs odd cut) ∧ (tipC cs odd cut).length = cs.length ∧ colFence (tipC cs odd cut) = joinC cs odd cut ∧ ∀ e ∈ tipC cs odd cut, ∃ d ∈ cs, e = d ∨ e = d.shut := by
  match cs, h2 with
  | c :: d0 :: r0, _ =>
    obtain ⟨w, d, e⟩ : ∃ w d, d0 :: r0 = w ++ [d] := ⟨(d0 :: r0).dropLast, (d0 :: r0).getLast (by simp), (List.dropLast_concat_getLast (by simp)).symm⟩
    rw [e] at hp hn hc ⊢
    have et : tipC (c :: (w ++ [d])) odd cut = (if odd then c.shut else c) :: (w ++ [if cut then d.shut else d]) := by
      unfold tipC
      simp
    have hcn := hn c List.mem_cons_self
    have hwn : ∀ e ∈ w, e.l < e.u := fun e he => hn e (List.mem_cons_of_mem _ (List.mem_append.mpr (.inl he)))
    have hdn := hn d (List.mem_cons_of_mem _ (List.mem_append.mpr (.inr List.mem_cons_self)))
    rw [et]
    have ex : (c :: (w ++ [d])).map Col.x = ((if odd then c.shut else c) :: (w ++ [if cut then d.shut else d])).map Col.x := by
      cases odd <;> cases cut <;> simp [Col.shut]
    have hp' := pw_x ex hp
    refine ⟨?_, by simp, ?_, ?_⟩
    · have T := okT_of (w ++ [if cut then d.shut else d]) (if odd then c.shut else c) hp' (by
        intro e he
        rcases List.mem_append.mp he with he | he
        · exact Int.le_of_lt (hwn e he)
        · rw [List.mem_singleton] at he; subst he
          cases cut
          · exact Int.le_of_lt hdn
          · exact Int.le_refl _) (by
        intro e he
        rw [List.dropLast_concat] at he
        exact hwn e he)
      cases w with
      | nil =>
        refine ⟨?_, T, ?_⟩
        · cases odd
          · exact Int.le_of_lt hcn
          · exact Int.le_refl _
        · cases odd
          · exact .inl hcn
          · cases cut
            · exact .inr hdn
            · have := hc rfl rfl; simp at this
      | cons f w =>
        refine ⟨?_, T, .inr (hwn f List.mem_cons_self)⟩
        cases odd
        · exact Int.le_of_lt hcn
        · exact Int.le_refl _
    · unfold colFence joinC
      have el : ((if odd then c.shut else c) :: (w ++ [if cut then d.shut else d])).map Col.lo = (c :: (w ++ [d])).map Col.lo := by
        cases odd <;> cases cut <;> simp [Col.shut, Col.lo]
      rw [el]
      congr 3
      cases odd <;> cases cut
      · simp only [Bool.false_eq_true, if_false]; exact filter_all hn
      · simp only [Bool.false_eq_true, if_false, if_true]
        rw [← List.cons_append, filter_shut2, ← List.cons_append, List.dropLast_concat]
        exact filter_all fun e he => by
          rcases List.mem_cons.mp he with rfl | he
          · exact hcn
          · exact hwn e he
      · simp only [Bool.false_eq_true, if_false, if_true]
        rw [filter_shut, List.tail_cons]
        exact filter_all fun e he => hn e (List.mem_cons_of_mem _ he)
      · simp only [if_true]
        rw [filter_shut, filter_shut2, List.tail_cons, List.dropLast_concat]
        exact filter_all hwn
    · intro e he
      rcases List.mem_cons.mp he with rfl | he
      · refine ⟨c, List.mem_cons_self, ?_⟩
        cases odd
        · exact .inl rfl
        · exact .inr rfl
      · rcases List.mem_append.mp he with he | he
        · exact ⟨e, List.mem_cons_of_mem _ (List.mem_append.mpr (.inl he)), .inl rfl⟩
        · rw [List.mem_singleton] at he; subst he
          refine ⟨d, List.mem_cons_of_mem _ (List.mem_append.mpr (.inr List.mem_cons_self)), ?_⟩
          cases cut
          · exact .inl rfl
          · exact .inr rfl
/-! ### spirals -/
def spiral (w h : Int) : List Pt := [(0, 0), (w, 0), (w, h), (0, h), (0, 3), (w - 3, 3), (w - 3, 4), (1, 4), (1, h - 1), (w - 1, h - 1), (w - 1, 1), (0, 1)]
/-- boxes apart, or one corner together and no fold -/
def relB (s t : Sd) : Bool :=
  decide (max s.1.1 s.2.1 < min t.1.1 t.2.1) || (decide (max t.1.1 t.2.1 < min s.1.1 s.2.1) || (decide (max s.1.2 s.2.2 < min t.1.2 t.2.2) || (decide (max t.1.2 t.2.2 < min s.1.2 s.2.2) ||
  (decide (s.2 = t.1 ∧ ¬ (cr s.1 s.2 t.2 = 0 ∧ 0 < dt s.1 s.2 t.2)) || decide (s.1 = t.2 ∧ ¬ (cr t.1 s.1 s.2 = 0 ∧ 0 < dt t.1 s.1 s.2))))))
theorem relB_ok {s t : Sd} (h : relB s t = true) : Rel s t := by
  unfold relB at h
  simp only [Bool.or_eq_true, decide_eq_true_eq] at h
  rcases h with h | h | h | h | h | h
  · exact .inl (.inl ⟨1, 0, -(max s.1.1 s.2.1), by omega, by omega, by omega, by omega⟩)
  · exact .inl (.inr ⟨1, 0, -(max t.1.1 t.2.1), by omega, by omega, by omega, by omega⟩)
  · exact .inl (.inl ⟨0, 1, -(max s.1.2 s.2.2), by omega, by omega, by omega, by omega⟩)
  · exact .inl (.inr ⟨0, 1, -(max t.1.2 t.2.2), by omega, by omega, by omega, by omega⟩)
  · exact .inr (.inl h)
  · exact .inr (.inr (.inl h))
def pwB : List Sd → Bool
  | [] => true
  | s :: l => l.all (relB s) && pwB l
theorem pwB_ok : ∀ {l : List Sd}, pwB l = true → l.Pairwise Rel
  | [], _ => List.Pairwise.nil
  | s :: l, h => by
    unfold pwB at h
    rw [Bool.and_eq_true, List.all_eq_true] at h
    exact List.pairwise_cons.mpr ⟨fun t ht => relB_ok (h.1 t ht), pwB_ok h.2⟩
theorem good_of {l : List Pt} (h1 : decide (3 ≤ l.length ∧ l.length ≤ 12) = true) (h2 : decide l.Nodup = true) (h3 : pwB (sdsL l) = true) : Good l :=
  ⟨(of_decide_eq_true h1).1, (of_decide_eq_true h1).2, of_decide_eq_true h2, pwB_ok h3⟩
theorem spiral_good {w h : Int} (hw : w = 5 ∨ w = 6 ∨ w = 7) (hh : h = 6 ∨ h = 7 ∨ h = 8) : Good (spiral w h) := by
  rcases hw with rfl | rfl | rfl <;> rcases hh with rfl | rfl | rfl <;> exact good_of (by decide +kernel) (by decide +kernel) (by decide +kernel)
theorem spiral_A2 {w h : Int} (hw : w = 5 ∨ w = 6 ∨ w = 7) (hh : h = 6 ∨ h = 7 ∨ h = 8) : 0 < A2 (spiral w h) := by
  rcases hw with rfl | rfl | rfl <;> rcases hh with rfl | rfl | rfl <;> decide +kernel
/-! ### what is drawn -/
inductive Drawn : List Pt → Prop
  | col {cs : List Col} (o : okC cs) (h6 : cs.length ≤ 6) (hb : ∀ c ∈ cs, 0 ≤ c.x ∧ c.x ≤ 15 ∧ -4 ≤ c.l ∧ c.l ≤ c.u ∧ c.u ≤ 9) : Drawn (colFence cs)
  | spi {w h : Int} (hw : w = 5 ∨ w = 6 ∨ w = 7) (hh : h = 6 ∨ h = 7 ∨ h = 8) : Drawn (spiral w h)
  | flat {l : List Pt} {at' : Nat} {a b c : Pt} (d : Drawn l) (ha : at' < l.length) (hc : l[at']? = some c) (hb : l[(at' + l.length - 1) % l.length]? = some a) (h : Btw a b c) (hl : l.length ≤ 11) : Drawn (l.take at' ++ b :: l.drop at')
  | rot {a b : List Pt} (d : Drawn (a ++ b)) : Drawn (b ++ a)
  | rev {l : List Pt} (d : Drawn l) : Drawn l.reverse
  | swap {l : List Pt} (d : Drawn l) : Drawn (l.map fun p => (p.2, p.1))
theorem Drawn.good {l : List Pt} (d : Drawn l) : Good l := by
  induction d with
  | col o h6 _ => exact Good.col o h6
  | spi hw hh => exact spiral_good hw hh
  | flat d ha hc hb h hl g => exact g.flat ha hc hb h hl
  | rot d g => exact g.rot
  | rev d g => exact g.rev
  | swap d g => exact g.swap
theorem Drawn.area {l : List Pt} (d : Drawn l) : A2 l ≠ 0 := by
  induction d with
  | col o h6 _ => have := A2_col_pos o; omega
  | spi hw hh => have := spiral_A2 hw hh; omega
  | flat d ha hc hb h hl g => unfold A2; rw [sum_flat (by have := d.good.lo; omega) ha hc hb (wt_btw h)]; exact g
  | rot d g => rw [A2_rot]; exact g
  | rev d g => rw [A2_rev]; omega
  | swap d g => rw [A2_swap]; omega
theorem Btw.box {a b c : Pt} (h : Btw a b c) {lo hi : Int} (h1 : lo ≤ a.1 ∧ a.1 ≤ hi ∧ lo ≤ a.2 ∧ a.2 ≤ hi) (h2 : lo ≤ c.1 ∧ c.1 ≤ hi ∧ lo ≤ c.2 ∧ c.2 ≤ hi) : lo ≤ b.1 ∧ b.1 ≤ hi ∧ lo ≤ b.2 ∧ b.2 ≤ hi := by
  have x1 := h.sub (p := -1) (q := 0) (r := lo) (by omega) (by omega)
  have x2 := h.sub (p := 1) (q := 0) (r := -hi) (by omega) (by omega)
  have x3 := h.sub (p := 0) (q := -1) (r := lo) (by omega) (by omega)
  have x4 := h.sub (p := 0) (q := 1) (r := -hi) (by omega) (by omega)
  omega
theorem Drawn.box {l : List Pt} (d : Drawn l) : ∀ p ∈ l, -4 ≤ p.1 ∧ p.1 ≤ 15 ∧ -4 ≤ p.2 ∧ p.2 ≤ 15 := by
  induction d with
  | @col cs o h6 hb =>
    intro p hp
    unfold colFence at hp
    rcases List.mem_append.mp hp with hp | hp
    · obtain ⟨c, hc, rfl⟩ := List.mem_map.mp hp
      have := hb c hc
      simp only [Col.lo]; omega
    · rw [List.mem_reverse] at hp
      obtain ⟨c, hc, rfl⟩ := List.mem_map.mp hp
      have := hb c (List.mem_filter.mp hc).1
      simp only [Col.hi]; omega
  | @spi w h hw hh =>
    intro p hp
    unfold spiral at hp
    simp only [List.mem_cons, List.not_mem_nil, or_false] at hp
    rcases hp with rfl | rfl | rfl | rfl | rfl | rfl | rfl | rfl | rfl | rfl | rfl | rfl <;> refine ⟨?_, ?_, ?_, ?_⟩ <;> simp only <;> omega
  | @flat l at' a b c d ha hc hb h hl g =>
    intro p hp
    rcases List.mem_append.mp hp with hp | hp
    · exact g p (List.mem_of_mem_take hp)
    · rcases List.mem_cons.mp hp with rfl | hp
      · exact h.box (g a (List.mem_of_getElem? hb)) (g c (List.mem_of_getElem? hc))
      · exact g p (List.mem_of_mem_drop hp)
  | rot d g => intro p hp; exact g p (by rw [List.mem_append] at hp ⊢; exact hp.symm)
  | rev d g => intro p hp; exact g p (List.mem_reverse.mp hp)
  | swap d g =>
    intro p hp
    obtain ⟨q, hq, rfl⟩ := List.mem_map.mp hp
    have := g q hq
    simp only; omega
end LW
/-! part MMono -/
namespace LW
/-! ### rings of two rising chains -/
/-- a height along which the chains rise -/
def ph (α β : Int) (p : Pt) : Int := α * p.1 + β * p.2
structure Mono (α β : Int) (s : Pt) (ls : List Pt) (e : Pt) (us : List Pt) : Prop where
  lo : (s :: (ls ++ [e])).Pairwise fun a b => ph α β a < ph α β b
  up : (s :: (us ++ [e])).Pairwise fun a b => ph α β a < ph α β b
  ne : ∀ p ∈ ls, ∀ q ∈ us, ph α β p ≠ ph α β q
  low : ∀ t ∈ chain s (us ++ [e]), ∀ p ∈ ls, ph α β t.1 < ph α β p → ph α β p < ph α β t.2 → cr t.1 t.2 p < 0
  high : ∀ t ∈ chain s (ls ++ [e]), ∀ q ∈ us, ph α β t.1 < ph α β q → ph α β q < ph α β t.2 → 0 < cr t.1 t.2 q
  some : ls ≠ [] ∨ us ≠ []
def monoL (s : Pt) (ls : List Pt) (e : Pt) (us : List Pt) : List Pt := s :: (ls ++ e :: us.reverse)
/-! a change of plane -/
theorem mul_lt_iff {D x y : Int} (h : 0 < D) : D * x < D * y ↔ x < y := ⟨fun z => Int.lt_of_mul_lt_mul_left z (by omega), fun z => Int.mul_lt_mul_of_pos_left z h⟩
theorem Mono.map {α β α' β' : Int} {s e : Pt} {ls us : List Pt} (m : Mono α β s ls e us) (f : Pt → Pt) {D C E : Int} (hD : 0 < D) (hE : 0 < E) (h1 : ∀ p, ph α' β' (f p) = D * ph α β p + C) (h2 : ∀ a b c, cr (f a) (f b) (f c) = E * cr a b c) :
    Mono α' β' (f s) (ls.map f) (f e) (us.map f) := by
  have lt : ∀ a b, ph α' β' (f a) < ph α' β' (f b) ↔ ph α β a < ph α β b := fun a b => by
    rw [h1, h1]
    have := mul_lt_iff (x := ph α β a) (y := ph α β b) hD
    omega
  have pw : ∀ {x : List Pt}, (s :: (x ++ [e])).Pairwise (fun a b => ph α β a < ph α β b) → (f s :: (x.map f ++ [f e])).Pairwise fun a b => ph α' β' a < ph α' β' b := fun {x} h => by
    have e1 : f s :: (x.map f ++ [f e]) = (s :: (x ++ [e])).map f := by simp
    rw [e1, List.pairwise_map]
    exact h.imp fun h => (lt _ _).mpr h
  have ch : ∀ {x : List Pt}, chain (f s) (x.map f ++ [f e]) = (chain s (x ++ [e])).map fun t => (f t.1, f t.2) := fun {x} => by
    rw [← chain_map, List.map_append]; rfl
  refine ⟨pw m.lo, pw m.up, fun p hp q hq => ?_, fun t ht p hp k1 k2 => ?_, fun t ht p hp k1 k2 => ?_, by
    rcases m.some with h | h
    · exact .inl fun z => h (List.map_eq_nil_iff.mp z)
    · exact .inr fun z => h (List.map_eq_nil_iff.mp z)⟩
  · obtain ⟨p, hp', rfl⟩ := List.mem_map.mp hp
    obtain ⟨q, hq', rfl⟩ := List.mem_map.mp hq
    have a1 := lt p q
    have a2 := lt q p
    have := m.ne p hp' q hq'
    omega
  · rw [ch] at ht
    obtain ⟨t, ht', rfl⟩ := List.mem_map.mp ht
    obtain ⟨p, hp', rfl⟩ := List.mem_map.mp hp
    have := m.low t ht' p hp' ((lt _ _).mp k1) ((lt _ _).mp k2)
    simp only
    rw [h2]
    exact Int.mul_neg_of_pos_of_neg hE this
  · rw [ch] at ht
    obtain ⟨t, ht', rfl⟩ := List.mem_map.mp ht
    obtain ⟨p, hp', rfl⟩ := List.mem_map.mp hp
    have := m.high t ht' p hp' ((lt _ _).mp k1) ((lt _ _).mp k2)
    simp only
    rw [h2]
    exact Int.mul_pos hE this
theorem monoL_map (f : Pt → Pt) (s : Pt) (ls : List Pt) (e : Pt) (us : List Pt) : (monoL s ls e us).map f = monoL (f s) (ls.map f) (f e) (us.map f) := by
  unfold monoL; simp
/-- the plane mirrored: the chains change places -/
theorem Mono.mirror {α β α' β' : Int} {s e : Pt} {ls us : List Pt} (m : Mono α β s ls e us) (f : Pt → Pt) {D C E : Int} (hD : 0 < D) (hE : E < 0) (h1 : ∀ p, ph α' β' (f p) = D * ph α β p + C) (h2 : ∀ a b c, cr (f a) (f b) (f c) = E * cr a b c) :
    Mono α' β' (f s) (us.map f) (f e) (ls.map f) := by
  have lt : ∀ a b, ph α' β' (f a) < ph α' β' (f b) ↔ ph α β a < ph α β b := fun a b => by
    rw [h1, h1]
    have := mul_lt_iff (x := ph α β a) (y := ph α β b) hD
    omega
  have pw : ∀ {x : List Pt}, (s :: (x ++ [e])).Pairwise (fun a b => ph α β a < ph α β b) → (f s :: (x.map f ++ [f e])).Pairwise fun a b => ph α' β' a < ph α' β' b := fun {x} h => by
    have e1 : f s :: (x.map f ++ [f e]) = (s :: (x ++ [e])).map f := by simp
    rw [e1, List.pairwise_map]
    exact h.imp fun h => (lt _ _).mpr h
  have ch : ∀ {x : List Pt}, chain (f s) (x.map f ++ [f e]) = (chain s (x ++ [e])).map fun t => (f t.1, f t.2) := fun {x} => by
    rw [← chain_map, List.map_append]; rfl
  refine ⟨pw m.up, pw m.lo, fun p hp q hq => ?_, fun t ht p hp k1 k2 => ?_, fun t ht p hp k1 k2 => ?_, by
    rcases m.some with h | h
    · exact .inr fun z => h (List.map_eq_nil_iff.mp z)
    · exact .inl fun z => h (List.map_eq_nil_iff.mp z)⟩
  · obtain ⟨p, hp', rfl⟩ := List.mem_map.mp hp
    obtain ⟨q, hq', rfl⟩ := List.mem_map.mp hq
    have a1 := lt p q
    have a2 := lt q p
    have := m.ne q hq' p hp'
    omega
  · rw [ch] at ht
    obtain ⟨t, ht', rfl⟩ := List.mem_map.mp ht
    obtain ⟨p, hp', rfl⟩ := List.mem_map.mp hp
    have := m.high t ht' p hp' ((lt _ _).mp k1) ((lt _ _).mp k2)
    simp only
    rw [h2]
    exact Int.mul_neg_of_neg_of_pos hE this
  · rw [ch] at ht
    obtain ⟨t, ht', rfl⟩ := List.mem_map.mp ht
    obtain ⟨p, hp', rfl⟩ := List.mem_map.mp hp
    have := m.low t ht' p hp' ((lt _ _).mp k1) ((lt _ _).mp k2)
    simp only
    rw [h2]
    exact Int.mul_pos_of_neg_of_neg hE this
def sw (p : Pt) : Pt := (p.2, p.1)
theorem cr_sw (a b c : Pt) : cr (sw a) (sw b) (sw c) = (-1) * cr a b c := by simp only [cr, sw]; grind
theorem ph_sw (α β : Int) (p : Pt) : ph β α (sw p) = 1 * ph α β p + 0 := by simp only [ph, sw]; grind
theorem sw_sw (p : Pt) : sw (sw p) = p := rfl
theorem Mono.sw {α β : Int} {s e : Pt} {ls us : List Pt} (m : Mono α β s ls e us) : Mono β α (LW.sw s) (us.map LW.sw) (LW.sw e) (ls.map LW.sw) := m.mirror LW.sw (by decide) (by decide) (ph_sw α β) cr_sw
/-! ### a corner more on the lower chain -/
theorem ph_btw {α β : Int} {a b c : Pt} (h : Btw a b c) (hac : ph α β a < ph α β c) : ph α β a < ph α β b ∧ ph α β b < ph α β c := by
  obtain ⟨n, k, k0, kn, e1, e2⟩ := h
  have e : n * (ph α β b - ph α β a) = k * (ph α β c - ph α β a) := by simp only [ph]; grind
  have p1 : 0 < k * (ph α β c - ph α β a) := Int.mul_pos k0 (by omega)
  have e' : n * (ph α β c - ph α β b) = (n - k) * (ph α β c - ph α β a) := by simp only [ph]; grind
  have p2 : 0 < (n - k) * (ph α β c - ph α β a) := Int.mul_pos (by omega) (by omega)
  have q1 : 0 < ph α β b - ph α β a := Int.pos_of_mul_pos_right (a := n) (by rw [e]; exact p1) (by omega)
  have q2 : 0 < ph α β c - ph α β b := Int.pos_of_mul_pos_right (a := n) (by rw [e']; exact p2) (by omega)
  omega
theorem chain_at (y : Pt) (z : List Pt) : ∀ (xs : List Pt) (s : Pt) {w : List Pt} {a : Pt}, s :: xs = w ++ [a] → ∃ F : List Sd, chain s (xs ++ y :: z) = F ++ (a, y) :: chain y z ∧ ∀ y' z', chain s (xs ++ y' :: z') = F ++ (a, y') :: chain y' z'
  | [], s, w, a, h => by
    have : a = s := by
      cases w with
      | nil => cases h; rfl
      | cons x w => simp at h
    subst this
    exact ⟨[], rfl, fun _ _ => rfl⟩
  | x :: xs, s, w, a, h => by
    cases w with
    | nil => simp at h
    | cons x' w =>
      simp only [List.cons_append, List.cons.injEq] at h
      obtain ⟨F, h1, h2⟩ := chain_at y z xs x h.2
      refine ⟨(s, x) :: F, ?_, fun y' z' => ?_⟩
      · show (s, x) :: chain x (xs ++ y :: z) = _
        rw [h1]; rfl
      · show (s, x) :: chain x (xs ++ y' :: z') = _
        rw [h2]; rfl
theorem aff_neg {A C fa fc L R x : Int} (h1 : L < x) (h2 : x < R) (hL : (fc - L) * A + (L - fa) * C ≤ 0) (hR : (fc - R) * A + (R - fa) * C ≤ 0) (hn : (fc - L) * A + (L - fa) * C < 0 ∨ (fc - R) * A + (R - fa) * C < 0) : (fc - x) * A + (x - fa) * C < 0 := by
  have e : (R - L) * ((fc - x) * A + (x - fa) * C) = (R - x) * ((fc - L) * A + (L - fa) * C) + (x - L) * ((fc - R) * A + (R - fa) * C) := by grind
  have p1 : (R - x) * ((fc - L) * A + (L - fa) * C) ≤ 0 := Int.mul_nonpos_of_nonneg_of_nonpos (by omega) hL
  have p2 : (x - L) * ((fc - R) * A + (R - fa) * C) ≤ 0 := Int.mul_nonpos_of_nonneg_of_nonpos (by omega) hR
  have p3 : (R - L) * ((fc - x) * A + (x - fa) * C) < 0 := by
    rcases hn with h | h
    · have := Int.mul_neg_of_pos_of_neg (show 0 < R - x by omega) h; omega
    · have := Int.mul_neg_of_pos_of_neg (show 0 < x - L by omega) h; omega
  rcases Int.lt_or_le ((fc - x) * A + (x - fa) * C) 0 with h | h
  · exact h
  · have := Int.mul_nonneg (show 0 ≤ R - L by omega) h; omega
theorem pw_last {R : Pt → Pt → Prop} {x w : List Pt} {a : Pt} (h : x.Pairwise R) (e : x = w ++ [a]) : ∀ p ∈ x, p = a ∨ R p a := fun p hp => by
  subst e
  rcases List.mem_append.mp hp with hp | hp
  · exact .inr ((List.pairwise_append.mp h).2.2 p hp a (List.mem_singleton.mpr rfl))
  · exact .inl (List.mem_singleton.mp hp)
theorem pw_first {R : Pt → Pt → Prop} {x v : List Pt} {c : Pt} (h : x.Pairwise R) (e : x = c :: v) : ∀ p ∈ x, p = c ∨ R c p := fun p hp => by
  subst e
  rcases List.mem_cons.mp hp with rfl | hp
  · exact .inl rfl
  · exact .inr ((List.pairwise_cons.mp h).1 p hp)
theorem chain_mem {x : List Pt} {p : Pt} {t : Sd} (h : t ∈ chain p x) : t.1 ∈ p :: x ∧ t.2 ∈ x := chain_mem2 h
theorem Mono.ends {α β : Int} {s e : Pt} {ls us : List Pt} (m : Mono α β s ls e us) : ph α β s < ph α β e := (List.pairwise_cons.mp m.lo).1 e (List.mem_append_right _ (List.mem_singleton.mpr rfl))
theorem Mono.s_lt {α β : Int} {s e : Pt} {ls us : List Pt} (m : Mono α β s ls e us) : (∀ p ∈ ls, ph α β s < ph α β p ∧ ph α β p < ph α β e) ∧ (∀ p ∈ us, ph α β s < ph α β p ∧ ph α β p < ph α β e) := by
  have a := List.pairwise_cons.mp m.lo
  have b := List.pairwise_cons.mp m.up
  refine ⟨fun p hp => ⟨a.1 p (List.mem_append_left _ hp), (List.pairwise_append.mp a.2).2.2 p hp e (List.mem_singleton.mpr rfl)⟩, fun p hp => ⟨b.1 p (List.mem_append_left _ hp), (List.pairwise_append.mp b.2).2.2 p hp e (List.mem_singleton.mpr rfl)⟩⟩
/-- a chain's first side -/
theorem chain_from_s {R : Pt → Pt → Prop} {s e : Pt} {us : List Pt} {t : Sd} (hR : ∀ a, ¬ R a a) (h : (s :: (us ++ [e])).Pairwise R) (ht : t ∈ chain s (us ++ [e])) (h1 : t.1 = s) (h2 : t.2 = e) : us = [] := by
  cases us with
  | nil => rfl
  | cons u us =>
    exfalso
    have hp := List.pairwise_cons.mp h
    rcases List.mem_cons.mp ht with rfl | ht
    · simp only at h2
      subst h2
      exact hR u ((List.pairwise_cons.mp hp.2).1 u (List.mem_append_right _ (List.mem_singleton.mpr rfl)))
    · have := (chain_mem ht).1
      rw [h1] at this
      exact hR s (hp.1 s this)
/-- how far apart the chains are: at the left end and at the right end of what two sides share -/
theorem Mono.gap {α β : Int} {s e : Pt} {ls us : List Pt} (m : Mono α β s ls e us) {a c : Pt} {t : Sd} (side : (a, c) ∈ chain s (ls ++ [e])) (ht : t ∈ chain s (us ++ [e])) (o1 : ph α β a < ph α β t.2) (o2 : ph α β t.1 < ph α β c) :
    (∃ L, L = max (ph α β a) (ph α β t.1) ∧ ((ph α β c - L) * cr t.1 t.2 a + (L - ph α β a) * cr t.1 t.2 c < 0 ∨ (a = s ∧ t.1 = s ∧ (ph α β c - L) * cr t.1 t.2 a + (L - ph α β a) * cr t.1 t.2 c = 0))) ∧
    (∃ R, R = min (ph α β c) (ph α β t.2) ∧ ((ph α β c - R) * cr t.1 t.2 a + (R - ph α β a) * cr t.1 t.2 c < 0 ∨ (c = e ∧ t.2 = e ∧ (ph α β c - R) * cr t.1 t.2 a + (R - ph α β a) * cr t.1 t.2 c = 0))) := by
  obtain ⟨m1, m2⟩ := chain_mem ht
  obtain ⟨n1, n2⟩ := chain_mem side
  have rise : ∀ {x : List Pt} {p : Pt} {t : Sd}, (p :: x).Pairwise (fun a b => ph α β a < ph α β b) → t ∈ chain p x → ph α β t.1 < ph α β t.2 := fun {x} => by
    induction x with
    | nil => intro p t _ h; cases h
    | cons q x ih =>
      intro p t hp h
      have hp' := List.pairwise_cons.mp hp
      rcases List.mem_cons.mp h with rfl | h
      · exact hp'.1 q List.mem_cons_self
      · exact ih hp'.2 h
  have rt := rise m.up ht
  have ra : ph α β a < ph α β c := rise m.lo side
  have sl := m.s_lt
  have m1' : t.1 = s ∨ t.1 ∈ us := by
    rcases List.mem_cons.mp m1 with h | h
    · exact .inl h
    · rcases List.mem_append.mp h with h | h
      · exact .inr h
      · have z := List.mem_singleton.mp h
        rcases List.mem_append.mp m2 with h' | h'
        · have := (sl.2 _ h').2; rw [z] at rt; omega
        · rw [z, List.mem_singleton.mp h'] at rt; omega
  have m2' : t.2 = e ∨ t.2 ∈ us := by
    rcases List.mem_append.mp m2 with h | h
    · exact .inr h
    · exact .inl (List.mem_singleton.mp h)
  have aS : a = s ∨ a ∈ ls := by
    rcases List.mem_cons.mp n1 with h | h
    · exact .inl h
    · rcases List.mem_append.mp h with h | h
      · exact .inr h
      · have z : a = e := List.mem_singleton.mp h
        rcases List.mem_append.mp n2 with h' | h'
        · have := (sl.1 _ h').2; simp only at this; rw [z] at ra; omega
        · have z2 : c = e := List.mem_singleton.mp h'
          rw [z, z2] at ra; omega
  have cE : c = e ∨ c ∈ ls := by
    rcases List.mem_append.mp n2 with h | h
    · exact .inr h
    · exact .inl (List.mem_singleton.mp h)
  have hs : ∀ q ∈ us, ph α β s < ph α β q := fun q hq => (sl.2 q hq).1
  have he : ∀ q ∈ us, ph α β q < ph α β e := fun q hq => (sl.2 q hq).2
  have hse := m.ends
  have I1 : (ph α β c - ph α β t.1) * cr t.1 t.2 a + (ph α β t.1 - ph α β a) * cr t.1 t.2 c = -((ph α β t.2 - ph α β t.1) * cr a c t.1) := by simp only [ph, cr]; grind
  have I2 : (ph α β c - ph α β t.2) * cr t.1 t.2 a + (ph α β t.2 - ph α β a) * cr t.1 t.2 c = -((ph α β t.2 - ph α β t.1) * cr a c t.2) := by simp only [ph, cr]; grind
  have W1 : 0 < ph α β t.2 - ph α β t.1 := by omega
  constructor
  · rcases Int.lt_trichotomy (ph α β t.1) (ph α β a) with h | h | h
    · have hal : a ∈ ls := by
        rcases aS with rfl | h'
        · rcases m1' with h'' | h''
          · rw [h''] at h; omega
          · have := hs _ h''; omega
        · exact h'
      have := m.low t ht a hal h o1
      refine ⟨ph α β a, by omega, .inl ?_⟩
      have z : (ph α β a - ph α β a) * cr t.1 t.2 c = 0 := by rw [Int.sub_self, Int.zero_mul]
      have := Int.mul_neg_of_pos_of_neg (show 0 < ph α β c - ph α β a by omega) this
      omega
    · have : a = s ∧ t.1 = s := by
        rcases aS with h1 | h1 <;> rcases m1' with h2 | h2
        · exact ⟨h1, h2⟩
        · have := hs _ h2; rw [h1] at h; omega
        · have := (sl.1 a h1).1; rw [h2] at h; omega
        · have := m.ne a h1 _ h2; omega
      refine ⟨ph α β a, by omega, .inr ⟨this.1, this.2, ?_⟩⟩
      rw [this.1, this.2]
      have : cr s t.2 s = 0 := by simp only [cr]; grind
      rw [this, Int.mul_zero, Int.sub_self, Int.zero_mul]; rfl
    · have ht1 : t.1 ∈ us := by
        rcases m1' with h' | h'
        · rw [h'] at h
          rcases aS with rfl | h''
          · omega
          · have := (sl.1 a h'').1; omega
        · exact h'
      have : 0 < cr a c t.1 := m.high (a, c) side _ ht1 h o2
      refine ⟨ph α β t.1, by omega, .inl ?_⟩
      rw [I1]
      have := Int.mul_pos W1 this
      omega
  · rcases Int.lt_trichotomy (ph α β c) (ph α β t.2) with h | h | h
    · have hcl : c ∈ ls := by
        rcases cE with rfl | h'
        · rcases m2' with h'' | h''
          · rw [h''] at h; omega
          · have := he _ h''; omega
        · exact h'
      have := m.low t ht c hcl o2 h
      refine ⟨ph α β c, by omega, .inl ?_⟩
      have z : (ph α β c - ph α β c) * cr t.1 t.2 a = 0 := by rw [Int.sub_self, Int.zero_mul]
      have := Int.mul_neg_of_pos_of_neg (show 0 < ph α β c - ph α β a by omega) this
      omega
    · have : c = e ∧ t.2 = e := by
        rcases cE with h1 | h1 <;> rcases m2' with h2 | h2
        · exact ⟨h1, h2⟩
        · have := he _ h2; rw [h1] at h; omega
        · have := (sl.1 c h1).2; rw [h2] at h; omega
        · have := m.ne c h1 _ h2; omega
      refine ⟨ph α β c, by omega, .inr ⟨this.1, this.2, ?_⟩⟩
      rw [this.1, this.2]
      have : cr t.1 e e = 0 := by simp only [cr]; grind
      rw [this, Int.mul_zero, Int.sub_self, Int.zero_mul]; rfl
    · have ht2 : t.2 ∈ us := by
        rcases m2' with h' | h'
        · rw [h'] at h
          rcases cE with rfl | h''
          · omega
          · have := (sl.1 c h'').2; omega
        · exact h'
      have : 0 < cr a c t.2 := m.high (a, c) side _ ht2 o1 h
      refine ⟨ph α β t.2, by omega, .inl ?_⟩
      rw [I2]
      have := Int.mul_pos W1 this
      omega
theorem Mono.flatLo {α β : Int} {s e : Pt} {xs ys us : List Pt} (m : Mono α β s (xs ++ ys) e us) {w v : List Pt} {a b c : Pt} (h1 : s :: xs = w ++ [a]) (h2 : ys ++ [e] = c :: v) (hb : Btw a b c) (hn : ∀ q ∈ us, ph α β b ≠ ph α β q) : Mono α β s (xs ++ b :: ys) e us := by
  have lo := m.lo
  have e0 : s :: (xs ++ ys ++ [e]) = (s :: xs) ++ (ys ++ [e]) := by simp
  rw [e0] at lo
  obtain ⟨lo1, lo2, lo3⟩ := List.pairwise_append.mp lo
  have ma : a ∈ s :: xs := by rw [h1]; exact List.mem_append_right _ (List.mem_singleton.mpr rfl)
  have mc : c ∈ ys ++ [e] := by rw [h2]; exact List.mem_cons_self
  have hac := lo3 a ma c mc
  obtain ⟨hab, hbc⟩ := ph_btw hb hac
  obtain ⟨F, hF, hF'⟩ := chain_at c v xs s h1
  have eold : chain s (xs ++ ys ++ [e]) = F ++ (a, c) :: chain c v := by rw [List.append_assoc, h2]; exact hF
  have enew : chain s (xs ++ b :: ys ++ [e]) = F ++ (a, b) :: (b, c) :: chain c v := by
    have : xs ++ b :: ys ++ [e] = xs ++ b :: (c :: v) := by rw [← h2]; simp
    rw [this, hF']; rfl
  have side : (a, c) ∈ chain s (xs ++ ys ++ [e]) := by rw [eold]; exact List.mem_append_right _ List.mem_cons_self
  have sl := m.s_lt
  have aS : a = s ∨ a ∈ xs := List.mem_cons.mp ma
  have cE : c = e ∨ c ∈ ys := by
    rcases List.mem_append.mp mc with h | h
    · exact .inr h
    · exact .inl (List.mem_singleton.mp h)
  refine ⟨?_, m.up, ?_, ?_, ?_, .inl (by simp)⟩
  · have : s :: (xs ++ b :: ys ++ [e]) = (s :: xs) ++ b :: (ys ++ [e]) := by simp
    rw [this]
    refine List.pairwise_append.mpr ⟨lo1, List.pairwise_cons.mpr ⟨fun q hq => ?_, lo2⟩, fun p hp q hq => ?_⟩
    · rcases pw_first lo2 h2 q hq with rfl | h
      · exact hbc
      · omega
    · rcases List.mem_cons.mp hq with rfl | hq
      · rcases pw_last lo1 h1 p hp with rfl | h
        · exact hab
        · omega
      · exact lo3 p hp q hq
  · intro p hp q hq
    rcases List.mem_append.mp hp with hp | hp
    · exact m.ne p (List.mem_append_left _ hp) q hq
    · rcases List.mem_cons.mp hp with rfl | hp
      · exact hn q hq
      · exact m.ne p (List.mem_append_right _ hp) q hq
  · intro t ht p hp k1 k2
    rcases List.mem_append.mp hp with hp | hp
    · exact m.low t ht p (List.mem_append_left _ hp) k1 k2
    rcases List.mem_cons.mp hp with rfl | hp
    case inr => exact m.low t ht p (List.mem_append_right _ hp) k1 k2
    -- the corner put in
    obtain ⟨m1, m2⟩ := chain_mem ht
    have m1' : t.1 = s ∨ t.1 ∈ us := by
      rcases List.mem_cons.mp m1 with h | h
      · exact .inl h
      · rcases List.mem_append.mp h with h | h
        · exact .inr h
        · have := List.mem_singleton.mp h
          rw [this] at k1
          rcases cE with rfl | h
          · omega
          · have := (sl.1 c (List.mem_append_right _ h)).2; omega
    have m2' : t.2 = e ∨ t.2 ∈ us := by
      rcases List.mem_append.mp m2 with h | h
      · exact .inr h
      · exact .inl (List.mem_singleton.mp h)
    have hs : ∀ q ∈ us, ph α β s < ph α β q := fun q hq => (sl.2 q hq).1
    have he : ∀ q ∈ us, ph α β q < ph α β e := fun q hq => (sl.2 q hq).2
    have hse := m.ends
    have I1 : (ph α β c - ph α β t.1) * cr t.1 t.2 a + (ph α β t.1 - ph α β a) * cr t.1 t.2 c = -((ph α β t.2 - ph α β t.1) * cr a c t.1) := by simp only [ph, cr]; grind
    have I2 : (ph α β c - ph α β t.2) * cr t.1 t.2 a + (ph α β t.2 - ph α β a) * cr t.1 t.2 c = -((ph α β t.2 - ph α β t.1) * cr a c t.2) := by simp only [ph, cr]; grind
    have I3 : (ph α β c - ph α β a) * cr t.1 t.2 p = (ph α β c - ph α β p) * cr t.1 t.2 a + (ph α β p - ph α β a) * cr t.1 t.2 c := by
      obtain ⟨n, k, k0, kn, e1, e2⟩ := hb
      have : n * ((ph α β c - ph α β a) * cr t.1 t.2 p - ((ph α β c - ph α β p) * cr t.1 t.2 a + (ph α β p - ph α β a) * cr t.1 t.2 c)) = 0 := by simp only [ph, cr]; grind
      rcases Int.mul_eq_zero.mp this with h | h <;> omega
    have W1 : 0 < ph α β t.2 - ph α β t.1 := by omega
    have fin : (ph α β c - ph α β p) * cr t.1 t.2 a + (ph α β p - ph α β a) * cr t.1 t.2 c < 0 → cr t.1 t.2 p < 0 := fun h => by
      rw [← I3] at h
      exact Int.neg_of_mul_neg_left (by rw [Int.mul_comm]; exact h) (by omega)
    -- the left end
    have left : ∃ L, L < ph α β p ∧ ((ph α β c - L) * cr t.1 t.2 a + (L - ph α β a) * cr t.1 t.2 c < 0 ∨ (a = s ∧ t.1 = s ∧ L = ph α β a ∧ (ph α β c - L) * cr t.1 t.2 a + (L - ph α β a) * cr t.1 t.2 c = 0)) := by
      rcases Int.lt_trichotomy (ph α β t.1) (ph α β a) with h | h | h
      · have hal : a ∈ xs := by
          rcases aS with rfl | h'
          · rcases m1' with h'' | h''
            · rw [h''] at h; omega
            · have := hs _ h''; omega
          · exact h'
        have := m.low t ht a (List.mem_append_left _ hal) h (by omega)
        refine ⟨ph α β a, hab, .inl ?_⟩
        have z : (ph α β a - ph α β a) * cr t.1 t.2 c = 0 := by rw [Int.sub_self, Int.zero_mul]
        have := Int.mul_neg_of_pos_of_neg (show 0 < ph α β c - ph α β a by omega) this
        omega
      · have : a = s ∧ t.1 = s := by
          rcases aS with h1 | h1 <;> rcases m1' with h2 | h2
          · exact ⟨h1, h2⟩
          · have := hs _ h2; rw [h1] at h; omega
          · have := (sl.1 a (List.mem_append_left _ h1)).1; rw [h2] at h; omega
          · have := m.ne a (List.mem_append_left _ h1) _ h2; omega
        refine ⟨ph α β a, hab, .inr ⟨this.1, this.2, rfl, ?_⟩⟩
        rw [this.1, this.2]
        have : cr s t.2 s = 0 := by simp only [cr]; grind
        rw [this, Int.mul_zero, Int.sub_self, Int.zero_mul]; rfl
      · have ht1 : t.1 ∈ us := by
          rcases m1' with h' | h'
          · rw [h'] at h
            rcases aS with rfl | h''
            · omega
            · have := (sl.1 a (List.mem_append_left _ h'')).1; omega
          · exact h'
        have : 0 < cr a c t.1 := m.high (a, c) side _ ht1 h (show ph α β t.1 < ph α β c by omega)
        refine ⟨ph α β t.1, k1, .inl ?_⟩
        rw [I1]
        have := Int.mul_pos W1 this
        omega
    have right : ∃ R, ph α β p < R ∧ ((ph α β c - R) * cr t.1 t.2 a + (R - ph α β a) * cr t.1 t.2 c < 0 ∨ (c = e ∧ t.2 = e ∧ R = ph α β c ∧ (ph α β c - R) * cr t.1 t.2 a + (R - ph α β a) * cr t.1 t.2 c = 0)) := by
      rcases Int.lt_trichotomy (ph α β c) (ph α β t.2) with h | h | h
      · have hcl : c ∈ ys := by
          rcases cE with rfl | h'
          · rcases m2' with h'' | h''
            · rw [h''] at h; omega
            · have := he _ h''; omega
          · exact h'
        have := m.low t ht c (List.mem_append_right _ hcl) (by omega) h
        refine ⟨ph α β c, hbc, .inl ?_⟩
        have z : (ph α β c - ph α β c) * cr t.1 t.2 a = 0 := by rw [Int.sub_self, Int.zero_mul]
        have := Int.mul_neg_of_pos_of_neg (show 0 < ph α β c - ph α β a by omega) this
        omega
      · have : c = e ∧ t.2 = e := by
          rcases cE with h1 | h1 <;> rcases m2' with h2 | h2
          · exact ⟨h1, h2⟩
          · have := he _ h2; rw [h1] at h; omega
          · have := (sl.1 c (List.mem_append_right _ h1)).2; rw [h2] at h; omega
          · have := m.ne c (List.mem_append_right _ h1) _ h2; omega
        refine ⟨ph α β c, hbc, .inr ⟨this.1, this.2, rfl, ?_⟩⟩
        rw [this.1, this.2]
        have : cr t.1 e e = 0 := by simp only [cr]; grind
        rw [this, Int.mul_zero, Int.sub_self, Int.zero_mul]; rfl
      · have ht2 : t.2 ∈ us := by
          rcases m2' with h' | h'
          · rw [h'] at h
            rcases cE with rfl | h''
            · omega
            · have := (sl.1 c (List.mem_append_right _ h'')).2; omega
          · exact h'
        have : 0 < cr a c t.2 := m.high (a, c) side _ ht2 (show ph α β a < ph α β t.2 by omega) h
        refine ⟨ph α β t.2, k2, .inl ?_⟩
        rw [I2]
        have := Int.mul_pos W1 this
        omega
    obtain ⟨L, hL, cL⟩ := left
    obtain ⟨R, hR, cR⟩ := right
    apply fin
    rcases cL with cL | ⟨a1, a2, _, cL⟩
    · refine aff_neg hL hR (by omega) ?_ (.inl cL)
      rcases cR with cR | ⟨_, _, _, cR⟩ <;> omega
    · rcases cR with cR | ⟨b1, b2, _, cR⟩
      · exact aff_neg hL hR (by omega) (by omega) (.inr cR)
      · exfalso
        have irr : ∀ a : Pt, ¬ ph α β a < ph α β a := fun a => by omega
        have u0 := chain_from_s irr m.up ht a2 b2
        have l0 := chain_from_s irr m.lo side a1 b1
        rcases m.some with h | h
        · exact h l0
        · exact h u0
  · intro t ht q hq k1 k2
    rw [enew] at ht
    obtain ⟨n, k, k0, kn, e1, e2⟩ := hb
    have old : ∀ t ∈ F ++ chain c v, t ∈ chain s (xs ++ ys ++ [e]) := fun t ht => by
      rw [eold]
      rcases List.mem_append.mp ht with h | h
      · exact List.mem_append_left _ h
      · exact List.mem_append_right _ (List.mem_cons_of_mem _ h)
    rcases List.mem_append.mp ht with ht | ht
    · exact m.high t (old t (List.mem_append_left _ ht)) q hq k1 k2
    rcases List.mem_cons.mp ht with rfl | ht
    · simp only at k1 k2 ⊢
      have := m.high (a, c) side q hq k1 (by simp only; omega)
      simp only at this
      have e : n * cr a b q = k * cr a c q := by simp only [cr]; grind
      exact Int.pos_of_mul_pos_right (a := n) (by rw [e]; exact Int.mul_pos k0 this) (by omega)
    rcases List.mem_cons.mp ht with rfl | ht
    · simp only at k1 k2 ⊢
      have := m.high (a, c) side q hq (by simp only; omega) k2
      simp only at this
      have e : n * cr b c q = (n - k) * cr a c q := by simp only [cr]; grind
      exact Int.pos_of_mul_pos_right (a := n) (by rw [e]; exact Int.mul_pos (by omega) this) (by omega)
    · exact m.high t (old t (List.mem_append_right _ ht)) q hq k1 k2
end LW
/-! part MMono2 -/
namespace LW
theorem btw_sw {a b c : Pt} (h : Btw a b c) : Btw (sw a) (sw b) (sw c) := by
  obtain ⟨n, k, k0, kn, e1, e2⟩ := h
  exact ⟨n, k, k0, kn, e2, e1⟩
theorem map_sw_sw (l : List Pt) : (l.map sw).map sw = l := by
  rw [List.map_map]
  have : (sw ∘ sw) = id := by funext p; rfl
  rw [this, List.map_id]
theorem Mono.flatUp {α β : Int} {s e : Pt} {xs ys ls : List Pt} (m : Mono α β s ls e (xs ++ ys)) {w v : List Pt} {a b c : Pt} (h1 : s :: xs = w ++ [a]) (h2 : ys ++ [e] = c :: v) (hb : Btw a b c) (hn : ∀ q ∈ ls, ph α β b ≠ ph α β q) : Mono α β s ls e (xs ++ b :: ys) := by
  have m' := m.sw
  rw [List.map_append] at m'
  have := m'.flatLo (w := w.map LW.sw) (v := v.map LW.sw) (a := LW.sw a) (b := LW.sw b) (c := LW.sw c) (by
    have := congrArg (List.map LW.sw) h1
    simpa using this) (by
    have := congrArg (List.map LW.sw) h2
    simpa using this) (btw_sw hb) (fun q hq => by
    obtain ⟨r, hr, rfl⟩ := List.mem_map.mp hq
    rw [ph_sw, ph_sw]
    have := hn r hr
    omega)
  have r := this.sw
  rw [map_sw_sw, sw_sw, sw_sw] at r
  have e1 : List.map LW.sw (List.map LW.sw xs ++ LW.sw b :: List.map LW.sw ys) = xs ++ b :: ys := by
    rw [List.map_append, List.map_cons, map_sw_sw, map_sw_sw, sw_sw]
  rw [e1] at r
  exact r
theorem snoc_cases {α : Type} (l : List α) : l = [] ∨ ∃ x a, l = x ++ [a] := by
  rcases List.eq_nil_or_concat l with h | ⟨x, a, h⟩
  · exact .inl h
  · exact .inr ⟨x, a, by rw [h, List.concat_eq_append]⟩
theorem snoc_inj {α : Type} {x y : List α} {a b : α} (h : x ++ [a] = y ++ [b]) : x = y ∧ a = b := by
  have := List.append_inj' h rfl
  exact ⟨this.1, by simpa using this.2⟩
/-- a corner put in between two that follow one another -/
theorem Mono.ins {α β : Int} {s e : Pt} {ls us : List Pt} (m : Mono α β s ls e us) {u v : List Pt} {a b c : Pt} (hP : monoL s ls e us = u ++ a :: c :: v) (hb : Btw a b c) (hn : ∀ q ∈ monoL s ls e us, ph α β b ≠ ph α β q) :
    ∃ ls' us', Mono α β s ls' e us' ∧ monoL s ls' e us' = u ++ a :: b :: c :: v := by
  have hnl : ∀ q ∈ ls, ph α β b ≠ ph α β q := fun q hq => hn q (by unfold monoL; simp [hq])
  have hnu : ∀ q ∈ us, ph α β b ≠ ph α β q := fun q hq => hn q (by unfold monoL; simp [hq])
  have e0 : monoL s ls e us = (s :: (ls ++ [e])) ++ us.reverse := by unfold monoL; simp
  have e1 : u ++ a :: c :: v = (u ++ [a]) ++ (c :: v) := by simp
  have hP' := hP
  rw [e0, e1] at hP'
  -- a is e
  have last : u ++ [a] = s :: (ls ++ [e]) → us.reverse = c :: v → ∃ ls' us', Mono α β s ls' e us' ∧ monoL s ls' e us' = u ++ a :: b :: c :: v := fun h1 h2 => by
    have hu : us = v.reverse ++ [c] := by
      have := congrArg List.reverse h2
      simpa using this
    have hae : a = e := (snoc_inj (x := u) (y := s :: ls) h1).2
    subst hae
    subst hu
    have mm : Mono α β s ls a ((v.reverse ++ [c]) ++ []) := by rw [List.append_nil]; exact m
    have r := mm.flatUp (w := s :: v.reverse) (a := c) (b := b) (c := a) (v := []) (by simp) (by simp) hb.symm hnl
    refine ⟨ls, _, r, ?_⟩
    unfold monoL
    have : u ++ a :: b :: c :: v = (u ++ [a]) ++ (b :: c :: v) := by simp
    rw [this, h1]
    simp
  rcases List.append_eq_append_iff.mp hP' with ⟨k, h1, h2⟩ | ⟨k, h1, h2⟩
  · -- u ++ [a] = X ++ k, Y = k ++ c :: v
    rcases snoc_cases k with rfl | ⟨k', a', rfl⟩
    · rw [List.append_nil] at h1
      exact last h1 h2
    · rw [← List.append_assoc] at h1
      obtain ⟨hu, rfl⟩ := snoc_inj h1
      have hus : us = (v.reverse ++ [c]) ++ (a :: k'.reverse) := by
        have := congrArg List.reverse h2
        simpa using this
      rw [hus] at m
      have r := m.flatUp (w := s :: v.reverse) (a := c) (b := b) (c := a) (v := k'.reverse ++ [e]) (by simp) (by simp) hb.symm hnl
      refine ⟨ls, _, r, ?_⟩
      unfold monoL
      rw [hu]; simp
  · -- X = (u ++ [a]) ++ k, c :: v = k ++ Y
    cases k with
    | nil =>
      rw [List.append_nil] at h1
      rw [List.nil_append] at h2
      exact last h1.symm h2.symm
    | cons c' k' =>
      simp only [List.cons_append, List.cons.injEq] at h2
      obtain ⟨rfl, hv⟩ := h2
      -- the lower chain
      obtain ⟨xs, hxs⟩ : ∃ xs, u ++ [a] = s :: xs := by
        cases u with
        | nil => simp at h1; exact ⟨[], by simp [h1.1]⟩
        | cons s' u' => simp at h1; exact ⟨u' ++ [a], by simp [h1.1]⟩
      obtain ⟨ys, hys⟩ : ∃ ys, c :: k' = ys ++ [e] := by
        rcases snoc_cases (c :: k') with h | ⟨ys, z, h⟩
        · cases h
        · refine ⟨ys, ?_⟩
          rw [h, ← List.append_assoc] at h1
          have e2 : s :: (ls ++ [e]) = (s :: ls) ++ [e] := by simp
          rw [e2] at h1
          rw [h, (snoc_inj h1).2]
      have hls : ls = xs ++ ys := by
        rw [hxs, hys] at h1
        have e2 : s :: (ls ++ [e]) = (s :: ls) ++ [e] := by simp
        have e3 : s :: xs ++ (ys ++ [e]) = (s :: (xs ++ ys)) ++ [e] := by simp
        rw [e2, e3] at h1
        have := (snoc_inj h1).1
        simpa using this
      rw [hls] at m
      have r := m.flatLo (w := u) (a := a) (b := b) (c := c) (v := k') hxs.symm hys.symm hb hnu
      refine ⟨_, us, r, ?_⟩
      unfold monoL
      have : u ++ a :: b :: c :: v = (u ++ [a]) ++ (b :: (c :: k') ++ us.reverse) := by rw [hv]; simp
      rw [this, hxs, hys]; simp
theorem Mono.insLast {α β : Int} {s e : Pt} {ls us : List Pt} (m : Mono α β s ls e us) {w : List Pt} {a b c : Pt} (hP : monoL s ls e us = c :: w ++ [a]) (hb : Btw a b c) (hn : ∀ q ∈ monoL s ls e us, ph α β b ≠ ph α β q) :
    ∃ ls' us', Mono α β s ls' e us' ∧ monoL s ls' e us' = c :: w ++ [a] ++ [b] := by
  have hnl : ∀ q ∈ ls, ph α β b ≠ ph α β q := fun q hq => hn q (by unfold monoL; simp [hq])
  have hc : s = c := by unfold monoL at hP; simp at hP; exact hP.1
  subst hc
  have m' : Mono α β s ls e ([] ++ us) := m
  obtain ⟨v, hv⟩ : ∃ v, us ++ [e] = a :: v := by
    unfold monoL at hP
    cases us with
    | nil =>
      have e3 : s :: (ls ++ e :: [].reverse) = (s :: ls) ++ [e] := by simp
      rw [e3] at hP
      exact ⟨[], by rw [(snoc_inj hP).2]; rfl⟩
    | cons u us =>
      have e3 : s :: (ls ++ e :: (u :: us).reverse) = (s :: (ls ++ e :: us.reverse)) ++ [u] := by simp
      rw [e3] at hP
      exact ⟨us ++ [e], by rw [(snoc_inj hP).2]; rfl⟩
  have r := m'.flatUp (w := []) (a := s) (b := b) (c := a) (v := v) rfl hv hb.symm hnl
  refine ⟨ls, _, r, ?_⟩
  rw [← hP]
  unfold monoL; simp
/-! ### up to turning round -/
def IsRot (l m : List Pt) : Prop := ∃ x y, l = x ++ y ∧ m = y ++ x
theorem IsRot.refl (l : List Pt) : IsRot l l := ⟨[], l, rfl, by simp⟩
theorem IsRot.symm {l m : List Pt} (h : IsRot l m) : IsRot m l := by obtain ⟨x, y, rfl, rfl⟩ := h; exact ⟨y, x, rfl, rfl⟩
theorem IsRot.trans {l m n : List Pt} (h : IsRot l m) (k : IsRot m n) : IsRot l n := by
  obtain ⟨x, y, rfl, rfl⟩ := h
  obtain ⟨p, q, e, rfl⟩ := k
  rcases List.append_eq_append_iff.mp e with ⟨z, rfl, rfl⟩ | ⟨z, rfl, rfl⟩
  · exact ⟨z, q ++ y, by simp, by simp⟩
  · exact ⟨x ++ p, z, by simp, by simp⟩
theorem IsRot.mem {l m : List Pt} (h : IsRot l m) (p : Pt) : p ∈ l ↔ p ∈ m := by
  obtain ⟨x, y, rfl, rfl⟩ := h
  rw [List.mem_append, List.mem_append]; exact Or.comm
theorem IsRot.map {l m : List Pt} (h : IsRot l m) (f : Pt → Pt) : IsRot (l.map f) (m.map f) := by
  obtain ⟨x, y, rfl, rfl⟩ := h
  exact ⟨x.map f, y.map f, by simp, by simp⟩
theorem IsRot.rev {l m : List Pt} (h : IsRot l m) : IsRot l.reverse m.reverse := by
  obtain ⟨x, y, rfl, rfl⟩ := h
  exact ⟨y.reverse, x.reverse, by simp, by simp⟩
theorem IsRot.length {l m : List Pt} (h : IsRot l m) : l.length = m.length := by
  obtain ⟨x, y, rfl, rfl⟩ := h
  simp; omega
theorem IsRot.sds {l m : List Pt} (h : IsRot l m) : (sdsL l).Perm (sdsL m) := by
  obtain ⟨x, y, rfl, rfl⟩ := h
  exact sds_rot x y
def MonoR (α β : Int) (l : List Pt) : Prop := ∃ s ls e us, Mono α β s ls e us ∧ IsRot l (monoL s ls e us)
theorem MonoR.rot {α β : Int} {l m : List Pt} (h : MonoR α β l) (k : IsRot m l) : MonoR α β m := by
  obtain ⟨s, ls, e, us, hm, r⟩ := h
  exact ⟨s, ls, e, us, hm, k.trans r⟩
theorem MonoR.flat0 {α β : Int} {a b c : Pt} {w : List Pt} (h : MonoR α β (c :: w ++ [a])) (hb : Btw a b c) (hn : ∀ q ∈ c :: w ++ [a], ph α β b ≠ ph α β q) : MonoR α β (b :: (c :: w ++ [a])) := by
  obtain ⟨s, ls, e, us, hm, r⟩ := h
  have hn' : ∀ q ∈ monoL s ls e us, ph α β b ≠ ph α β q := fun q hq => hn q ((r.mem q).mpr hq)
  have whole : monoL s ls e us = c :: w ++ [a] → MonoR α β (b :: (c :: w ++ [a])) := fun hP => by
    obtain ⟨ls', us', hm', e'⟩ := hm.insLast hP hb hn'
    exact ⟨s, ls', e, us', hm', by rw [e']; exact ⟨[b], c :: w ++ [a], rfl, rfl⟩⟩
  obtain ⟨x, y, h1, h2⟩ := r
  cases x with
  | nil => rw [List.nil_append] at h1; rw [List.append_nil] at h2; exact whole (by rw [h2, h1])
  | cons c' x' =>
    rcases snoc_cases y with rfl | ⟨y', a', rfl⟩
    · rw [List.append_nil] at h1; rw [List.nil_append] at h2; exact whole (by rw [h2, h1])
    · have e1 : c :: w ++ [a] = (c :: w) ++ [a] := rfl
      have e2 : c' :: x' ++ (y' ++ [a']) = (c' :: (x' ++ y')) ++ [a'] := by simp
      rw [e2] at h1
      have h3 := snoc_inj (x := c :: w) h1
      simp only [List.cons.injEq] at h3
      obtain ⟨⟨rfl, rfl⟩, rfl⟩ := h3
      have hP : monoL s ls e us = y' ++ a :: c :: x' := by rw [h2]; simp
      obtain ⟨ls', us', hm', e'⟩ := hm.ins hP hb hn'
      refine ⟨s, ls', e, us', hm', ?_⟩
      rw [e']
      exact ⟨b :: c :: x', y' ++ [a], by simp, by simp⟩
theorem MonoR.flat {α β : Int} {l : List Pt} {at' : Nat} {a b c : Pt} (h : MonoR α β l) (h2 : 2 ≤ l.length) (ha : at' < l.length) (hc : l[at']? = some c) (hb : l[(at' + l.length - 1) % l.length]? = some a) (hbt : Btw a b c) (hn : ∀ q ∈ l, ph α β b ≠ ph α β q) : MonoR α β (l.take at' ++ b :: l.drop at') := by
  obtain ⟨a', c', w, e, hc', ha'⟩ := flat_shape ha h2
  rw [hc] at hc'; cases hc'
  rw [hb] at ha'; cases ha'
  have r0 : IsRot (c :: w ++ [a]) l := by
    rw [← e]
    exact ⟨l.drop at', l.take at', rfl, (List.take_append_drop at' l).symm⟩
  have h' := (h.rot r0).flat0 hbt fun q hq => hn q ((r0.mem q).mp hq)
  refine h'.rot ?_
  rw [← e]
  exact ⟨l.take at', b :: l.drop at', rfl, rfl⟩
end LW
/-! part MMono3 -/
namespace LW
theorem okT_inv : ∀ {r : List Col} {c : Col}, okT c r → (∀ d ∈ r, d.l ≤ d.u) ∧ ∀ d ∈ r.dropLast, d.l < d.u
  | [], _, _ => ⟨fun _ h => (by cases h), fun _ h => (by cases h)⟩
  | [d], _, ⟨_, h2, _, _⟩ => ⟨fun x hx => by rw [List.mem_singleton.mp hx]; exact h2, fun _ h => (by cases h)⟩
  | d :: e :: r, _, ⟨_, h2, h3, h4⟩ => by
    obtain ⟨a, b⟩ := okT_inv h4
    refine ⟨fun x hx => ?_, fun x hx => ?_⟩
    · rcases List.mem_cons.mp hx with rfl | hx
      · exact h2
      · exact a x hx
    · rw [List.dropLast_cons_cons] at hx
      rcases List.mem_cons.mp hx with rfl | hx
      · exact h3 (by simp)
      · exact b x hx
theorem adj_col (f : Col → Pt) : ∀ {r : List Col} {c : Col} {t : Sd}, (c :: r).Pairwise (fun a b => a.x < b.x) → t ∈ chain (f c) (r.map f) → ∃ a ∈ c :: r, ∃ b ∈ c :: r, t = (f a, f b) ∧ a.x < b.x ∧ ∀ d ∈ c :: r, d.x ≤ a.x ∨ b.x ≤ d.x
  | [], _, _, _, h => nomatch h
  | d :: r, c, t, hp, h => by
    have h1 := List.pairwise_cons.mp hp
    have h2 := List.pairwise_cons.mp h1.2
    rcases List.mem_cons.mp h with rfl | h
    · refine ⟨c, List.mem_cons_self, d, List.mem_cons_of_mem _ List.mem_cons_self, rfl, h1.1 d List.mem_cons_self, fun e he => ?_⟩
      rcases List.mem_cons.mp he with rfl | he
      · exact .inl (Int.le_refl _)
      · rcases List.mem_cons.mp he with rfl | he
        · exact .inr (Int.le_refl _)
        · exact .inr (Int.le_of_lt (h2.1 e he))
    · obtain ⟨a, ha, b, hb, e1, e2, e3⟩ := adj_col f h1.2 h
      refine ⟨a, List.mem_cons_of_mem _ ha, b, List.mem_cons_of_mem _ hb, e1, e2, fun e he => ?_⟩
      rcases List.mem_cons.mp he with rfl | he
      · left
        rcases List.mem_cons.mp ha with rfl | ha
        · exact Int.le_of_lt (h1.1 _ List.mem_cons_self)
        · exact Int.le_of_lt (h1.1 a (List.mem_cons_of_mem _ ha))
      · exact e3 e he
theorem lex {M : Int} (hM : 100 ≤ M) {p q : Pt} (hp : -40 ≤ p.2 ∧ p.2 ≤ 40) (hq : -40 ≤ q.2 ∧ q.2 ≤ 40) : (p.1 < q.1 → ph M 1 p < ph M 1 q) ∧ (ph M 1 p < ph M 1 q → p.1 ≤ q.1) ∧ (p.1 = q.1 → (ph M 1 p < ph M 1 q ↔ p.2 < q.2)) := by
  have step : ∀ {p q : Pt}, (-40 ≤ p.2 ∧ p.2 ≤ 40) → (-40 ≤ q.2 ∧ q.2 ≤ 40) → p.1 < q.1 → ph M 1 p < ph M 1 q := fun {p q} hp hq h => by
    have : M * 1 ≤ M * (q.1 - p.1) := Int.mul_le_mul_of_nonneg_left (by omega) (by omega)
    have e : M * (q.1 - p.1) = M * q.1 - M * p.1 := Int.mul_sub ..
    unfold ph; omega
  refine ⟨step hp hq, fun h => ?_, fun h => ?_⟩
  · rcases Int.lt_or_le q.1 p.1 with h' | h'
    · have := step hq hp h'; omega
    · exact h'
  · unfold ph; rw [h]; omega
theorem filter_nd {m : List Col} (h : ∀ d ∈ m, d.l < d.u) : m.filter nd = m := filter_all h
theorem Mono.col {cs : List Col} (o : okC cs) (hb : ∀ c ∈ cs, -40 ≤ c.l ∧ c.u ≤ 40) {M : Int} (hM : 100 ≤ M) : ∃ s ls e us, Mono M 1 s ls e us ∧ colFence cs = monoL s ls e us := by
  have hp := okC_pw o
  obtain ⟨c, r, rfl⟩ : ∃ c r, cs = c :: r := by
    cases cs with
    | nil => exact o.elim
    | cons c r => exact ⟨c, r, rfl⟩
  obtain ⟨m, z, rfl⟩ : ∃ m z, r = m ++ [z] := by
    rcases snoc_cases r with rfl | ⟨m, z, rfl⟩
    · exact o.elim
    · exact ⟨m, z, rfl⟩
  have oc : c.l ≤ c.u ∧ okT c (m ++ [z]) ∧ (m = [] → c.l < c.u ∨ z.l < z.u) := by
    cases m with
    | nil => exact ⟨o.1, o.2.1, fun _ => o.2.2⟩
    | cons d m => exact ⟨o.1, o.2.1, fun h => (by cases h)⟩
  obtain ⟨hc, ot, hs⟩ := oc
  obtain ⟨hle, hnd⟩ := okT_inv ot
  rw [List.dropLast_concat] at hnd
  have hz := hle z (List.mem_append_right _ (List.mem_singleton.mpr rfl))
  have uniq := pw_unique hp
  have h1 := List.pairwise_cons.mp hp
  have all : ∀ d ∈ c :: (m ++ [z]), d.l ≤ d.u := fun d hd => by
    rcases List.mem_cons.mp hd with rfl | hd
    · exact hc
    · exact hle d hd
  have yl : ∀ d ∈ c :: (m ++ [z]), -40 ≤ d.lo.2 ∧ d.lo.2 ≤ 40 := fun d hd => by
    have a := hb d hd; have b := all d hd
    simp only [Col.lo]; omega
  have yh : ∀ d ∈ c :: (m ++ [z]), -40 ≤ d.hi.2 ∧ d.hi.2 ≤ 40 := fun d hd => by
    have a := hb d hd; have b := all d hd
    simp only [Col.hi]; omega
  have mc : c ∈ c :: (m ++ [z]) := List.mem_cons_self
  have mz : z ∈ c :: (m ++ [z]) := List.mem_cons_of_mem _ (List.mem_append_right _ (List.mem_singleton.mpr rfl))
  have mm : ∀ d ∈ m, d ∈ c :: (m ++ [z]) := fun d hd => List.mem_cons_of_mem _ (List.mem_append_left _ hd)
  have mzlt : ∀ d ∈ m, d.x < z.x := fun d hd => (List.pairwise_append.mp h1.2).2.2 d hd z (List.mem_singleton.mpr rfl)
  have clt : ∀ d ∈ m ++ [z], c.x < d.x := h1.1
  -- heights
  have LL : ∀ a ∈ c :: (m ++ [z]), ∀ b ∈ c :: (m ++ [z]), a.x < b.x → ph M 1 a.lo < ph M 1 b.lo ∧ ph M 1 a.lo < ph M 1 b.hi ∧ ph M 1 a.hi < ph M 1 b.lo ∧ ph M 1 a.hi < ph M 1 b.hi := fun a ha b hb' h =>
    ⟨(lex hM (yl a ha) (yl b hb')).1 h, (lex hM (yl a ha) (yh b hb')).1 h, (lex hM (yh a ha) (yl b hb')).1 h, (lex hM (yh a ha) (yh b hb')).1 h⟩
  have lu : ∀ a ∈ c :: (m ++ [z]), (ph M 1 a.lo < ph M 1 a.hi ↔ a.l < a.u) := fun a ha => (lex hM (yl a ha) (yh a ha)).2.2 rfl
  have lu' : ∀ a ∈ c :: (m ++ [z]), ph M 1 a.lo ≤ ph M 1 a.hi := fun a ha => by
    have := all a ha
    simp only [ph, Col.lo, Col.hi]; omega
  -- the chains
  obtain ⟨us, hus, huse⟩ : ∃ us, us = (if c.l < c.u then [c.hi] else []) ++ m.map Col.hi ∧ us ++ [z.hi] = (if c.l < c.u then [c.hi] else []) ++ (m ++ [z]).map Col.hi := ⟨_, rfl, by simp⟩
  obtain ⟨ls, e, hls, hee, hlse, hfence⟩ : ∃ ls e, ls = m.map Col.lo ++ (if z.l < z.u then [z.lo] else []) ∧ e = z.hi ∧ ls ++ [e] = (m ++ [z]).map Col.lo ++ (if z.l < z.u then [z.hi] else []) ∧ colFence (c :: (m ++ [z])) = monoL c.lo ls e us := by
    have eF : (c :: (m ++ [z])).filter nd = (if c.l < c.u then [c] else []) ++ m ++ (if z.l < z.u then [z] else []) := by
      rw [List.filter_cons, List.filter_append, filter_nd hnd]
      by_cases k1 : c.l < c.u <;> by_cases k2 : z.l < z.u <;> simp [nd, k1, k2]
    by_cases k2 : z.l < z.u
    · refine ⟨m.map Col.lo ++ [z.lo], z.hi, by rw [if_pos k2], rfl, by rw [if_pos k2]; simp, ?_⟩
      unfold colFence monoL
      rw [eF, hus, if_pos k2]
      by_cases k1 : c.l < c.u
      · rw [if_pos k1, if_pos k1]; simp
      · rw [if_neg k1, if_neg k1]; simp
    · have ezz : z.hi = z.lo := by simp only [Col.lo, Col.hi]; congr 1; omega
      refine ⟨m.map Col.lo, z.hi, by rw [if_neg k2]; simp, rfl, by rw [if_neg k2, ezz]; simp, ?_⟩
      unfold colFence monoL
      rw [eF, hus, if_neg k2, ezz]
      by_cases k1 : c.l < c.u
      · rw [if_pos k1, if_pos k1]; simp
      · rw [if_neg k1, if_neg k1]; simp
  -- their members
  have mls : ∀ p ∈ ls, ∃ d ∈ m ++ [z], p = d.lo ∧ d.l < d.u := fun p hp' => by
    rw [hls] at hp'
    rcases List.mem_append.mp hp' with h | h
    · obtain ⟨d, hd, rfl⟩ := List.mem_map.mp h
      exact ⟨d, List.mem_append_left _ hd, rfl, hnd d hd⟩
    · by_cases k2 : z.l < z.u
      · rw [if_pos k2] at h
        exact ⟨z, List.mem_append_right _ (List.mem_singleton.mpr rfl), List.mem_singleton.mp h, k2⟩
      · rw [if_neg k2] at h; cases h
  have mus : ∀ q ∈ us, ∃ d ∈ c :: m, q = d.hi ∧ d.l < d.u := fun q hq => by
    rw [hus] at hq
    rcases List.mem_append.mp hq with h | h
    · by_cases k1 : c.l < c.u
      · rw [if_pos k1] at h
        exact ⟨c, List.mem_cons_self, List.mem_singleton.mp h, k1⟩
      · rw [if_neg k1] at h; cases h
    · obtain ⟨d, hd, rfl⟩ := List.mem_map.mp h
      exact ⟨d, List.mem_cons_of_mem _ hd, rfl, hnd d hd⟩
  have mcm : ∀ d ∈ c :: m, d ∈ c :: (m ++ [z]) := fun d hd => by
    rcases List.mem_cons.mp hd with rfl | hd
    · exact mc
    · exact mm d hd
  have czlt : ∀ d ∈ c :: m, d.x < z.x := fun d hd => by
    rcases List.mem_cons.mp hd with rfl | hd
    · exact clt z (List.mem_append_right _ (List.mem_singleton.mpr rfl))
    · exact mzlt d hd
  -- the upper chain's sides
  have chU : ∀ t ∈ chain c.lo (us ++ [e]), (t = (c.lo, c.hi)) ∨ t ∈ chain c.hi ((m ++ [z]).map Col.hi) := fun t ht => by
    rw [hee, huse] at ht
    by_cases k1 : c.l < c.u
    · rw [if_pos k1] at ht
      rcases List.mem_cons.mp ht with h | h
      · exact .inl h
      · exact .inr h
    · rw [if_neg k1] at ht
      have ecc : c.lo = c.hi := by simp only [Col.lo, Col.hi]; congr 1; omega
      rw [ecc] at ht
      exact .inr ht
  have chL : ∀ t ∈ chain c.lo (ls ++ [e]), (t = (z.lo, z.hi)) ∨ t ∈ chain c.lo ((m ++ [z]).map Col.lo) := fun t ht => by
    rw [hlse] at ht
    by_cases k2 : z.l < z.u
    · rw [if_pos k2] at ht
      have : (m ++ [z]).map Col.lo ++ [z.hi] = m.map Col.lo ++ z.lo :: [z.hi] := by simp
      rw [this, chain_app] at ht
      rcases List.mem_append.mp ht with h | h
      · exact .inr (by simpa using h)
      · exact .inl (by simpa [chain] using h)
    · rw [if_neg k2, List.append_nil] at ht
      exact .inr ht
  refine ⟨c.lo, ls, e, us, ⟨?_, ?_, ?_, ?_, ?_, ?_⟩, hfence⟩
  · -- rising below
    rw [hlse]
    have e2 : c.lo :: ((m ++ [z]).map Col.lo ++ (if z.l < z.u then [z.hi] else [])) = (c :: (m ++ [z])).map Col.lo ++ (if z.l < z.u then [z.hi] else []) := rfl
    rw [e2]
    refine List.pairwise_append.mpr ⟨?_, ?_, ?_⟩
    · rw [List.pairwise_map]
      exact (List.Pairwise.and_mem.mp hp).imp fun ⟨ha, hb', h⟩ => (LL _ ha _ hb' h).1
    · split
      · exact List.pairwise_singleton _ _
      · exact List.Pairwise.nil
    · intro p hp' q hq
      obtain ⟨d, hd, rfl⟩ := List.mem_map.mp hp'
      by_cases k2 : z.l < z.u
      · rw [if_pos k2] at hq
        rw [List.mem_singleton.mp hq]
        rcases List.mem_cons.mp hd with rfl | hd'
        · exact (LL _ mc _ mz (czlt _ List.mem_cons_self)).2.1
        · rcases List.mem_append.mp hd' with h | h
          · exact (LL _ hd _ mz (mzlt d h)).2.1
          · rw [List.mem_singleton.mp h]; exact (lu z mz).mpr k2
      · rw [if_neg k2] at hq; cases hq
  · -- rising above
    rw [hee, huse]
    have hH : (c.hi :: (m ++ [z]).map Col.hi).Pairwise fun a b => ph M 1 a < ph M 1 b := by
      show ((c :: (m ++ [z])).map Col.hi).Pairwise _
      rw [List.pairwise_map]
      exact (List.Pairwise.and_mem.mp hp).imp fun ⟨ha, hb', h⟩ => (LL _ ha _ hb' h).2.2.2
    by_cases k1 : c.l < c.u
    · rw [if_pos k1]
      refine List.pairwise_cons.mpr ⟨fun q hq => ?_, hH⟩
      have hq' : q ∈ (c :: (m ++ [z])).map Col.hi := hq
      obtain ⟨d, hd, rfl⟩ := List.mem_map.mp hq'
      rcases List.mem_cons.mp hd with rfl | hd'
      · exact (lu _ mc).mpr k1
      · exact (LL _ mc _ hd (clt d hd')).2.1
    · rw [if_neg k1]
      have ecc : c.lo = c.hi := by simp only [Col.lo, Col.hi]; congr 1; omega
      rw [ecc]; exact hH
  · intro p hp' q hq h
    obtain ⟨d, hd, rfl, kd⟩ := mls p hp'
    obtain ⟨d', hd', rfl, kd'⟩ := mus q hq
    have md := List.mem_cons_of_mem c hd
    have md' := mcm d' hd'
    rcases Int.lt_trichotomy d.x d'.x with k | k | k
    · have := (LL d md d' md' k).2.1; omega
    · have := uniq d md d' md' k
      subst this
      have := (lu d md).mpr kd; omega
    · have := (LL d' md' d md k).2.2.1; omega
  · intro t ht p hp' k1 k2
    obtain ⟨d, hd, rfl, kd⟩ := mls p hp'
    have md := List.mem_cons_of_mem c hd
    rcases chU t ht with rfl | ht
    · simp only at k2
      have := (LL c mc d md (clt d hd)).2.2.1
      omega
    · obtain ⟨a, ha, b, hb', rfl, hab, hadj⟩ := adj_col Col.hi hp ht
      simp only at k1 k2 ⊢
      rcases Int.lt_trichotomy d.x b.x with k | k | k
      · rcases hadj d md with h | h
        · rcases Int.lt_or_le d.x a.x with h' | h'
          · have := (LL d md a ha h').2.1; omega
          · have := uniq d md a ha (by omega)
            subst this
            have := lu' d md; omega
        · omega
      · have := uniq d md b hb' k
        subst this
        have e2 : cr a.hi d.hi d.lo = (d.x - a.x) * (d.l - d.u) := by simp only [cr, Col.hi, Col.lo]; grind
        rw [e2]
        exact Int.mul_neg_of_pos_of_neg (by omega) (by omega)
      · have := (LL b hb' d md k).2.2.1; omega
  · intro t ht q hq k1 k2
    obtain ⟨d, hd, rfl, kd⟩ := mus q hq
    have md := mcm d hd
    rcases chL t ht with rfl | ht
    · simp only at k1
      have := (LL d md z mz (czlt d hd)).2.2.1
      omega
    · obtain ⟨a, ha, b, hb', rfl, hab, hadj⟩ := adj_col Col.lo hp ht
      simp only at k1 k2 ⊢
      rcases Int.lt_trichotomy a.x d.x with k | k | k
      · rcases hadj d md with h | h
        · omega
        · rcases Int.lt_or_le b.x d.x with h' | h'
          · have := (LL b hb' d md h').2.1; omega
          · have := uniq d md b hb' (by omega)
            subst this
            have := lu' d md; omega
      · have := uniq a ha d md k
        subst this
        have e2 : cr a.lo b.lo a.hi = (b.x - a.x) * (a.u - a.l) := by simp only [cr, Col.hi, Col.lo]; grind
        rw [e2]
        exact Int.mul_pos (by omega) (by omega)
      · have := (LL d md a ha k).2.2.1; omega
  · by_cases hm : m = []
    · subst hm
      rcases hs rfl with h | h
      · right; rw [hus, if_pos h]; simp
      · left; rw [hls, if_pos h]; simp
    · left
      rw [hls]
      cases m with
      | nil => exact absurd rfl hm
      | cons d m => simp
/-! ### what is drawn, but for the spirals -/
def DM (l : List Pt) : Prop := (∀ M, 100 ≤ M → MonoR M 1 l ∨ MonoR M 1 l.reverse) ∨ (∀ M, 100 ≤ M → MonoR 1 M l ∨ MonoR 1 M l.reverse)
def Spi (l : List Pt) : Prop := ∃ w h : Int, (w = 5 ∨ w = 6 ∨ w = 7) ∧ (h = 6 ∨ h = 7 ∨ h = 8) ∧ (IsRot l (spiral w h) ∨ IsRot l (spiral w h).reverse ∨ IsRot l ((spiral w h).map sw) ∨ IsRot l ((spiral w h).map sw).reverse)
theorem MonoR.sw {α β : Int} {l : List Pt} (h : MonoR α β l) : MonoR β α (l.map LW.sw).reverse := by
  obtain ⟨s, ls, e, us, hm, r⟩ := h
  refine ⟨_, _, _, _, hm.sw, ?_⟩
  have r2 := (r.map LW.sw).rev
  rw [monoL_map] at r2
  refine r2.trans ?_
  unfold monoL
  exact ⟨(us.map LW.sw) ++ LW.sw e :: (ls.map LW.sw).reverse, [LW.sw s], by simp, by simp⟩
theorem IsRot.rotL (a b : List Pt) : IsRot (b ++ a) (a ++ b) := ⟨b, a, rfl, rfl⟩
theorem MonoR.flatR {α β : Int} {l : List Pt} {at' : Nat} {a b c : Pt} (h : MonoR α β l.reverse) (h2 : 2 ≤ l.length) (ha : at' < l.length) (hc : l[at']? = some c) (hb : l[(at' + l.length - 1) % l.length]? = some a) (hbt : Btw a b c) (hn : ∀ q ∈ l, ph α β b ≠ ph α β q) : MonoR α β (l.take at' ++ b :: l.drop at').reverse := by
  obtain ⟨a', c', w, e, hc', ha'⟩ := flat_shape ha h2
  rw [hc] at hc'; cases hc'
  rw [hb] at ha'; cases ha'
  have r0 : IsRot (c :: w ++ [a]) l := by
    rw [← e]
    exact ⟨l.drop at', l.take at', rfl, (List.take_append_drop at' l).symm⟩
  have r1 : IsRot (a :: w.reverse ++ [c]) l.reverse := by
    have := r0.rev
    simpa using this
  have h' := (h.rot r1).flat0 hbt.symm fun q hq => hn q (List.mem_reverse.mp ((r1.mem q).mp hq))
  refine h'.rot ?_
  have r2 : IsRot (l.take at' ++ b :: l.drop at') (b :: (c :: w ++ [a])) := by
    rw [← e]
    exact ⟨l.take at', b :: l.drop at', rfl, rfl⟩
  have r3 := r2.rev
  refine r3.trans ?_
  exact ⟨a :: w.reverse ++ [c], [b], by simp, by simp⟩
theorem ph_inj {M : Int} (hM : 100 ≤ M) {p q : Pt} (hp : -40 ≤ p.2 ∧ p.2 ≤ 40) (hq : -40 ≤ q.2 ∧ q.2 ≤ 40) (h : ph M 1 p = ph M 1 q) : p = q := by
  rcases Int.lt_trichotomy p.1 q.1 with k | k | k
  · have := (lex hM hp hq).1 k; omega
  · have e : p.2 = q.2 := by unfold ph at h; rw [k] at h; omega
    exact Prod.ext k e
  · have := (lex hM hq hp).1 k; omega
theorem ph_inj2 {M : Int} (hM : 100 ≤ M) {p q : Pt} (hp : -40 ≤ p.1 ∧ p.1 ≤ 40) (hq : -40 ≤ q.1 ∧ q.1 ≤ 40) (h : ph 1 M p = ph 1 M q) : p = q := by
  have := ph_inj hM (p := LW.sw p) (q := LW.sw q) hp hq (by rw [ph_sw, ph_sw, h])
  have := congrArg LW.sw this
  rwa [sw_sw, sw_sw] at this
theorem Drawn.kind {l : List Pt} (d : Drawn l) : DM l ∨ Spi l := by
  induction d with
  | @col cs o h6 hb =>
    left; left
    intro M hM
    left
    obtain ⟨s, ls, e, us, hm, he⟩ := Mono.col o (fun c hc => by have := hb c hc; omega) hM
    exact ⟨s, ls, e, us, hm, by rw [he]; exact IsRot.refl _⟩
  | @spi w h hw hh => exact .inr ⟨w, h, hw, hh, .inl (IsRot.refl _)⟩
  | @flat l at' a b c d ha hc hb h hl ih =>
    have h3 := d.good.lo
    have dd := Drawn.flat d ha hc hb h hl
    have nd := dd.good.nd
    have nb : ∀ q ∈ l, b ≠ q := fun q hq => by
      rintro rfl
      have p1 : (l.take at' ++ b :: l.drop at').Perm (b :: l) := by
        have : (l.take at' ++ b :: l.drop at').Perm (b :: (l.take at' ++ l.drop at')) := List.perm_middle
        rwa [List.take_append_drop] at this
      exact (List.nodup_cons.mp (p1.nodup_iff.mp nd)).1 hq
    have bx := dd.box
    have bb := bx b (List.mem_append_right _ List.mem_cons_self)
    have bl := d.box
    rcases ih with ih | ih
    · left
      rcases ih with ih | ih
      · left
        intro M hM
        have hn : ∀ q ∈ l, ph M 1 b ≠ ph M 1 q := fun q hq z => nb q hq (ph_inj hM (by omega) (by have := bl q hq; omega) z)
        rcases ih M hM with h' | h'
        · exact .inl (h'.flat (by omega) ha hc hb h hn)
        · exact .inr (h'.flatR (by omega) ha hc hb h hn)
      · right
        intro M hM
        have hn : ∀ q ∈ l, ph 1 M b ≠ ph 1 M q := fun q hq z => nb q hq (ph_inj2 hM (by omega) (by have := bl q hq; omega) z)
        rcases ih M hM with h' | h'
        · exact .inl (h'.flat (by omega) ha hc hb h hn)
        · exact .inr (h'.flatR (by omega) ha hc hb h hn)
    · exfalso
      obtain ⟨w, h', _, _, r⟩ := ih
      have : l.length = 12 := by
        rcases r with r | r | r | r <;> rw [r.length] <;> simp [spiral]
      omega
  | @rot a b d ih =>
    have r := IsRot.rotL a b
    rcases ih with ih | ih
    · left
      rcases ih with ih | ih
      · left; intro M hM
        rcases ih M hM with h' | h'
        · exact .inl (h'.rot r)
        · exact .inr (h'.rot r.rev)
      · right; intro M hM
        rcases ih M hM with h' | h'
        · exact .inl (h'.rot r)
        · exact .inr (h'.rot r.rev)
    · right
      obtain ⟨w, h', hw, hh, rr⟩ := ih
      refine ⟨w, h', hw, hh, ?_⟩
      rcases rr with rr | rr | rr | rr
      · exact .inl (r.trans rr)
      · exact .inr (.inl (r.trans rr))
      · exact .inr (.inr (.inl (r.trans rr)))
      · exact .inr (.inr (.inr (r.trans rr)))
  | @rev l d ih =>
    rcases ih with ih | ih
    · left
      rcases ih with ih | ih
      · left; intro M hM
        rw [List.reverse_reverse]; exact (ih M hM).symm
      · right; intro M hM
        rw [List.reverse_reverse]; exact (ih M hM).symm
    · right
      obtain ⟨w, h', hw, hh, rr⟩ := ih
      refine ⟨w, h', hw, hh, ?_⟩
      rcases rr with rr | rr | rr | rr
      · exact .inr (.inl rr.rev)
      · left; have := rr.rev; rwa [List.reverse_reverse] at this
      · exact .inr (.inr (.inr rr.rev))
      · right; right; left; have := rr.rev; rwa [List.reverse_reverse] at this
  | @swap l d ih =>
    show DM (l.map LW.sw) ∨ Spi (l.map LW.sw)
    rcases ih with ih | ih
    · left
      rcases ih with ih | ih
      · right; intro M hM
        rcases ih M hM with h' | h'
        · exact .inr h'.sw
        · left
          have := h'.sw
          rwa [List.map_reverse, List.reverse_reverse] at this
      · left; intro M hM
        rcases ih M hM with h' | h'
        · exact .inr h'.sw
        · left
          have := h'.sw
          rwa [List.map_reverse, List.reverse_reverse] at this
    · right
      obtain ⟨w, h', hw, hh, rr⟩ := ih
      refine ⟨w, h', hw, hh, ?_⟩
      rcases rr with rr | rr | rr | rr
      · exact .inr (.inr (.inl (rr.map LW.sw)))
      · right; right; right; have := rr.map LW.sw; rwa [List.map_reverse] at this
      · left; have := rr.map LW.sw; rwa [map_sw_sw] at this
      · right; left; have := rr.map LW.sw; rwa [List.map_reverse, map_sw_sw] at this
end LW
/-! part MEar -/
namespace LW
/-! ### ears of a ring of two chains -/
def Ear (l : List Pt) (a b c : Pt) : Prop := 0 < cr a b c ∧ ∀ p ∈ l, p ≠ a → p ≠ b → p ≠ c → 0 ≤ cr a b p → 0 ≤ cr b c p → 0 ≤ cr c a p → False
theorem Ear.mem {l m : List Pt} {a b c : Pt} (h : Ear l a b c) (hm : ∀ p, p ∈ m → p ∈ l) : Ear m a b c := ⟨h.1, fun p hp => h.2 p (hm p hp)⟩
theorem Ear.sw {l m : List Pt} {a b c : Pt} (h : Ear l a b c) (hm : ∀ p, p ∈ m → LW.sw p ∈ l) : Ear m (LW.sw c) (LW.sw b) (LW.sw a) := by
  have e : ∀ a b c : Pt, cr (LW.sw c) (LW.sw b) (LW.sw a) = cr a b c := fun a b c => by simp only [cr, LW.sw]; grind
  have e2 : ∀ a b p : Pt, cr (LW.sw b) (LW.sw a) p = cr a b (LW.sw p) := fun a b p => by simp only [cr, LW.sw]; grind
  refine ⟨by rw [e]; exact h.1, fun p hp n1 n2 n3 k1 k2 k3 => ?_⟩
  rw [e2] at k1 k2 k3
  refine h.2 (LW.sw p) (hm p hp) (fun z => n3 ?_) (fun z => n2 ?_) (fun z => n1 ?_) k2 k1 k3 <;> rw [← z, sw_sw]
/-- weights of a point by a triangle -/
theorem bary (α β : Int) (a b c p : Pt) : cr a b c * ph α β p = cr b c p * ph α β a + cr c a p * ph α β b + cr a b p * ph α β c := by simp only [cr, ph]; grind
theorem bary1 (a b c p : Pt) : cr a b c = cr b c p + cr c a p + cr a b p := by simp only [cr]; grind
theorem cr_cyc (a b c : Pt) : cr b c a = cr a b c := by simp only [cr]; grind
theorem cr_neg (a b c : Pt) : cr b a c = - cr a b c := by simp only [cr]; grind
section
variable {α β : Int} {s e : Pt} {ls us xs ys : List Pt} {a b c : Pt}
/-- a corner of the lower chain, cut off -/
theorem Mono.cutLo (m : Mono α β s (xs ++ b :: ys) e us) {w v : List Pt} (h1 : s :: xs = w ++ [a]) (h2 : ys ++ [e] = c :: v) (he : Ear (monoL s (xs ++ b :: ys) e us) a b c) (hn : xs ≠ [] ∨ ys ≠ [] ∨ us ≠ []) : Mono α β s (xs ++ ys) e us := by
  have el : s :: ((xs ++ b :: ys) ++ [e]) = w ++ a :: b :: c :: v := by
    rw [List.append_assoc, List.cons_append, h2, ← List.cons_append, h1]; simp
  have lo := m.lo
  rw [el] at lo
  have lo2 := (List.pairwise_append.mp lo).2.1
  have hab : ph α β a < ph α β b := (List.pairwise_cons.mp lo2).1 b List.mem_cons_self
  have hbc : ph α β b < ph α β c := (List.pairwise_cons.mp (List.pairwise_cons.mp lo2).2).1 c List.mem_cons_self
  obtain ⟨F, f1, f2⟩ := chain_at b (ys ++ [e]) xs s h1
  have ch1 : chain s ((xs ++ b :: ys) ++ [e]) = F ++ (a, b) :: (b, c) :: chain c v := by
    rw [List.append_assoc, List.cons_append, f1, h2]; rfl
  have ch2 : chain s ((xs ++ ys) ++ [e]) = F ++ (a, c) :: chain c v := by
    rw [List.append_assoc, h2]; exact f2 c v
  have sub : (s :: ((xs ++ ys) ++ [e])).Sublist (s :: ((xs ++ b :: ys) ++ [e])) := by
    refine List.Sublist.cons_cons _ (List.Sublist.append ?_ (List.Sublist.refl _))
    exact List.Sublist.append (List.Sublist.refl _) (List.sublist_cons_self _ _)
  have mem : ∀ p, p ∈ xs ++ ys → p ∈ xs ++ b :: ys := fun p hp => by
    rcases List.mem_append.mp hp with h | h
    · exact List.mem_append_left _ h
    · exact List.mem_append_right _ (List.mem_cons_of_mem _ h)
  have bl : b ∈ xs ++ b :: ys := List.mem_append_right _ List.mem_cons_self
  refine ⟨m.lo.sublist sub, m.up, fun p hp => m.ne p (mem p hp), fun t ht p hp => m.low t ht p (mem p hp), fun t ht q hq k1 k2 => ?_, ?_⟩
  · rw [ch2] at ht
    have old : ∀ t', t' ∈ F ∨ t' = (a, b) ∨ t' = (b, c) ∨ t' ∈ chain c v → ph α β t'.1 < ph α β q → ph α β q < ph α β t'.2 → 0 < cr t'.1 t'.2 q := fun t' h => by
      refine m.high t' ?_ q hq
      rw [ch1, List.mem_append, List.mem_cons, List.mem_cons]
      exact h
    rcases List.mem_append.mp ht with h | h
    · exact old t (.inl h) k1 k2
    · rcases List.mem_cons.mp h with rfl | h
      · simp only at k1 k2 ⊢
        refine Classical.byContradiction fun hz => ?_
        have hca : 0 ≤ cr c a q := by rw [cr_neg a c q]; omega
        have D := he.1
        have b0 := bary α β a b c q
        have b1 := bary1 a b c q
        have nb : q ≠ b := fun z => m.ne b bl q hq (by rw [z])
        have na : q ≠ a := fun z => by rw [z] at k1; omega
        have nc : q ≠ c := fun z => by rw [z] at k2; omega
        have qm : q ∈ monoL s (xs ++ b :: ys) e us := by unfold monoL; simp [hq]
        have hnb := m.ne b bl q hq
        rcases Int.lt_or_lt_of_ne (show ph α β q ≠ ph α β b from fun z => hnb z.symm) with k | k
        · have p1 := old (a, b) (.inr (.inl rfl)) k1 k
          simp only at p1
          refine he.2 q qm na nb nc (by omega) ?_ hca
          refine Classical.byContradiction fun hy => ?_
          have e1 : cr b c q * (ph α β a - ph α β b) = cr a b c * (ph α β q - ph α β b) - cr a b q * (ph α β c - ph α β b) := by grind
          have p2 := Int.mul_neg_of_pos_of_neg D (show ph α β q - ph α β b < 0 by omega)
          have p3 := Int.mul_pos p1 (show 0 < ph α β c - ph α β b by omega)
          have p4 := Int.mul_pos_of_neg_of_neg (show cr b c q < 0 by omega) (show ph α β a - ph α β b < 0 by omega)
          omega
        · have p1 := old (b, c) (.inr (.inr (.inl rfl))) k k2
          simp only at p1
          refine he.2 q qm na nb nc ?_ (by omega) hca
          refine Classical.byContradiction fun hy => ?_
          have e1 : cr a b q * (ph α β c - ph α β b) = cr a b c * (ph α β q - ph α β b) + cr b c q * (ph α β b - ph α β a) := by grind
          have p2 := Int.mul_pos D (show 0 < ph α β q - ph α β b by omega)
          have p3 := Int.mul_pos p1 (show 0 < ph α β b - ph α β a by omega)
          have p4 := Int.mul_neg_of_neg_of_pos (show cr a b q < 0 by omega) (show 0 < ph α β c - ph α β b by omega)
          omega
      · exact old t (.inr (.inr (.inr h))) k1 k2
  · rcases hn with h | h | h
    · left; intro z; exact h (List.append_eq_nil_iff.mp z).1
    · left; intro z; exact h (List.append_eq_nil_iff.mp z).2
    · exact .inr h
/-- the first corner, cut off; the lower chain's next one comes first -/
theorem Mono.cutS {l1 u1 : Pt} {v : List Pt} (m : Mono α β s (l1 :: ls) e us) (h2 : us ++ [e] = u1 :: v) (hlu : ph α β l1 < ph α β u1) (he : Ear (monoL s (l1 :: ls) e us) u1 s l1) (hn : ls ≠ [] ∨ us ≠ []) : Mono α β l1 ls e us := by
  have lo := m.lo
  rw [List.cons_append] at lo
  have lo1 := List.pairwise_cons.mp lo
  have up := m.up
  rw [h2] at up
  have up1 := List.pairwise_cons.mp up
  have up2 := List.pairwise_cons.mp up1.2
  have s1 := lo1.1 l1 List.mem_cons_self
  refine ⟨lo1.2, ?_, fun p hp => m.ne p (List.mem_cons_of_mem _ hp), fun t ht p hp k1 k2 => ?_, fun t ht => m.high t (List.mem_cons_of_mem _ ht), hn⟩
  · rw [h2]
    refine List.pairwise_cons.mpr ⟨fun x hx => ?_, up1.2⟩
    rcases List.mem_cons.mp hx with rfl | hx
    · exact hlu
    · have := up2.1 x hx; omega
  · rw [h2] at ht
    rcases List.mem_cons.mp ht with rfl | ht
    · simp only at k1 k2 ⊢
      refine Classical.byContradiction fun hz => ?_
      have q1 : cr s u1 p < 0 := m.low (s, u1) (by rw [h2]; exact List.mem_cons_self) p (List.mem_cons_of_mem _ hp) (by simp only; omega) k2
      have b0 := bary α β u1 s l1 p
      have b1 := bary1 u1 s l1 p
      have q2 : 0 < cr u1 s p := by rw [cr_neg s u1 p]; omega
      refine he.2 p (by unfold monoL; simp [hp]) (fun z => by rw [z] at k2; omega) (fun z => by rw [z] at k1; omega) (fun z => by rw [z] at k1; omega) (by omega) ?_ (by omega)
      refine Classical.byContradiction fun hy => ?_
      have e1 : cr s l1 p * (ph α β u1 - ph α β l1) = cr u1 s l1 * (ph α β p - ph α β l1) + cr l1 u1 p * (ph α β l1 - ph α β s) := by grind
      have p2 := Int.mul_pos he.1 (show 0 < ph α β p - ph α β l1 by omega)
      have p3 := Int.mul_nonneg (show 0 ≤ cr l1 u1 p by omega) (show 0 ≤ ph α β l1 - ph α β s by omega)
      have p4 := Int.mul_neg_of_neg_of_pos (show cr s l1 p < 0 by omega) (show 0 < ph α β u1 - ph α β l1 by omega)
      omega
    · exact m.low t (by rw [h2]; exact List.mem_cons_of_mem _ ht) p (List.mem_cons_of_mem _ hp) k1 k2
end
theorem Mono.unsw {α β : Int} {s e : Pt} {ls us : List Pt} (m : Mono β α (LW.sw s) (us.map LW.sw) (LW.sw e) (ls.map LW.sw)) : Mono α β s ls e us := by
  have := m.sw
  rwa [map_sw_sw, map_sw_sw, sw_sw, sw_sw] at this
theorem mem_monoL {s e : Pt} {ls us : List Pt} {p : Pt} : p ∈ monoL s ls e us ↔ p = s ∨ p ∈ ls ∨ p = e ∨ p ∈ us := by
  unfold monoL; simp
section
variable {α β : Int} {s e : Pt} {ls us xs ys : List Pt} {a b c : Pt}
theorem mem_sw_monoL {p : Pt} (h : p ∈ monoL (LW.sw s) (us.map LW.sw) (LW.sw e) (ls.map LW.sw)) : LW.sw p ∈ monoL s ls e us := by
  rw [mem_monoL] at h ⊢
  have mm : ∀ {l : List Pt}, p ∈ l.map LW.sw → LW.sw p ∈ l := fun {l} h => by obtain ⟨q, hq, rfl⟩ := List.mem_map.mp h; exact hq
  rcases h with rfl | h | rfl | h
  · exact .inl rfl
  · exact .inr (.inr (.inr (mm h)))
  · exact .inr (.inr (.inl rfl))
  · exact .inr (.inl (mm h))
/-- and of the upper chain -/
theorem Mono.cutUp (m : Mono α β s ls e (xs ++ b :: ys)) {w v : List Pt} (h1 : s :: xs = w ++ [a]) (h2 : ys ++ [e] = c :: v) (he : Ear (monoL s ls e (xs ++ b :: ys)) c b a) (hn : xs ≠ [] ∨ ys ≠ [] ∨ ls ≠ []) : Mono α β s ls e (xs ++ ys) := by
  have m' := m.sw
  have e1 : (xs ++ b :: ys).map LW.sw = xs.map LW.sw ++ LW.sw b :: ys.map LW.sw := by simp
  rw [e1] at m'
  have := m'.cutLo (a := LW.sw a) (c := LW.sw c) (w := w.map LW.sw) (v := v.map LW.sw) (by rw [← List.map_cons, h1]; simp) (by have := congrArg (List.map LW.sw) h2; simpa using this) (he.sw fun p hp => mem_sw_monoL (by rw [e1]; exact hp)) (by
    rcases hn with h | h | h
    · exact .inl fun z => h (List.map_eq_nil_iff.mp z)
    · exact .inr (.inl fun z => h (List.map_eq_nil_iff.mp z))
    · exact .inr (.inr fun z => h (List.map_eq_nil_iff.mp z)))
  refine Mono.unsw ?_
  rw [List.map_append]; exact this
theorem Mono.cutS' {l1 u1 : Pt} {v : List Pt} (m : Mono α β s ls e (u1 :: us)) (h2 : ls ++ [e] = l1 :: v) (hlu : ph α β u1 < ph α β l1) (he : Ear (monoL s ls e (u1 :: us)) u1 s l1) (hn : us ≠ [] ∨ ls ≠ []) : Mono α β u1 ls e us := by
  have m' := m.sw
  have := m'.cutS (l1 := LW.sw u1) (u1 := LW.sw l1) (v := v.map LW.sw) (by have := congrArg (List.map LW.sw) h2; simpa using this) (by have a := ph_sw α β u1; have b := ph_sw α β l1; omega) (he.sw fun p hp => mem_sw_monoL hp) (by
    rcases hn with h | h
    · exact .inl fun z => h (List.map_eq_nil_iff.mp z)
    · exact .inr fun z => h (List.map_eq_nil_iff.mp z))
  exact Mono.unsw this
end
end LW
/-! part MEar2 -/
namespace LW
/-! ### the plane turned half round -/
def ng (p : Pt) : Pt := (-p.1, -p.2)
theorem ng_ng (p : Pt) : ng (ng p) = p := by apply Prod.ext <;> simp only [ng] <;> omega
theorem ph_ng (α β : Int) (p : Pt) : ph α β (ng p) = - ph α β p := by simp only [ph, ng]; grind
theorem cr_ng (a b c : Pt) : cr (ng a) (ng b) (ng c) = cr a b c := by simp only [cr, ng]; grind
theorem chain_revL : ∀ (l : List Pt) (p q : Pt), chain q (l.reverse ++ [p]) = ((chain p (l ++ [q])).map flip).reverse
  | [], p, q => rfl
  | x :: l, p, q => by
    rw [List.reverse_cons, List.append_assoc, List.singleton_append, chain_app, chain_revL l x q]
    simp [chain, flip]
theorem map_ng_ng (l : List Pt) : (l.map ng).map ng = l := by
  rw [List.map_map]
  rw [List.map_congr_left fun p _ => show (ng ∘ ng) p = p from ng_ng p, List.map_id']
section
variable {α β : Int} {s e : Pt} {ls us : List Pt}
theorem Mono.turn (m : Mono α β s ls e us) : Mono α β (ng e) (us.reverse.map ng) (ng s) (ls.reverse.map ng) := by
  have pw : ∀ {x : List Pt}, (s :: (x ++ [e])).Pairwise (fun a b => ph α β a < ph α β b) → (ng e :: (x.reverse.map ng ++ [ng s])).Pairwise (fun a b => ph α β a < ph α β b) := fun {x} h => by
    have e1 : ng e :: (x.reverse.map ng ++ [ng s]) = ((s :: (x ++ [e])).reverse).map ng := by simp
    rw [e1, List.pairwise_map, List.pairwise_reverse]
    exact h.imp fun {a b} hab => by rw [ph_ng, ph_ng]; omega
  have ch : ∀ {x : List Pt} {t : Sd}, t ∈ chain (ng e) (x.reverse.map ng ++ [ng s]) → ∃ t' ∈ chain s (x ++ [e]), t = (ng t'.2, ng t'.1) := fun {x t} h => by
    have e1 : x.reverse.map ng ++ [ng s] = (x.reverse ++ [s]).map ng := by simp
    rw [e1, chain_map, chain_revL] at h
    obtain ⟨t1, h1, rfl⟩ := List.mem_map.mp h
    obtain ⟨t', h2, rfl⟩ := List.mem_map.mp (List.mem_reverse.mp h1)
    exact ⟨t', h2, rfl⟩
  refine ⟨pw m.up, pw m.lo, fun p hp q hq => ?_, fun t ht p hp k1 k2 => ?_, fun t ht p hp k1 k2 => ?_, ?_⟩
  · obtain ⟨p', hp', rfl⟩ := List.mem_map.mp hp
    obtain ⟨q', hq', rfl⟩ := List.mem_map.mp hq
    have := m.ne q' (List.mem_reverse.mp hq') p' (List.mem_reverse.mp hp')
    rw [ph_ng, ph_ng]; omega
  · obtain ⟨t', ht', rfl⟩ := ch ht
    obtain ⟨p', hp', rfl⟩ := List.mem_map.mp hp
    simp only [ph_ng] at k1 k2
    have := m.high t' ht' p' (List.mem_reverse.mp hp') (by omega) (by omega)
    simp only
    rw [cr_ng, cr_neg t'.1 t'.2 p']; omega
  · obtain ⟨t', ht', rfl⟩ := ch ht
    obtain ⟨p', hp', rfl⟩ := List.mem_map.mp hp
    simp only [ph_ng] at k1 k2
    have := m.low t' ht' p' (List.mem_reverse.mp hp') (by omega) (by omega)
    simp only
    rw [cr_ng, cr_neg t'.1 t'.2 p']; omega
  · rcases m.some with h | h
    · right; simpa using h
    · left; simpa using h
theorem Mono.unturn (m : Mono α β (ng e) (us.reverse.map ng) (ng s) (ls.reverse.map ng)) : Mono α β s ls e us := by
  have := m.turn
  rw [← List.map_reverse, List.reverse_reverse, ← List.map_reverse, List.reverse_reverse, map_ng_ng, map_ng_ng, ng_ng, ng_ng] at this
  exact this
theorem mem_ng_monoL {p : Pt} (h : p ∈ monoL (ng e) (us.reverse.map ng) (ng s) (ls.reverse.map ng)) : ng p ∈ monoL s ls e us := by
  rw [mem_monoL] at h ⊢
  have mm : ∀ {l : List Pt}, p ∈ l.reverse.map ng → ng p ∈ l := fun {l} h => by obtain ⟨q, hq, rfl⟩ := List.mem_map.mp h; rw [ng_ng]; exact List.mem_reverse.mp hq
  rcases h with rfl | h | rfl | h
  · exact .inr (.inr (.inl (ng_ng e)))
  · exact .inr (.inr (.inr (mm h)))
  · exact .inl (ng_ng s)
  · exact .inr (.inl (mm h))
theorem Ear.ng {l m : List Pt} {a b c : Pt} (h : Ear l a b c) (hm : ∀ p, p ∈ m → LW.ng p ∈ l) : Ear m (LW.ng a) (LW.ng b) (LW.ng c) := by
  have e2 : ∀ a b p : Pt, cr (LW.ng a) (LW.ng b) p = cr a b (LW.ng p) := fun a b p => by rw [← cr_ng a b (LW.ng p), ng_ng]
  refine ⟨by rw [cr_ng]; exact h.1, fun p hp n1 n2 n3 k1 k2 k3 => ?_⟩
  rw [e2] at k1 k2 k3
  refine h.2 (LW.ng p) (hm p hp) (fun z => n1 ?_) (fun z => n2 ?_) (fun z => n3 ?_) k1 k2 k3 <;> rw [← z, ng_ng]
/-- the last corner, cut off: its neighbours are l1 (lower) and u1 (upper) -/
theorem Mono.cutE {l1 : Pt} {u1 : Pt} {w : List Pt} (m : Mono α β s (ls ++ [l1]) e us) (h2 : s :: us = w ++ [u1]) (hlu : ph α β u1 < ph α β l1) (he : Ear (monoL s (ls ++ [l1]) e us) l1 e u1) (hn : ls ≠ [] ∨ us ≠ []) : Mono α β s ls l1 us := by
  have m' := m.turn
  have e1 : (ls ++ [l1]).reverse.map LW.ng = LW.ng l1 :: ls.reverse.map LW.ng := by simp
  rw [e1] at m'
  have h3 : us.reverse.map LW.ng ++ [LW.ng s] = LW.ng u1 :: w.reverse.map LW.ng := by
    have := congrArg (fun l => (List.reverse l).map LW.ng) h2
    simpa using this
  have := m'.cutS' (l1 := LW.ng u1) (u1 := LW.ng l1) (v := w.reverse.map LW.ng) h3 (by rw [ph_ng, ph_ng]; omega) (he.ng fun p hp => mem_ng_monoL (by rw [e1]; exact hp)) (by
    rcases hn with h | h
    · left; simpa using h
    · right; simpa using h)
  exact Mono.unturn this
theorem Mono.cutE' {l1 : Pt} {u1 : Pt} {w : List Pt} (m : Mono α β s ls e (us ++ [u1])) (h2 : s :: ls = w ++ [l1]) (hlu : ph α β l1 < ph α β u1) (he : Ear (monoL s ls e (us ++ [u1])) l1 e u1) (hn : us ≠ [] ∨ ls ≠ []) : Mono α β s ls u1 us := by
  have m' := m.turn
  have e1 : (us ++ [u1]).reverse.map LW.ng = LW.ng u1 :: us.reverse.map LW.ng := by simp
  rw [e1] at m'
  have h3 : ls.reverse.map LW.ng ++ [LW.ng s] = LW.ng l1 :: w.reverse.map LW.ng := by
    have := congrArg (fun l => (List.reverse l).map LW.ng) h2
    simpa using this
  have := m'.cutS (l1 := LW.ng u1) (u1 := LW.ng l1) (v := w.reverse.map LW.ng) h3 (by rw [ph_ng, ph_ng]; omega) (he.ng fun p hp => mem_ng_monoL (by rw [e1]; exact hp)) (by
    rcases hn with h | h
    · left; simpa using h
    · right; simpa using h)
  exact Mono.unturn this
end
/-! ### any ear can be cut off -/
theorem MonoR.of {α β : Int} {s e : Pt} {ls us l : List Pt} (m : Mono α β s ls e us) (h : IsRot l (monoL s ls e us)) : MonoR α β l := ⟨s, ls, e, us, m, h⟩
theorem snoc_ex {α : Type} (x : α) (l : List α) : ∃ w a, x :: l = w ++ [a] := ⟨(x :: l).dropLast, (x :: l).getLast (by simp), (List.dropLast_concat_getLast _).symm⟩
/-- the last corner -/
theorem Mono.cutLast {α β : Int} {s e : Pt} {ls us : List Pt} {a c : Pt} (m : Mono α β s ls e us) (hlen : 2 ≤ ls.length + us.length) (hc : (us.reverse ++ s :: ls).head? = Option.some c) (ha : (us.reverse ++ s :: ls).getLast? = Option.some a) (he : Ear (monoL s ls e us) a e c) : MonoR α β (us.reverse ++ s :: ls) := by
  obtain ⟨w1, l1, hl⟩ := snoc_ex s ls
  obtain ⟨w2, u1, hu⟩ := snoc_ex s us
  have ea : a = l1 := by
    rw [hl, ← List.append_assoc, List.getLast?_concat] at ha
    exact (Option.some.inj ha).symm
  have ec : c = u1 := by
    have e1 : us.reverse ++ s :: ls = (s :: us).reverse ++ ls := by simp
    rw [e1, hu] at hc
    simpa using hc.symm
  subst ea ec
  have lsn : ls ≠ [] → ∃ l', ls = l' ++ [a] ∧ a ∈ ls := fun hne => by
    cases w1 with
    | nil => simp at hl; exact absurd hl.2 hne
    | cons q w1 => simp at hl; exact ⟨w1, hl.2, by rw [hl.2]; simp⟩
  have usn : us ≠ [] → ∃ l', us = l' ++ [c] ∧ c ∈ us := fun hne => by
    cases w2 with
    | nil => simp at hu; exact absurd hu.2 hne
    | cons q w2 => simp at hu; exact ⟨w2, hu.2, by rw [hu.2]; simp⟩
  have ls0 : ls = [] → a = s := fun h => by subst h; cases w1 with
    | nil => simp at hl; exact hl.symm
    | cons q w => simp at hl
  have us0 : us = [] → c = s := fun h => by subst h; cases w2 with
    | nil => simp at hu; exact hu.symm
    | cons q w => simp at hu
  have both : ph α β c ≠ ph α β a := fun k => by
    by_cases hl0 : ls = []
    · by_cases hu0 : us = []
      · rw [hl0, hu0] at hlen; simp at hlen
      · obtain ⟨_, _, hm⟩ := usn hu0
        have := (m.s_lt.2 c hm).1
        rw [ls0 hl0] at k; omega
    · obtain ⟨_, _, hm⟩ := lsn hl0
      by_cases hu0 : us = []
      · have := (m.s_lt.1 a hm).1
        rw [us0 hu0] at k; omega
      · obtain ⟨_, _, hm2⟩ := usn hu0
        exact m.ne a hm c hm2 k.symm
  rcases Int.lt_or_lt_of_ne both with k | k
  · by_cases hl0 : ls = []
    · exfalso
      rw [ls0 hl0] at k
      by_cases hu0 : us = []
      · rw [us0 hu0] at k; omega
      · obtain ⟨_, _, hm⟩ := usn hu0
        have := (m.s_lt.2 c hm).1; omega
    · obtain ⟨l', el, _⟩ := lsn hl0
      subst el
      have m2 := m.cutE hu k he (by
        simp at hlen
        by_cases hr : us = []
        · left; intro z; rw [hr, z] at hlen; simp at hlen
        · exact .inr hr)
      exact MonoR.of m2 ⟨us.reverse, s :: (l' ++ [a]), rfl, by unfold monoL; simp⟩
  · by_cases hu0 : us = []
    · exfalso
      rw [us0 hu0] at k
      by_cases hl0 : ls = []
      · rw [ls0 hl0] at k; omega
      · obtain ⟨_, _, hm⟩ := lsn hl0
        have := (m.s_lt.1 a hm).1; omega
    · obtain ⟨l', el, _⟩ := usn hu0
      subst el
      have m2 := m.cutE' hl k he (by
        simp at hlen
        by_cases hr : ls = []
        · left; intro z; rw [hr, z] at hlen; simp at hlen
        · exact .inr hr)
      exact MonoR.of m2 ⟨(l' ++ [c]).reverse, s :: ls, rfl, by unfold monoL; simp⟩
theorem Mono.cut {α β : Int} {s e : Pt} {ls us x y : List Pt} {a b c : Pt} (m : Mono α β s ls e us) (hx : monoL s ls e us = x ++ b :: y) (h3 : 3 ≤ (y ++ x).length) (hc : (y ++ x).head? = Option.some c) (ha : (y ++ x).getLast? = Option.some a) (he : Ear (monoL s ls e us) a b c) : MonoR α β (y ++ x) := by
  have hlen : ls.length + us.length ≥ 2 := by
    have := congrArg List.length hx
    simp [monoL] at this h3
    omega
  unfold monoL at hx
  cases x with
  | nil =>
    -- the first
    simp only [List.nil_append, List.cons.injEq, List.append_nil] at hx hc ha ⊢
    obtain ⟨rfl, rfl⟩ := hx
    -- heads
    obtain ⟨l1, lv, hl⟩ : ∃ l1 lv, ls ++ [e] = l1 :: lv := by cases ls with
      | nil => exact ⟨e, [], rfl⟩
      | cons p r => exact ⟨p, r ++ [e], rfl⟩
    obtain ⟨u1, uv, hu⟩ : ∃ u1 uv, us ++ [e] = u1 :: uv := by cases us with
      | nil => exact ⟨e, [], rfl⟩
      | cons p r => exact ⟨p, r ++ [e], rfl⟩
    have ec : c = l1 := by
      cases ls with
      | nil => simp at hl hc; rw [← hc, hl.1]
      | cons p r => simp at hl hc; rw [← hc, hl.1]
    have ea : a = u1 := by
      cases us with
      | nil => simp at hu ha; rw [← ha, hu.1]
      | cons p r =>
        simp at hu
        have e1 : ls ++ e :: (p :: r).reverse ++ [] = (ls ++ e :: r.reverse) ++ [p] := by simp
        first
          | (rw [e1, List.getLast?_concat] at ha; rw [← Option.some.inj ha, hu.1])
          | (rw [List.append_nil] at e1; rw [e1, List.getLast?_concat] at ha; rw [← Option.some.inj ha, hu.1])
    subst ec ea
    rcases Int.lt_trichotomy (ph α β c) (ph α β a) with k | k | k
    · cases ls with
      | nil =>
        simp at hl
        obtain ⟨rfl, _⟩ := hl
        have := m.up
        rw [hu] at this
        exfalso
        cases us with
        | nil => simp at hlen
        | cons p r =>
          simp at hu
          obtain ⟨rfl, rfl⟩ := hu
          have := (m.s_lt.2 p List.mem_cons_self).2
          omega
      | cons p r =>
        simp at hl
        obtain ⟨rfl, rfl⟩ := hl
        have m2 := m.cutS hu k he (by
          simp at hlen
          by_cases hr : r = []
          · right; intro z; rw [hr, z] at hlen; simp at hlen
          · exact .inl hr)
        exact MonoR.of m2 (by unfold monoL; exact IsRot.refl _)
    · exfalso
      cases ls with
      | nil =>
        simp at hl
        obtain ⟨rfl, _⟩ := hl
        cases us with
        | nil => simp at hlen
        | cons p r =>
          simp at hu
          obtain ⟨rfl, rfl⟩ := hu
          have := (m.s_lt.2 p List.mem_cons_self).2
          omega
      | cons p r =>
        simp at hl
        obtain ⟨rfl, rfl⟩ := hl
        cases us with
        | nil =>
          simp at hu
          obtain ⟨rfl, _⟩ := hu
          have := (m.s_lt.1 p List.mem_cons_self).2
          omega
        | cons q t =>
          simp at hu
          obtain ⟨rfl, rfl⟩ := hu
          exact m.ne p List.mem_cons_self q List.mem_cons_self k
    · cases us with
      | nil =>
        simp at hu
        obtain ⟨rfl, _⟩ := hu
        exfalso
        cases ls with
        | nil => simp at hlen
        | cons p r =>
          simp at hl
          obtain ⟨rfl, rfl⟩ := hl
          have := (m.s_lt.1 p List.mem_cons_self).2
          omega
      | cons p r =>
        simp at hu
        obtain ⟨rfl, rfl⟩ := hu
        have m2 := m.cutS' hl k he (by
          simp at hlen
          by_cases hr : r = []
          · right; intro z; rw [hr, z] at hlen; simp at hlen
          · exact .inl hr)
        refine MonoR.of m2 ⟨ls ++ e :: r.reverse, [p], by simp, by unfold monoL; simp⟩
  | cons s' x =>
    simp only [List.cons_append, List.cons.injEq] at hx
    obtain ⟨rfl, hx⟩ := hx
    rcases List.append_eq_append_iff.mp hx with ⟨z, h1, h2⟩ | ⟨z, h1, h2⟩
    · -- at e or in us
      cases z with
      | nil =>
        simp only [List.append_nil, List.nil_append, List.cons.injEq] at h1 h2
        obtain ⟨rfl, rfl⟩ := h2
        subst h1
        exact m.cutLast hlen hc ha he
      | cons e' z =>
        simp only [List.cons_append, List.cons.injEq] at h2
        obtain ⟨rfl, h2⟩ := h2
        subst h1
        have eu : us = y.reverse ++ b :: z.reverse := by
          have := congrArg List.reverse h2
          simpa using this
        subst eu
        obtain ⟨w, p, hw⟩ := snoc_ex s y.reverse
        obtain ⟨w2, q, hq⟩ := snoc_ex e z
        have ec : c = p := by
          have e1 : y ++ s :: (ls ++ e :: z) = (s :: y.reverse).reverse ++ (ls ++ e :: z) := by simp
          rw [e1, hw] at hc
          simpa using hc.symm
        have ea : a = q := by
          have e1 : y ++ s :: (ls ++ e :: z) = (y ++ s :: ls) ++ (e :: z) := by simp
          rw [e1, hq, ← List.append_assoc, List.getLast?_concat] at ha
          exact (Option.some.inj ha).symm
        subst ec ea
        have m2 := m.cutUp (a := c) (c := a) (w := w) (v := w2.reverse) hw (by
          have := congrArg List.reverse hq
          simpa using this) he (by
          simp at hlen
          by_cases h5 : y = []
          · by_cases h6 : z = []
            · right; right; intro h7; rw [h5, h6, h7] at hlen; simp at hlen
            · right; left; simpa using h6
          · left; simpa using h5)
        exact MonoR.of m2 ⟨y, s :: (ls ++ e :: z), rfl, by unfold monoL; simp⟩
    · cases z with
      | nil =>
        simp only [List.append_nil, List.nil_append, List.cons.injEq] at h1 h2
        obtain ⟨rfl, rfl⟩ := h2
        subst h1
        exact m.cutLast hlen hc ha he
      | cons b' z =>
        simp only [List.cons_append, List.cons.injEq] at h2
        obtain ⟨rfl, rfl⟩ := h2
        subst h1
        obtain ⟨w, p, hw⟩ := snoc_ex s x
        have ea : a = p := by
          rw [hw, ← List.append_assoc, List.getLast?_concat] at ha
          exact (Option.some.inj ha).symm
        obtain ⟨q, v, hq⟩ : ∃ q v, z ++ [e] = q :: v := by cases z with
          | nil => exact ⟨e, [], rfl⟩
          | cons p r => exact ⟨p, r ++ [e], rfl⟩
        have ec : c = q := by
          have e1 : z ++ e :: us.reverse ++ s :: x = (z ++ [e]) ++ (us.reverse ++ s :: x) := by simp
          rw [e1, hq] at hc
          simpa using hc.symm
        subst ec ea
        have m2 := m.cutLo (w := w) (v := v) hw hq he (by
          simp at hlen
          by_cases h5 : x = []
          · by_cases h6 : z = []
            · right; right; intro h7; rw [h5, h6, h7] at hlen; simp at hlen
            · exact .inr (.inl h6)
          · exact .inl h5)
        exact MonoR.of m2 ⟨z ++ e :: us.reverse, s :: x, rfl, by unfold monoL; simp⟩
end LW
/-! part MEar3 -/
namespace LW
theorem MonoR.cut {α β : Int} {b : Pt} {w : List Pt} {a c : Pt} (h : MonoR α β (b :: w)) (h3 : 3 ≤ w.length) (hc : w.head? = Option.some c) (ha : w.getLast? = Option.some a) (he : Ear (b :: w) a b c) : MonoR α β w := by
  obtain ⟨s, ls, e, us, m, r⟩ := h
  have he' : Ear (monoL s ls e us) a b c := he.mem fun p hp => (r.mem p).mpr hp
  obtain ⟨x, y, h1, h2⟩ := r
  cases x with
  | nil =>
    rw [List.nil_append] at h1
    rw [List.append_nil, ← h1] at h2
    have := m.cut (x := []) (y := w) h2 (by simpa using h3) (by simpa using hc) (by simpa using ha) he'
    simpa using this
  | cons b' x =>
    rw [List.cons_append, List.cons.injEq] at h1
    obtain ⟨rfl, rfl⟩ := h1
    exact m.cut h2 h3 hc ha he'
/-! ### there is an ear -/
theorem cap_id (α β : Int) (p0 p1 p2 q : Pt) : (ph α β p2 - ph α β p1) * cr p0 p1 q = (ph α β q - ph α β p1) * cr p0 p1 p2 + (ph α β p1 - ph α β p0) * cr p1 p2 q := by simp only [cr, ph]; grind
theorem convex_or_cap {α β : Int} : ∀ (r : List Pt) (p0 p1 : Pt), (p0 :: p1 :: r).Pairwise (fun a b => ph α β a < ph α β b) → (∃ A x y z B, p0 :: p1 :: r = A ++ x :: y :: z :: B ∧ 0 < cr x y z) ∨ ∀ q ∈ r, cr p0 p1 q ≤ 0
  | [], p0, p1, _ => .inr fun q h => nomatch h
  | p2 :: r, p0, p1, hp => by
    by_cases h : 0 < cr p0 p1 p2
    · exact .inl ⟨[], p0, p1, p2, r, rfl, h⟩
    · have hp1 := List.pairwise_cons.mp hp
      have hp2 := List.pairwise_cons.mp hp1.2
      rcases convex_or_cap r p1 p2 hp1.2 with ⟨A, x, y, z, B, e, k⟩ | k
      · exact .inl ⟨p0 :: A, x, y, z, B, by rw [e]; rfl, k⟩
      · right
        intro q hq
        rcases List.mem_cons.mp hq with rfl | hq
        · omega
        · have h01 := hp1.1 p1 List.mem_cons_self
          have h12 := hp2.1 p2 List.mem_cons_self
          have h1q := hp2.1 q (List.mem_cons_of_mem _ hq)
          have e := cap_id α β p0 p1 p2 q
          have k1 := Int.mul_nonpos_of_nonneg_of_nonpos (show 0 ≤ ph α β q - ph α β p1 by omega) (show cr p0 p1 p2 ≤ 0 by omega)
          have k2 := Int.mul_nonpos_of_nonneg_of_nonpos (show 0 ≤ ph α β p1 - ph α β p0 by omega) (k q hq)
          refine Classical.byContradiction fun hz => ?_
          have k3 := Int.mul_pos (show 0 < ph α β p2 - ph α β p1 by omega) (show 0 < cr p0 p1 q by omega)
          omega
theorem split_at_ph {α β : Int} (X : Int) : ∀ l : List Pt, l.Pairwise (fun a b => ph α β a < ph α β b) → ∃ L1 L2, l = L1 ++ L2 ∧ (∀ p ∈ L1, ph α β p < X) ∧ ∀ p ∈ L2, X ≤ ph α β p
  | [], _ => ⟨[], [], rfl, fun p h => (by cases h), fun p h => (by cases h)⟩
  | p :: l, hp => by
    have hp1 := List.pairwise_cons.mp hp
    by_cases h : ph α β p < X
    · obtain ⟨L1, L2, e, k1, k2⟩ := split_at_ph X l hp1.2
      refine ⟨p :: L1, L2, by rw [e]; rfl, fun q hq => ?_, k2⟩
      rcases List.mem_cons.mp hq with rfl | hq
      · exact h
      · exact k1 q hq
    · refine ⟨[], p :: l, rfl, fun p h => (by cases h), fun q hq => ?_⟩
      rcases List.mem_cons.mp hq with rfl | hq
      · omega
      · have := hp1.1 q hq; omega
theorem tri_ph {α β : Int} {a b c p : Pt} {X Y : Int} (hD : 0 < cr a b c) (h1 : 0 ≤ cr a b p) (h2 : 0 ≤ cr b c p) (h3 : 0 ≤ cr c a p) (ha : X ≤ ph α β a ∧ ph α β a ≤ Y) (hb : X ≤ ph α β b ∧ ph α β b ≤ Y) (hc : X ≤ ph α β c ∧ ph α β c ≤ Y) : X ≤ ph α β p ∧ ph α β p ≤ Y := by
  have b0 := bary α β a b c p
  have b1 := bary1 a b c p
  constructor
  · refine Classical.byContradiction fun hz => ?_
    have e : cr a b c * (ph α β p - X) = cr b c p * (ph α β a - X) + cr c a p * (ph α β b - X) + cr a b p * (ph α β c - X) := by grind
    have k1 := Int.mul_nonneg h2 (show 0 ≤ ph α β a - X by omega)
    have k2 := Int.mul_nonneg h3 (show 0 ≤ ph α β b - X by omega)
    have k3 := Int.mul_nonneg h1 (show 0 ≤ ph α β c - X by omega)
    have k4 := Int.mul_neg_of_pos_of_neg hD (show ph α β p - X < 0 by omega)
    omega
  · refine Classical.byContradiction fun hz => ?_
    have e : cr a b c * (Y - ph α β p) = cr b c p * (Y - ph α β a) + cr c a p * (Y - ph α β b) + cr a b p * (Y - ph α β c) := by grind
    have k1 := Int.mul_nonneg h2 (show 0 ≤ Y - ph α β a by omega)
    have k2 := Int.mul_nonneg h3 (show 0 ≤ Y - ph α β b by omega)
    have k3 := Int.mul_nonneg h1 (show 0 ≤ Y - ph α β c by omega)
    have k4 := Int.mul_neg_of_pos_of_neg hD (show Y - ph α β p < 0 by omega)
    omega
def HasEar (l : List Pt) : Prop := ∃ b w a c, IsRot l (b :: w) ∧ w.head? = Option.some c ∧ w.getLast? = Option.some a ∧ Ear (b :: w) a b c
section
variable {α β : Int} {s e : Pt} {ls us : List Pt}
theorem Mono.earLo {l1 u1 : Pt} {v : List Pt} (m : Mono α β s (l1 :: ls) e us) (hu : us ++ [e] = u1 :: v) (hlu : ph α β l1 < ph α β u1) : HasEar (monoL s (l1 :: ls) e us) := by
  have lo := m.lo
  rw [List.cons_append] at lo
  have lo1 := List.pairwise_cons.mp lo
  have lo2 := List.pairwise_cons.mp lo1.2
  have s1 := lo1.1 l1 List.mem_cons_self
  have up := m.up
  rw [hu] at up
  have up1 := List.pairwise_cons.mp up
  have up2 := List.pairwise_cons.mp up1.2
  have su := up1.1 u1 List.mem_cons_self
  have lsr : ls.Pairwise (fun a b => ph α β a < ph α β b) := lo2.2.sublist (List.sublist_append_left _ _)
  obtain ⟨L1, L2, rfl, k1, k2⟩ := split_at_ph (ph α β u1) ls lsr
  -- what lies at u1 and beyond
  have usge : ∀ p ∈ us, ph α β u1 ≤ ph α β p := fun p hp => by
    have : p ∈ u1 :: v := by rw [← hu]; exact List.mem_append_left _ hp
    rcases List.mem_cons.mp this with rfl | h
    · exact Int.le_refl _
    · have := up2.1 p h; omega
  have ege : ph α β u1 ≤ ph α β e := by
    have : e ∈ u1 :: v := by rw [← hu]; exact List.mem_append_right _ List.mem_cons_self
    rcases List.mem_cons.mp this with h | h
    · rw [h]; exact Int.le_refl _
    · have := up2.1 e h; omega
  have L2gt : ∀ p ∈ L2, ph α β u1 < ph α β p := fun p hp => by
    have hge := k2 p hp
    have pl : p ∈ l1 :: (L1 ++ L2) := List.mem_cons_of_mem _ (List.mem_append_right _ hp)
    have hlt := (m.s_lt.1 p pl).2
    have : ph α β p ≠ ph α β u1 := fun z => by
      cases us with
      | nil => simp at hu; rw [hu.1] at hlt; omega
      | cons q r =>
        simp at hu
        exact m.ne p pl u1 (by rw [hu.1]; exact List.mem_cons_self) z
    omega
  have pw : (s :: l1 :: L1).Pairwise (fun a b => ph α β a < ph α β b) := lo.sublist (by
    refine List.Sublist.cons_cons _ (List.Sublist.cons_cons _ ?_)
    rw [List.append_assoc]
    exact List.sublist_append_left _ _)
  rcases convex_or_cap L1 s l1 pw with ⟨A, x, y, z, B, eA, hcv⟩ | cap
  · -- a convex corner
    have pw' := pw
    rw [eA] at pw'
    have pA := List.pairwise_append.mp pw'
    have px := List.pairwise_cons.mp pA.2.1
    have py := List.pairwise_cons.mp px.2
    have pz := List.pairwise_cons.mp py.2
    have hxy := px.1 y List.mem_cons_self
    have hyz := py.1 z List.mem_cons_self
    have zu : ph α β z < ph α β u1 := by
      have : z ∈ s :: l1 :: L1 := by rw [eA]; simp
      rcases List.mem_cons.mp this with h | h
      · have : ph α β s < ph α β y ∨ s = y := by
          have : y ∈ s :: l1 :: L1 := by rw [eA]; simp
          rcases List.mem_cons.mp this with h | h
          · exact .inr h.symm
          · exact .inl ((List.pairwise_cons.mp pw).1 y h)
        rw [h] at hyz
        rcases this with h | h
        · omega
        · rw [h] at hyz; omega
      · rcases List.mem_cons.mp h with h | h
        · rw [h]; exact hlu
        · exact k1 z h
    have hring : monoL s (l1 :: (L1 ++ L2)) e us = (A ++ [x]) ++ (y :: (z :: (B ++ (L2 ++ e :: us.reverse)))) := by
      unfold monoL
      have : s :: (l1 :: (L1 ++ L2) ++ e :: us.reverse) = (s :: l1 :: L1) ++ (L2 ++ e :: us.reverse) := by simp
      rw [this, eA]; simp
    refine ⟨y, (z :: (B ++ (L2 ++ e :: us.reverse))) ++ (A ++ [x]), x, z, ⟨A ++ [x], y :: (z :: (B ++ (L2 ++ e :: us.reverse))), hring, by simp⟩, rfl, by rw [← List.append_assoc, List.getLast?_concat], hcv, fun p hp n1 n2 n3 g1 g2 g3 => ?_⟩
    have rng := tri_ph (α := α) (β := β) (X := ph α β x) (Y := ph α β z) hcv g1 g2 g3 (by omega) (by omega) (by omega)
    have cases : p ∈ A ∨ p = x ∨ p = y ∨ p = z ∨ p ∈ B ∨ p ∈ L2 ∨ p = e ∨ p ∈ us := by
      simp only [List.mem_cons, List.mem_append, List.mem_reverse, List.not_mem_nil, or_false] at hp
      rcases hp with h | (h | h | h | h | h) | h | h
      all_goals simp [h]
    rcases cases with h | h | h | h | h | h | h | h
    · have := pA.2.2 p h x List.mem_cons_self; omega
    · exact n1 h
    · exact n2 h
    · exact n3 h
    · have := pz.1 p h; omega
    · have := L2gt p h; omega
    · rw [h] at rng; omega
    · have := usge p h; omega
  · -- the first one
    have D : 0 < cr u1 s l1 := by
      have := m.low (s, u1) (by rw [hu]; exact List.mem_cons_self) l1 List.mem_cons_self s1 hlu
      simp only at this
      rw [cr_neg s u1 l1]; omega
    refine ⟨s, l1 :: (L1 ++ L2) ++ e :: us.reverse, u1, l1, IsRot.refl _, rfl, ?_, D, fun p hp n1 n2 n3 g1 g2 g3 => ?_⟩
    · cases us with
      | nil =>
        simp at hu
        rw [hu.1, List.reverse_nil, List.getLast?_concat]
      | cons q r =>
        simp at hu
        have : l1 :: (L1 ++ L2) ++ e :: (q :: r).reverse = (l1 :: (L1 ++ L2) ++ e :: r.reverse) ++ [q] := by simp
        rw [this, List.getLast?_concat, hu.1]
    · have rng := tri_ph (α := α) (β := β) (X := ph α β s) (Y := ph α β u1) D g1 g2 g3 (by omega) (by omega) (by omega)
      have cases : p = s ∨ p = l1 ∨ p ∈ L1 ∨ p ∈ L2 ∨ p = e ∨ p ∈ us := by
        simp only [List.mem_cons, List.mem_append, List.mem_reverse, List.not_mem_nil, or_false] at hp
        rcases hp with h | ((h | h | h) | h | h)
        all_goals simp [h]
      rcases cases with h | h | h | h | h | h
      · exact n2 h
      · exact n3 h
      · have c0 := cap p h
        have z : cr s l1 p = 0 := by omega
        have b0 := bary α β u1 s l1 p
        have b1 := bary1 u1 s l1 p
        have hp1 : ph α β l1 < ph α β p := lo2.1 p (List.mem_append_left _ (List.mem_append_left _ h))
        rw [z] at b0 b1
        have e1 : cr u1 s l1 * (ph α β p - ph α β l1) = cr l1 u1 p * (ph α β s - ph α β l1) := by grind
        have q1 := Int.mul_pos D (show 0 < ph α β p - ph α β l1 by omega)
        have q2 := Int.mul_nonpos_of_nonneg_of_nonpos g3 (show ph α β s - ph α β l1 ≤ 0 by omega)
        omega
      · have := L2gt p h; omega
      · rw [h] at rng n1
        have : e ∈ u1 :: v := by rw [← hu]; exact List.mem_append_right _ List.mem_cons_self
        rcases List.mem_cons.mp this with h | h
        · exact n1 h
        · have := up2.1 e h; omega
      · have : p ∈ u1 :: v := by rw [← hu]; exact List.mem_append_left _ h
        rcases List.mem_cons.mp this with h | h
        · exact n1 h
        · have := up2.1 p h; omega
theorem HasEar.sw {l m : List Pt} (h : HasEar l) (hr : IsRot (m.map LW.sw).reverse l) : HasEar m := by
  obtain ⟨b, w, a, c, r, hc, ha, he⟩ := h
  have r1 := (hr.trans r).rev.map LW.sw
  rw [List.reverse_reverse, map_sw_sw] at r1
  refine ⟨LW.sw b, (w.map LW.sw).reverse, LW.sw c, LW.sw a, ?_, ?_, ?_, ?_⟩
  · refine r1.trans ?_
    exact ⟨(w.map LW.sw).reverse, [LW.sw b], by simp, by simp⟩
  · rw [List.head?_reverse, List.getLast?_map, ha]; rfl
  · rw [List.getLast?_reverse, List.head?_map, hc]; rfl
  · refine he.sw fun p hp => ?_
    rcases List.mem_cons.mp hp with rfl | hp
    · exact List.mem_cons_self
    · obtain ⟨q, hq, rfl⟩ := List.mem_map.mp (List.mem_reverse.mp hp)
      exact List.mem_cons_of_mem _ hq
theorem Mono.ear (m : Mono α β s ls e us) : HasEar (monoL s ls e us) := by
  obtain ⟨l1, lv, hl⟩ : ∃ l1 lv, ls ++ [e] = l1 :: lv := by cases ls with
    | nil => exact ⟨e, [], rfl⟩
    | cons p r => exact ⟨p, r ++ [e], rfl⟩
  obtain ⟨u1, uv, hu⟩ : ∃ u1 uv, us ++ [e] = u1 :: uv := by cases us with
    | nil => exact ⟨e, [], rfl⟩
    | cons p r => exact ⟨p, r ++ [e], rfl⟩
  have main : ∀ {α β : Int} {s e : Pt} {ls us : List Pt} {l1 u1 : Pt} {lv uv : List Pt}, Mono α β s ls e us → ls ++ [e] = l1 :: lv → us ++ [e] = u1 :: uv → ph α β l1 < ph α β u1 → HasEar (monoL s ls e us) := fun {α β s e ls us l1 u1 lv uv} m hl hu k => by
    cases ls with
    | nil =>
      simp at hl
      exfalso
      cases us with
      | nil =>
        simp at hu
        rw [← hl.1, ← hu.1] at k; omega
      | cons q r =>
        simp at hu
        have := (m.s_lt.2 q List.mem_cons_self).2
        rw [← hl.1, ← hu.1] at k; omega
    | cons p r =>
      simp at hl
      obtain ⟨rfl, rfl⟩ := hl
      exact m.earLo hu k
  rcases Int.lt_trichotomy (ph α β l1) (ph α β u1) with k | k | k
  · exact main m hl hu k
  · exfalso
    cases ls with
    | nil =>
      simp at hl
      cases us with
      | nil => rcases m.some with h | h <;> exact h rfl
      | cons q r =>
        simp at hu
        have := (m.s_lt.2 q List.mem_cons_self).2
        rw [← hl.1, ← hu.1] at k; omega
    | cons p r =>
      simp at hl
      cases us with
      | nil =>
        simp at hu
        have := (m.s_lt.1 p List.mem_cons_self).2
        rw [← hl.1, ← hu.1] at k; omega
      | cons q t =>
        simp at hu
        have := m.ne p List.mem_cons_self q List.mem_cons_self
        rw [← hl.1, ← hu.1] at k; omega
  · have h := main m.sw (l1 := LW.sw u1) (u1 := LW.sw l1) (lv := uv.map LW.sw) (uv := lv.map LW.sw) (by have := congrArg (List.map LW.sw) hu; simpa using this) (by have := congrArg (List.map LW.sw) hl; simpa using this) (by have a := ph_sw α β u1; have b := ph_sw α β l1; omega)
    refine h.sw ?_
    rw [monoL_map]
    unfold monoL
    exact ⟨(us.map LW.sw) ++ LW.sw e :: (ls.map LW.sw).reverse, [LW.sw s], by simp, by simp⟩
end
theorem MonoR.ear {α β : Int} {l : List Pt} (h : MonoR α β l) : HasEar l := by
  obtain ⟨s, ls, e, us, m, r⟩ := h
  obtain ⟨b, w, a, c, r2, h1, h2, h3⟩ := m.ear
  exact ⟨b, w, a, c, r.trans r2, h1, h2, h3⟩
end LW
/-! part DL1 -/
/-! Data layer: what a def does, told on data alone (PyData), over the hand layer. -/
namespace DL
open PySem PySem.Spec PyProof.Rows L2
/-! ### values that hold data -/
/-- a dict with text keys, told as data (its first pair tells it from a script) -/
def dD (kvs : List (Str × PyData)) : PyData := .dict ((.bool true, .none) :: kvs.map fun p => (PyData.str p.1, p.2))
/-- a step, as a key: two points of whole numbers -/
abbrev SK := (Int × Int) × (Int × Int)
def skN (k : SK) : NestedKey := .tup [.tup [.num k.1.1, .num k.1.2], .tup [.num k.2.1, .num k.2.2]]
def skH (k : SK) : Int := reduceHash (Builtin.Tuple.tupleHashOf [reduceHash (Builtin.Tuple.tupleHashOf [hashInt k.1.1, hashInt k.1.2]), reduceHash (Builtin.Tuple.tupleHashOf [hashInt k.2.1, hashInt k.2.2])])
def skD (k : SK) : PyData := .tuple [.tuple [.int k.1.1, .int k.1.2], .tuple [.int k.2.1, .int k.2.2]]
/-- the object o is a dict with these keys, each True -/
structure SkOb (a : Addr) (o : Obj) (xs : List (SK × Addr)) : Prop where
  len : xs.length ≤ sizeLine
  mods : (a == sysModules) = false
  ex : o.ExactDict
  nd : (xs.map (·.1)).Nodup
  dat : ∃ es ep, o.data = .dict es ep ∧ es.toList = xs.map fun x => (⟨skH x.1, .ref x.2, .bool true⟩ : DictEntry)
def SKo (a : Addr) (o : Obj) : HO := .ext fun h => h.get? a = some o
/-- .. told as data -/
def kdD (ks : List SK) : PyData := .dict ((.bool false, .none) :: ks.map fun k => (skD k, PyData.bool true))
mutual
inductive Rp (K : PySem.W.Frag) (Z : Hp) : V → PyData → Prop
  | non : Rp K Z .non .none
  | bl (b : Bool) : Rp K Z (.bl b) (.bool b)
  | int (i : Int) : Rp K Z (.int i) (.int i)
  | str (x : Str) : Rp K Z (.str x) (.str x)
  | lst {a : Addr} {xs : List V} {ds : List PyData} : Z a = some (.lst xs) → RpAll K Z xs ds → Rp K Z (.ref a) (.list ds)
  | tup {a : Addr} {xs : List V} {ds : List PyData} : Z a = some (.tup xs) → RpAll K Z xs ds → Rp K Z (.ref a) (.tuple ds)
  | scr {a : Addr} {ns : List Int} : SqL K Z a (ns.map V.int) → Rp K Z (.ref a) (.dict (ns.map fun n => (PyData.none, PyData.int n)))
  | kdt {a : Addr} {o : Obj} {xs : List (SK × Addr)} : Z a = some (SKo a o) → SkOb a o xs → RpAll K Z (xs.map fun x => V.ref x.2) (xs.map fun x => skD x.1) → Rp K Z (.ref a) (kdD (xs.map (·.1)))
  | dct {a : Addr} {vs : List (Key × V)} {kvs : List (Str × PyData)} : Z a = some (.dK vs) → RpKv K Z vs kvs → Rp K Z (.ref a) (dD kvs)
inductive RpAll (K : PySem.W.Frag) (Z : Hp) : List V → List PyData → Prop
  | nil : RpAll K Z [] []
  | cons {v : V} {vs : List V} {d : PyData} {ds : List PyData} : Rp K Z v d → RpAll K Z vs ds → RpAll K Z (v :: vs) (d :: ds)
inductive RpKv (K : PySem.W.Frag) (Z : Hp) : List (Key × V) → List (Str × PyData) → Prop
  | nil : RpKv K Z [] []
  | cons {x : Str} {v : V} {d : PyData} {vs : List (Key × V)} {ds : List (Str × PyData)} : Rp K Z v d → RpKv K Z vs ds → RpKv K Z ((Sum.inr x, v) :: vs) ((x, d) :: ds)
end
section
variable {K : PySem.W.Frag} {Z Z' H H' : Hp}
mutual
theorem Rp.mono (s : Same Z Z') : ∀ {v : V} {d : PyData}, Rp K Z v d → Rp K Z' v d
  | _, _, .non => .non
  | _, _, .bl b => .bl b
  | _, _, .int i => .int i
  | _, _, .str x => .str x
  | _, _, .lst h r => .lst (s _ _ h) (RpAll.mono s r)
  | _, _, .tup h r => .tup (s _ _ h) (RpAll.mono s r)
  | _, _, .scr h => .scr (s.seq h)
  | _, _, .dct h r => .dct (s _ _ h) (RpKv.mono s r)
  | _, _, .kdt h so r => .kdt (s _ _ h) so (RpAll.mono s r)
theorem RpAll.mono (s : Same Z Z') : ∀ {vs : List V} {ds : List PyData}, RpAll K Z vs ds → RpAll K Z' vs ds
  | _, _, .nil => .nil
  | _, _, .cons h r => .cons (Rp.mono s h) (RpAll.mono s r)
theorem RpKv.mono (s : Same Z Z') : ∀ {vs : List (Key × V)} {ds : List (Str × PyData)}, RpKv K Z vs ds → RpKv K Z' vs ds
  | _, _, .nil => .nil
  | _, _, .cons h r => .cons (Rp.mono s h) (RpKv.mono s r)
end
theorem RpAll.length : ∀ {vs : List V} {ds : List PyData}, RpAll K Z vs ds → vs.length = ds.length
  | _, _, .nil => rfl
  | _, _, .cons _ r => by rw [List.length_cons, List.length_cons, RpAll.length r]
theorem RpAll.get : ∀ {vs : List V} {ds : List PyData} {i : Nat} {d : PyData}, RpAll K Z vs ds → ds[i]? = some d → ∃ v, vs[i]? = some v ∧ Rp K Z v d
  | _, _, _, _, .nil, e => by simp at e
  | _, _, 0, _, .cons r _, e => by simp at e; subst e; exact ⟨_, rfl, r⟩
  | _, _, i + 1, d, .cons _ t, e => by
    obtain ⟨v, h1, h2⟩ := RpAll.get (i := i) (d := d) t (by simpa using e)
    exact ⟨v, by simpa using h1, h2⟩
theorem RpAll.append : ∀ {xs ys : List V} {ds es : List PyData}, RpAll K Z xs ds → RpAll K Z ys es → RpAll K Z (xs ++ ys) (ds ++ es)
  | _, _, _, _, .nil, s => s
  | _, _, _, _, .cons r t, s => .cons r (RpAll.append t s)
theorem RpAll.take : ∀ {xs : List V} {ds : List PyData} (n : Nat), RpAll K Z xs ds → RpAll K Z (xs.take n) (ds.take n)
  | _, _, 0, _ => .nil
  | _, _, _ + 1, .nil => .nil
  | _, _, n + 1, .cons r t => .cons r (RpAll.take n t)
theorem RpAll.drop : ∀ {xs : List V} {ds : List PyData} (n : Nat), RpAll K Z xs ds → RpAll K Z (xs.drop n) (ds.drop n)
  | _, _, 0, r => r
  | _, _, _ + 1, .nil => .nil
  | _, _, n + 1, .cons _ t => RpAll.drop n t
theorem RpAll.set {v : V} {d : PyData} (r : Rp K Z v d) : ∀ {xs : List V} {ds : List PyData} (i : Nat), RpAll K Z xs ds → RpAll K Z (xs.set i v) (ds.set i d)
  | _, _, _, .nil => .nil
  | _, _, 0, .cons _ t => .cons r t
  | _, _, i + 1, .cons q t => .cons q (RpAll.set r i t)
theorem RpAll.eraseIdx : ∀ {xs : List V} {ds : List PyData} (i : Nat), RpAll K Z xs ds → RpAll K Z (xs.eraseIdx i) (ds.eraseIdx i)
  | _, _, _, .nil => .nil
  | _, _, 0, .cons _ t => t
  | _, _, i + 1, .cons r t => .cons r (RpAll.eraseIdx i t)
theorem RpAll.reverse : ∀ {xs : List V} {ds : List PyData}, RpAll K Z xs ds → RpAll K Z xs.reverse ds.reverse
  | _, _, .nil => .nil
  | _, _, .cons r t => by rw [List.reverse_cons, List.reverse_cons]; exact RpAll.append (RpAll.reverse t) (.cons r .nil)
theorem RpAll.dropLast : ∀ {xs : List V} {ds : List PyData}, RpAll K Z xs ds → RpAll K Z xs.dropLast ds.dropLast
  | _, _, .nil => .nil
  | _, _, .cons r .nil => .nil
  | _, _, .cons r (.cons q t) => by
    have ih := RpAll.dropLast (.cons q t)
    exact .cons r ih
theorem RpAll.ints : ∀ {xs : List V} {ns : List Int}, RpAll K Z xs (ns.map PyData.int) → xs = ns.map V.int
  | _, [], .nil => rfl
  | _, n :: ns, .cons r t => by
    cases r
    rw [List.map_cons, RpAll.ints t]
theorem RpAll.of_ints : ∀ (ns : List Int), RpAll K Z (ns.map V.int) (ns.map PyData.int)
  | [] => .nil
  | n :: ns => .cons (.int n) (RpAll.of_ints ns)
mutual
theorem Rp.dp : ∀ {v : V} {d : PyData}, Rp K Z v d → d.canLay0 = true → Dp K Z v d
  | _, _, .non, _ => .non
  | _, _, .bl b, _ => .bl b
  | _, _, .int i, _ => .int i
  | _, _, .str x, _ => .str x
  | _, _, .lst h r, c => .lst (SqL.of h) (RpAll.dp r (by simpa [PyData.canLay0] using c))
  | _, _, .tup h r, c => .tup (SqT.of h) (RpAll.dp r (by simpa [PyData.canLay0] using c))
  | _, _, .scr h, c => by simp [PyData.canLay0] at c
  | _, _, .dct h _, c => by simp [PyData.canLay0, dD] at c
  | _, _, .kdt h _ _, c => by simp [PyData.canLay0, kdD] at c
theorem RpAll.dp : ∀ {vs : List V} {ds : List PyData}, RpAll K Z vs ds → PyData.canLayAll0 ds = true → DpAll K Z vs ds
  | _, _, .nil, _ => .nil
  | _, d :: ds, .cons h r, c => by
    have c' : d.canLay0 = true ∧ PyData.canLayAll0 ds = true := by simpa [PyData.canLayAll0] using c
    exact .cons (Rp.dp h c'.1) (RpAll.dp r c'.2)
end
end
/-! ### data without lists -/
mutual
def noL : PyData → Bool
  | .list _ => false
  | .dict _ => false
  | .tuple ds => noLs ds
  | _ => true
def noLs : List PyData → Bool
  | [] => true
  | d :: ds => noL d && noLs ds
end
section
variable {K : PySem.W.Frag} {Z Z' H H' : Hp}
mutual
theorem Rp.noL (s : ∀ a xs, Z a = some (.tup xs) → Z' a = some (.tup xs)) : ∀ {v : V} {d : PyData}, Rp K Z v d → noL d = true → Rp K Z' v d
  | _, _, .non, _ => .non
  | _, _, .bl b, _ => .bl b
  | _, _, .int i, _ => .int i
  | _, _, .str x, _ => .str x
  | _, _, .lst h r, c => by simp [DL.noL] at c
  | _, _, .tup h r, c => .tup (s _ _ h) (RpAll.noL s r (by simpa [DL.noL] using c))
  | _, _, .scr h, c => by simp [DL.noL] at c
  | _, _, .dct h _, c => by simp [DL.noL, dD] at c
  | _, _, .kdt h _ _, c => by simp [DL.noL, kdD] at c
theorem RpAll.noL (s : ∀ a xs, Z a = some (.tup xs) → Z' a = some (.tup xs)) : ∀ {vs : List V} {ds : List PyData}, RpAll K Z vs ds → noLs ds = true → RpAll K Z' vs ds
  | _, _, .nil, _ => .nil
  | _, d :: ds, .cons h r, c => by
    have c' : DL.noL d = true ∧ noLs ds = true := by simpa [noLs] using c
    exact .cons (Rp.noL s h c'.1) (RpAll.noL s r c'.2)
end
end
/-! ### behind an evaluation: H grows to H', its settled part Z to Z' -/
structure Ext (Z H Z' H' : Hp) : Prop where
  big : Same H H'
  up : Same Z Z'
  sub : Same Z' H'
  new : ∀ b, Z b = none → Z' b ≠ none → H b = none
theorem Ext.refl {Z H : Hp} (s : Same Z H) : Ext Z H Z H := ⟨Same.refl H, Same.refl Z, s, fun _ h n => absurd h n⟩
theorem Ext.trans {Z H Z1 H1 Z2 H2 : Hp} (a : Ext Z H Z1 H1) (b : Ext Z1 H1 Z2 H2) : Ext Z H Z2 H2 :=
  ⟨a.big.trans b.big, a.up.trans b.up, b.sub, fun x h n => by
    cases q : Z1 x with
    | none => exact a.big.free (b.new x q n)
    | some o => exact a.new x h (by rw [q]; exact fun z => nomatch z)⟩
theorem same_upd {H : Hp} {p : Addr} {o : HO} (h : H p = none) : Same H (upd H p o) := fun b x e => by
  rw [upd_ne (ne_of_none e h)]; exact e
theorem same_upd2 {Z H : Hp} {p : Addr} {o : HO} (s : Same Z H) : Same (upd Z p o) (upd H p o) := fun b x e => by
  by_cases hb : b = p
  · subst hb; rw [upd_same] at e ⊢; exact e
  · rw [upd_ne hb] at e ⊢; exact s _ _ e
/-- a new object, settled at once -/
theorem Ext.lay {Z H : Hp} {p : Addr} {o : HO} (s : Same Z H) (h : H p = none) : Ext Z H (upd Z p o) (upd H p o) :=
  ⟨same_upd h, same_upd (s.free h), same_upd2 s, fun b hb n => by
    by_cases e : b = p
    · subst e; exact h
    · rw [upd_ne e] at n; exact absurd hb n⟩
/-- a new object, not settled -/
theorem Ext.free {Z H : Hp} {p : Addr} {o : HO} (s : Same Z H) (h : H p = none) : Ext Z H Z (upd H p o) :=
  ⟨same_upd h, Same.refl Z, s.trans (same_upd h), fun b hb n => absurd hb n⟩
abbrev Env := List (Option PyData)
structure View (K : PySem.W.Frag) (Z : Hp) (σ : L2.St) (ρ : Env) : Prop where
  len : ρ.length ≤ σ.length
  get : ∀ (i : Nat) (d : PyData), ρ[i]? = some (some d) → ∃ v, σ[i]? = some (some v) ∧ Rp K Z v d
theorem View.mono {K : PySem.W.Frag} {Z Z' : Hp} {σ : L2.St} {ρ : Env} (v : View K Z σ ρ) (s : Same Z Z') : View K Z' σ ρ := ⟨v.len, fun i d e => by
  obtain ⟨x, h, r⟩ := v.get i d e
  exact ⟨x, h, r.mono s⟩⟩
/-! ### canonical readings -/
abbrev DF := Env → Option PyData
def tD (K : PySem.W.Frag) (f : DF) : TE := fun σ H Q => ∃ Z ρ d, Same Z H ∧ View K Z σ ρ ∧ f ρ = some d ∧ ∀ v H' Z', Ext Z H Z' H' → Rp K Z' v d → Q v H'
def tT (K : PySem.W.Frag) (f : Env → Option Bool) : TT := fun σ H Q => ∃ Z ρ b, Same Z H ∧ View K Z σ ρ ∧ f ρ = some b ∧ ∀ H' Z', Ext Z H Z' H' → Q b H'
def tA (K : PySem.W.Frag) (f : Env → Option (List PyData)) : TA := fun σ H Q => ∃ Z ρ ds, Same Z H ∧ View K Z σ ρ ∧ f ρ = some ds ∧ ∀ vs H' Z', Ext Z H Z' H' → RpAll K Z' vs ds → Q vs H'
/-- a new list, not settled yet -/
def tN (K : PySem.W.Frag) (f : Env → Option (List PyData)) : TE := fun σ H Q => ∃ Z ρ ds, Same Z H ∧ View K Z σ ρ ∧ f ρ = some ds ∧
  ∀ p vs H' Z', Ext Z H Z' H' → H p = none → Z' p = none → H' p = some (.lst vs) → RpAll K Z' vs ds → Q (.ref p) H'
/-- an optional part of a slice -/
def tP (K : PySem.W.Frag) (f : Env → Option (Option Int)) : TO := fun σ H Q => ∃ Z ρ o, Same Z H ∧ View K Z σ ρ ∧ f ρ = some o ∧ ∀ H' Z', Ext Z H Z' H' → Q o H'
section
variable {X : Cx} {K : PySem.W.Frag} {e : Expr}
theorem _root_.L2.PE.weak {t t' : TE} (h : PE X e t) (w : ∀ σ H Q, t' σ H Q → t σ H Q) : PE X e t' := ⟨fun pins s σ H Q I q => h.run pins s σ H Q I (w _ _ _ q)⟩
theorem _root_.L2.PT.weak {t t' : TT} (h : PT X e t) (w : ∀ σ H Q, t' σ H Q → t σ H Q) : PT X e t' := ⟨fun pins s σ H Q I q => h.run pins s σ H Q I (w _ _ _ q)⟩
theorem _root_.L2.PA.weak {es : List Expr} {t t' : TA} (h : PA X es t) (w : ∀ σ H Q, t' σ H Q → t σ H Q) : PA X es t' := ⟨fun pos pins s σ H Q I q => h.run pos pins s σ H Q I (w _ _ _ q)⟩
theorem _root_.L2.PO.weak {e : Option Expr} {t t' : TO} (h : PO X e t) (w : ∀ σ H Q, t' σ H Q → t σ H Q) : PO X e t' := ⟨fun pins s σ H Q I q => h.run pins s σ H Q I (w _ _ _ q)⟩
theorem _root_.L2.PS.weak {st : Stmt} {t t' : TS} (h : PS X st t) (w : ∀ D σ H, t' D σ H → t D σ H) : PS X st t' := ⟨fun pins s σ H D I q => h.run pins s σ H D I (w _ _ _ q)⟩
theorem _root_.L2.PSs.weak {st : List Stmt} {t t' : TS} (h : PSs X st t) (w : ∀ D σ H, t' D σ H → t D σ H) : PSs X st t' := ⟨fun pins s σ H D I q => h.run pins s σ H D I (w _ _ _ q)⟩
end
abbrev DE (X : Cx) (K : PySem.W.Frag) (e : Expr) (f : DF) : Prop := PE X e (tD K f)
abbrev DT (X : Cx) (K : PySem.W.Frag) (e : Expr) (f : Env → Option Bool) : Prop := PT X e (tT K f)
abbrev DA (X : Cx) (K : PySem.W.Frag) (es : List Expr) (f : Env → Option (List PyData)) : Prop := PA X es (tA K f)
abbrev DN (X : Cx) (K : PySem.W.Frag) (e : Expr) (f : Env → Option (List PyData)) : Prop := PE X e (tN K f)
abbrev DO (X : Cx) (K : PySem.W.Frag) (e : Option Expr) (f : Env → Option (Option Int)) : Prop := PO X e (tP K f)
/-! ### names, constants -/
def fVar (i : Nat) : DF := fun ρ => (ρ[i]?).join
def fC (d : PyData) : DF := fun _ => some d
section
variable {X : Cx} {K : PySem.W.Frag} {pos : Pos}
theorem de_var (i : Nat) {x : Str} (hN : X.N[i]? = some x := by rfl) (hv : Vis X.env.scope x := by first | exact Or.inl rfl | exact Or.inr (Or.inl rfl) | exact Or.inr (Or.inr rfl)) (hd : (x == ("__debug__" : Str)) = false := by decide)
    (hcd : (x == ("__classdict__" : Str)) = false := by decide) : DE X K (.Name x pos) (fVar i) :=
  (pe_var hN hv hd hcd).weak fun σ H Q ⟨Z, ρ, d, s, v, e, q⟩ => by
    have e' : ρ[i]? = some (some d) := by
      unfold fVar at e
      cases h : ρ[i]? with
      | none => rw [h] at e; cases e
      | some o =>
        rw [h] at e
        have : o = some d := e
        rw [this]
    obtain ⟨x, h, r⟩ := v.get i d e'
    exact ⟨x, h, q x H Z (Ext.refl s) r⟩
theorem de_int {i j} : DE X K (.Constant (.int i) j pos) (fC (.int i)) := pe_int.weak fun σ H Q ⟨Z, ρ, d, s, v, e, q⟩ => by
  cases e; exact q _ H Z (Ext.refl s) (.int i)
theorem de_bl {b j} : DE X K (.Constant (.bool b) j pos) (fC (.bool b)) := pe_bl.weak fun σ H Q ⟨Z, ρ, d, s, v, e, q⟩ => by
  cases e; exact q _ H Z (Ext.refl s) (.bl b)
theorem de_non {j} : DE X K (.Constant .none j pos) (fC .none) := pe_non.weak fun σ H Q ⟨Z, ρ, d, s, v, e, q⟩ => by
  cases e; exact q _ H Z (Ext.refl s) .non
theorem de_str {x j} : DE X K (.Constant (.str x) j pos) (fC (.str x)) := pe_str.weak fun σ H Q ⟨Z, ρ, d, s, v, e, q⟩ => by
  cases e; exact q _ H Z (Ext.refl s) (.str x)
/-- an int constant of the module -/
theorem de_globI {x : Str} {i : Int} {tk : Tok} (hg : Gl X x) (hm : X.mg x = some (.int i tk)) (hd : (x == ("__debug__" : Str)) = false := by decide) : DE X K (.Name x pos) (fC (.int i)) :=
  (pe_glob (v := .int i) hg hm ⟨tk, rfl⟩ hd).weak fun σ H Q ⟨Z, ρ, d, s, v, e, q⟩ => by
    cases e; exact q _ H Z (Ext.refl s) (.int i)
end
/-! ### operators on two values -/
abbrev G2 := PyData → PyData → Option PyData
def f2 (g : G2) (fa fb : DF) : DF := fun ρ => (fa ρ).bind fun x => (fb ρ).bind fun y => g x y
def RR (K : PySem.W.Frag) (r : R2) (g : G2) : Prop := ∀ (x y : V) (dx dy d : PyData) (Z H : Hp), Same Z H → Rp K Z x dx → Rp K Z y dy → g dx dy = some d →
  ∀ Q : VK, (∀ v H' Z', Ext Z H Z' H' → Rp K Z' v d → Q v H') → r x y H Q
theorem opt_bind {α β : Type} {o : Option α} {f : α → Option β} {b : β} (h : o.bind f = some b) : ∃ a, o = some a ∧ f a = some b := by
  cases o with
  | none => cases h
  | some a => exact ⟨a, rfl, h⟩
theorem tOp_weak {K : PySem.W.Frag} {r : R2} {g : G2} {fa fb : DF} (rr : RR K r g) : ∀ σ H Q, tD K (f2 g fa fb) σ H Q → tOp r (tD K fa) (tD K fb) σ H Q := fun σ H Q ⟨Z, ρ, d, s, v, e, q⟩ => by
  obtain ⟨x, e1, e2⟩ := opt_bind e
  obtain ⟨y, e3, e4⟩ := opt_bind e2
  refine ⟨Z, ρ, x, s, v, e1, fun vx H1 Z1 x1 r1 => ?_⟩
  refine ⟨Z1, ρ, y, x1.sub, v.mono x1.up, e3, fun vy H2 Z2 x2 r2 => ?_⟩
  exact rr vx vy x y d Z2 H2 x2.sub (r1.mono x2.up) r2 e4 Q fun w H3 Z3 x3 r3 => q w H3 Z3 ((x1.trans x2).trans x3) r3
section
variable {X : Cx} {K : PySem.W.Frag} {pos : Pos} {a b c : Expr} {fa fb fc : DF}
theorem de_op {op : Operator} {r : R2} {g : G2} (ho : OpR X (binaryOp op) r) (rr : RR K r g) (ha : DE X K a fa) (hb : DE X K b fb) : DE X K (.BinOp a op b pos) (f2 g fa fb) := (pe_op ho ha hb).weak (tOp_weak rr)
theorem de_cmp {op : CmpOp} {r : R2} {g : G2} (ho : OpR X (compareOp op) r) (rr : RR K r g) (ha : DE X K a fa) (hb : DE X K b fb) (hm : behindInMarks op b = false) : DE X K (.Compare a [op] [b] pos) (f2 g fa fb) := (pe_cmpR ho ha hb hm).weak (tOp_weak rr)
end
/-- ints in, under a guard, an int out -/
noncomputable def gI (C : Int → Int → Prop) (g : Int → Int → PyData) : G2 := fun x y => match x, y with
  | .int i, .int j => open Classical in if C i j then some (g i j) else none
  | _, _ => none
def gI0 (g : Int → Int → PyData) : G2 := fun x y => match x, y with
  | .int i, .int j => some (g i j)
  | _, _ => none
theorem gI0_inv {g : Int → Int → PyData} {x y d : PyData} (h : gI0 g x y = some d) : ∃ i j, x = .int i ∧ y = .int j ∧ d = g i j := by
  unfold gI0 at h
  split at h
  · cases h; exact ⟨_, _, rfl, rfl, rfl⟩
  · cases h
theorem gI_inv {C : Int → Int → Prop} {g : Int → Int → PyData} {x y d : PyData} (h : gI C g x y = some d) : ∃ i j, x = .int i ∧ y = .int j ∧ C i j ∧ d = g i j := by
  unfold gI at h
  split at h
  · split at h
    · rename_i hc; cases h; exact ⟨_, _, rfl, rfl, hc, rfl⟩
    · cases h
  · cases h
theorem rr_I0 {K : PySem.W.Frag} {g : Int → Int → V} {g' : Int → Int → PyData} (hg : ∀ i j Z, Rp K Z (g i j) (g' i j)) : RR K (rI0 g) (gI0 g') := fun x y dx dy d Z H s rx ry e Q q => by
  obtain ⟨i, j, rfl, rfl, rfl⟩ := gI0_inv e
  cases rx; cases ry
  exact ⟨i, j, rfl, rfl, q _ H Z (Ext.refl s) (hg i j Z)⟩
theorem rr_I {K : PySem.W.Frag} {C C' : Int → Int → Prop} {g : Int → Int → V} {g' : Int → Int → PyData} (hc : ∀ i j, C' i j → C i j) (hg : ∀ i j Z, Rp K Z (g i j) (g' i j)) : RR K (rI C g) (gI C' g') := fun x y dx dy d Z H s rx ry e Q q => by
  obtain ⟨i, j, rfl, rfl, c, rfl⟩ := gI_inv e
  cases rx; cases ry
  exact ⟨i, j, rfl, rfl, hc i j c, q _ H Z (Ext.refl s) (hg i j Z)⟩
/-- below 2^n in size -/
def Bd (n : Nat) (i : Int) : Prop := i.natAbs < 2 ^ n
def MulG (i j : Int) : Prop := Bd 100000 i ∧ Bd 100000 j
def DivG (i j : Int) : Prop := j ≠ 0 ∧ Bd 8999 j
def ModG (i j : Int) : Prop := j ≠ 0
def PowG (i j : Int) : Prop := 0 ≤ j ∧ j ≤ 1000000 ∧ i.natAbs < 2 ^ 64
def CDivX (_ j : Int) : Prop := j ≠ 0 ∧ j.natAbs.log2 < 9000
theorem op_fdivX {X : Cx} : OpR X (binaryOp .FloorDiv) (rI CDivX fun i j => .int (i.fdiv j)) := opI fun _ _ _ _ _ _ _ hc q => floordiv_int hc.1 q (.inl (PyProof.noPylong_of_log2 hc.2))
section
variable {X : Cx} {K : PySem.W.Frag} {pos : Pos} {a b c : Expr} {fa fb fc : DF}
abbrev gAdd : G2 := gI0 fun i j => .int (i + j)
abbrev gSub : G2 := gI0 fun i j => .int (i - j)
noncomputable abbrev gMul : G2 := gI MulG fun i j => .int (i * j)
noncomputable abbrev gDiv : G2 := gI DivG fun i j => .int (i.fdiv j)
noncomputable abbrev gMod : G2 := gI ModG fun i j => .int (i.fmod j)
noncomputable abbrev gPow : G2 := gI PowG fun i j => .int (i ^ j.toNat)
abbrev gLt : G2 := gI0 fun i j => .bool (decide (i < j))
abbrev gLe : G2 := gI0 fun i j => .bool (decide (i ≤ j))
abbrev gGt : G2 := gI0 fun i j => .bool (decide (j < i))
abbrev gGe : G2 := gI0 fun i j => .bool (decide (j ≤ i))
theorem rr_lt : RR K (rI0 fun i j => .bl (decide (i < j))) gLt := rr_I0 fun _ _ _ => .bl _
theorem rr_le : RR K (rI0 fun i j => .bl (decide (i ≤ j))) gLe := rr_I0 fun _ _ _ => .bl _
theorem rr_gt : RR K (rI0 fun i j => .bl (decide (j < i))) gGt := rr_I0 fun _ _ _ => .bl _
theorem rr_ge : RR K (rI0 fun i j => .bl (decide (j ≤ i))) gGe := rr_I0 fun _ _ _ => .bl _
theorem de_add (ha : DE X K a fa) (hb : DE X K b fb) : DE X K (.BinOp a .Add b pos) (f2 gAdd fa fb) := de_op op_add (rr_I0 fun _ _ _ => .int _) ha hb
theorem de_sub (ha : DE X K a fa) (hb : DE X K b fb) : DE X K (.BinOp a .Sub b pos) (f2 gSub fa fb) := de_op op_sub (rr_I0 fun _ _ _ => .int _) ha hb
theorem de_mul (ha : DE X K a fa) (hb : DE X K b fb) : DE X K (.BinOp a .Mult b pos) (f2 gMul fa fb) := de_op op_mulW (rr_I (fun i j h => wide_mul h.1 h.2 (by decide) (by decide) (by decide)) fun _ _ _ => .int _) ha hb
theorem de_div (ha : DE X K a fa) (hb : DE X K b fb) : DE X K (.BinOp a .FloorDiv b pos) (f2 gDiv fa fb) := de_op op_fdivX (rr_I (fun i j h => ⟨h.1, Nat.lt_of_lt_of_le (PySem.Flt.log2_lt_of (by decide) h.2) (by decide)⟩) fun _ _ _ => .int _) ha hb
theorem de_mod (ha : DE X K a fa) (hb : DE X K b fb) : DE X K (.BinOp a .Mod b pos) (f2 gMod fa fb) := de_op op_modN (rr_I (fun i j h => h) fun _ _ _ => .int _) ha hb
theorem de_pow (ha : DE X K a fa) (hb : DE X K b fb) : DE X K (.BinOp a .Pow b pos) (f2 gPow fa fb) := de_op op_pow (rr_I (fun i j h => h) fun _ _ _ => .int _) ha hb
theorem de_lt (ha : DE X K a fa) (hb : DE X K b fb) : DE X K (.Compare a [.Lt] [b] pos) (f2 gLt fa fb) := de_cmp op_lt rr_lt ha hb (nomark _)
theorem de_gt (ha : DE X K a fa) (hb : DE X K b fb) : DE X K (.Compare a [.Gt] [b] pos) (f2 gGt fa fb) := de_cmp op_gt rr_gt ha hb (nomark _)
/-- == and != of any data -/
def gEq : G2 := fun x y => if SeqAt.shaped x && SeqAt.shaped y then some (.bool (PyData.eqv x y)) else none
def gNe : G2 := fun x y => if SeqAt.shaped x && SeqAt.shaped y then some (.bool (!PyData.eqv x y)) else none
theorem shaped_lay {d : PyData} (h : SeqAt.shaped d = true) : d.canLay0 = true := SeqAt.canLay_of_shaped h
theorem rr_eq : RR K (rEqD K) gEq := fun x y dx dy d Z H s rx ry e Q q => by
  unfold gEq at e
  split at e
  · rename_i h
    rw [Bool.and_eq_true] at h
    cases e
    exact ⟨dx, dy, (rx.mono s).dp (shaped_lay h.1), (ry.mono s).dp (shaped_lay h.2), h.1, h.2, q _ H Z (Ext.refl s) (.bl _)⟩
  · cases e
theorem rr_ne : RR K (rNeD K) gNe := fun x y dx dy d Z H s rx ry e Q q => by
  unfold gNe at e
  split at e
  · rename_i h
    rw [Bool.and_eq_true] at h
    cases e
    exact ⟨dx, dy, (rx.mono s).dp (shaped_lay h.1), (ry.mono s).dp (shaped_lay h.2), h.1, h.2, q _ H Z (Ext.refl s) (.bl _)⟩
  · cases e
theorem de_eq {k : Nat} (hr : Room k X.A) (hK : X.K = K := by rfl) (ha : DE X K a fa) (hb : DE X K b fb) : DE X K (.Compare a [.Eq] [b] pos) (f2 gEq fa fb) := by
  subst hK; exact de_cmp (op_eqD hr.units) rr_eq ha hb (nomark _)
end
end DL
/-! part DL2 -/
namespace DL
open PySem PySem.Spec PyProof.Rows L2
/-! ### items, slices, displays -/
/-- the pairs of a script -/
def isScr (kvs : List (PyData × PyData)) : Bool := kvs.all fun p => match p.1 with
  | .none => true
  | _ => false
theorem isScr_ns (ns : List Int) : isScr (ns.map fun n => (PyData.none, PyData.int n)) = true := by
  unfold isScr
  rw [List.all_map, List.all_eq_true]
  intro _ _; rfl
theorem scr_of {K : PySem.W.Frag} {Z : Hp} {v : V} {kvs : List (PyData × PyData)} (r : Rp K Z v (.dict kvs)) (h : isScr kvs = true) : ∃ (a : Addr) (ns : List Int), v = .ref a ∧ kvs = ns.map (fun n => (PyData.none, PyData.int n)) ∧ SqL K Z a (ns.map V.int) := by
  generalize hd : PyData.dict kvs = d at r
  cases r with
  | @scr a ns hs => cases hd; exact ⟨a, ns, rfl, rfl, hs⟩
  | dct hz r =>
    unfold dD at hd
    cases hd
    unfold isScr at h
    simp at h
  | kdt hz so r =>
    unfold kdD at hd
    cases hd
    unfold isScr at h
    simp at h
  | _ => cases hd
def gIx : G2 := fun x y => match x, y with
  | .list ds, .int i => atI ds i
  | .tuple ds, .int i => atI ds i
  | .dict kvs, .int i => if isScr kvs then (atI kvs i).map (·.2) else none
  | _, _ => none
section
variable {K : PySem.W.Frag} {Z H : Hp}
theorem atI_rp {vs : List V} {ds : List PyData} {i : Int} {d : PyData} (r : RpAll K Z vs ds) (h : atI ds i = some d) : ∃ v, atI vs i = some v ∧ Rp K Z v d := by
  unfold atI at h ⊢
  rw [r.length]
  cases e : ixN ds.length i with
  | none => rw [e] at h; cases h
  | some j =>
    rw [e] at h
    exact r.get h
theorem atI_map {α β : Type} {f : α → β} {xs : List α} {i : Int} : atI (xs.map f) i = (atI xs i).map f := by
  unfold atI
  rw [List.length_map]
  cases ixN xs.length i with
  | none => rfl
  | some j => exact List.getElem?_map
theorem gIx_inv {x y d : PyData} (h : gIx x y = some d) : (∃ ds i, x = .list ds ∧ y = .int i ∧ atI ds i = some d) ∨ (∃ ds i, x = .tuple ds ∧ y = .int i ∧ atI ds i = some d) ∨
    ∃ kvs i, x = .dict kvs ∧ y = .int i ∧ isScr kvs = true ∧ (atI kvs i).map (·.2) = some d := by
  unfold gIx at h
  split at h
  · exact .inl ⟨_, _, rfl, rfl, h⟩
  · exact .inr (.inl ⟨_, _, rfl, rfl, h⟩)
  · split at h
    · rename_i hs; exact .inr (.inr ⟨_, _, rfl, rfl, hs, h⟩)
    · cases h
  · cases h
theorem rr_ix : RR K (fun x y H Q => rIxL K x y H Q ∨ rIxT K x y H Q) gIx := fun x y dx dy d Z H s rx ry e Q q => by
  rcases gIx_inv e with ⟨ds, i, rfl, rfl, h⟩ | ⟨ds, i, rfl, rfl, h⟩ | ⟨kvs, i, rfl, rfl, hsc, h⟩
  · cases ry
    cases rx with
    | lst ha r =>
      obtain ⟨v, hv, rv⟩ := atI_rp r h
      exact .inl ⟨_, _, i, v, rfl, rfl, SqL.of (s _ _ ha), hv, q v H Z (Ext.refl s) rv⟩
  · cases ry
    cases rx with
    | tup ha r =>
      obtain ⟨v, hv, rv⟩ := atI_rp r h
      exact .inr ⟨_, _, i, v, rfl, rfl, SqT.of (s _ _ ha), hv, q v H Z (Ext.refl s) rv⟩
  · cases ry
    obtain ⟨a, ns, rfl, rfl, hs⟩ := scr_of rx hsc
    rw [atI_map, Option.map_map] at h
    cases e2 : atI ns i with
    | none => rw [e2] at h; cases h
    | some n =>
      rw [e2] at h
      have : d = .int n := by cases h; rfl
      subst this
      exact .inl ⟨_, _, i, .int n, rfl, rfl, s.seq hs, by rw [atI_map, e2]; rfl, q _ H Z (Ext.refl s) (.int n)⟩
end
section
variable {X : Cx} {K : PySem.W.Frag} {pos : Pos} {a b c e : Expr} {es : List Expr} {fa fb fc fe : DF} {fs : Env → Option (List PyData)}
theorem de_ix (hK : X.K = K := by rfl) (ha : DE X K a fa) (hb : DE X K b fb) (hs : PlainIx b := by exact fun _ _ => rfl) : DE X K (.Subscript a b pos) (f2 gIx fa fb) := by
  subst hK
  exact (pe_ix (ix_list.or ix_tup) ha hb hs).weak (tOp_weak rr_ix)
/-! argument lists -/
def fNil : Env → Option (List PyData) := fun _ => some []
def fCons (fe : DF) (fs : Env → Option (List PyData)) : Env → Option (List PyData) := fun ρ => (fe ρ).bind fun d => (fs ρ).bind fun ds => some (d :: ds)
theorem da_nil : DA X K [] fNil := pa_nil.weak fun σ H Q ⟨Z, ρ, ds, s, v, e, q⟩ => by
  cases e; exact q _ H Z (Ext.refl s) .nil
theorem da_cons (he : DE X K e fe) (hs : DA X K es fs) (hst : starEach (e :: es) X.env = (false, eval e X.env) :: starEach es X.env := by rfl) : DA X K (e :: es) (fCons fe fs) :=
  (pa_cons he hs hst).weak fun σ H Q ⟨Z, ρ, ds, s, v, e, q⟩ => by
    obtain ⟨x, e1, e2⟩ := opt_bind e
    obtain ⟨xs, e3, e4⟩ := opt_bind e2
    cases e4
    refine ⟨Z, ρ, x, s, v, e1, fun vx H1 Z1 x1 r1 => ?_⟩
    exact ⟨Z1, ρ, xs, x1.sub, v.mono x1.up, e3, fun vs H2 Z2 x2 r2 => q _ H2 Z2 (x1.trans x2) (.cons (r1.mono x2.up) r2)⟩
/-- a new list, settled -/
def fL (f : Env → Option (List PyData)) : DF := fun ρ => (f ρ).map .list
def fTup (f : Env → Option (List PyData)) : DF := fun ρ => (f ρ).bind fun ds => if ds.length ≤ 1000 then some (.tuple ds) else none
def fLst (f : Env → Option (List PyData)) : Env → Option (List PyData) := fun ρ => (f ρ).bind fun ds => if ds.length ≤ 1000 then some ds else none
theorem le_line {n : Nat} (h : n ≤ 1000) : n ≤ sizeLine := Nat.le_trans h (by decide)
theorem dn_de {f : Env → Option (List PyData)} (h : DN X K e f) : DE X K e (fL f) := PE.weak h fun σ H Q ⟨Z, ρ, d, s, v, ed, q⟩ => by
  unfold fL at ed
  cases e1 : f ρ with
  | none => rw [e1] at ed; cases ed
  | some ds =>
    rw [e1] at ed
    cases ed
    refine ⟨Z, ρ, ds, s, v, e1, fun p vs H' Z' x hp zp hl r => ?_⟩
    have sz : Same Z' (upd Z' p (.lst vs)) := same_upd zp
    refine q (.ref p) H' (upd Z' p (.lst vs)) ⟨x.big, x.up.trans sz, fun b o eb => ?_, fun b hb hn => ?_⟩ (.lst upd_same (r.mono sz))
    · by_cases hbp : b = p
      · subst hbp; rw [upd_same] at eb; cases eb; exact hl
      · rw [upd_ne hbp] at eb; exact x.sub _ _ eb
    · by_cases hbp : b = p
      · subst hbp; exact hp
      · rw [upd_ne hbp] at hn; exact x.new b hb hn
theorem de_tup {x1} (h : DA X K es fs) : DE X K (.Tuple es x1 pos) (fTup fs) := (pe_tup h).weak fun σ H Q ⟨Z, ρ, d, s, v, ed, q⟩ => by
  obtain ⟨ds, e1, e2⟩ := opt_bind ed
  split at e2
  · rename_i hl
    cases e2
    refine ⟨Z, ρ, ds, s, v, e1, fun vs H1 Z1 x1 r1 => ⟨by rw [r1.length]; exact le_line hl, fun p hp => ?_⟩⟩
    have x2 : Ext Z1 H1 (upd Z1 p (.tup vs)) (upd H1 p (.tup vs)) := Ext.lay x1.sub hp
    exact q _ _ _ (x1.trans x2) (.tup upd_same (r1.mono x2.up))
  · cases e2
theorem dn_lst (h : DA X K es fs) : DN X K (.List es pos) (fLst fs) := (pe_lst h).weak fun σ H Q ⟨Z, ρ, d, s, v, ed, q⟩ => by
  obtain ⟨ds, e1, e2⟩ := opt_bind ed
  split at e2
  · rename_i hl
    cases e2
    refine ⟨Z, ρ, d, s, v, e1, fun vs H1 Z1 x1 r1 => ⟨by rw [r1.length]; exact le_line hl, fun p hp => ?_⟩⟩
    exact q p vs _ _ (x1.trans (Ext.free x1.sub hp)) (x1.big.free hp) (x1.sub.free hp) upd_same r1
  · cases e2
/-! slices -/
def fPn : Env → Option (Option Int) := fun _ => some none
def asInt : PyData → Option Int
  | .int i => some i
  | _ => none
def fPs (f : DF) : Env → Option (Option Int) := fun ρ => (f ρ).bind fun d => (asInt d).map some
theorem do_none : DO X K none fPn := po_none.weak fun σ H Q ⟨Z, ρ, d, s, v, ed, q⟩ => by
  cases ed; exact q H Z (Ext.refl s)
theorem asInt_inv {d : PyData} {i : Int} (h : asInt d = some i) : d = .int i := by
  cases d <;> cases h; rfl
theorem do_some (h : DE X K e fe) : DO X K (some e) (fPs fe) := (po_some h).weak fun σ H Q ⟨Z, ρ, o, s, v, ed, q⟩ => by
  obtain ⟨d, e1, e2⟩ := opt_bind ed
  cases e3 : asInt d with
  | none => rw [e3] at e2; cases e2
  | some i =>
    rw [e3] at e2
    cases e2
    have := asInt_inv e3
    subst this
    refine ⟨Z, ρ, _, s, v, e1, fun vx H1 Z1 x1 r1 => ?_⟩
    cases r1
    exact ⟨i, rfl, q H1 Z1 x1⟩
def cutG {α : Type} (xs : List α) (lo hi : Option Int) : List α := (xs.drop (HT.sIx xs.length 0 lo)).take (HT.sIx xs.length xs.length hi - HT.sIx xs.length 0 lo)
def asList : PyData → Option (List PyData)
  | .list ds => some ds
  | _ => none
theorem asList_inv {d : PyData} {ds : List PyData} (h : asList d = some ds) : d = .list ds := by
  cases d <;> cases h; rfl
def fSl (fe : DF) (fl fh : Env → Option (Option Int)) : Env → Option (List PyData) := fun ρ => (fe ρ).bind fun d => (asList d).bind fun ds => (fl ρ).bind fun l => (fh ρ).bind fun h => some (cutG ds l h)
theorem dn_slice {lo hi : Option Expr} {fl fh : Env → Option (Option Int)} {p2 : Pos} (hK : X.K = K := by rfl) (he : DE X K e fe) (hl : DO X K lo fl) (hh : DO X K hi fh) : DN X K (.Subscript e (.Slice lo hi none p2) pos) (fSl fe fl fh) := by
  subst hK
  refine (pe_slice sl_list he hl hh).weak fun σ H Q ⟨Z, ρ, d, s, v, ed, q⟩ => ?_
  obtain ⟨x, e1, e2⟩ := opt_bind ed
  obtain ⟨ds, e3, e4⟩ := opt_bind e2
  obtain ⟨l, e5, e6⟩ := opt_bind e4
  obtain ⟨h, e7, e8⟩ := opt_bind e6
  cases e8
  have := asList_inv e3
  subst this
  refine ⟨Z, ρ, _, s, v, e1, fun vx H1 Z1 x1 r1 => ?_⟩
  refine ⟨Z1, ρ, l, x1.sub, v.mono x1.up, e5, fun H2 Z2 x2 => ?_⟩
  refine ⟨Z2, ρ, h, x2.sub, (v.mono x1.up).mono x2.up, e7, fun H3 Z3 x3 => ?_⟩
  cases r1 with
  | @lst a xs _ ha r =>
    have hs : Same Z1 H3 := (x2.up.trans x3.up).trans x3.sub
    refine ⟨a, xs, rfl, SqL.of (hs _ _ ha), fun p hp => ?_⟩
    have x4 : Ext Z3 H3 Z3 (upd H3 p (.lst (cutV xs l h))) := Ext.free x3.sub hp
    have x13 := (x1.trans x2).trans x3
    refine q p _ _ _ (x13.trans x4) (x13.big.free hp) (x3.sub.free hp) upd_same ?_
    have r3 := r.mono (x2.up.trans x3.up)
    unfold cutV cutG
    rw [r3.length]
    exact (r3.drop _).take _
/-! list + list -/
def fCat (fa fb : DF) : Env → Option (List PyData) := fun ρ => (fa ρ).bind fun x => (asList x).bind fun xs => (fb ρ).bind fun y => (asList y).bind fun ys => if xs.length + ys.length ≤ 1000 then some (xs ++ ys) else none
theorem dn_cat (ha : DE X K a fa) (hb : DE X K b fb) : DN X K (.BinOp a .Add b pos) (fCat fa fb) := by
  refine (pe_op op_cat ha hb).weak fun σ H Q ⟨Z, ρ, d, s, v, ed, q⟩ => ?_
  obtain ⟨x, e1, e2⟩ := opt_bind ed
  obtain ⟨xs, e3, e4⟩ := opt_bind e2
  obtain ⟨y, e5, e6⟩ := opt_bind e4
  obtain ⟨ys, e7, e8⟩ := opt_bind e6
  split at e8
  · rename_i hl
    cases e8
    have := asList_inv e3
    subst this
    have := asList_inv e7
    subst this
    refine ⟨Z, ρ, _, s, v, e1, fun vx H1 Z1 x1 r1 => ?_⟩
    refine ⟨Z1, ρ, _, x1.sub, v.mono x1.up, e5, fun vy H2 Z2 x2 r2 => ?_⟩
    have r1' := r1.mono x2.up
    cases r1' with
    | lst ha ra =>
      cases r2 with
      | lst hb rb =>
        refine ⟨_, _, _, _, rfl, rfl, x2.sub _ _ ha, x2.sub _ _ hb, by rw [ra.length, rb.length]; exact le_line hl, fun p hp => ?_⟩
        exact q p _ _ _ ((x1.trans x2).trans (Ext.free x2.sub hp)) ((x1.trans x2).big.free hp) (x2.sub.free hp) upd_same (ra.append rb)
  · cases e8
end
/-! ### tests -/
def asBool : PyData → Option Bool
  | .bool b => some b
  | _ => none
theorem asBool_inv {d : PyData} {i : Bool} (h : asBool d = some i) : d = .bool i := by
  cases d <;> cases h; rfl
def fTst (f : DF) : Env → Option Bool := fun ρ => (f ρ).bind asBool
def fAnd (f g : Env → Option Bool) : Env → Option Bool := fun ρ => (f ρ).bind fun b => if b = true then g ρ else some false
def fOr (f g : Env → Option Bool) : Env → Option Bool := fun ρ => (f ρ).bind fun b => if b = true then some true else g ρ
def fNot (f : Env → Option Bool) : Env → Option Bool := fun ρ => (f ρ).map (!·)
def fB (f : Env → Option Bool) : DF := fun ρ => (f ρ).map .bool
section
variable {X : Cx} {K : PySem.W.Frag} {pos : Pos} {a b c e : Expr} {es rest : List Expr} {fa fb fc fe : DF} {ta tb : Env → Option Bool}
/-- a bool's expression as a test -/
theorem dt_val (h : DE X K e fe) (he : ∀ whole, isTrue e X.env whole = (do let v ← whole; standAt e.pos; holding [v] (truthy v)) := by intro _; rfl) : DT X K e (fTst fe) := (pt_val h he).weak fun σ H Q ⟨Z, ρ, b, s, v, ed, q⟩ => by
  obtain ⟨x, e1, e2⟩ := opt_bind ed
  have := asBool_inv e2
  subst this
  refine ⟨Z, ρ, _, s, v, e1, fun vx H1 Z1 x1 r1 => ?_⟩
  cases r1
  exact ⟨b, rfl, q H1 Z1 x1⟩
theorem dt_cmp {op : CmpOp} {r : R2} {g : G2} (ho : OpR X (compareOp op) r) (rr : RR K r g) (ha : DE X K a fa) (hb : DE X K b fb) (hm : behindInMarks op b = false) : DT X K (.Compare a [op] [b] pos) (fTst (f2 g fa fb)) :=
  (pt_cmpR ho ha hb hm).weak fun σ H Q ⟨Z, ρ, b, s, v, ed, q⟩ => by
    obtain ⟨x, e1, e2⟩ := opt_bind ed
    have := asBool_inv e2
    subst this
    refine tOp_weak rr σ H _ ⟨Z, ρ, _, s, v, e1, fun vx H1 Z1 x1 r1 => ?_⟩
    cases r1
    exact ⟨b, rfl, q H1 Z1 x1⟩
theorem dt_lt (ha : DE X K a fa) (hb : DE X K b fb) : DT X K (.Compare a [.Lt] [b] pos) (fTst (f2 gLt fa fb)) := dt_cmp op_lt rr_lt ha hb (nomark _)
theorem dt_le (ha : DE X K a fa) (hb : DE X K b fb) : DT X K (.Compare a [.LtE] [b] pos) (fTst (f2 gLe fa fb)) := dt_cmp op_le rr_le ha hb (nomark _)
theorem dt_gt (ha : DE X K a fa) (hb : DE X K b fb) : DT X K (.Compare a [.Gt] [b] pos) (fTst (f2 gGt fa fb)) := dt_cmp op_gt rr_gt ha hb (nomark _)
theorem dt_ge (ha : DE X K a fa) (hb : DE X K b fb) : DT X K (.Compare a [.GtE] [b] pos) (fTst (f2 gGe fa fb)) := dt_cmp op_ge rr_ge ha hb (nomark _)
theorem dt_eq {k : Nat} (hr : Room k X.A) (hK : X.K = K := by rfl) (ha : DE X K a fa) (hb : DE X K b fb) : DT X K (.Compare a [.Eq] [b] pos) (fTst (f2 gEq fa fb)) := by
  subst hK; exact dt_cmp (op_eqD hr.units) rr_eq ha hb (nomark _)
theorem dt_ne {k : Nat} (hr : Room k X.A) (hK : X.K = K := by rfl) (ha : DE X K a fa) (hb : DE X K b fb) : DT X K (.Compare a [.NotEq] [b] pos) (fTst (f2 gNe fa fb)) := by
  subst hK; exact dt_cmp (op_neD hr.units) rr_ne ha hb (nomark _)
/-- x in a list, x not in a list -/
def gIn : G2 := fun x y => match y with
  | .list ds => if SeqAt.shaped x && SeqAt.shaped (.list ds) then some (.bool (ds.any fun z => PyData.eqv z x)) else none
  | _ => none
theorem rr_in : RR K (rInD K) gIn := fun x y dx dy d Z H s rx ry e Q q => by
  unfold gIn at e
  split at e
  · split at e
    · rename_i h
      rw [Bool.and_eq_true] at h
      cases e
      exact ⟨dx, _, (rx.mono s).dp (shaped_lay h.1), (ry.mono s).dp (shaped_lay h.2), h.1, h.2, q _ H Z (Ext.refl s) (.bl _)⟩
    · cases e
  · cases e
theorem units65 {A : Around} {k : Nat} (hr : Room k A) : A.units + 65 < cLine := by have := hr.un; omega
theorem dt_in {k : Nat} (hr : Room k X.A) (hK : X.K = K := by rfl) (ha : DE X K a fa) (hb : DE X K b fb) (hm : behindInMarks .In b = false := by rfl) : DT X K (.Compare a [.In] [b] pos) (fTst (f2 gIn fa fb)) := by
  subst hK; exact dt_cmp (op_inD (units65 hr)) rr_in ha hb hm
/-- is None, is not None -/
def gIsN (d : PyData) : PyData := .bool (match d with | .none => true | _ => false)
def f1 (g : PyData → Option PyData) (fa : DF) : DF := fun ρ => (fa ρ).bind g
theorem rp_non {Z : Hp} {v : V} {d : PyData} (r : Rp K Z v d) : Rp K Z (.bl (decide (v = .non))) (gIsN d) := by
  cases r <;> exact .bl _
theorem dt_isN {j pos'} (ha : DE X K a fa) : DT X K (.Compare a [.Is] [.Constant .none j pos'] pos) (fTst (f1 (fun d => some (gIsN d)) fa)) := (pt_cmp (pc_isN ha)).weak fun σ H Q ⟨Z, ρ, d, s, v, ed, q⟩ => by
  obtain ⟨y, e0, e3⟩ := opt_bind ed
  obtain ⟨x, e1, e2⟩ := opt_bind e0
  cases e2
  have e3' := asBool_inv e3
  exact ⟨Z, ρ, x, s, v, e1, fun vx H1 Z1 x1 r1 => by
    have r2 := rp_non r1
    rw [e3'] at r2
    have hb : decide (vx = V.non) = d := by
      generalize decide (vx = V.non) = bb at r2
      cases r2; rfl
    exact ⟨d, by rw [hb], q H1 Z1 x1⟩⟩
/-- and, or, not as tests -/
abbrev DW (X : Cx) (K : PySem.W.Frag) (e : Expr) (f : Env → Option Bool) : Prop := PW X e (tT K f)
theorem _root_.L2.PW.weak {e : Expr} {t t' : TT} (h : PW X e t) (w : ∀ σ H Q, t' σ H Q → t σ H Q) : PW X e t' := ⟨fun wh pins s σ H Q I q => h.run wh pins s σ H Q I (w _ _ _ q)⟩
theorem dw_and1 (ha : DT X K a ta) : DW X K (.BoolOp .And [a] pos) ta := pw_and1 ha
theorem dw_or1 (ha : DT X K a ta) : DW X K (.BoolOp .Or [a] pos) ta := pw_or1 ha
theorem dw_and (ha : DT X K a ta) (hb : DW X K (.BoolOp .And (b :: rest) pos) tb) : DW X K (.BoolOp .And (a :: b :: rest) pos) (fAnd ta tb) := (pw_and ha hb).weak fun σ H Q ⟨Z, ρ, d, s, v, ed, q⟩ => by
  obtain ⟨x, e1, e2⟩ := opt_bind ed
  refine ⟨Z, ρ, x, s, v, e1, fun H1 Z1 x1 => ?_⟩
  cases x with
  | true => exact iteT ⟨Z1, ρ, d, x1.sub, v.mono x1.up, e2, fun H2 Z2 x2 => q H2 Z2 (x1.trans x2)⟩
  | false => cases e2; exact iteF (q H1 Z1 x1)
theorem dw_or (ha : DT X K a ta) (hb : DW X K (.BoolOp .Or (b :: rest) pos) tb) : DW X K (.BoolOp .Or (a :: b :: rest) pos) (fOr ta tb) := (pw_or ha hb).weak fun σ H Q ⟨Z, ρ, d, s, v, ed, q⟩ => by
  obtain ⟨x, e1, e2⟩ := opt_bind ed
  refine ⟨Z, ρ, x, s, v, e1, fun H1 Z1 x1 => ?_⟩
  cases x with
  | true => cases e2; exact iteT (q H1 Z1 x1)
  | false => exact iteF ⟨Z1, ρ, d, x1.sub, v.mono x1.up, e2, fun H2 Z2 x2 => q H2 Z2 (x1.trans x2)⟩
theorem dw_dt {e : Expr} {f : Env → Option Bool} (h : DW X K e f) : DT X K e f := h.pt
theorem dt_not (ha : DT X K a ta) : DT X K (.UnaryOp .Not a pos) (fNot ta) := (pt_not ha).weak fun σ H Q ⟨Z, ρ, d, s, v, ed, q⟩ => by
  unfold fNot at ed
  cases e1 : ta ρ with
  | none => rw [e1] at ed; cases ed
  | some x =>
    rw [e1] at ed
    cases ed
    exact ⟨Z, ρ, x, s, v, e1, fun H1 Z1 x1 => q H1 Z1 x1⟩
/-- and, or, not as values of bools -/
theorem de_one {op : BoolOp} (ha : DE X K a (fB ta)) : DE X K (.BoolOp op [a] pos) (fB ta) := pe_one ha
theorem fB_some {ta : Env → Option Bool} {ρ : Env} {d : PyData} (h : fB ta ρ = some d) : ∃ x, ta ρ = some x ∧ d = .bool x := by
  unfold fB at h
  cases e1 : ta ρ with
  | none => rw [e1] at h; cases h
  | some x => rw [e1] at h; cases h; exact ⟨x, rfl, rfl⟩
theorem de_and (ha : DE X K a (fB ta)) (hb : DE X K (.BoolOp .And (b :: rest) pos) (fB tb)) : DE X K (.BoolOp .And (a :: b :: rest) pos) (fB (fAnd ta tb)) := (pe_and ha hb).weak fun σ H Q ⟨Z, ρ, d, s, v, ed, q⟩ => by
  obtain ⟨y, e0, rfl⟩ := fB_some ed
  obtain ⟨x, e1, e2⟩ := opt_bind e0
  refine ⟨Z, ρ, .bool x, s, v, by unfold fB; rw [e1]; rfl, fun vx H1 Z1 x1 r1 => ?_⟩
  cases r1
  refine ⟨x, rfl, ?_⟩
  cases x with
  | true => exact iteT ⟨Z1, ρ, .bool y, x1.sub, v.mono x1.up, by unfold fB; rw [show tb ρ = some y by simpa using e2]; rfl, fun w H2 Z2 x2 r2 => q w H2 Z2 (x1.trans x2) r2⟩
  | false => cases e2; exact iteF (q _ H1 Z1 x1 (.bl _))
theorem de_not (ha : DE X K a (fB ta)) : DE X K (.UnaryOp .Not a pos) (fB (fNot ta)) := (pe_not ha).weak fun σ H Q ⟨Z, ρ, d, s, v, ed, q⟩ => by
  obtain ⟨y, e0, rfl⟩ := fB_some ed
  unfold fNot at e0
  cases e1 : ta ρ with
  | none => rw [e1] at e0; cases e0
  | some x =>
    rw [e1] at e0
    cases e0
    refine ⟨Z, ρ, .bool x, s, v, by unfold fB; rw [e1]; rfl, fun vx H1 Z1 x1 r1 => ?_⟩
    cases r1
    exact ⟨x, rfl, q _ H1 Z1 x1 (.bl _)⟩
/-- a value that is a bool, as fB of its test -/
theorem de_fB (h : DE X K e fe) : DE X K e (fB (fTst fe)) := PE.weak h fun σ H Q ⟨Z, ρ, d, s, v, ed, q⟩ => by
  obtain ⟨y, e0, rfl⟩ := fB_some ed
  obtain ⟨x, e1, e2⟩ := opt_bind e0
  have := asBool_inv e2
  subst this
  exact ⟨Z, ρ, _, s, v, e1, q⟩
/-- a < b < c -/
def fChain (g g' : G2) (fa fb fc : DF) : Env → Option Bool := fun ρ => (fa ρ).bind fun x => (fb ρ).bind fun y => (g x y).bind fun z => (asBool z).bind fun k => if k = true then (fc ρ).bind fun w => (g' y w).bind asBool else some false
theorem tChain_weak {r r' : R2} {g g' : G2} (rr : RR K r g) (rr' : RR K r' g') : ∀ σ H Q, tD K (fB (fChain g g' fa fb fc)) σ H Q → tChain r r' (tD K fa) (tD K fb) (tD K fc) σ H Q := fun σ H Q ⟨Z, ρ, d, s, v, ed, q⟩ => by
  obtain ⟨t, e0, rfl⟩ := fB_some ed
  obtain ⟨x, e1, e2⟩ := opt_bind e0
  obtain ⟨y, e3, e4⟩ := opt_bind e2
  obtain ⟨z, e5, e6⟩ := opt_bind e4
  obtain ⟨k, e7, e8⟩ := opt_bind e6
  have := asBool_inv e7
  subst this
  refine ⟨Z, ρ, x, s, v, e1, fun vx H1 Z1 x1 r1 => ?_⟩
  refine ⟨Z1, ρ, y, x1.sub, v.mono x1.up, e3, fun vy H2 Z2 x2 r2 => ?_⟩
  refine rr vx vy x y _ Z2 H2 x2.sub (r1.mono x2.up) r2 e5 _ fun vz H3 Z3 x3 r3 => ?_
  cases r3
  refine ⟨k, rfl, ?_⟩
  have x13 := (x1.trans x2).trans x3
  cases k with
  | true =>
    obtain ⟨w, e9, e10⟩ := opt_bind e8
    obtain ⟨u, e11, e12⟩ := opt_bind e10
    have := asBool_inv e12
    subst this
    refine iteT ⟨Z3, ρ, w, x3.sub, v.mono x13.up, e9, fun vw H4 Z4 x4 r4 => ?_⟩
    exact rr' vy vw y w _ Z4 H4 x4.sub ((r2.mono x3.up).mono x4.up) r4 e11 _ fun vu H5 Z5 x5 r5 => q vu H5 Z5 ((x13.trans x4).trans x5) r5
  | false =>
    cases e8
    exact iteF (q _ H3 Z3 x13 (.bl _))
theorem de_chain {op op' : CmpOp} {r r' : R2} {g g' : G2} (ho : OpR X (compareOp op) r) (ho' : OpR X (compareOp op') r') (rr : RR K r g) (rr' : RR K r' g') (ha : DE X K a fa) (hb : DE X K b fb) (hc : DE X K c fc)
    (hm : lastMarks [op, op'] [b, c] = false := by with_unfolding_all rfl) : DE X K (.Compare a [op, op'] [b, c] pos) (fB (fChain g g' fa fb fc)) := (pe_chain ho ho' ha hb hc hm).weak (tChain_weak rr rr')
theorem dt_chain {op op' : CmpOp} {r r' : R2} {g g' : G2} (ho : OpR X (compareOp op) r) (ho' : OpR X (compareOp op') r') (rr : RR K r g) (rr' : RR K r' g') (ha : DE X K a fa) (hb : DE X K b fb) (hc : DE X K c fc)
    (hm : lastMarks [op, op'] [b, c] = false := by with_unfolding_all rfl) : DT X K (.Compare a [op, op'] [b, c] pos) (fChain g g' fa fb fc) := (pt_chain ho ho' ha hb hc hm).weak fun σ H Q ⟨Z, ρ, b, s, v, ed, q⟩ =>
  tChain_weak rr rr' σ H _ ⟨Z, ρ, .bool b, s, v, by unfold fB; rw [ed]; rfl, fun vx H1 Z1 x1 r1 => by cases r1; exact ⟨b, rfl, q H1 Z1 x1⟩⟩
end
end DL
/-! part DL3 -/
namespace DL
open PySem PySem.Spec PyProof.Rows L2
/-! ### calls of built-ins -/
def RC (K : PySem.W.Frag) (r : List V → Hp → VK → Prop) (g : List PyData → Option PyData) : Prop := ∀ (xs : List V) (ds : List PyData) (d : PyData) (Z H : Hp), Same Z H → RpAll K Z xs ds → g ds = some d →
  ∀ Q : VK, (∀ v H' Z', Ext Z H Z' H' → Rp K Z' v d → Q v H') → r xs H Q
/-- a new list -/
def RN (K : PySem.W.Frag) (r : List V → Hp → VK → Prop) (g : List PyData → Option (List PyData)) : Prop := ∀ (xs : List V) (ds es : List PyData) (Z H : Hp), Same Z H → RpAll K Z xs ds → g ds = some es →
  ∀ Q : VK, (∀ p vs H' Z', Ext Z H Z' H' → H p = none → Z' p = none → H' p = some (.lst vs) → RpAll K Z' vs es → Q (.ref p) H') → r xs H Q
def fCall (g : List PyData → Option PyData) (fs : Env → Option (List PyData)) : DF := fun ρ => (fs ρ).bind g
def fCallN (g : List PyData → Option (List PyData)) (fs : Env → Option (List PyData)) : Env → Option (List PyData) := fun ρ => (fs ρ).bind g
section
variable {X : Cx} {K : PySem.W.Frag} {pos p : Pos} {a b c e : Expr} {es : List Expr} {fa fb fc fe : DF} {fs : Env → Option (List PyData)} {x : Str}
theorem tCB_weak {r : List V → Hp → VK → Prop} {g : List PyData → Option PyData} (rc : RC K r g) : ∀ σ H Q, tD K (fCall g fs) σ H Q → tCB r (tA K fs) σ H Q := fun σ H Q ⟨Z, ρ, d, s, v, ed, q⟩ => by
  obtain ⟨ds, e1, e2⟩ := opt_bind ed
  exact ⟨Z, ρ, ds, s, v, e1, fun vs H1 Z1 x1 r1 => rc vs ds d Z1 H1 x1.sub r1 e2 Q fun w H2 Z2 x2 r2 => q w H2 Z2 (x1.trans x2) r2⟩
theorem tCB_weakN {r : List V → Hp → VK → Prop} {g : List PyData → Option (List PyData)} (rc : RN K r g) : ∀ σ H Q, tN K (fCallN g fs) σ H Q → tCB r (tA K fs) σ H Q := fun σ H Q ⟨Z, ρ, d, s, v, ed, q⟩ => by
  obtain ⟨ds, e1, e2⟩ := opt_bind ed
  exact ⟨Z, ρ, ds, s, v, e1, fun vs H1 Z1 x1 r1 => rc vs ds d Z1 H1 x1.sub r1 e2 Q fun w us H2 Z2 x2 n1 n2 l r2 => q w us H2 Z2 (x1.trans x2) (x1.big.free n1) n2 l r2⟩
theorem de_callB {id : String} {r : List V → Hp → VK → Prop} {g : List PyData → Option PyData} (hc : CallR X (.builtin id) r) (rc : RC K r g) (hg : Gl X x) (hm : X.mg x = none) (hv : bootBuiltins x = some (.builtin id)) (ha : DA X K (e :: es) fs)
    (hn : x ≠ "__name__" := by decide) (hdb : (x == ("__debug__" : Str)) = false := by decide)
    (he : starEach (e :: es) X.env = (false, eval e X.env) :: starEach es X.env := by rfl) (hpl : (backTo pos (starEach es X.env)).any (·.1) = false := by rfl) : DE X K (.Call (.Name x p) (e :: es) [] pos) (fCall g fs) :=
  (pe_callB hc hg hm hv ha hn hdb he hpl).weak (tCB_weak rc)
theorem de_callTy {T : String} {r : List V → Hp → VK → Prop} {g : List PyData → Option PyData} (hc : CallR X (.type T) r) (rc : RC K r g) (hg : Gl X x) (hm : X.mg x = none) (hv : bootBuiltins x = some (.type T)) (ha : DA X K (e :: es) fs)
    (hn : x ≠ "__name__" := by decide) (hdb : (x == ("__debug__" : Str)) = false := by decide)
    (he : starEach (e :: es) X.env = (false, eval e X.env) :: starEach es X.env := by rfl) (hpl : (backTo pos (starEach es X.env)).any (·.1) = false := by rfl) : DE X K (.Call (.Name x p) (e :: es) [] pos) (fCall g fs) :=
  (pe_callTy hc hg hm hv ha hn hdb he hpl).weak (tCB_weak rc)
theorem dn_callTy {T : String} {r : List V → Hp → VK → Prop} {g : List PyData → Option (List PyData)} (hc : CallR X (.type T) r) (rc : RN K r g) (hg : Gl X x) (hm : X.mg x = none) (hv : bootBuiltins x = some (.type T)) (ha : DA X K (e :: es) fs)
    (hn : x ≠ "__name__" := by decide) (hdb : (x == ("__debug__" : Str)) = false := by decide)
    (he : starEach (e :: es) X.env = (false, eval e X.env) :: starEach es X.env := by rfl) (hpl : (backTo pos (starEach es X.env)).any (·.1) = false := by rfl) : DN X K (.Call (.Name x p) (e :: es) [] pos) (fCallN g fs) :=
  (pe_callTy hc hg hm hv ha hn hdb he hpl).weak (tCB_weakN rc)
/-! len, abs, max, min, sum, int, list, all -/
def gLen : List PyData → Option PyData
  | [.list ds] => some (.int ds.length)
  | [.tuple ds] => some (.int ds.length)
  | [.dict ds] => if isScr ds then some (.int ds.length) else none
  | _ => none
theorem rc_len : RC K (fun xs H Q => ∃ p ys, xs = [.ref p] ∧ (SqL K H p ys ∨ SqT K H p ys) ∧ Q (.int ys.length) H) gLen := fun xs ds d Z H s r e Q q => by
  unfold gLen at e
  split at e
  · cases e
    cases r with
    | cons h t =>
      cases t
      cases h with
      | lst ha ra => exact ⟨_, _, rfl, .inl (SqL.of (s _ _ ha)), q _ H Z (Ext.refl s) (by rw [ra.length]; exact .int _)⟩
  · cases e
    cases r with
    | cons h t =>
      cases t
      cases h with
      | tup ha ra => exact ⟨_, _, rfl, .inr (SqT.of (s _ _ ha)), q _ H Z (Ext.refl s) (by rw [ra.length]; exact .int _)⟩
  · split at e
    · rename_i hsc
      cases e
      cases r with
      | cons h t =>
        cases t
        obtain ⟨a, ns, rfl, rfl, ha⟩ := scr_of h hsc
        exact ⟨_, _, rfl, .inl (s.seq ha), q _ H Z (Ext.refl s) (by rw [List.length_map, List.length_map]; exact .int _)⟩
    · cases e
  · cases e
theorem de_len (hm : X.mg "len" = none) (hK : X.K = K := by rfl) (hg : Gl X "len" := by rfl) (ha : DA X K [e] fs) (he : starEach [e] X.env = (false, eval e X.env) :: starEach [] X.env := by rfl) : DE X K (.Call (.Name "len" p) [e] [] pos) (fCall gLen fs) := by
  subst hK; exact de_callB call_len_seq rc_len hg hm PySem.boot_len ha (by decide) (by decide) he rfl
def gAbs : List PyData → Option PyData
  | [.int i] => some (.int (if i < 0 then -i else i))
  | _ => none
theorem rc_abs : RC K (fun xs H Q => ∃ i, xs = [.int i] ∧ Q (.int (if i < 0 then -i else i)) H) gAbs := fun xs ds d Z H s r e Q q => by
  unfold gAbs at e
  split at e
  · cases e
    cases r with
    | cons h t => cases t; cases h; exact ⟨_, rfl, q _ H Z (Ext.refl s) (.int _)⟩
  · cases e
theorem de_abs (hm : X.mg "abs" = none) (hg : Gl X "abs" := by rfl) (ha : DA X K [e] fs) (he : starEach [e] X.env = (false, eval e X.env) :: starEach [] X.env := by rfl) : DE X K (.Call (.Name "abs" p) [e] [] pos) (fCall gAbs fs) :=
  de_callB call_abs rc_abs hg hm (by decide +kernel) ha (by decide) (by decide) he rfl
def gMax2 : List PyData → Option PyData
  | [.int i, .int j] => some (.int (if j > i then j else i))
  | _ => none
def gMin2 : List PyData → Option PyData
  | [.int i, .int j] => some (.int (if j < i then j else i))
  | _ => none
theorem rc_max2 : RC K (fun xs H Q => ∃ i j, xs = [.int i, .int j] ∧ Q (.int (if j > i then j else i)) H) gMax2 := fun xs ds d Z H s r e Q q => by
  unfold gMax2 at e
  split at e
  · cases e
    cases r with
    | cons h t =>
      cases t with
      | cons h' t' => cases t'; cases h; cases h'; exact ⟨_, _, rfl, q _ H Z (Ext.refl s) (.int _)⟩
  · cases e
theorem rc_min2 : RC K (fun xs H Q => ∃ i j, xs = [.int i, .int j] ∧ Q (.int (if j < i then j else i)) H) gMin2 := fun xs ds d Z H s r e Q q => by
  unfold gMin2 at e
  split at e
  · cases e
    cases r with
    | cons h t =>
      cases t with
      | cons h' t' => cases t'; cases h; cases h'; exact ⟨_, _, rfl, q _ H Z (Ext.refl s) (.int _)⟩
  · cases e
theorem de_max2 (hm : X.mg "max" = none) (hg : Gl X "max" := by rfl) (hc : X.calm = true := by rfl) (ha : DA X K [e, a] fs) (he : starEach [e, a] X.env = (false, eval e X.env) :: starEach [a] X.env := by rfl) (hpl : (backTo pos (starEach [a] X.env)).any (·.1) = false := by rfl) : DE X K (.Call (.Name "max" p) [e, a] [] pos) (fCall gMax2 fs) :=
  de_callB (call_max2 hc) rc_max2 hg hm (by decide +kernel) ha (by decide) (by decide) he hpl
theorem de_min2 (hm : X.mg "min" = none) (hg : Gl X "min" := by rfl) (hc : X.calm = true := by rfl) (ha : DA X K [e, a] fs) (he : starEach [e, a] X.env = (false, eval e X.env) :: starEach [a] X.env := by rfl) (hpl : (backTo pos (starEach [a] X.env)).any (·.1) = false := by rfl) : DE X K (.Call (.Name "min" p) [e, a] [] pos) (fCall gMin2 fs) :=
  de_callB (call_min2 hc) rc_min2 hg hm (by decide +kernel) ha (by decide) (by decide) he hpl
/-- the ints of a list -/
def intsOf : List PyData → Option (List Int)
  | [] => some []
  | .int i :: ds => (intsOf ds).map (i :: ·)
  | _ => none
theorem intsOf_inv : ∀ {ds : List PyData} {ns : List Int}, intsOf ds = some ns → ds = ns.map .int
  | [], ns, h => by cases h; rfl
  | .int i :: ds, ns, h => by
    unfold intsOf at h
    cases e : intsOf ds with
    | none => rw [e] at h; cases h
    | some ms => rw [e] at h; cases h; rw [intsOf_inv e]; rfl
  | .none :: _, _, h => by cases h
  | .bool _ :: _, _, h => by cases h
  | .str _ :: _, _, h => by cases h
  | .list _ :: _, _, h => by cases h
  | .tuple _ :: _, _, h => by cases h
  | .dict _ :: _, _, h => by cases h
theorem intsOf_map : ∀ (ns : List Int), intsOf (ns.map .int) = some ns
  | [] => rfl
  | n :: ns => by unfold intsOf; rw [List.map_cons]; show (intsOf (ns.map .int)).map (n :: ·) = _; rw [intsOf_map ns]; rfl
def gSum : List PyData → Option PyData
  | [.list ds] => (intsOf ds).map fun ns => .int ns.sum
  | _ => none
theorem rc_sum : RC K (rSum K) gSum := fun xs ds d Z H s r e Q q => by
  unfold gSum at e
  split at e
  · rename_i ds
    cases e1 : intsOf ds with
    | none => rw [e1] at e; cases e
    | some ns =>
      rw [e1] at e
      cases e
      have := intsOf_inv e1
      subst this
      cases r with
      | cons h t =>
        cases t
        cases h with
        | lst ha ra =>
          have := ra.ints
          subst this
          exact ⟨_, ns, rfl, SqL.of (s _ _ ha), q _ H Z (Ext.refl s) (.int _)⟩
  · cases e
theorem de_sum (hm : X.mg "sum" = none) (hK : X.K = K := by rfl) (hc : X.calm = true := by rfl) (hg : Gl X "sum" := by rfl) (ha : DA X K [e] fs) (he : starEach [e] X.env = (false, eval e X.env) :: starEach [] X.env := by rfl) : DE X K (.Call (.Name "sum" p) [e] [] pos) (fCall gSum fs) := by
  subst hK; exact de_callB (cr_sum hc) rc_sum hg hm (by decide +kernel) ha (by decide) (by decide) he rfl
def gInt : List PyData → Option PyData
  | [.int i] => some (.int i)
  | [.bool b] => some (.int (if b then 1 else 0))
  | _ => none
theorem rc_int : RC K (fun xs H Q => (∃ i, xs = [.int i] ∧ Q (.int i) H) ∨ ∃ k, xs = [.bl k] ∧ Q (.int (if k then 1 else 0)) H) gInt := fun xs ds d Z H s r e Q q => by
  unfold gInt at e
  split at e
  · cases e
    cases r with
    | cons h t => cases t; cases h; exact .inl ⟨_, rfl, q _ H Z (Ext.refl s) (.int _)⟩
  · cases e
    cases r with
    | cons h t => cases t; cases h; exact .inr ⟨_, rfl, q _ H Z (Ext.refl s) (.int _)⟩
  · cases e
theorem de_intC (hm : X.mg "int" = none) (hg : Gl X "int" := by rfl) (ha : DA X K [e] fs) (he : starEach [e] X.env = (false, eval e X.env) :: starEach [] X.env := by rfl) : DE X K (.Call (.Name "int" p) [e] [] pos) (fCall gInt fs) :=
  de_callTy call_int1 rc_int hg hm (by decide +kernel) ha (by decide) (by decide) he rfl
/-- list(x) -/
def gListC : List PyData → Option (List PyData)
  | [.list ds] => some ds
  | [.tuple ds] => some ds
  | _ => none
theorem rn_list : RN K (fun xs H Q => ∃ p ys, xs = [.ref p] ∧ (SqL K H p ys ∨ SqT K H p ys) ∧ ∀ l, H l = none → Q (.ref l) (upd H l (.lst ys))) gListC := fun xs ds es Z H s r e Q q => by
  unfold gListC at e
  split at e
  · cases e
    cases r with
    | cons h t =>
      cases t
      cases h with
      | lst ha ra => exact ⟨_, _, rfl, .inl (SqL.of (s _ _ ha)), fun l hl => q l _ _ Z (Ext.free s hl) hl (s.free hl) upd_same ra⟩
  · cases e
    cases r with
    | cons h t =>
      cases t
      cases h with
      | tup ha ra => exact ⟨_, _, rfl, .inr (SqT.of (s _ _ ha)), fun l hl => q l _ _ Z (Ext.free s hl) hl (s.free hl) upd_same ra⟩
  · cases e
theorem dn_listC (hm : X.mg "list" = none) (hK : X.K = K := by rfl) (hg : Gl X "list" := by rfl) (ha : DA X K [e] fs) (he : starEach [e] X.env = (false, eval e X.env) :: starEach [] X.env := by rfl) : DN X K (.Call (.Name "list" p) [e] [] pos) (fCallN gListC fs) := by
  subst hK; exact dn_callTy call_list_of rn_list hg hm (by decide +kernel) ha (by decide) (by decide) he rfl
/-! isinstance of a built-in type -/
def tyN : PyData → String
  | .none => "NoneType"
  | .bool _ => "bool"
  | .int _ => "int"
  | .str _ => "str"
  | .list _ => "list"
  | .tuple _ => "tuple"
  | .dict _ => "list"
def fIsi (T : String) (fe : DF) : DF := fun ρ => (fe ρ).bind fun d => (kitB (tyN d) T).map .bool
theorem tyx_of {Z H : Hp} (s : Same Z H) {v : V} {d : PyData} (r : Rp K Z v d) (hd : ∀ kvs, d ≠ .dict kvs) : TyX K H v (.type (tyN d)) := by
  cases r with
  | non => exact .base .non
  | bl b => exact .base (.bl b)
  | int b => exact .base (.int b)
  | str b => exact .base (.str b)
  | lst h _ => exact .base (.lst (s _ _ h))
  | tup h _ => exact .base (.tup (s _ _ h))
  | scr h => exact absurd rfl (hd _)
  | dct h _ => exact absurd rfl (hd _)
  | kdt h _ _ => exact absurd rfl (hd _)
def notScr : PyData → Bool
  | .dict _ => false
  | _ => true
def fIsi' (T : String) (fe : DF) : DF := fun ρ => (fe ρ).bind fun d => if notScr d then (kitB (tyN d) T).map .bool else none
theorem de_isi {T : String} {n : Str} {p2 : Pos} (hm : X.mg "isinstance" = none) (hm2 : X.mg n = none) (hK : X.K = K := by rfl) (hg : Gl X "isinstance" := by rfl) (hg2 : Gl X n := by rfl) (hv : bootBuiltins n = some (.type T) := by decide +kernel)
    (ha : DE X K e fe) (hn : n ≠ "__name__" := by decide) (hd : (n == ("__debug__" : Str)) = false := by decide)
    (he : starEach [e, .Name n p2] X.env = (false, eval e X.env) :: starEach [.Name n p2] X.env := by rfl) (he2 : starEach [.Name n p2] X.env = (false, eval (.Name n p2) X.env) :: starEach [] X.env := by rfl)
    (hpl : (backTo pos (starEach [.Name n p2] X.env)).any (·.1) = false := by rfl) : DE X K (.Call (.Name "isinstance" p) [e, .Name n p2] [] pos) (fIsi' T fe) := by
  subst hK
  refine (pe_callB call_isi hg hm (by decide +kernel) (pa_cons ha (pa_cons (pe_bltn (v := .ty T) hg2 hm2 hv rfl hn hd) pa_nil he2) he) (by decide) (by decide) he hpl).weak fun σ H Q ⟨Z, ρ, d, s, v, ed, q⟩ => ?_
  obtain ⟨x, e1, e2⟩ := opt_bind ed
  split at e2
  · rename_i hns
    cases e3 : kitB (tyN x) T with
    | none => rw [e3] at e2; cases e2
    | some b =>
      rw [e3] at e2
      cases e2
      refine ⟨Z, ρ, x, s, v, e1, fun vx H1 Z1 x1 r1 => ?_⟩
      refine ⟨vx, .ty T, _, _, b, rfl, .ty T, tyx_of x1.sub r1 (fun kvs z => by rw [z] at hns; cases hns), kit_ty e3, q _ H1 Z1 x1 (.bl b)⟩
  · cases e2
end
/-! ### a def's promise on data -/
/-- from the arguments' data to the answer's -/
def spD (K : PySem.W.Frag) (n : Nat) (G : List PyData → Option PyData) : Sp := fun vs H Q _ => vs.length = n ∧ ∃ Z ds d, Same Z H ∧ RpAll K Z vs ds ∧ G ds = some d ∧ ∀ v H' Z', Ext Z H Z' H' → Rp K Z' v d → Q v H'
/-- a new list, not settled -/
def spN (K : PySem.W.Frag) (n : Nat) (G : List PyData → Option (List PyData)) : Sp := fun vs H Q _ => vs.length = n ∧ ∃ Z ds es, Same Z H ∧ RpAll K Z vs ds ∧ G ds = some es ∧
  ∀ p us H' Z', Ext Z H Z' H' → H p = none → Z' p = none → H' p = some (.lst us) → RpAll K Z' us es → Q (.ref p) H'
section
variable {P : Program} {w : World} {K : PySem.W.Frag} {mg : Str → Option Value} {base : Heap}
theorem settle {Z H Z' H' : Hp} {p : Addr} {vs : List V} (x : Ext Z H Z' H') (hp : H p = none) (zp : Z' p = none) (hl : H' p = some (.lst vs)) : Ext Z H (upd Z' p (.lst vs)) H' ∧ Same Z' (upd Z' p (.lst vs)) := by
  have sz : Same Z' (upd Z' p (.lst vs)) := same_upd zp
  refine ⟨⟨x.big, x.up.trans sz, fun b o eb => ?_, fun b hb hn => ?_⟩, sz⟩
  · by_cases hbp : b = p
    · subst hbp; rw [upd_same] at eb; cases eb; exact hl
    · rw [upd_ne hbp] at eb; exact x.sub _ _ eb
  · by_cases hbp : b = p
    · subst hbp; exact hp
    · rw [upd_ne hbp] at hn; exact x.new b hb hn
end
section
variable {X : Cx} {K : PySem.W.Frag} {pos p : Pos} {e : Expr} {es : List Expr} {fs : Env → Option (List PyData)} {x : Str} {k n : Nat} {f : Addr} {fd : FuncData} {ps : List Str}
def fCallF (n : Nat) (G : List PyData → Option PyData) (fs : Env → Option (List PyData)) : DF := fun ρ => (fs ρ).bind fun ds => if ds.length = n then G ds else none
def fCallFN (n : Nat) (G : List PyData → Option (List PyData)) (fs : Env → Option (List PyData)) : Env → Option (List PyData) := fun ρ => (fs ρ).bind fun ds => if ds.length = n then G ds else none
theorem de_call {G : List PyData → Option PyData} (F : FnOk X.prog X.w X.K X.mg X.base CX0 k f fd ps (spD K n G)) (hr : Room k X.A) (hm : X.mg x = some (.ref f)) (hk : PySem.W.keepIn X.K (.ref f) = true) (hb : Binds X.K fd ps [])
    (ha : DA X K (e :: es) fs) (hg : Gl X x := by rfl) (hdb : (x == ("__debug__" : Str)) = false := by decide) (he : starEach (e :: es) X.env = (false, eval e X.env) :: starEach es X.env := by rfl) (hpl : (backTo pos (starEach es X.env)).any (·.1) = false := by rfl) :
    DE X K (.Call (.Name x p) (e :: es) [] pos) (fCallF n G fs) := (pe_call F hr hg hm hk hb .nil pass0 ha hdb he hpl).weak fun σ H Q ⟨Z, ρ, d, s, v, ed, q⟩ => by
  obtain ⟨ds, e1, e2⟩ := opt_bind ed
  split at e2
  · rename_i hl
    refine ⟨Z, ρ, ds, s, v, e1, fun vs H1 Z1 x1 r1 => ?_⟩
    show spD K n G (vs ++ []) H1 Q E0
    rw [List.append_nil]
    exact ⟨r1.length.trans hl, Z1, ds, d, x1.sub, r1, e2, fun w H2 Z2 x2 r2 => q w H2 Z2 (x1.trans x2) r2⟩
  · cases e2
theorem dn_call {G : List PyData → Option (List PyData)} (F : FnOk X.prog X.w X.K X.mg X.base CX0 k f fd ps (spN K n G)) (hr : Room k X.A) (hm : X.mg x = some (.ref f)) (hk : PySem.W.keepIn X.K (.ref f) = true) (hb : Binds X.K fd ps [])
    (ha : DA X K (e :: es) fs) (hg : Gl X x := by rfl) (hdb : (x == ("__debug__" : Str)) = false := by decide) (he : starEach (e :: es) X.env = (false, eval e X.env) :: starEach es X.env := by rfl) (hpl : (backTo pos (starEach es X.env)).any (·.1) = false := by rfl) :
    DN X K (.Call (.Name x p) (e :: es) [] pos) (fCallFN n G fs) := (pe_call F hr hg hm hk hb .nil pass0 ha hdb he hpl).weak fun σ H Q ⟨Z, ρ, d, s, v, ed, q⟩ => by
  obtain ⟨ds, e1, e2⟩ := opt_bind ed
  split at e2
  · rename_i hl
    refine ⟨Z, ρ, ds, s, v, e1, fun vs H1 Z1 x1 r1 => ?_⟩
    show spN K n G (vs ++ []) H1 Q E0
    rw [List.append_nil]
    exact ⟨r1.length.trans hl, Z1, ds, d, x1.sub, r1, e2, fun p us H2 Z2 x2 hp zp hl2 r2 => q p us H2 Z2 (x1.trans x2) (x1.big.free hp) zp hl2 r2⟩
  · cases e2
end
end DL
/-! part DL4 -/
namespace DL
open PySem PySem.Spec PyProof.Rows L2
/-! ### targets -/
abbrev Asg := List (Nat × PyData)
def setE (ρ : Env) : Asg → Env
  | [] => ρ
  | p :: a => setE (ρ.set p.1 (some p.2)) a
def setV (σ : L2.St) : List (Nat × V) → L2.St
  | [] => σ
  | p :: a => setV (σ.set p.1 (some p.2)) a
abbrev TgF := PyData → Option Asg
inductive Prs (K : PySem.W.Frag) (Z : Hp) : List (Nat × V) → Asg → Prop
  | nil : Prs K Z [] []
  | cons {i : Nat} {v : V} {d : PyData} {ps : List (Nat × V)} {as : Asg} : Rp K Z v d → Prs K Z ps as → Prs K Z ((i, v) :: ps) ((i, d) :: as)
section
variable {K : PySem.W.Frag} {Z Z' H : Hp}
theorem Prs.mono (s : Same Z Z') : ∀ {ps : List (Nat × V)} {as : Asg}, Prs K Z ps as → Prs K Z' ps as
  | _, _, .nil => .nil
  | _, _, .cons r t => .cons (r.mono s) (Prs.mono s t)
theorem View.set {σ : L2.St} {ρ : Env} (w : View K Z σ ρ) {i : Nat} {v : V} {d : PyData} (r : Rp K Z v d) : View K Z (σ.set i (some v)) (ρ.set i (some d)) := by
  refine ⟨by rw [List.length_set, List.length_set]; exact w.len, fun j e h => ?_⟩
  by_cases hj : i = j
  · subst hj
    by_cases hl : i < ρ.length
    · rw [List.getElem?_set_self hl] at h
      cases h
      exact ⟨v, List.getElem?_set_self (Nat.lt_of_lt_of_le hl w.len), r⟩
    · rw [List.getElem?_eq_none (by rw [List.length_set]; omega)] at h; cases h
  · rw [List.getElem?_set_ne hj] at h ⊢
    exact w.get j e h
theorem View.sets {ps : List (Nat × V)} {as : Asg} {σ : L2.St} {ρ : Env} (w : View K Z σ ρ) (h : Prs K Z ps as) : View K Z (setV σ ps) (setE ρ as) := by
  induction h generalizing σ ρ with
  | nil => exact w
  | cons r t ih => exact ih (w.set r)
theorem Prs.slots : ∀ {ps : List (Nat × V)} {as : Asg}, Prs K Z ps as → ps.map (·.1) = as.map (·.1)
  | _, _, .nil => rfl
  | _, _, .cons _ t => by rw [List.map_cons, List.map_cons, Prs.slots t]
end
def tgN (j : Nat) : TgF := fun d => some [(j, d)]
def tgT (js : List Nat) : TgF := fun d => match d with
  | .tuple ds => if ds.length = js.length then some (js.zip ds) else none
  | _ => none
def tgU (js : List Nat) : TgF := fun d => match d with
  | .list ds => if ds.length = js.length then some (js.zip ds) else none
  | _ => none
def gD (K : PySem.W.Frag) (tg : TgF) : TG := fun v σ H Q => ∃ Z d asg, Same Z H ∧ Rp K Z v d ∧ tg d = some asg ∧ ∀ ps, Prs K Z ps asg → Q (setV σ ps) H
def gDs (js : List Nat) : TGs := fun vs σ H Q => vs.length = js.length ∧ Q (setV σ (js.zip vs)) H
theorem _root_.L2.PG.weak {X : Cx} {e : Expr} {t t' : TG} (h : PG X e t) (w : ∀ v σ H Q, t' v σ H Q → t v σ H Q) : PG X e t' := ⟨fun pins s σ H v u Q I r q => h.run pins s σ H v u Q I r (w _ _ _ _ q)⟩
theorem _root_.L2.PGs.weak {X : Cx} {e : List Expr} {t t' : TGs} (h : PGs X e t) (w : ∀ v σ H Q, t' v σ H Q → t v σ H Q) : PGs X e t' := ⟨fun pins s σ H v u Q I r q => h.run pins s σ H v u Q I r (w _ _ _ _ q)⟩
theorem _root_.L2.PI.weak {X : Cx} {tg e : Expr} {t t' : TI} (h : PI X tg e t) (w : ∀ σ H R, t' σ H R → t σ H R) : PI X tg e t' := ⟨fun pins s σ H R I q => h.run pins s σ H R I (w _ _ _ q)⟩
abbrev DG (X : Cx) (K : PySem.W.Frag) (e : Expr) (tg : TgF) : Prop := PG X e (gD K tg)
theorem prs_zip {K : PySem.W.Frag} {Z : Hp} : ∀ {vs : List V} {ds : List PyData} (js : List Nat), RpAll K Z vs ds → Prs K Z (js.zip vs) (js.zip ds)
  | _, _, [], _ => by rw [List.zip_nil_left, List.zip_nil_left]; exact .nil
  | _, _, _ :: _, .nil => by rw [List.zip_nil_right, List.zip_nil_right]; exact .nil
  | _, _, j :: js, .cons r t => .cons r (prs_zip js t)
section
variable {X : Cx} {K : PySem.W.Frag} {pos : Pos} {e : Expr} {es : List Expr}
theorem dg_name {i : Nat} {x : Str} (hN : X.N.Nodup) (hi : X.N[i]? = some x := by rfl) (hx : Loc X.env.scope x := by first | exact Or.inl rfl | exact Or.inr rfl) (hf : X.fn x = true ∨ X.env.scope.names.lookup x = some .local := by first | exact .inl rfl | exact .inr rfl) : DG X K (.Name x pos) (tgN i) :=
  (pg_name hN hi hx hf).weak fun v σ H Q ⟨Z, d, asg, s, r, e, q⟩ => by
    cases e
    exact q [(i, v)] (.cons r .nil)
theorem dgs_nil : PGs X [] (gDs []) := pgs_nil.weak fun v σ H Q ⟨h, q⟩ => ⟨List.length_eq_zero_iff.mp h, q⟩
theorem dgs_cons {i : Nat} {x : Str} {js : List Nat} (hN : X.N.Nodup) (h2 : PGs X es (gDs js)) (hi : X.N[i]? = some x := by rfl) (hx : Loc X.env.scope x := by first | exact Or.inl rfl | exact Or.inr rfl) (hf : X.fn x = true ∨ X.env.scope.names.lookup x = some .local := by first | exact .inl rfl | exact .inr rfl)
    (hs : (assignEach (.Name x pos :: es) X.env).map (·.2) = assign (.Name x pos) X.env :: (assignEach es X.env).map (·.2) := by rfl) : PGs X (.Name x pos :: es) (gDs (i :: js)) :=
  (pgs_cons (pg_name hN hi hx hf) h2 hs).weak fun vs σ H Q ⟨h, q⟩ => by
    cases vs with
    | nil => cases h
    | cons v r => exact ⟨v, r, rfl, by simpa using h, q⟩
theorem dg_tup {js : List Nat} {k n : Nat} (hK : X.K = K := by rfl) (hc : X.calm = true := by rfl) (h : PGs X es (gDs js)) (hj : js.length = n := by rfl)
    (hn : (assignEach es X.env).length = n := by rfl) (hst : (assignEach es X.env).findIdx? (·.1) = none := by rfl) : DG X K (.Tuple es k pos) (tgT js) := by
  subst hK
  refine (pg_tup hc h hn hst).weak fun v σ H Q ⟨Z, d, asg, s, r, e, q⟩ => ?_
  unfold tgT at e
  split at e
  · split at e
    · rename_i ds hl
      cases e
      cases r with
      | tup ha ra =>
        have hl2 := ra.length
        exact ⟨_, _, rfl, SqT.of (s _ _ ha), by omega, by omega, q _ (prs_zip js ra)⟩
    · cases e
  · cases e
theorem dg_unl {js : List Nat} {k n : Nat} (hK : X.K = K := by rfl) (hc : X.calm = true := by rfl) (h : PGs X es (gDs js)) (hj : js.length = n := by rfl)
    (hn : (assignEach es X.env).length = n := by rfl) (hst : (assignEach es X.env).findIdx? (·.1) = none := by rfl) : DG X K (.Tuple es k pos) (tgU js) := by
  subst hK
  refine (pg_unl hc h hn hst).weak fun v σ H Q ⟨Z, d, asg, s, r, e, q⟩ => ?_
  unfold tgU at e
  split at e
  · split at e
    · rename_i ds hl
      cases e
      cases r with
      | lst ha ra =>
        have hl2 := ra.length
        exact ⟨_, _, rfl, SqL.of (s _ _ ha), by omega, by omega, q _ (prs_zip js ra)⟩
    · cases e
  · cases e
end
/-! ### what is walked -/
structure Walks (K : PySem.W.Frag) (Z : Hp) (J : It) (ds : List PyData) : Prop where
  go : ∀ i H d, Same Z H → ds[i]? = some d → J.go i H
  yld : ∀ i H d x H2, Same Z H → ds[i]? = some d → J.yld i H x H2 → H2 = H ∧ Rp K Z x d
  stop : ∀ i H, Same Z H → ds.length ≤ i → J.stop i H
def tI (K : PySem.W.Frag) (fi : Env → Option (List PyData)) : TI := fun σ H R => ∃ Z ρ ds, Same Z H ∧ View K Z σ ρ ∧ fi ρ = some ds ∧ ∀ J H' Z', Ext Z H Z' H' → Walks K Z' J ds → R J H'
abbrev DI (X : Cx) (K : PySem.W.Frag) (tg iter : Expr) (fi : Env → Option (List PyData)) : Prop := PI X tg iter (tI K fi)
def asTup : PyData → Option (List PyData)
  | .tuple ds => some ds
  | _ => none
theorem asTup_inv {d : PyData} {ds : List PyData} (h : asTup d = some ds) : d = .tuple ds := by
  cases d <;> cases h; rfl
def fIL (fe : DF) : Env → Option (List PyData) := fun ρ => (fe ρ).bind asList
def fIT (fe : DF) : Env → Option (List PyData) := fun ρ => (fe ρ).bind asTup
def rngD (lo : Int) (n : Nat) : List PyData := (List.range n).map fun i => .int (lo + (i : Nat))
def rng1 : List PyData → Option (List PyData)
  | [.int j] => if j < 2 ^ 62 ∧ -(2 ^ 62) ≤ j then some (rngD 0 j.toNat) else none
  | _ => none
def rng2 : List PyData → Option (List PyData)
  | [.int i, .int j] => if (i < 2 ^ 62 ∧ -(2 ^ 62) ≤ i) ∧ (j < 2 ^ 62 ∧ -(2 ^ 62) ≤ j) then some (rngD i (j - i).toNat) else none
  | _ => none
def fIR (g : List PyData → Option (List PyData)) (fs : Env → Option (List PyData)) : Env → Option (List PyData) := fun ρ => (fs ρ).bind g
theorem walks_list {K : PySem.W.Frag} {Z : Hp} {a : Addr} {xs : List V} {ds : List PyData} (h : Z a = some (.lst xs)) (r : RpAll K Z xs ds) : Walks K Z (Itl K a) ds where
  go := fun i H d s e => by
    obtain ⟨v, hv, _⟩ := r.get e
    exact ⟨xs, v, SqL.of (s _ _ h), hv⟩
  yld := fun i H d x H2 s e y => by
    obtain ⟨v, hv, rv⟩ := r.get e
    obtain ⟨rfl, f⟩ := y
    have := f xs (SqL.of (s _ _ h))
    rw [hv] at this
    cases this
    exact ⟨rfl, rv⟩
  stop := fun i H s hi => ⟨xs, SqL.of (s _ _ h), by rw [r.length]; exact hi⟩
theorem walks_tup {K : PySem.W.Frag} {Z : Hp} {a : Addr} {xs : List V} {ds : List PyData} (h : Z a = some (.tup xs)) (r : RpAll K Z xs ds) : Walks K Z (Itt K a) ds where
  go := fun i H d s e => by
    obtain ⟨v, hv, _⟩ := r.get e
    exact ⟨xs, v, SqT.of (s _ _ h), hv⟩
  yld := fun i H d x H2 s e y => by
    obtain ⟨v, hv, rv⟩ := r.get e
    obtain ⟨rfl, f⟩ := y
    have := f xs (SqT.of (s _ _ h))
    rw [hv] at this
    cases this
    exact ⟨rfl, rv⟩
  stop := fun i H s hi => ⟨xs, SqT.of (s _ _ h), by rw [r.length]; exact hi⟩
theorem rngD_get {lo : Int} {n i : Nat} {d : PyData} (h : (rngD lo n)[i]? = some d) : i < n ∧ d = .int (lo + (i : Nat)) := by
  unfold rngD at h
  rw [List.getElem?_map] at h
  by_cases hi : i < n
  · rw [List.getElem?_eq_getElem (by rw [List.length_range]; exact hi), List.getElem_range] at h
    cases h
    exact ⟨hi, rfl⟩
  · rw [List.getElem?_eq_none (by rw [List.length_range]; omega)] at h
    cases h
theorem rngD_len (lo : Int) (n : Nat) : (rngD lo n).length = n := by unfold rngD; rw [List.length_map, List.length_range]
theorem walks_rng {K : PySem.W.Frag} {Z : Hp} {lo : Int} {n : Nat} : Walks K Z (Itr lo n) (rngD lo n) where
  go := fun i H d s e => (rngD_get e).1
  yld := fun i H d x H2 s e y => by
    obtain ⟨rfl, rfl⟩ := y
    exact ⟨rfl, by rw [(rngD_get e).2]; exact .int _⟩
  stop := fun i H s hi => by rw [rngD_len] at hi; exact hi
section
variable {X : Cx} {K : PySem.W.Frag} {pos p : Pos} {tg e a b : Expr} {es : List Expr} {fe : DF} {fs : Env → Option (List PyData)}
theorem di_list (hK : X.K = K := by rfl) (he : DE X K e fe) : DI X K tg e (fIL fe) := by
  subst hK
  refine (pi_list he).weak fun σ H R ⟨Z, ρ, ds, s, v, ed, q⟩ => ?_
  obtain ⟨x, e1, e2⟩ := opt_bind ed
  have := asList_inv e2
  subst this
  refine ⟨Z, ρ, _, s, v, e1, fun vx H1 Z1 x1 r1 => ?_⟩
  cases r1 with
  | lst ha ra => exact ⟨_, rfl, ⟨_, SqL.of (x1.sub _ _ ha)⟩, q _ H1 Z1 x1 (walks_list ha ra)⟩
theorem di_tup (hK : X.K = K := by rfl) (he : DE X K e fe) : DI X K tg e (fIT fe) := by
  subst hK
  refine (pi_tup he).weak fun σ H R ⟨Z, ρ, ds, s, v, ed, q⟩ => ?_
  obtain ⟨x, e1, e2⟩ := opt_bind ed
  have := asTup_inv e2
  subst this
  refine ⟨Z, ρ, _, s, v, e1, fun vx H1 Z1 x1 r1 => ?_⟩
  cases r1 with
  | tup ha ra => exact ⟨_, rfl, ⟨_, SqT.of (x1.sub _ _ ha)⟩, q _ H1 Z1 x1 (walks_tup ha ra)⟩
theorem di_range1 (hm : X.mg "range" = none) (hg : Gl X "range" := by rfl) (ha : DA X K [a] fs) (hs : starEach [a] X.env = [(false, eval a X.env)] := by rfl) : DI X K tg (.Call (.Name "range" p) [a] [] pos) (fIR rng1 fs) :=
  (pi_range1 hg hm ha hs).weak fun σ H R ⟨Z, ρ, ds, s, v, ed, q⟩ => by
    obtain ⟨x, e1, e2⟩ := opt_bind ed
    unfold rng1 at e2
    split at e2
    · split at e2
      · rename_i j hj
        cases e2
        refine ⟨Z, ρ, _, s, v, e1, fun vs H1 Z1 x1 r1 => ?_⟩
        cases r1 with
        | cons h t => cases t; cases h; exact ⟨j, rfl, hj.2, hj.1, q _ H1 Z1 x1 walks_rng⟩
      · cases e2
    · cases e2
theorem di_range2 (hm : X.mg "range" = none) (hg : Gl X "range" := by rfl) (ha : DA X K [a, b] fs) (hs : starEach [a, b] X.env = [(false, eval a X.env), (false, eval b X.env)] := by rfl) (hs2 : starEach [b] X.env = [(false, eval b X.env)] := by rfl) :
    DI X K tg (.Call (.Name "range" p) [a, b] [] pos) (fIR rng2 fs) :=
  (pi_range2 hg hm ha hs hs2).weak fun σ H R ⟨Z, ρ, ds, s, v, ed, q⟩ => by
    obtain ⟨x, e1, e2⟩ := opt_bind ed
    unfold rng2 at e2
    split at e2
    · split at e2
      · rename_i i j hj
        cases e2
        refine ⟨Z, ρ, _, s, v, e1, fun vs H1 Z1 x1 r1 => ?_⟩
        cases r1 with
        | cons h t =>
          cases t with
          | cons h' t' => cases t'; cases h; cases h'; exact ⟨i, j, rfl, ⟨hj.1.2, hj.1.1, hj.2.2, hj.2.1⟩, q _ H1 Z1 x1 walks_rng⟩
      · cases e2
    · cases e2
end
/-! ### list comprehensions -/
def wipeE (ρ : Env) : List Nat → Env
  | [] => ρ
  | v :: vs => (wipeE ρ vs).set v none
theorem wipeE_length (ρ : Env) : ∀ vs : List Nat, (wipeE ρ vs).length = ρ.length
  | [] => rfl
  | v :: vs => by unfold wipeE; rw [List.length_set, wipeE_length ρ vs]
theorem View.wipe {K : PySem.W.Frag} {Z : Hp} {σ : L2.St} {ρ : Env} (w : View K Z σ ρ) : ∀ vs : List Nat, View K Z (L2.wipe σ vs) (wipeE ρ vs)
  | [] => w
  | v :: vs => by
    have ih := View.wipe w vs
    refine ⟨?_, fun j d h => ?_⟩
    · rw [wipeE_length, wipe_length]; exact w.len
    · unfold wipeE at h
      unfold L2.wipe
      by_cases hj : v = j
      · subst hj
        by_cases hl : v < (wipeE ρ vs).length
        · rw [List.getElem?_set_self hl] at h; cases h
        · rw [List.getElem?_eq_none (by rw [List.length_set]; omega)] at h; cases h
      · rw [List.getElem?_set_ne hj] at h ⊢
        exact ih.get j d h
theorem wipe_set {σ : L2.St} {j : Nat} {x : Option V} : ∀ {vs : List Nat}, j ∈ vs → L2.wipe (σ.set j x) vs = L2.wipe σ vs
  | v :: vs, h => by
    by_cases hv : j ∈ vs
    · show (L2.wipe (σ.set j x) vs).set v none = (L2.wipe σ vs).set v none
      rw [wipe_set hv]
    · have e : j = v := by
        rcases List.mem_cons.mp h with e | e
        · exact e
        · exact absurd e hv
      subst e
      have out : ∀ (ws : List Nat), j ∉ ws → L2.wipe (σ.set j x) ws = (L2.wipe σ ws).set j x := by
        intro ws
        induction ws with
        | nil => intro _; rfl
        | cons u us ih =>
          intro hn
          have h1 : u ≠ j := fun z => hn (by rw [z]; exact List.mem_cons_self)
          have h2 : j ∉ us := fun z => hn (List.mem_cons_of_mem _ z)
          show (L2.wipe (σ.set j x) us).set u none = ((L2.wipe σ us).set u none).set j x
          rw [ih h2, List.set_comm _ _ h1.symm]
      show (L2.wipe (σ.set j x) vs).set j none = (L2.wipe σ vs).set j none
      rw [out vs hv, List.set_set]
theorem wipe_wipe {σ : L2.St} : ∀ vs : List Nat, L2.wipe (L2.wipe σ vs) vs = L2.wipe σ vs := by
  intro vs
  have gen : ∀ (us : List Nat) (τ : L2.St), (∀ u ∈ us, u ∈ vs) → L2.wipe (L2.wipe τ us) vs = L2.wipe τ vs := by
    intro us
    induction us with
    | nil => intro τ _; rfl
    | cons u us ih =>
      intro τ h
      show L2.wipe ((L2.wipe τ us).set u none) vs = _
      rw [wipe_set (h u List.mem_cons_self)]
      exact ih τ fun z hz => h z (List.mem_cons_of_mem _ hz)
  exact gen vs σ fun _ h => h
theorem wipe_sets {vs : List Nat} : ∀ (ps : List (Nat × V)) (σ : L2.St), (∀ p ∈ ps, p.1 ∈ vs) → L2.wipe (setV σ ps) vs = L2.wipe σ vs
  | [], _, _ => rfl
  | p :: ps, σ, h => by
    show L2.wipe (setV (σ.set p.1 (some p.2)) ps) vs = _
    rw [wipe_sets ps _ fun q hq => h q (List.mem_cons_of_mem _ hq), wipe_set (h p List.mem_cons_self)]
def TgIn (vs : List Nat) (tg : TgF) : Prop := ∀ d asg, tg d = some asg → ∀ p ∈ asg, p.1 ∈ vs
theorem tgIn_name {vs : List Nat} {j : Nat} (h : j ∈ vs) : TgIn vs (tgN j) := fun d asg e p hp => by
  cases e
  simp at hp
  rw [hp]; exact h
theorem tgIn_tup {vs js : List Nat} (h : ∀ j ∈ js, j ∈ vs) : TgIn vs (tgT js) := fun d asg e p hp => by
  unfold tgT at e
  split at e
  · split at e
    · cases e
      exact h _ (List.of_mem_zip (show (p.1, p.2) ∈ _ from hp)).1
    · cases e
  · cases e
def lcD (tg : TgF) (ft : Env → Option Bool) (fe : DF) (ρ : Env) : List PyData → Option (List PyData)
  | [] => some []
  | d :: ds => (tg d).bind fun asg => (ft (setE ρ asg)).bind fun b => if b = true then (fe (setE ρ asg)).bind fun y => (lcD tg ft fe ρ ds).map (y :: ·) else lcD tg ft fe ρ ds
def fLc (vs : List Nat) (fi : Env → Option (List PyData)) (tg : TgF) (ft : Env → Option Bool) (fe : DF) : Env → Option (List PyData) := fun ρ => (fi ρ).bind fun ds => if ds.length ≤ 1000000 then lcD tg ft fe (wipeE ρ vs) ds else none
theorem lc_weak {K : PySem.W.Frag} {vs : List Nat} {fi : Env → Option (List PyData)} {tg : TgF} {ft : Env → Option Bool} {fe : DF} (hin : TgIn vs tg) :
    ∀ σ H Q, tN K (fLc vs fi tg ft fe) σ H Q → tLc (tI K fi) (gD K tg) (tT K ft) (tD K fe) vs σ H Q := fun σ H Q ⟨Z, ρ, es, s, v, ed, q⟩ => by
  obtain ⟨ds, e1, e2⟩ := opt_bind ed
  split at e2
  · rename_i hsz
    refine ⟨Z, ρ, ds, s, v, e1, fun J H1 Z1 x1 wk => ?_⟩
    intro D hD
    have v1 := v.mono x1.up
    refine ⟨fun i m H' => m = ds.length - i ∧ i ≤ ds.length ∧ ∃ Z' acc as rest, Ext Z1 H1 Z' H' ∧ Z' D = none ∧ H' D = some (.lst acc) ∧ RpAll K Z' acc as ∧ as.length ≤ i ∧ lcD tg ft fe (wipeE ρ vs) (ds.drop i) = some rest ∧ as ++ rest = es,
      ⟨ds.length, rfl, Nat.zero_le _, Z1, [], [], es, Ext.free x1.sub hD, x1.sub.free hD, upd_same, .nil, Nat.zero_le _, e2, rfl⟩, ?_⟩
    rintro i m H' ⟨rfl, hi, Z', acc, as, rest, x, zD, hl, ra, hlen, el, ea⟩
    have sz : Same Z1 H' := x.up.trans x.sub
    by_cases hlt : i < ds.length
    · right
      have hd : ds[i]? = some ds[i] := List.getElem?_eq_getElem hlt
      rw [List.drop_eq_getElem_cons hlt] at el
      obtain ⟨asg, t1, t2⟩ := opt_bind el
      obtain ⟨b, t3, t4⟩ := opt_bind t2
      refine ⟨wk.go i H' _ sz hd, _, fun H2 hN => ⟨ds.length - (i + 1), by omega, hN⟩, fun y H2 hy => ?_⟩
      obtain ⟨rfl, ry⟩ := wk.yld i H' _ y H2 sz hd hy
      refine ⟨Z', ds[i], asg, x.sub, ry.mono x.up, t1, fun ps hps => ?_⟩
      have hsl : ∀ p ∈ ps, p.1 ∈ vs := fun p hp => by
        have : p.1 ∈ asg.map (·.1) := by rw [← hps.slots]; exact List.mem_map_of_mem hp
        obtain ⟨r, hr, er⟩ := List.mem_map.mp this
        rw [← er]
        exact hin _ _ t1 r hr
      refine ⟨by rw [wipe_sets ps _ hsl, wipe_wipe], ?_⟩
      have w2 : View K Z' (setV (L2.wipe σ vs) ps) (setE (wipeE ρ vs) asg) := ((v1.mono x.up).wipe vs).sets hps
      refine ⟨Z', setE (wipeE ρ vs) asg, b, x.sub, w2, t3, fun H3 Z3 x3 => ?_⟩
      have keepD : ∀ {Z3 H3 : Hp}, Ext Z' H2 Z3 H3 → Z3 D = none := fun {Z3 H3} x3 => by
        cases hz : Z3 D with
        | none => rfl
        | some o =>
          have := x3.new D zD (by rw [hz]; exact fun z => nomatch z)
          rw [hl] at this; cases this
      cases b with
      | true =>
        rw [if_pos rfl] at t4
        refine iteT ?_
        obtain ⟨dy, t5, t6⟩ := opt_bind t4
        refine ⟨Z3, _, dy, x3.sub, w2.mono x3.up, t5, fun vy H4 Z4 x4 r4 => ?_⟩
        have x34 := x3.trans x4
        cases hr : lcD tg ft fe (wipeE ρ vs) (List.drop (i + 1) ds) with
        | none => rw [hr] at t6; cases t6
        | some rest' =>
          rw [hr] at t6
          cases t6
          have z4 := keepD x34
          refine ⟨acc, x34.big _ _ hl, ?_, ?_⟩
          · rw [ra.length]
            exact Nat.lt_of_le_of_lt (Nat.le_trans hlen (Nat.le_trans hi hsz)) (by decide)
          · have xx := x.trans x34
            refine ⟨rfl, hlt, Z4, acc ++ [vy], as ++ [dy], rest', ⟨fun b o hb => ?_, xx.up, fun b o hb => ?_, xx.new⟩, z4, upd_same, (ra.mono x34.up).append (.cons r4 .nil), by rw [List.length_append]; simp; omega, hr, by rw [List.append_assoc]; exact ea⟩
            · rw [upd_ne (ne_of_none hb hD)]; exact xx.big _ _ hb
            · rw [upd_ne (ne_of_none hb z4)]; exact xx.sub _ _ hb
      | false =>
        rw [if_neg (by decide)] at t4
        refine iteF ?_
        exact ⟨rfl, hlt, Z3, acc, as, rest, x.trans x3, keepD x3, x3.big _ _ hl, ra.mono x3.up, by omega, t4, ea⟩
    · left
      have e : i = ds.length := by omega
      subst e
      rw [List.drop_length] at el
      cases el
      rw [List.append_nil] at ea
      subst ea
      exact ⟨wk.stop _ H' sz (Nat.le_refl _), q D acc H' Z' (x1.trans x) (x1.big.free hD) zD hl ra⟩
  · cases e2
abbrev DTs (X : Cx) (K : PySem.W.Frag) (ifs : List Expr) (ft : Env → Option Bool) : Prop := PTs X ifs (tT K ft)
def fYes : Env → Option Bool := fun _ => some true
section
variable {X : Cx} {K : PySem.W.Frag}
theorem _root_.L2.PTs.weak {ifs : List Expr} {t t' : TT} (h : PTs X ifs t) (w : ∀ σ H Q, t' σ H Q → t σ H Q) : PTs X ifs t' := ⟨fun pins s σ H Q I q => h.run pins s σ H Q I (w _ _ _ q)⟩
theorem dts_nil : DTs X K [] fYes := pts_nil.weak fun σ H Q ⟨Z, ρ, b, s, v, e, q⟩ => by cases e; exact q H Z (Ext.refl s)
theorem dts_one {c : Expr} {ft : Env → Option Bool} (h : DT X K c ft) : DTs X K [c] ft := pts_one h
variable {elt tg iter : Expr} {ifs : List Expr} {scope : Scope} {own : List (Str × Nat)} {pos : Pos} {fi : Env → Option (List PyData)} {g : TgF} {ft : Env → Option Bool} {fe : DF}
theorem dn_lc (own : List (Str × Nat)) (hN : X.N.Nodup) (hi : DI X K tg iter fi) (ok : BlkOk X.N X.env.scope scope own) (hin : TgIn (own.map (·.2)) g)
    (hg : ∀ (s : Shared) (H : Hp) (C : Addr) (cl : List (Str × Addr)) (fp : List Addr), DG (X.blk s H scope (compEnvC scope cl C X.env) fp) K tg g)
    (ht : ∀ (s : Shared) (H : Hp) (C : Addr) (cl : List (Str × Addr)) (fp : List Addr), DTs (X.blk s H scope (compEnvC scope cl C X.env) fp) K ifs ft)
    (he : ∀ (s : Shared) (H : Hp) (C : Addr) (cl : List (Str × Addr)) (fp : List Addr), DE (X.blk s H scope (compEnvC scope cl C X.env) fp) K elt fe) (hc : X.calm = true := by rfl) (hs : ∀ x, foldedSetIterable iter X.env x = pure x := by intro _; rfl) :
    DN X K (.ListComp elt [⟨tg, iter, ifs, 0⟩] scope pos) (fLc (own.map (·.2)) fi g ft fe) := (pe_lc hc hN hi ok hg ht he hs).weak (lc_weak hin)
end
end DL
/-! part DL5 -/
namespace DL
open PySem PySem.Spec PyProof.Rows L2
/-! ### what the names hold: settled data, or a list of one's own -/
/-- an object of one's own that is no list: a dict with text keys -/
inductive Ob where
  | dk (kvs : List (Str × PyData))
  | sk (ks : List SK)
inductive Cell where
  | sh (d : PyData)
  | ow (ds : List PyData)
  | ob (o : Ob)
abbrev Sto := List (Option Cell)
def cS : Option Cell → Option PyData
  | some (.sh d) => some d
  | _ => none
def cO : Option Cell → Option PyData
  | some (.sh d) => some d
  | some (.ow ds) => some (.list ds)
  | some (.ob (.dk kvs)) => some (dD kvs)
  | some (.ob (.sk ks)) => some (kdD ks)
  | none => none
def vS (ρ : Sto) : Env := ρ.map cS
def vO (ρ : Sto) : Env := ρ.map cO
def isOw : Cell → Bool
  | .sh _ => false
  | _ => true
def ObR (K : PySem.W.Frag) (Z : Hp) (a : Addr) : Ob → HO → Prop
  | .dk kvs, ho => ∃ vs, ho = .dK vs ∧ RpKv K Z vs kvs
  | .sk ks, ho => ∃ o xs, ho = SKo a o ∧ SkOb a o xs ∧ ks = xs.map (·.1) ∧ RpAll K Z (xs.map fun x => V.ref x.2) (xs.map fun x => skD x.1)
def OwR (K : PySem.W.Frag) (Z : Hp) (a : Addr) : Cell → HO → Prop
  | .sh _, _ => False
  | .ow ds, ho => ∃ vs, ho = .lst vs ∧ RpAll K Z vs ds
  | .ob o, ho => ObR K Z a o ho
theorem OwR.mono {K : PySem.W.Frag} {Z Z' : Hp} {a : Addr} (s : Same Z Z') : ∀ {c : Cell} {ho : HO}, OwR K Z a c ho → OwR K Z' a c ho
  | .sh _, _, h => h.elim
  | .ow _, _, ⟨vs, e, r⟩ => ⟨vs, e, r.mono s⟩
  | .ob (.dk _), _, ⟨vs, e, r⟩ => ⟨vs, e, r.mono s⟩
  | .ob (.sk _), _, ⟨o, xs, e, so, ek, r⟩ => ⟨o, xs, e, so, ek, r.mono s⟩
theorem OwR.noTup {K : PySem.W.Frag} {Z : Hp} {a : Addr} : ∀ {c : Cell} {xs : List V}, ¬ OwR K Z a c (.tup xs)
  | .sh _, _, h => h
  | .ow _, _, ⟨_, e, _⟩ => nomatch e
  | .ob (.dk _), _, ⟨_, e, _⟩ => nomatch e
  | .ob (.sk _), _, ⟨_, _, e, _⟩ => by unfold SKo at e; cases e
structure Hold (K : PySem.W.Frag) (H0 Z0 : Hp) (σ : L2.St) (H Z : Hp) (ρ : Sto) : Prop where
  ext : Ext Z0 H0 Z H
  len : ρ.length = σ.length
  sh : ∀ (i : Nat) (d : PyData), ρ[i]? = some (some (.sh d)) → ∃ v, σ[i]? = some (some v) ∧ Rp K Z v d
  own : ∀ (i : Nat) (c : Cell), ρ[i]? = some (some c) → isOw c = true → ∃ a ho, σ[i]? = some (some (.ref a)) ∧ H a = some ho ∧ Z a = none ∧ H0 a = none ∧ OwR K Z a c ho
  ap : ∀ (i j : Nat) (a : Addr) (c d : Cell), ρ[i]? = some (some c) → ρ[j]? = some (some d) → isOw c = true → isOw d = true → σ[i]? = some (some (.ref a)) → σ[j]? = some (some (.ref a)) → i = j
def Own (σ : L2.St) (ρ : Sto) (a : Addr) : Prop := ∃ (i : Nat) (c : Cell), ρ[i]? = some (some c) ∧ isOw c = true ∧ σ[i]? = some (some (.ref a))
open Classical in
noncomputable def zO (σ : L2.St) (ρ : Sto) (H Z : Hp) : Hp := fun b => if Own σ ρ b then H b else Z b
open Classical in
noncomputable def zC (σ : L2.St) (ρ : Sto) (Z : Hp) : Hp := fun b => if Own σ ρ b then none else Z b
section
variable {K : PySem.W.Frag} {H0 Z0 H Z H' Z' : Hp} {σ : L2.St} {ρ : Sto}
theorem Hold.sub (h : Hold K H0 Z0 σ H Z ρ) : Same Z H := h.ext.sub
theorem Hold.ow (h : Hold K H0 Z0 σ H Z ρ) (i : Nat) (ds : List PyData) (e : ρ[i]? = some (some (.ow ds))) : ∃ a vs, σ[i]? = some (some (.ref a)) ∧ H a = some (.lst vs) ∧ Z a = none ∧ H0 a = none ∧ RpAll K Z vs ds := by
  obtain ⟨a, ho, h1, h2, h3, h4, vs, rfl, r⟩ := h.own i _ e rfl
  exact ⟨a, vs, h1, h2, h3, h4, r⟩
theorem Hold.viewS (h : Hold K H0 Z0 σ H Z ρ) : View K Z σ (vS ρ) := ⟨by unfold vS; rw [List.length_map, h.len]; exact Nat.le_refl _, fun i d e => by
  unfold vS at e
  rw [List.getElem?_map] at e
  cases hr : ρ[i]? with
  | none => rw [hr] at e; cases e
  | some c =>
    rw [hr] at e
    have e : cS c = some d := Option.some.inj e
    cases c with
    | none => cases e
    | some c =>
      cases c with
      | sh d' => cases e; exact h.sh i d hr
      | ow ds => cases e
      | ob o => cases e⟩
theorem Hold.own_at (h : Hold K H0 Z0 σ H Z ρ) {a : Addr} (o : Own σ ρ a) : ∃ c ho, H a = some ho ∧ Z a = none ∧ H0 a = none ∧ OwR K Z a c ho := by
  obtain ⟨i, c, e1, e3, e2⟩ := o
  obtain ⟨b, ho, h1, h2, h3, h4, h5⟩ := h.own i c e1 e3
  rw [e2] at h1
  cases h1
  exact ⟨c, ho, h2, h3, h4, h5⟩
theorem Hold.zO_sub (h : Hold K H0 Z0 σ H Z ρ) : Same (zO σ ρ H Z) H := fun b o e => by
  unfold zO at e
  split at e
  · exact e
  · exact h.sub _ _ e
theorem Hold.zO_up (h : Hold K H0 Z0 σ H Z ρ) : Same Z (zO σ ρ H Z) := fun b o e => by
  unfold zO
  split
  · rename_i c
    obtain ⟨_, _, _, hz, _⟩ := h.own_at c
    rw [hz] at e; cases e
  · exact e
theorem Hold.viewO (h : Hold K H0 Z0 σ H Z ρ) : View K (zO σ ρ H Z) σ (vO ρ) := ⟨by unfold vO; rw [List.length_map, h.len]; exact Nat.le_refl _, fun i d e => by
  unfold vO at e
  rw [List.getElem?_map] at e
  cases hr : ρ[i]? with
  | none => rw [hr] at e; cases e
  | some c =>
    rw [hr] at e
    have e : cO c = some d := Option.some.inj e
    cases c with
    | none => cases e
    | some c =>
      cases c with
      | sh d' =>
        cases e
        obtain ⟨v, h1, h2⟩ := h.sh i d hr
        exact ⟨v, h1, h2.mono h.zO_up⟩
      | ob o =>
        cases o with
        | dk kvs =>
          cases e
          obtain ⟨a, ho, h1, h2, h3, h4, vs, rfl, h5⟩ := h.own i _ hr rfl
          refine ⟨.ref a, h1, .dct (vs := vs) ?_ (h5.mono h.zO_up)⟩
          unfold zO
          rw [if_pos ⟨i, _, hr, rfl, h1⟩]
          exact h2
        | sk ks =>
          cases e
          obtain ⟨a, ho, h1, h2, h3, h4, o, xs, rfl, so, rfl, h5⟩ := h.own i _ hr rfl
          refine ⟨.ref a, h1, .kdt (o := o) (xs := xs) ?_ so (h5.mono h.zO_up)⟩
          unfold zO
          rw [if_pos ⟨i, _, hr, rfl, h1⟩]
          exact h2
      | ow ds =>
        cases e
        obtain ⟨a, vs, h1, h2, h3, h4, h5⟩ := h.ow i ds hr
        refine ⟨.ref a, h1, .lst (xs := vs) ?_ (h5.mono h.zO_up)⟩
        unfold zO
        rw [if_pos ⟨i, _, hr, rfl, h1⟩]
        exact h2⟩
/-- behind an evaluation that saw the settled part alone -/
theorem Hold.afterS (h : Hold K H0 Z0 σ H Z ρ) (x : Ext Z H Z' H') : Hold K H0 Z0 σ H' Z' ρ := by
  refine ⟨h.ext.trans x, h.len, fun i d e => ?_, fun i c e ec => ?_, h.ap⟩
  · obtain ⟨v, h1, h2⟩ := h.sh i d e
    exact ⟨v, h1, h2.mono x.up⟩
  · obtain ⟨a, vs, h1, h2, h3, h4, h5⟩ := h.own i c e ec
    refine ⟨a, vs, h1, x.big _ _ h2, ?_, h4, h5.mono x.up⟩
    cases q : Z' a with
    | none => rfl
    | some o =>
      have := x.new a h3 (by rw [q]; exact fun z => nomatch z)
      rw [h2] at this; cases this
theorem Hold.cut_up (h : Hold K H0 Z0 σ H Z ρ) (x : Ext (zO σ ρ H Z) H Z' H') : Same Z (zC σ ρ Z') := fun b o e => by
  unfold zC
  split
  · rename_i c
    obtain ⟨_, _, _, hz, _⟩ := h.own_at c
    rw [hz] at e; cases e
  · exact x.up _ _ (h.zO_up _ _ e)
theorem zC_sub : Same (zC σ ρ Z) Z := fun b o e => by
  unfold zC at e
  split at e
  · cases e
  · exact e
/-- behind one that saw one's own lists too -/
theorem Hold.afterO (h : Hold K H0 Z0 σ H Z ρ) (x : Ext (zO σ ρ H Z) H Z' H') : Hold K H0 Z0 σ H' (zC σ ρ Z') ρ := by
  have up := h.cut_up x
  refine ⟨⟨h.ext.big.trans x.big, h.ext.up.trans up, zC_sub.trans x.sub, fun b hb hn => ?_⟩, h.len, fun i d e => ?_, fun i c e ec => ?_, h.ap⟩
  · unfold zC at hn
    split at hn
    · exact absurd rfl hn
    · rename_i c
      cases q : zO σ ρ H Z b with
      | none => exact h.ext.big.free (x.new b q hn)
      | some o =>
        unfold zO at q
        rw [if_neg c] at q
        exact h.ext.new b hb (by rw [q]; exact fun z => nomatch z)
  · obtain ⟨v, h1, h2⟩ := h.sh i d e
    exact ⟨v, h1, h2.mono up⟩
  · obtain ⟨a, vs, h1, h2, h3, h4, h5⟩ := h.own i c e ec
    refine ⟨a, vs, h1, x.big _ _ h2, ?_, h4, h5.mono up⟩
    unfold zC
    rw [if_pos ⟨i, c, e, ec, h1⟩]
theorem Hold.cut_tup (h : Hold K H0 Z0 σ H Z ρ) (x : Ext (zO σ ρ H Z) H Z' H') : ∀ a xs, Z' a = some (.tup xs) → zC σ ρ Z' a = some (.tup xs) := fun a xs e => by
  unfold zC
  split
  · rename_i c
    obtain ⟨c', ho, h1, _, _, h5⟩ := h.own_at c
    have : zO σ ρ H Z a = some ho := by unfold zO; rw [if_pos c]; exact h1
    rw [x.up _ _ this] at e
    cases e
    exact (h5.noTup).elim
  · exact e
/-- the end of a body: everything may be settled -/
theorem Hold.endO (h : Hold K H0 Z0 σ H Z ρ) (x : Ext (zO σ ρ H Z) H Z' H') : Ext Z0 H0 Z' H' := by
  refine ⟨h.ext.big.trans x.big, (h.ext.up.trans h.zO_up).trans x.up, x.sub, fun b hb hn => ?_⟩
  cases q : zO σ ρ H Z b with
  | none => exact h.ext.big.free (x.new b q hn)
  | some o =>
    unfold zO at q
    split at q
    · rename_i c
      obtain ⟨_, _, _, _, h4, _⟩ := h.own_at c
      exact h4
    · exact h.ext.new b hb (by rw [q]; exact fun z => nomatch z)
theorem set_other {α : Type} {l : List α} {i j : Nat} {x y : α} (h : (l.set i x)[j]? = some y) (hne : x ≠ y) : i ≠ j ∧ l[j]? = some y := by
  by_cases e : i = j
  · subst e
    by_cases hl : i < l.length
    · rw [List.getElem?_set_self hl] at h; cases h; exact absurd rfl hne
    · rw [List.getElem?_eq_none (by rw [List.length_set]; omega)] at h; cases h
  · rw [List.getElem?_set_ne e] at h; exact ⟨e, h⟩
theorem ow_ne_sh {c : Cell} {d : PyData} (h : isOw c = true) : (some (Cell.sh d) : Option Cell) ≠ some c := fun z => by cases z; cases h
theorem Hold.setsh (h : Hold K H0 Z0 σ H Z ρ) {i : Nat} {v : V} {d : PyData} (r : Rp K Z v d) : Hold K H0 Z0 (σ.set i (some v)) H Z (ρ.set i (some (.sh d))) := by
  refine ⟨h.ext, by rw [List.length_set, List.length_set, h.len], fun j e hj => ?_, fun j c hj hc => ?_, fun j k a c c' hj hk hc hc' h1 h2 => ?_⟩
  · by_cases e2 : i = j
    · subst e2
      by_cases hl : i < ρ.length
      · rw [List.getElem?_set_self hl] at hj
        cases hj
        exact ⟨v, List.getElem?_set_self (by rw [← h.len]; exact hl), r⟩
      · rw [List.getElem?_eq_none (by rw [List.length_set]; omega)] at hj; cases hj
    · rw [List.getElem?_set_ne e2] at hj ⊢
      exact h.sh j e hj
  · obtain ⟨e2, hj⟩ := set_other hj (ow_ne_sh hc)
    rw [List.getElem?_set_ne e2]
    exact h.own j c hj hc
  · obtain ⟨e2, hj⟩ := set_other hj (ow_ne_sh hc)
    obtain ⟨e3, hk⟩ := set_other hk (ow_ne_sh hc')
    rw [List.getElem?_set_ne e2] at h1
    rw [List.getElem?_set_ne e3] at h2
    exact h.ap j k a c c' hj hk hc hc' h1 h2
/-- a name gets a new object of its own -/
theorem Hold.setown (h : Hold K H0 Z0 σ H Z ρ) {i : Nat} {p : Addr} {ho : HO} {c : Cell} (hl : H p = some ho) (hz : Z p = none) (h0 : H0 p = none) (hn : ¬ Own σ ρ p) (hc : isOw c = true) (r : OwR K Z p c ho) : Hold K H0 Z0 (σ.set i (some (.ref p))) H Z (ρ.set i (some c)) := by
  have other : ∀ {j : Nat} {e : Cell}, isOw e = true → (ρ.set i (some c))[j]? = some (some e) → (i = j ∧ e = c ∧ (σ.set i (some (V.ref p)))[j]? = some (some (V.ref p))) ∨ (i ≠ j ∧ ρ[j]? = some (some e) ∧ (σ.set i (some (V.ref p)))[j]? = σ[j]?) := fun {j e} he hj => by
    by_cases e2 : i = j
    · subst e2
      left
      by_cases hl : i < ρ.length
      · rw [List.getElem?_set_self hl] at hj
        cases hj
        exact ⟨rfl, rfl, List.getElem?_set_self (by rw [← h.len]; exact hl)⟩
      · rw [List.getElem?_eq_none (by rw [List.length_set]; omega)] at hj; cases hj
    · right
      rw [List.getElem?_set_ne e2] at hj
      exact ⟨e2, hj, List.getElem?_set_ne e2⟩
  refine ⟨h.ext, by rw [List.length_set, List.length_set, h.len], fun j e hj => ?_, fun j e hj he => ?_, fun j k a e f hj hk he hf h1 h2 => ?_⟩
  · obtain ⟨e2, hj⟩ := set_other hj (ow_ne_sh hc).symm
    rw [List.getElem?_set_ne e2]
    exact h.sh j e hj
  · rcases other he hj with ⟨rfl, rfl, e3⟩ | ⟨e2, hj, e3⟩
    · exact ⟨p, ho, e3, hl, hz, h0, r⟩
    · rw [e3]; exact h.own j e hj he
  · rcases other he hj with ⟨e2, rfl, e3⟩ | ⟨e2, hj', e3⟩ <;> rcases other hf hk with ⟨f2, rfl, f3⟩ | ⟨f2, hk', f3⟩
    · omega
    · rw [e3] at h1
      cases h1
      rw [f3] at h2
      exact absurd ⟨k, f, hk', hf, h2⟩ hn
    · rw [f3] at h2
      cases h2
      rw [e3] at h1
      exact absurd ⟨j, e, hj', he, h1⟩ hn
    · rw [e3] at h1
      rw [f3] at h2
      exact h.ap j k a e f hj' hk' he hf h1 h2
theorem Hold.setow (h : Hold K H0 Z0 σ H Z ρ) {i : Nat} {p : Addr} {vs : List V} {ds : List PyData} (hl : H p = some (.lst vs)) (hz : Z p = none) (h0 : H0 p = none) (hn : ¬ Own σ ρ p) (r : RpAll K Z vs ds) : Hold K H0 Z0 (σ.set i (some (.ref p))) H Z (ρ.set i (some (.ow ds))) :=
  h.setown hl hz h0 hn rfl ⟨vs, rfl, r⟩
theorem own_old (h : Hold K H0 Z0 σ H Z ρ) {p : Addr} (hp : H p = none) : ¬ Own σ ρ p := fun o => by
  obtain ⟨_, _, e, _⟩ := h.own_at o
  rw [hp] at e; cases e
/-- one's own object is changed -/
theorem Hold.mutOwn (h : Hold K H0 Z0 σ H Z ρ) {i : Nat} {a : Addr} {ho : HO} {c d : Cell} (hi : ρ[i]? = some (some c)) (hc : isOw c = true) (hd : isOw d = true) (ha : σ[i]? = some (some (.ref a))) (r : OwR K Z a d ho) : Hold K H0 Z0 σ (upd H a ho) Z (ρ.set i (some d)) := by
  obtain ⟨_, _, hl, hz, h0, _⟩ := h.own_at ⟨i, c, hi, hc, ha⟩
  have sm : Same Z (upd H a ho) := fun b o e => by rw [upd_ne (ne_of_none e hz)]; exact h.sub _ _ e
  have il : i < ρ.length := (List.getElem?_eq_some_iff.mp hi).1
  have other : ∀ {j : Nat} {e : Cell}, isOw e = true → (ρ.set i (some d))[j]? = some (some e) → (i = j ∧ e = d) ∨ (i ≠ j ∧ ρ[j]? = some (some e)) := fun {j e} he hj => by
    by_cases e2 : i = j
    · subst e2
      rw [List.getElem?_set_self il] at hj
      cases hj
      exact .inl ⟨rfl, rfl⟩
    · rw [List.getElem?_set_ne e2] at hj
      exact .inr ⟨e2, hj⟩
  refine ⟨⟨fun b o e => by rw [upd_ne (ne_of_none e h0)]; exact h.ext.big _ _ e, h.ext.up, sm, h.ext.new⟩, by rw [List.length_set, h.len], fun j e hj => ?_, fun j e hj he => ?_, fun j k b e f hj hk he hf h1 h2 => ?_⟩
  · obtain ⟨e2, hj⟩ := set_other hj (ow_ne_sh hd).symm
    exact h.sh j e hj
  · rcases other he hj with ⟨rfl, rfl⟩ | ⟨e2, hj⟩
    · exact ⟨a, ho, ha, upd_same, hz, h0, r⟩
    · obtain ⟨b, ws, q1, q2, q3, q4, q5⟩ := h.own j e hj he
      refine ⟨b, ws, q1, ?_, q3, q4, q5⟩
      have : b ≠ a := fun z => by subst z; exact e2 (h.ap i j b c e hi hj hc he ha q1)
      rw [upd_ne this]; exact q2
  · have back : ∀ {j : Nat} {e : Cell}, isOw e = true → (ρ.set i (some d))[j]? = some (some e) → ∃ e', ρ[j]? = some (some e') ∧ isOw e' = true := fun {j e} he hj => by
      rcases other he hj with ⟨rfl, rfl⟩ | ⟨e2, hj⟩
      · exact ⟨c, hi, hc⟩
      · exact ⟨e, hj, he⟩
    obtain ⟨g1, e1, i1⟩ := back he hj
    obtain ⟨g2, e2, i2⟩ := back hf hk
    exact h.ap j k b g1 g2 e1 e2 i1 i2 h1 h2
theorem Hold.mutate (h : Hold K H0 Z0 σ H Z ρ) {i : Nat} {a : Addr} {vs : List V} {ds es : List PyData} (hi : ρ[i]? = some (some (.ow ds))) (ha : σ[i]? = some (some (.ref a))) (r : RpAll K Z vs es) : Hold K H0 Z0 σ (upd H a (.lst vs)) Z (ρ.set i (some (.ow es))) :=
  h.mutOwn hi rfl rfl ha ⟨vs, rfl, r⟩
end
/-! ### what a statement comes to -/
inductive Res where
  | fail
  | next (ρ : Sto)
  | ret (d : PyData)
  | retN (ds : List PyData)
  | brk (ρ : Sto)
  | ct (ρ : Sto)
abbrev SFn := Sto → Res
def Good (K : PySem.W.Frag) (H0 Z0 : Hp) (D : Ends) : Res → Prop
  | .fail => False
  | .next ρ => ∀ σ H Z, Hold K H0 Z0 σ H Z ρ → D.nx σ H
  | .ret d => ∀ v H Z, Ext Z0 H0 Z H → Rp K Z v d → D.rt v H
  | .retN ds => ∀ p us H Z, Ext Z0 H0 Z H → H0 p = none → Z p = none → H p = some (.lst us) → RpAll K Z us ds → D.rt (.ref p) H
  | .brk ρ => ∀ σ H Z, Hold K H0 Z0 σ H Z ρ → D.bk σ H
  | .ct ρ => ∀ σ H Z, Hold K H0 Z0 σ H Z ρ → D.ct σ H
def tS (K : PySem.W.Frag) (F : SFn) : TS := fun D σ H => ∃ H0 Z0 Z ρ, Hold K H0 Z0 σ H Z ρ ∧ Good K H0 Z0 D (F ρ)
abbrev DS (X : Cx) (K : PySem.W.Frag) (st : Stmt) (F : SFn) : Prop := PS X st (tS K F)
abbrev DSs (X : Cx) (K : PySem.W.Frag) (sts : List Stmt) (F : SFn) : Prop := PSs X sts (tS K F)
def dNext : SFn := .next
def dSeq (F G : SFn) : SFn := fun ρ => match F ρ with
  | .next ρ' => G ρ'
  | r => r
section
variable {X : Cx} {K : PySem.W.Frag} {st : Stmt} {sts : List Stmt} {F G : SFn} {pos : Pos}
theorem dss_nil : DSs X K [] dNext := pss_nil.weak fun D σ H ⟨H0, Z0, Z, ρ, h, g⟩ => g σ H Z h
theorem good_seq {H0 Z0 : Hp} {D : Ends} {F G : SFn} {ρ : Sto} (g : Good K H0 Z0 D (dSeq F G ρ)) : Good K H0 Z0 { D with nx := tS K G D } (F ρ) := by
  unfold dSeq at g
  cases e : F ρ with
  | fail => rw [e] at g; exact g
  | next ρ' => rw [e] at g; exact fun σ H Z h => ⟨H0, Z0, Z, ρ', h, g⟩
  | ret d => rw [e] at g; exact g
  | retN d => rw [e] at g; exact g
  | brk ρ' => rw [e] at g; exact g
  | ct ρ' => rw [e] at g; exact g
theorem dss_cons (h1 : DS X K st F) (h2 : DSs X K sts G) : DSs X K (st :: sts) (dSeq F G) := (pss_cons h1 h2).weak fun D σ H ⟨H0, Z0, Z, ρ, h, g⟩ => ⟨H0, Z0, Z, ρ, h, good_seq g⟩
theorem dss_one (h1 : DS X K st F) : DSs X K [st] F := pss_one h1
/-- a statement that is never come to -/
def dNever : SFn := fun _ => .fail
theorem ds_never : DS X K st dNever := ps_never.weak fun D σ H ⟨H0, Z0, Z, ρ, h, g⟩ => g
/-! names and tuples of names -/
def setSh (ρ : Sto) : Asg → Sto
  | [] => ρ
  | p :: a => setSh (ρ.set p.1 (some (.sh p.2))) a
theorem Hold.sets {H0 Z0 H Z : Hp} {σ : L2.St} {ρ : Sto} {ps : List (Nat × V)} {as : Asg} (h : Hold K H0 Z0 σ H Z ρ) (r : Prs K Z ps as) : Hold K H0 Z0 (setV σ ps) H Z (setSh ρ as) := by
  induction r generalizing σ ρ with
  | nil => exact h
  | cons r t ih => exact ih (h.setsh r)
def dAsg (tg : TgF) (f : DF) : SFn := fun ρ => match f (vS ρ) with
  | some d => match tg d with
    | some asg => .next (setSh ρ asg)
    | none => .fail
  | none => .fail
def dSet (i : Nat) (f : DF) : SFn := fun ρ => match f (vS ρ) with
  | some d => .next (ρ.set i (some (.sh d)))
  | none => .fail
def dSetO (i : Nat) (f : DF) : SFn := fun ρ => match f (vO ρ) with
  | some d => if noL d then .next (ρ.set i (some (.sh d))) else .fail
  | none => .fail
def dSetN (i : Nat) (f : Env → Option (List PyData)) : SFn := fun ρ => match f (vS ρ) with
  | some ds => .next (ρ.set i (some (.ow ds)))
  | none => .fail
variable {te : TE} {f : DF} {fn : Env → Option (List PyData)} {i : Nat}
theorem set_weak (w : ∀ σ H Q, tD K f σ H Q → te σ H Q) : ∀ D σ H, tS K (dSet i f) D σ H → tAsg te (gName i) D σ H := fun D σ H ⟨H0, Z0, Z, ρ, h, g⟩ => by
  unfold dSet at g
  cases e : f (vS ρ) with
  | none => rw [e] at g; exact g.elim
  | some d =>
    rw [e] at g
    refine w σ H _ ⟨Z, vS ρ, d, h.sub, h.viewS, e, fun v H' Z' x r => ?_⟩
    exact g _ H' Z' ((h.afterS x).setsh r)
theorem setN_weak (w : ∀ σ H Q, tN K fn σ H Q → te σ H Q) : ∀ D σ H, tS K (dSetN i fn) D σ H → tAsg te (gName i) D σ H := fun D σ H ⟨H0, Z0, Z, ρ, h, g⟩ => by
  unfold dSetN at g
  cases e : fn (vS ρ) with
  | none => rw [e] at g; exact g.elim
  | some ds =>
    rw [e] at g
    refine w σ H _ ⟨Z, vS ρ, ds, h.sub, h.viewS, e, fun p vs H' Z' x hp zp hl r => ?_⟩
    refine g _ H' Z' ((h.afterS x).setow hl zp (h.ext.big.free hp) (fun o => ?_) r)
    exact own_old h hp o
section
variable {x : Str} {e : Expr} {pos' : Pos}
theorem ds_set (hN : X.N.Nodup) (he : DE X K e f) (hi : X.N[i]? = some x := by rfl) (hx : Loc X.env.scope x := by first | exact Or.inl rfl | exact Or.inr rfl) (hs : swapsWith e (some (.Name x pos')) pos.line X.env = pure false := by rfl) (hf : X.fn x = true ∨ X.env.scope.names.lookup x = some .local := by first | exact .inl rfl | exact .inr rfl) :
    DS X K (.Assign [.Name x pos'] e pos) (dSet i f) := (ps_set hN hi hx he hs hf).weak (set_weak fun _ _ _ h => h)
theorem ds_setN (hN : X.N.Nodup) (he : DN X K e fn) (hi : X.N[i]? = some x := by rfl) (hx : Loc X.env.scope x := by first | exact Or.inl rfl | exact Or.inr rfl) (hs : swapsWith e (some (.Name x pos')) pos.line X.env = pure false := by rfl) (hf : X.fn x = true ∨ X.env.scope.names.lookup x = some .local := by first | exact .inl rfl | exact .inr rfl) :
    DS X K (.Assign [.Name x pos'] e pos) (dSetN i fn) := (ps_set hN hi hx he hs hf).weak (setN_weak fun _ _ _ h => h)
end
/-! name = [.. for ..] -/
section
variable {y : Str} {py : Pos} {elt tg iter : Expr} {ifs : List Expr} {scope : Scope} {own : List (Str × Nat)} {pos spos : Pos} {fi : Env → Option (List PyData)} {g : TgF} {ft : Env → Option Bool} {fe : DF}
theorem set_lc {t : SFn} (wk : ∀ te, (∀ σ H Q, tN K (fLc (own.map (·.2)) fi g ft fe) σ H Q → te σ H Q) → ∀ D σ H, tS K t D σ H → tAsg te (gName i) D σ H) (hN : X.N.Nodup) (hy : X.N[i]? = some y) (hyl : X.env.scope.names.lookup y = some .local)
    (hsw : swapsWith (.ListComp elt [⟨tg, iter, ifs, 0⟩] scope pos) (some (.Name y py)) spos.line X.env = pure true) (hi : DI X K tg iter fi) (ok : BlkOk X.N X.env.scope scope own) (hin : TgIn (own.map (·.2)) g)
    (hg : ∀ (s : Shared) (H : Hp) (C : Addr) (cl : List (Str × Addr)) (fp : List Addr), DG (X.blk s H scope (compEnvC scope cl C X.env) fp) K tg g)
    (ht : ∀ (s : Shared) (H : Hp) (C : Addr) (cl : List (Str × Addr)) (fp : List Addr), DTs (X.blk s H scope (compEnvC scope cl C X.env) fp) K ifs ft)
    (he : ∀ (s : Shared) (H : Hp) (C : Addr) (cl : List (Str × Addr)) (fp : List Addr), DE (X.blk s H scope (compEnvC scope cl C X.env) fp) K elt fe) (hc : X.calm = true) (hs : ∀ x, foldedSetIterable iter X.env x = pure x) :
    DS X K (.Assign [.Name y py] (.ListComp elt [⟨tg, iter, ifs, 0⟩] scope pos) spos) t := (ps_setLc hc hN hy hyl hsw hi ok hg ht he hs).weak (wk _ (lc_weak hin))
theorem tD_fL {te : TE} {fn : Env → Option (List PyData)} (w : ∀ σ H Q, tN K fn σ H Q → te σ H Q) : ∀ σ H Q, tD K (fL fn) σ H Q → te σ H Q := fun σ H Q ⟨Z, ρ, d, s, v, ed, q⟩ => by
  unfold fL at ed
  cases e1 : fn ρ with
  | none => rw [e1] at ed; cases ed
  | some ds =>
    rw [e1] at ed
    cases ed
    refine w σ H Q ⟨Z, ρ, ds, s, v, e1, fun p vs H' Z' x hp zp hl r => ?_⟩
    obtain ⟨x2, sz⟩ := settle x hp zp hl
    exact q (.ref p) H' _ x2 (.lst upd_same (r.mono sz))
theorem ds_setLc (own : List (Str × Nat)) (hN : X.N.Nodup) (hi : DI X K tg iter fi) (ok : BlkOk X.N X.env.scope scope own) (hin : TgIn (own.map (·.2)) g)
    (hg : ∀ (s : Shared) (H : Hp) (C : Addr) (cl : List (Str × Addr)) (fp : List Addr), DG (X.blk s H scope (compEnvC scope cl C X.env) fp) K tg g)
    (ht : ∀ (s : Shared) (H : Hp) (C : Addr) (cl : List (Str × Addr)) (fp : List Addr), DTs (X.blk s H scope (compEnvC scope cl C X.env) fp) K ifs ft)
    (he : ∀ (s : Shared) (H : Hp) (C : Addr) (cl : List (Str × Addr)) (fp : List Addr), DE (X.blk s H scope (compEnvC scope cl C X.env) fp) K elt fe) (hy : X.N[i]? = some y := by rfl) (hyl : X.env.scope.names.lookup y = some .local := by rfl)
    (hsw : swapsWith (.ListComp elt [⟨tg, iter, ifs, 0⟩] scope pos) (some (.Name y py)) spos.line X.env = pure true := by exact sw_true rfl rfl rfl (by decide +kernel)) (hc : X.calm = true := by rfl) (hs : ∀ x, foldedSetIterable iter X.env x = pure x := by intro _; rfl) :
    DS X K (.Assign [.Name y py] (.ListComp elt [⟨tg, iter, ifs, 0⟩] scope pos) spos) (dSet i (fL (fLc (own.map (·.2)) fi g ft fe))) := set_lc (fun te w => set_weak (tD_fL w)) hN hy hyl hsw hi ok hin hg ht he hc hs
end
/-! a, b = e -/
section
variable {tg e : Expr} {tgf : TgF}
theorem ds_asg (he : DE X K e f) (hg : DG X K tg tgf) (hs : swapsWithSole [tg] e pos.line X.env = pure false := by rfl) (hw : swappedStores [tg] e X.env = pure none := by rfl)
    (h1 : (assignEach [tg] X.env).map (·.2) = [assign tg X.env] := by rfl) : DS X K (.Assign [tg] e pos) (dAsg tgf f) := (ps_asg he hg hs hw h1).weak fun D σ H ⟨H0, Z0, Z, ρ, h, g⟩ => by
  unfold dAsg at g
  cases e1 : f (vS ρ) with
  | none => rw [e1] at g; exact g.elim
  | some d =>
    rw [e1] at g
    cases e2 : tgf d with
    | none => simp only [e2] at g; exact g.elim
    | some asg =>
      simp only [e2] at g
      refine ⟨Z, vS ρ, d, h.sub, h.viewS, e1, fun v H' Z' x r => ?_⟩
      exact ⟨Z', d, asg, x.sub, r, e2, fun ps hp => g _ H' Z' ((h.afterS x).sets hp)⟩
end
end
end DL
/-! part DL6 -/
namespace DL
open PySem PySem.Spec PyProof.Rows L2
section
variable {X : Cx} {K : PySem.W.Frag} {pos p : Pos} {e : Expr} {f : DF} {fn : Env → Option (List PyData)} {i : Nat} {F G : SFn}
/-! ### return -/
def dRet (f : DF) : SFn := fun ρ => match f (vO ρ) with
  | some d => .ret d
  | none => .fail
def dRetN (f : Env → Option (List PyData)) : SFn := fun ρ => match f (vO ρ) with
  | some ds => .retN ds
  | none => .fail
def dRetOw (i : Nat) : SFn := fun ρ => match ρ[i]? with
  | some (some (.ow ds)) => .retN ds
  | _ => .fail
theorem ds_ret (he : DE X K e f) : DS X K (.Return (some e) pos) (dRet f) := (ps_ret he).weak fun D σ H ⟨H0, Z0, Z, ρ, h, g⟩ => by
  unfold dRet at g
  cases e1 : f (vO ρ) with
  | none => rw [e1] at g; exact g.elim
  | some d =>
    rw [e1] at g
    exact ⟨_, vO ρ, d, h.zO_sub, h.viewO, e1, fun v H' Z' x r => g v H' Z' (h.endO x) r⟩
theorem ds_retOw {x : Str} (hN : X.N[i]? = some x := by rfl) (hv : Vis X.env.scope x := by first | exact Or.inl rfl | exact Or.inr (Or.inl rfl) | exact Or.inr (Or.inr rfl)) (hd : (x == ("__debug__" : Str)) = false := by decide)
    (hcd : (x == ("__classdict__" : Str)) = false := by decide) : DS X K (.Return (some (.Name x p)) pos) (dRetOw i) := (ps_ret (pe_var hN hv hd hcd)).weak fun D σ H ⟨H0, Z0, Z, ρ, h, g⟩ => by
  unfold dRetOw at g
  split at g
  · rename_i ds e1
    obtain ⟨a, vs, h1, h2, h3, h4, h5⟩ := h.ow i ds e1
    exact ⟨.ref a, h1, g a vs H Z h.ext h4 h3 h2 h5⟩
  · exact g.elim
/-! ### an expression, a list's methods -/
def dDrop (f : DF) : SFn := fun ρ => match f (vO ρ) with
  | some _ => .next ρ
  | none => .fail
theorem ds_expr (he : DE X K e f) (hs : swapsWith e none pos.line X.env = pure false := by rfl) : DS X K (.Expr e pos) (dDrop f) := (ps_expr he hs).weak fun D σ H ⟨H0, Z0, Z, ρ, h, g⟩ => by
  unfold dDrop at g
  cases e1 : f (vO ρ) with
  | none => rw [e1] at g; exact g.elim
  | some d =>
    rw [e1] at g
    exact ⟨_, vO ρ, d, h.zO_sub, h.viewO, e1, fun v H' Z' x r => g σ H' _ (h.afterO x)⟩
def dApp (i : Nat) (f : DF) : SFn := fun ρ => match ρ[i]? with
  | some (some (.ow ds)) => match f (vS ρ) with
    | some d => if ds.length < 1000000 then .next (ρ.set i (some (.ow (ds ++ [d])))) else .fail
    | none => .fail
  | _ => .fail
def dAppO (i : Nat) (f : DF) : SFn := fun ρ => match ρ[i]? with
  | some (some (.ow ds)) => match f (vO ρ) with
    | some d => if ds.length < 1000000 then if noL d then .next (ρ.set i (some (.ow (ds ++ [d])))) else .fail else .fail
    | none => .fail
  | _ => .fail
theorem tyl {H : Hp} {a : Addr} {vs : List V} (h : H a = some (.lst vs)) : tyV K "list" (.ref a) H := .inl ⟨rfl, vs, SqL.of h⟩
theorem lt_line {n : Nat} (h : n < 1000000) : n < sizeLine := Nat.lt_trans h (by decide)
section
variable {x : Str} {px apos : Pos} {a b : Expr} {fa fb : DF}
theorem ds_app (i : Nat) (he : DE X K e f) (hK : X.K = K := by rfl) (hN : X.N[i]? = some x := by rfl) (hv : Vis X.env.scope x := by first | exact Or.inl rfl | exact Or.inr (Or.inl rfl) | exact Or.inr (Or.inr rfl)) (hd : (x == ("__debug__" : Str)) = false := by decide)
    (hcd : (x == ("__classdict__" : Str)) = false := by decide) (hline : (apos.endLine == p.line) = true := by rfl) (hst : starEach [e] X.env = (false, eval e X.env) :: starEach [] X.env := by rfl)
    (hfew : ((backTo p (starEach [e] X.env)).all (fun x => !x.1) && (backToKw p (keywordEach [] X.env)).all (fun x => x.1.isSome) && decide (([e] : List Expr).length + ([] : List Keyword).length + (if ([] : List Keyword).isEmpty then 0 else 1) < 30)) = true := by rfl)
    (hs : swapsWith (.Call (.Attribute (.Name x px) "append" apos) [e] [] p) none pos.line X.env = pure false := by rfl) : DS X K (.Expr (.Call (.Attribute (.Name x px) "append" apos) [e] [] p) pos) (dApp i f) := by
  subst hK
  refine (ps_expr (pe_bm PySem.F.plainAttrs_list PySem.F.slot_list_append PySem.F.type_list_append mt_append (pe_var hN hv hd hcd) (pa_cons he pa_nil hst) rfl hfew hline hst rfl) hs).weak fun D σ H ⟨H0, Z0, Z, ρ, h, g⟩ => ?_
  unfold dApp at g
  split at g
  · rename_i ds e1
    cases e2 : f (vS ρ) with
    | none => rw [e2] at g; exact g.elim
    | some d =>
      simp only [e2] at g
      by_cases hl : ds.length < 1000000
      · rw [if_pos hl] at g
        obtain ⟨l, vs, h1, h2, h3, h4, h5⟩ := h.ow i ds e1
        refine ⟨.ref l, h1, tyl h2, Z, vS ρ, d, h.sub, h.viewS, e2, fun v H' Z' xx r => ?_⟩
        have h' := h.afterS xx
        obtain ⟨l', vs', g1, g2, g3, g4, g5⟩ := h'.ow i ds e1
        rw [h1] at g1
        cases g1
        refine ⟨l, vs', v, rfl, rfl, g2, by rw [g5.length]; exact lt_line hl, ?_⟩
        exact g σ _ Z' (h'.mutate e1 h1 (g5.append (.cons r .nil)))
      · rw [if_neg hl] at g; exact g.elim
  · exact g.elim
theorem ds_appO (i : Nat) (he : DE X K e f) (hK : X.K = K := by rfl) (hN : X.N[i]? = some x := by rfl) (hv : Vis X.env.scope x := by first | exact Or.inl rfl | exact Or.inr (Or.inl rfl) | exact Or.inr (Or.inr rfl)) (hd : (x == ("__debug__" : Str)) = false := by decide)
    (hcd : (x == ("__classdict__" : Str)) = false := by decide) (hline : (apos.endLine == p.line) = true := by rfl) (hst : starEach [e] X.env = (false, eval e X.env) :: starEach [] X.env := by rfl)
    (hfew : ((backTo p (starEach [e] X.env)).all (fun x => !x.1) && (backToKw p (keywordEach [] X.env)).all (fun x => x.1.isSome) && decide (([e] : List Expr).length + ([] : List Keyword).length + (if ([] : List Keyword).isEmpty then 0 else 1) < 30)) = true := by rfl)
    (hs : swapsWith (.Call (.Attribute (.Name x px) "append" apos) [e] [] p) none pos.line X.env = pure false := by rfl) : DS X K (.Expr (.Call (.Attribute (.Name x px) "append" apos) [e] [] p) pos) (dAppO i f) := by
  subst hK
  refine (ps_expr (pe_bm PySem.F.plainAttrs_list PySem.F.slot_list_append PySem.F.type_list_append mt_append (pe_var hN hv hd hcd) (pa_cons he pa_nil hst) rfl hfew hline hst rfl) hs).weak fun D σ H ⟨H0, Z0, Z, ρ, h, g⟩ => ?_
  unfold dAppO at g
  split at g
  · rename_i ds e1
    cases e2 : f (vO ρ) with
    | none => rw [e2] at g; exact g.elim
    | some d =>
      simp only [e2] at g
      by_cases hl : ds.length < 1000000
      · rw [if_pos hl] at g
        by_cases hn : noL d = true
        · simp only [hn, if_true] at g
          obtain ⟨l, vs, h1, h2, h3, h4, h5⟩ := h.ow i ds e1
          refine ⟨.ref l, h1, tyl h2, _, vO ρ, d, h.zO_sub, h.viewO, e2, fun v H' Z' xx r => ?_⟩
          have h' := h.afterO xx
          obtain ⟨l', vs', g1, g2, g3, g4, g5⟩ := h'.ow i ds e1
          rw [h1] at g1
          cases g1
          refine ⟨l, vs', v, rfl, rfl, g2, by rw [g5.length]; exact lt_line hl, ?_⟩
          exact g σ _ _ (h'.mutate e1 h1 (g5.append (.cons (r.noL (h.cut_tup xx) hn) .nil)))
        · simp only [hn] at g; exact g.elim
      · rw [if_neg hl] at g; exact g.elim
  · exact g.elim
/-- x.pop(): its value dropped, or given to a name -/
def dPop (i : Nat) : SFn := fun ρ => match ρ[i]? with
  | some (some (.ow ds)) => match ds[ds.length - 1]? with
    | some _ => .next (ρ.set i (some (.ow ds.dropLast)))
    | none => .fail
  | _ => .fail
def dPopTo (j i : Nat) : SFn := fun ρ => match ρ[i]? with
  | some (some (.ow ds)) => match ds[ds.length - 1]? with
    | some d => if i = j then .fail else .next ((ρ.set i (some (.ow ds.dropLast))).set j (some (.sh d)))
    | none => .fail
  | _ => .fail
theorem ds_pop (i : Nat) (hK : X.K = K := by rfl) (hN : X.N[i]? = some x := by rfl) (hv : Vis X.env.scope x := by first | exact Or.inl rfl | exact Or.inr (Or.inl rfl) | exact Or.inr (Or.inr rfl)) (hd : (x == ("__debug__" : Str)) = false := by decide)
    (hcd : (x == ("__classdict__" : Str)) = false := by decide) (hline : (apos.endLine == p.line) = true := by rfl)
    (hs : swapsWith (.Call (.Attribute (.Name x px) "pop" apos) [] [] p) none pos.line X.env = pure false := by rfl) : DS X K (.Expr (.Call (.Attribute (.Name x px) "pop" apos) [] [] p) pos) (dPop i) := by
  subst hK
  refine (ps_expr (pe_bm0 PySem.F.plainAttrs_list PySem.F.slot_list_pop PySem.F.type_list_pop mt_pop (pe_var hN hv hd hcd) rfl hline) hs).weak fun D σ H ⟨H0, Z0, Z, ρ, h, g⟩ => ?_
  unfold dPop at g
  split at g
  · rename_i ds e1
    split at g
    · rename_i d e2
      obtain ⟨l, vs, h1, h2, h3, h4, h5⟩ := h.ow i ds e1
      obtain ⟨v, hv, rv⟩ := h5.get e2
      rw [← h5.length] at hv
      exact ⟨.ref l, h1, tyl h2, l, vs, v, rfl, rfl, h2, hv, g σ _ Z (h.mutate e1 h1 h5.dropLast)⟩
    · exact g.elim
  · exact g.elim
theorem ds_popTo {y : Str} {py : Pos} (j i : Nat) (hNd : X.N.Nodup) (hK : X.K = K := by rfl) (hN : X.N[i]? = some x := by rfl) (hv : Vis X.env.scope x := by first | exact Or.inl rfl | exact Or.inr (Or.inl rfl) | exact Or.inr (Or.inr rfl)) (hd : (x == ("__debug__" : Str)) = false := by decide)
    (hcd : (x == ("__classdict__" : Str)) = false := by decide) (hline : (apos.endLine == p.line) = true := by rfl) (hj : X.N[j]? = some y := by rfl) (hy : Loc X.env.scope y := by first | exact Or.inl rfl | exact Or.inr rfl)
    (hs : swapsWith (.Call (.Attribute (.Name x px) "pop" apos) [] [] p) (some (.Name y py)) pos.line X.env = pure false := by rfl) (hf : X.fn y = true ∨ X.env.scope.names.lookup y = some .local := by first | exact .inl rfl | exact .inr rfl) :
    DS X K (.Assign [.Name y py] (.Call (.Attribute (.Name x px) "pop" apos) [] [] p) pos) (dPopTo j i) := by
  subst hK
  refine (ps_set hNd hj hy (pe_bm0 PySem.F.plainAttrs_list PySem.F.slot_list_pop PySem.F.type_list_pop mt_pop (pe_var hN hv hd hcd) rfl hline) hs hf).weak fun D σ H ⟨H0, Z0, Z, ρ, h, g⟩ => ?_
  unfold dPopTo at g
  split at g
  · rename_i ds e1
    split at g
    · rename_i d e2
      split at g
      · exact g.elim
      · obtain ⟨l, vs, h1, h2, h3, h4, h5⟩ := h.ow i ds e1
        obtain ⟨v, hv, rv⟩ := h5.get e2
        rw [← h5.length] at hv
        exact ⟨.ref l, h1, tyl h2, l, vs, v, rfl, rfl, h2, hv, g _ _ Z ((h.mutate e1 h1 h5.dropLast).setsh rv)⟩
    · exact g.elim
  · exact g.elim
/-- x.pop(e) -/
def dPopAt (i : Nat) (f : DF) : SFn := fun ρ => match ρ[i]? with
  | some (some (.ow ds)) => match f (vO ρ) with
    | some (.int n) => if 0 ≤ n ∧ n < 2 ^ 63 ∧ n < ds.length then .next (ρ.set i (some (.ow (ds.eraseIdx n.toNat)))) else .fail
    | _ => .fail
  | _ => .fail
theorem seqIndex_of {n : Int} {k : Nat} (h0 : 0 ≤ n) (h : n < k) : seqIndex? n k = some n.toNat := by
  have : ixN k n = some n.toNat := by unfold ixN; rw [if_pos h0, if_pos h]
  exact (ixN_seq this).1
theorem ds_popAt (i : Nat) (he : DE X K e f) (hK : X.K = K := by rfl) (hN : X.N[i]? = some x := by rfl) (hv : Vis X.env.scope x := by first | exact Or.inl rfl | exact Or.inr (Or.inl rfl) | exact Or.inr (Or.inr rfl)) (hd : (x == ("__debug__" : Str)) = false := by decide)
    (hcd : (x == ("__classdict__" : Str)) = false := by decide) (hline : (apos.endLine == p.line) = true := by rfl) (hst : starEach [e] X.env = (false, eval e X.env) :: starEach [] X.env := by rfl)
    (hfew : ((backTo p (starEach [e] X.env)).all (fun x => !x.1) && (backToKw p (keywordEach [] X.env)).all (fun x => x.1.isSome) && decide (([e] : List Expr).length + ([] : List Keyword).length + (if ([] : List Keyword).isEmpty then 0 else 1) < 30)) = true := by rfl)
    (hs : swapsWith (.Call (.Attribute (.Name x px) "pop" apos) [e] [] p) none pos.line X.env = pure false := by rfl) : DS X K (.Expr (.Call (.Attribute (.Name x px) "pop" apos) [e] [] p) pos) (dPopAt i f) := by
  subst hK
  refine (ps_expr (pe_bm PySem.F.plainAttrs_list PySem.F.slot_list_pop PySem.F.type_list_pop mt_popAt (pe_var hN hv hd hcd) (pa_cons he pa_nil hst) rfl hfew hline hst rfl) hs).weak fun D σ H ⟨H0, Z0, Z, ρ, h, g⟩ => ?_
  unfold dPopAt at g
  split at g
  · rename_i ds e1
    split at g
    · rename_i n e2
      split at g
      · rename_i hc
        obtain ⟨l, vs, h1, h2, h3, h4, h5⟩ := h.ow i ds e1
        refine ⟨.ref l, h1, tyl h2, _, vO ρ, _, h.zO_sub, h.viewO, e2, fun v H' Z' xx r => ?_⟩
        cases r
        have h' := h.afterO xx
        obtain ⟨l', vs', g1, g2, g3, g4, g5⟩ := h'.ow i ds e1
        rw [h1] at g1
        cases g1
        have hlen : n < vs'.length := by rw [g5.length]; exact hc.2.2
        have hk : n.toNat < vs'.length := by omega
        refine ⟨l, vs', n, n.toNat, vs'[n.toNat], rfl, rfl, g2, by omega, hc.2.1, seqIndex_of hc.1 hlen, List.getElem?_eq_getElem hk, ?_⟩
        exact g σ _ _ (h'.mutate e1 h1 (g5.eraseIdx _))
      · exact g.elim
    · exact g.elim
  · exact g.elim
/-- x[a] = e -/
def dSetAt (i : Nat) (fa f : DF) : SFn := fun ρ => match ρ[i]? with
  | some (some (.ow ds)) => match f (vO ρ) with
    | some d => match fa (vO ρ) with
      | some (.int n) => match ixN ds.length n with
        | some j => if noL d then .next (ρ.set i (some (.ow (ds.set j d)))) else .fail
        | none => .fail
      | _ => .fail
    | none => .fail
  | _ => .fail
end
/-! ### if, while, for -/
def dIf (c : Env → Option Bool) (F G : SFn) : SFn := fun ρ => match c (vO ρ) with
  | some true => F ρ
  | some false => G ρ
  | none => .fail
theorem ds_if {c : Expr} {fc : Env → Option Bool} {a b : List Stmt} (hc : DT X K c fc) (ha : DSs X K a F) (hb : DSs X K b G) : DS X K (.If c a b pos) (dIf fc F G) := (ps_if hc ha hb).weak fun D σ H ⟨H0, Z0, Z, ρ, h, g⟩ => by
  unfold dIf at g
  cases e1 : fc (vO ρ) with
  | none => rw [e1] at g; exact g.elim
  | some k =>
    rw [e1] at g
    refine ⟨_, vO ρ, k, h.zO_sub, h.viewO, e1, fun H' Z' x => ?_⟩
    cases k with
    | true => exact iteT ⟨H0, Z0, _, ρ, h.afterO x, g⟩
    | false => exact iteF ⟨H0, Z0, _, ρ, h.afterO x, g⟩
def whileF (c : Env → Option Bool) (F : SFn) : Nat → SFn
  | 0 => fun _ => .fail
  | n + 1 => fun ρ => match c (vO ρ) with
    | none => .fail
    | some false => .next ρ
    | some true => match F ρ with
      | .next ρ' => whileF c F n ρ'
      | .ct ρ' => whileF c F n ρ'
      | .brk ρ' => .next ρ'
      | r => r
def dWhile (fu : Sto → Nat) (c : Env → Option Bool) (F : SFn) : SFn := fun ρ => whileF c F (fu ρ) ρ
theorem ds_while (fu : Sto → Nat) {c : Expr} {fc : Env → Option Bool} {a : List Stmt} (hp : PassesOwn (model X.prog X.w) X.A X.env X.xe) (hc : DT X K c fc) (ha : DSs X K a F) : DS X K (.While c a [] pos) (dWhile fu fc F) := (ps_while hp hc ha).weak fun D σ H ⟨H0, Z0, Z, ρ, h, g⟩ => by
  refine ⟨fun m σ H => ∃ ρ Z, Hold K H0 Z0 σ H Z ρ ∧ Good K H0 Z0 D (whileF fc F m ρ), ⟨fu ρ, ρ, Z, h, g⟩, ?_⟩
  rintro m σ H ⟨ρ, Z, h, g⟩
  cases m with
  | zero => exact g.elim
  | succ n =>
    unfold whileF at g
    cases e1 : fc (vO ρ) with
    | none => simp only [e1] at g; exact g.elim
    | some k =>
      refine ⟨_, vO ρ, k, h.zO_sub, h.viewO, e1, fun H' Z' x => ?_⟩
      have h' := h.afterO x
      cases k with
      | false =>
        simp only [e1] at g
        exact iteF (g _ _ _ h')
      | true =>
        simp only [e1] at g
        refine iteT ⟨fun σ' H' => ∃ ρ' Z', Hold K H0 Z0 σ' H' Z' ρ' ∧ Good K H0 Z0 D (whileF fc F n ρ'), fun σ' H' hw => ⟨n, Nat.lt_succ_self n, hw⟩, H0, Z0, _, ρ, h', ?_⟩
        cases e2 : F ρ with
        | fail => rw [e2] at g; exact g.elim
        | next ρ' => rw [e2] at g; exact fun σ H Z hh => ⟨ρ', Z, hh, g⟩
        | ct ρ' => rw [e2] at g; exact fun σ H Z hh => ⟨ρ', Z, hh, g⟩
        | brk ρ' => rw [e2] at g; exact g
        | ret d => rw [e2] at g; exact g
        | retN d => rw [e2] at g; exact g
def forF (tg : TgF) (F : SFn) : List PyData → SFn
  | [] => .next
  | d :: ds => fun ρ => match tg d with
    | none => .fail
    | some asg => match F (setSh ρ asg) with
      | .next ρ' => forF tg F ds ρ'
      | .ct ρ' => forF tg F ds ρ'
      | .brk ρ' => .next ρ'
      | r => r
def dFor (fi : Env → Option (List PyData)) (tg : TgF) (F : SFn) : SFn := fun ρ => match fi (vS ρ) with
  | some ds => forF tg F ds ρ
  | none => .fail
/-- over data that holds no list (a range's turns), read off one's own lists too -/
def dForO (fi : Env → Option (List PyData)) (tg : TgF) (F : SFn) : SFn := fun ρ => match fi (vO ρ) with
  | some ds => if noLs ds then forF tg F ds ρ else .fail
  | none => .fail
theorem Hold.rebase {H0 Z0 H Z Z1 : Hp} {σ : L2.St} {ρ : Sto} (h : Hold K H0 Z0 σ H Z ρ) (up : Same Z0 Z1) (s : Same Z1 Z) : Hold K H0 Z1 σ H Z ρ :=
  ⟨⟨h.ext.big, s, h.ext.sub, fun b hb hn => h.ext.new b (up.free hb) hn⟩, h.len, h.sh, h.own, h.ap⟩
theorem Ext.unbase {Z0 H0 Z1 H1 Z H : Hp} (a : Ext Z0 H0 Z1 H1) (b : Ext Z1 H0 Z H) : Ext Z0 H0 Z H := ⟨b.big, a.up.trans b.up, b.sub, fun x hx hn => by
  cases q : Z1 x with
  | none => exact b.new x q hn
  | some o => exact a.new x hx (by rw [q]; exact fun z => nomatch z)⟩
theorem Hold.unbase {H0 Z0 H Z Z1 H1 : Hp} {σ : L2.St} {ρ : Sto} (a : Ext Z0 H0 Z1 H1) (h : Hold K H0 Z1 σ H Z ρ) : Hold K H0 Z0 σ H Z ρ := ⟨a.unbase h.ext, h.len, h.sh, h.own, h.ap⟩
theorem for_core {J : It} {ds : List PyData} {tg : TgF} {H0 Z0 Z1 H1 : Hp} {D : Ends} {σ : L2.St} {H : Hp} {ρ : Sto} (wk : Walks K Z1 J ds) (x1 : Ext Z0 H0 Z1 H1) (h : Hold K H0 Z1 σ H Z1 ρ) (g : Good K H0 Z0 D (forF tg F ds ρ)) :
    ∃ W : Nat → Nat → L2.St → Hp → Prop, (∃ m, W 0 m σ H) ∧ ∀ i m σ H, W i m σ H →
      (J.stop i H ∧ D.nx σ H) ∨ (J.go i H ∧ ∃ N : L2.St → Hp → Prop, (∀ σ' H', N σ' H' → ∃ m', m' < m ∧ W (i + 1) m' σ' H') ∧ ∀ x H', J.yld i H x H' → gD K tg x σ H' fun σ2 H2 => tS K F { D with nx := N, ct := N, bk := D.nx } σ2 H2) := by
  refine ⟨fun i m σ H => m = ds.length - i ∧ i ≤ ds.length ∧ ∃ ρ Z, Hold K H0 Z1 σ H Z ρ ∧ Good K H0 Z0 D (forF tg F (ds.drop i) ρ), ⟨ds.length, rfl, Nat.zero_le _, ρ, Z1, h, g⟩, ?_⟩
  rintro i m σ H ⟨rfl, hi, ρ, Z, h, g⟩
  have sz : Same Z1 H := h.ext.up.trans h.sub
  by_cases hlt : i < ds.length
  · right
    have hd : ds[i]? = some ds[i] := List.getElem?_eq_getElem hlt
    rw [List.drop_eq_getElem_cons hlt] at g
    unfold forF at g
    cases e1 : tg ds[i] with
    | none => simp only [e1] at g; exact g.elim
    | some asg =>
      simp only [e1] at g
      refine ⟨wk.go i H _ sz hd, fun σ' H' => ∃ ρ' Z', Hold K H0 Z1 σ' H' Z' ρ' ∧ Good K H0 Z0 D (forF tg F (ds.drop (i + 1)) ρ'), fun σ' H' ⟨ρ', Z', hh, gg⟩ => ⟨ds.length - (i + 1), by omega, rfl, hlt, ρ', Z', hh, gg⟩, fun y H2 hy => ?_⟩
      obtain ⟨rfl, ry⟩ := wk.yld i H _ y H2 sz hd hy
      refine ⟨Z, ds[i], asg, h.sub, ry.mono h.ext.up, e1, fun ps hps => ?_⟩
      refine ⟨H0, Z1, Z, setSh ρ asg, h.sets hps, ?_⟩
      cases e2 : F (setSh ρ asg) with
      | fail => rw [e2] at g; exact g.elim
      | next ρ' => rw [e2] at g; exact fun σ H Z hh => ⟨ρ', Z, hh, g⟩
      | ct ρ' => rw [e2] at g; exact fun σ H Z hh => ⟨ρ', Z, hh, g⟩
      | brk ρ' => rw [e2] at g; exact fun σ H Z hh => g σ H Z (hh.unbase x1)
      | ret d => rw [e2] at g; exact fun v H Z x r => g v H Z (x1.unbase x) r
      | retN d => rw [e2] at g; exact fun p us H Z x hp zp hl r => g p us H Z (x1.unbase x) hp zp hl r
  · left
    have e : i = ds.length := by omega
    subst e
    rw [List.drop_length] at g
    exact ⟨wk.stop _ H sz (Nat.le_refl _), g σ H Z (h.unbase x1)⟩
theorem ds_for {tg iter : Expr} {fi : Env → Option (List PyData)} {tgf : TgF} {body : List Stmt} (hp : PassesOwn (model X.prog X.w) X.A X.env X.xe) (hi : DI X K tg iter fi) (hg : DG X K tg tgf) (hb : DSs X K body F) (hc : X.calm = true := by rfl)
    (hs : ∀ x, foldedSetIterable iter X.env x = pure x := by intro _; rfl) : DS X K (.For tg iter body [] pos) (dFor fi tgf F) := (ps_for hp hc hi hg hb hs).weak fun D σ H ⟨H0, Z0, Z, ρ, h, g⟩ => by
  unfold dFor at g
  cases e1 : fi (vS ρ) with
  | none => rw [e1] at g; exact g.elim
  | some ds =>
    rw [e1] at g
    refine ⟨Z, vS ρ, ds, h.sub, h.viewS, e1, fun J H1 Z1 x1 wk => ?_⟩
    have h1 := h.afterS x1
    exact for_core wk h1.ext (h1.rebase h1.ext.up (Same.refl _)) g
theorem ds_forR {tg a : Expr} {fs : Env → Option (List PyData)} {tgf : TgF} {body : List Stmt} {p2 pos2 : Pos} (hp : PassesOwn (model X.prog X.w) X.A X.env X.xe) (hm : X.mg "range" = none) (ha : DA X K [a] fs) (hg : DG X K tg tgf) (hb : DSs X K body F) (hgl : Gl X "range" := by rfl) (hc : X.calm = true := by rfl)
    (hst : starEach [a] X.env = [(false, eval a X.env)] := by rfl) (hs : ∀ x, foldedSetIterable (.Call (.Name "range" p2) [a] [] pos2) X.env x = pure x := by intro _; rfl) : DS X K (.For tg (.Call (.Name "range" p2) [a] [] pos2) body [] pos) (dForO (fIR rng1 fs) tgf F) := (ps_for hp hc (pi_range1 hgl hm ha hst) hg hb hs).weak fun D σ H ⟨H0, Z0, Z, ρ, h, g⟩ => by
  unfold dForO at g
  cases e1 : fIR rng1 fs (vO ρ) with
  | none => rw [e1] at g; exact g.elim
  | some ds =>
    rw [e1] at g
    by_cases hn : noLs ds = true
    · simp only [hn, if_true] at g
      obtain ⟨y, e2, e3⟩ := opt_bind e1
      unfold rng1 at e3
      split at e3
      · split at e3
        · rename_i j hj
          cases e3
          refine ⟨_, vO ρ, _, h.zO_sub, h.viewO, e2, fun vs H1 Z1 x1 r1 => ?_⟩
          have h1 := h.afterO x1
          cases r1 with
          | cons r t =>
            cases t
            cases r
            exact ⟨j, rfl, hj.2, hj.1, for_core walks_rng h1.ext (h1.rebase h1.ext.up (Same.refl _)) g⟩
        · cases e3
      · cases e3
    · simp only [hn] at g; exact g.elim
theorem ds_forR2 {tg a b : Expr} {fs : Env → Option (List PyData)} {tgf : TgF} {body : List Stmt} {p2 pos2 : Pos} (hp : PassesOwn (model X.prog X.w) X.A X.env X.xe) (hm : X.mg "range" = none) (ha : DA X K [a, b] fs) (hg : DG X K tg tgf) (hb : DSs X K body F) (hgl : Gl X "range" := by rfl) (hc : X.calm = true := by rfl)
    (hst : starEach [a, b] X.env = [(false, eval a X.env), (false, eval b X.env)] := by rfl) (hst2 : starEach [b] X.env = [(false, eval b X.env)] := by rfl) (hs : ∀ x, foldedSetIterable (.Call (.Name "range" p2) [a, b] [] pos2) X.env x = pure x := by intro _; rfl) : DS X K (.For tg (.Call (.Name "range" p2) [a, b] [] pos2) body [] pos) (dForO (fIR rng2 fs) tgf F) := (ps_for hp hc (pi_range2 hgl hm ha hst hst2) hg hb hs).weak fun D σ H ⟨H0, Z0, Z, ρ, h, g⟩ => by
  unfold dForO at g
  cases e1 : fIR rng2 fs (vO ρ) with
  | none => rw [e1] at g; exact g.elim
  | some ds =>
    rw [e1] at g
    by_cases hn : noLs ds = true
    · simp only [hn, if_true] at g
      obtain ⟨y, e2, e3⟩ := opt_bind e1
      unfold rng2 at e3
      split at e3
      · split at e3
        · rename_i i j hj
          cases e3
          refine ⟨_, vO ρ, _, h.zO_sub, h.viewO, e2, fun vs H1 Z1 x1 r1 => ?_⟩
          have h1 := h.afterO x1
          cases r1 with
          | cons r t =>
            cases t with
            | cons r' t' =>
              cases t'
              cases r; cases r'
              exact ⟨i, j, rfl, ⟨hj.1.2, hj.1.1, hj.2.2, hj.2.1⟩, for_core walks_rng h1.ext (h1.rebase h1.ext.up (Same.refl _)) g⟩
        · cases e3
      · cases e3
    · simp only [hn] at g; exact g.elim
end
/-! ### a def -/
def sto0 (n : Nat) (ds : List PyData) : Sto := ds.map (fun d => some (.sh d)) ++ List.replicate (n - ds.length) none
def runD (n : Nat) (F : SFn) : List PyData → Option PyData := fun ds => match F (sto0 n ds) with
  | .ret d => some d
  | .retN es => some (.list es)
  | .next _ => some .none
  | _ => none
def runN (n : Nat) (F : SFn) : List PyData → Option (List PyData) := fun ds => match F (sto0 n ds) with
  | .retN es => some es
  | _ => none
theorem hold_start {K : PySem.W.Frag} {N : List Str} {vs : List V} {ds : List PyData} {Z H : Hp} (s : Same Z H) (r : RpAll K Z vs ds) : Hold K H Z (L2.start N vs) H Z (sto0 N.length ds) := by
  have hl := r.length
  refine ⟨Ext.refl s, ?_, fun i d e => ?_, fun i es e => ?_, fun i j a es fs e1 => ?_⟩
  · unfold sto0 L2.start
    rw [List.length_append, List.length_append, List.length_map, List.length_map, List.length_replicate, List.length_replicate, hl]
  · unfold sto0 at e
    unfold L2.start
    by_cases hi : i < ds.length
    · rw [List.getElem?_append_left (by rw [List.length_map]; exact hi), List.getElem?_map] at e
      rw [List.getElem?_append_left (by rw [List.length_map, hl]; exact hi), List.getElem?_map]
      cases q : ds[i]? with
      | none => rw [q] at e; cases e
      | some d' =>
        rw [q] at e
        cases e
        obtain ⟨v, hv, rv⟩ := r.get q
        exact ⟨v, by rw [hv]; rfl, rv⟩
    · rw [List.getElem?_append_right (by rw [List.length_map]; omega), List.getElem?_replicate] at e
      split at e <;> cases e
  · unfold sto0 at e
    by_cases hi : i < ds.length
    · rw [List.getElem?_append_left (by rw [List.length_map]; exact hi), List.getElem?_map] at e
      cases q : ds[i]? with
      | none => rw [q] at e; cases e
      | some d' => rw [q] at e; cases e; intro z; cases z
    · rw [List.getElem?_append_right (by rw [List.length_map]; omega), List.getElem?_replicate] at e
      split at e <;> cases e
  · unfold sto0 at e1
    by_cases hi : i < ds.length
    · rw [List.getElem?_append_left (by rw [List.length_map]; exact hi), List.getElem?_map] at e1
      cases q : ds[i]? with
      | none => rw [q] at e1; cases e1
      | some d' => rw [q] at e1; cases e1; intro _ z; cases z
    · rw [List.getElem?_append_right (by rw [List.length_map]; omega), List.getElem?_replicate] at e1
      split at e1 <;> cases e1
section
variable {P : Program} {w : World} {K : PySem.W.Frag} {mg : Str → Option Value} {base : Heap} {x qual : Str} {st : Stmt} {f : Addr} {fd : FuncData} {N ps : List Str} {k : Nat} {F : SFn}
theorem fn_D (Fn : Fun K x qual st f fd) (S : FnScope N ps (defScope st))
    (hbody : ∀ (cdv : Value) (A : Around) (outer : List PySem.Env) (s : Shared) (H : Hp) (E : XK), Room k (A.deeper (envOfC qual (defScope st) s.heap.objs.size f cdv)) → DSs (cxOf CX0 P w K mg base N qual (defScope st) f cdv A outer s H E).nox K (defBody st) F) :
    FnOk P w K mg base CX0 (k + 1) f fd ps (spD K ps.length (runD N.length F)) := by
  refine Fn.ok S (fun vs H Q E ⟨h, _⟩ => h) fun cdv A outer s H vs Q E hr hsp => ?_
  obtain ⟨hn, Z, ds, d, sm, r, e, q⟩ := hsp
  refine ⟨_, hbody cdv A outer s H E hr, H, Z, Z, sto0 N.length ds, hold_start sm r, ?_⟩
  unfold runD at e
  cases e2 : F (sto0 N.length ds) with
  | fail => rw [e2] at e; cases e
  | next ρ => rw [e2] at e; cases e; exact fun σ H' Z' h => q _ H' Z' h.ext .non
  | ret d' => rw [e2] at e; cases e; exact fun v H' Z' x rr => q v H' Z' x rr
  | retN es =>
    rw [e2] at e; cases e
    exact fun p us H' Z' x hp zp hl rr => by
      obtain ⟨x2, sz⟩ := settle x hp zp hl
      exact q _ H' _ x2 (.lst upd_same (rr.mono sz))
  | brk ρ => rw [e2] at e; cases e
  | ct ρ => rw [e2] at e; cases e
theorem fn_N (Fn : Fun K x qual st f fd) (S : FnScope N ps (defScope st))
    (hbody : ∀ (cdv : Value) (A : Around) (outer : List PySem.Env) (s : Shared) (H : Hp) (E : XK), Room k (A.deeper (envOfC qual (defScope st) s.heap.objs.size f cdv)) → DSs (cxOf CX0 P w K mg base N qual (defScope st) f cdv A outer s H E).nox K (defBody st) F) :
    FnOk P w K mg base CX0 (k + 1) f fd ps (spN K ps.length (runN N.length F)) := by
  refine Fn.ok S (fun vs H Q E ⟨h, _⟩ => h) fun cdv A outer s H vs Q E hr hsp => ?_
  obtain ⟨hn, Z, ds, d, sm, r, e, q⟩ := hsp
  refine ⟨_, hbody cdv A outer s H E hr, H, Z, Z, sto0 N.length ds, hold_start sm r, ?_⟩
  unfold runN at e
  cases e2 : F (sto0 N.length ds) with
  | fail => rw [e2] at e; cases e
  | next ρ => rw [e2] at e; cases e
  | ret d' => rw [e2] at e; cases e
  | retN es =>
    rw [e2] at e; cases e
    exact fun p us H' Z' x hp zp hl rr => q p us H' Z' x hp zp hl rr
  | brk ρ => rw [e2] at e; cases e
  | ct ρ => rw [e2] at e; cases e
end
end DL
/-! part DL7 -/
namespace DL
open PySem PySem.Spec PyProof.Rows L2
/-! ### the names of built-ins that the text leaves as they are -/
structure Blts (mg : Str → Option Value) : Prop where
  len : mg "len" = none
  abs : mg "abs" = none
  max : mg "max" = none
  min : mg "min" = none
  sum : mg "sum" = none
  int : mg "int" = none
  bool : mg "bool" = none
  str : mg "str" = none
  list : mg "list" = none
  tuple : mg "tuple" = none
  range : mg "range" = none
  isinstance : mg "isinstance" = none
  all : mg "all" = none
  sorted : mg "sorted" = none
  set : mg "set" = none
  reversed : mg "reversed" = none
/-- a def that keeps its promise stands at the name -/
structure Has (P : Program) (w : World) (K : PySem.W.Frag) (mg : Str → Option Value) (base : Heap) (x : Str) (k : Nat) (ps : List Str) (sp : Sp) : Prop where
  ex : ∃ (f : Addr) (fd : FuncData), FnOk P w K mg base CX0 k f fd ps sp ∧ mg x = some (.ref f) ∧ PySem.W.keepIn K (.ref f) = true ∧ Binds K fd ps []
section
variable {X : Cx} {K : PySem.W.Frag} {pos p : Pos} {e a : Expr} {es : List Expr} {fs : Env → Option (List PyData)} {fe fa : DF} {x : Str} {j k n : Nat} {ps : List Str}
theorem de_user {G : List PyData → Option PyData} (h : Has X.prog X.w X.K X.mg X.base x j ps (spD K n G)) (hr : Room k X.A)
    (ha : DA X K (e :: es) fs) (hjk : j ≤ k := by decide) (hg : Gl X x := by rfl) (hdb : (x == ("__debug__" : Str)) = false := by decide) (he : starEach (e :: es) X.env = (false, eval e X.env) :: starEach es X.env := by rfl) (hpl : (backTo pos (starEach es X.env)).any (·.1) = false := by rfl) :
    DE X K (.Call (.Name x p) (e :: es) [] pos) (fCallF n G fs) := by
  obtain ⟨f, fd, F, hm, hk, hb⟩ := h.ex
  exact de_call F (hr.mono hjk) hm hk hb ha hg hdb he hpl
theorem dn_user {G : List PyData → Option (List PyData)} (h : Has X.prog X.w X.K X.mg X.base x j ps (spN K n G)) (hr : Room k X.A)
    (ha : DA X K (e :: es) fs) (hjk : j ≤ k := by decide) (hg : Gl X x := by rfl) (hdb : (x == ("__debug__" : Str)) = false := by decide) (he : starEach (e :: es) X.env = (false, eval e X.env) :: starEach es X.env := by rfl) (hpl : (backTo pos (starEach es X.env)).any (·.1) = false := by rfl) :
    DN X K (.Call (.Name x p) (e :: es) [] pos) (fCallFN n G fs) := by
  obtain ⟨f, fd, F, hm, hk, hb⟩ := h.ex
  exact dn_call F (hr.mono hjk) hm hk hb ha hg hdb he hpl
/-- -e -/
def gNeg : PyData → Option PyData
  | .int i => some (.int (-i))
  | _ => none
theorem de_neg (ha : DE X K a fa) : DE X K (.UnaryOp .USub a pos) (f1 gNeg fa) := (pe_un un_neg ha).weak fun σ H Q ⟨Z, ρ, d, s, v, ed, q⟩ => by
  obtain ⟨x, e1, e2⟩ := opt_bind ed
  refine ⟨Z, ρ, x, s, v, e1, fun vx H1 Z1 x1 r1 => ?_⟩
  cases r1 with
  | int i => cases e2; exact ⟨i, rfl, q _ H1 Z1 x1 (.int _)⟩
  | _ => cases e2
/-- list(reversed(e)) -/
def fRev (fe : DF) : Env → Option (List PyData) := fun ρ => (fe ρ).bind fun d => (asList d).bind fun ds => some ds.reverse
def tLstRev (K : PySem.W.Frag) (te : TE) : TE := fun σ H Q => te σ H fun v H1 => ∃ (a : Addr) (xs : List V), v = .ref a ∧ SqL K H1 a xs ∧ ∀ q, H1 q = none → Q (.ref q) (upd H1 q (.lst xs.reverse))
end
end DL
/-! part DL8 -/
namespace DL
open PySem PySem.Spec PyProof.Rows L2
section
variable {prog : Program} {w : World} {A : Around} {E : Value → Shared → Prop} {s : Shared} {R : Result → Shared → Prop}
theorem ext_rev {it l S : Addr} {items : Array Value} {res : Value} {c₀ : Nat} (hh : A.handled = none) (hit : s.heap.IsRevIter it l ((items.size : Int) - 1)) (hl : s.heap.IsList l items) (hne : l ≠ it) (hSi : S ≠ it) (hSl : S ≠ l) (hn : items.size ≤ sizeLine)
    (hS : s.heap.get? S = some { cls := .type "list", data := .seq #[] c₀ })
    (hR : ∀ (s' : Shared) (acc : Array Value) (c' : Nat), Moved [S, it] (fun a b => b = a) s s' → s'.heap.get? S = some { cls := .type "list", dict := none, data := .seq acc c', slots := #[] } → ItemsOf (fun i v => items[items.size - 1 - i]? = some v) acc items.size → R (.ok (.ret res)) s') :
    wpAny (model prog w) A.in1 (Builtin.List.listExtendWith (.ref S) (.ref it) res)
      (fun fin s' => match fin with | .done f => R (.ok f) s' | .again c' => c'.quiet = true ∧ codeAny (model prog w) A c' R s') (fun e s' => R (.error e) s') s := by
  have W := (Walks.listRev (prog := prog) (w := w) (A := A.in1) hh it l hne items).toS
  have hSf : S ∉ [it, l] := by simp only [List.mem_cons, List.not_mem_nil, or_false, not_or]; exact ⟨hSi, hSl⟩
  have hT : s.TypeIs (.ref it) "list_reverseiterator" := hit.typeIs
  have h1 : Builtin.List.listSameRef (.ref S) (.ref it) = false := by simp [Builtin.List.listSameRef, hSi]
  unfold Builtin.List.listExtendWith
  refine wpAny_bind (wpAny_typeOf hT ?_)
  rw [if_neg (by rw [h1]; decide)]
  refine wpAny_bind (wpAny_pyIter_revIter hit ?_)
  refine wpAny_bind (wpAny_holding ?_)
  unfold Builtin.List.listLengthHint
  refine wpAny_bind (wpAny_specialOf hT RT.nolen_lri ?_)
  show wpAny _ A.in1 (specialOf (Value.ref it) (Str.ofString "__length_hint__") >>= _) _ _ _
  refine wpAny_bind (wpAny_specialOf hT RT.hint_lri ?_)
  generalize hid : ("list_reverseiterator.__length_hint__" : String) = id0
  wp_delta
  rw [show splitId id0 = some ("list_reverseiterator", "__length_hint__") from by subst hid; decide +kernel]
  subst hid
  refine wpAny_bind (wpAny_isInstance (b := true) hT (by rw [isSubtype_type]; kernel_rfl) ?_)
  refine wpAny_pure ?_
  rw [if_neg (by decide)]
  have e0 : ((items.size : Nat) : Int) - 1 - ((0 : Nat) : Int) = (items.size : Int) - 1 := by omega
  exact wpAny_pure ⟨plainId_quiet F.plain_extend_loop _, codeAny_extend_loopS W hn _ hSf _ items.size 0 _ _ _ rfl (Nat.zero_le _) ⟨Nat.zero_le _, by rw [e0]; exact hit, hl⟩ hS (ItemsOf.nil _) fun s' acc' c' hm hS' hacc => hR s' acc' c' hm hS' hacc⟩
theorem init_rev {it l S : Addr} {items : Array Value} (hh : A.handled = none) (hit : s.heap.IsRevIter it l ((items.size : Int) - 1)) (hl : s.heap.IsList l items) (hne : l ≠ it) (hSi : S ≠ it) (hSl : S ≠ l) (hn : items.size ≤ sizeLine)
    (hS : s.heap.get? S = some { cls := .type "list", data := .seq #[] })
    (hR : ∀ (h' : Heap) (tk : Nat) (acc : Array Value) (c' : Nat), (∀ b o, b ≠ S → b ≠ it → s.heap.get? b = some o → h'.get? b = some o) → h'.get? S = some { cls := .type "list", dict := none, data := .seq acc c', slots := #[] } → ItemsOf (fun i v => items[items.size - 1 - i]? = some v) acc items.size → R (.ok (.ret .none)) { s with heap := h', toks := tk }) :
    wpAny (model prog w) A.in1 (Builtin.«list.__init__» ⟨[.ref S, .ref it], []⟩)
      (fun fin s' => match fin with | .done f => R (.ok f) s' | .again c' => c'.quiet = true ∧ codeAny (model prog w) A c' R s') (fun e s' => R (.error e) s') s := by
  show wpAny _ A.in1 (Builtin.List.listItems (.ref S) >>= fun old => Builtin.List.listUpdate (.ref S) (fun _ => #[]) >>= fun _ => letGo old.toList.reverse >>= fun _ => Builtin.List.listExtendWith (.ref S) (.ref it) .none) _ _ s
  refine wpAny_bind ?_
  unfold Builtin.List.listItems
  refine wpAny_bind (wpAny_seqItems hS rfl (wpAny_pure ?_))
  show wpAny _ A.in1 (updateSeq S (fun _ => #[]) >>= fun _ => letGo (#[] : Array Value).toList.reverse >>= fun _ => Builtin.List.listExtendWith (.ref S) (.ref it) .none) _ _ s
  refine wpAny_bind (wpAny_updateSeq hS rfl ?_)
  have hS₂ := Heap.get?_update_self (Obj.mapSeq (fun _ => (#[] : Array Value))) hS rfl
  have oth : ∀ b o, b ≠ S → s.heap.get? b = some o → (s.heap.update S (Obj.mapSeq (fun _ => (#[] : Array Value)))).get? b = some o := fun b o hb e => (Heap.get?_update_other _ _ (Ne.symm hb)).trans e
  refine wpAny_bind (wpAny_letGo ?_)
  have hit2 : (s.heap.update S (Obj.mapSeq (fun _ => (#[] : Array Value)))).IsRevIter it l ((items.size : Int) - 1) := hit.at fun o e => oth it o hSi.symm e
  have hl2 : (s.heap.update S (Obj.mapSeq (fun _ => (#[] : Array Value)))).IsList l items := hl.at fun o e => oth l o hSl.symm e
  refine ext_rev (s := { s with heap := s.heap.update S (Obj.mapSeq (fun _ => (#[] : Array Value))) }) (c₀ := _) hh hit2 hl2 hne hSi hSl hn hS₂ fun s' acc c' hm hS' ha => ?_
  rw [Moved.eq_with hm]
  refine hR s'.heap s'.toks acc c' (fun b o hb hb2 e => hm.heap b o (fun hmem => ?_) (oth b o hb e)) hS' ha
  rcases List.mem_cons.mp hmem with e' | hmem
  · exact hb e'
  · exact hb2 (List.mem_singleton.mp hmem)
theorem call_list_rev {it l : Addr} {items : Array Value} {Q : Value → Shared → Prop} (hh : A.handled = none) (hit : s.heap.IsRevIter it l ((items.size : Int) - 1)) (hl : s.heap.IsList l items) (hne : l ≠ it) (hn : items.size ≤ sizeLine)
    (hQ : ∀ (h' : Heap) (tk : Nat) (acc : Array Value) (c' : Nat), (∀ b o, b ≠ it → s.heap.get? b = some o → h'.get? b = some o) → h'.get? s.heap.objs.size = some { cls := .type "list", dict := none, data := .seq acc c', slots := #[] } → ItemsOf (fun i v => items[items.size - 1 - i]? = some v) acc items.size →
      Q (.ref s.heap.objs.size) { s with heap := h', toks := tk }) :
    wpAny (model prog w) A (call (.type "list") [.ref it]) Q E s := by
  obtain ⟨oi, hoi, _⟩ := id hit
  obtain ⟨ol, hol, _⟩ := id hl
  have hSi : s.heap.objs.size ≠ it := Nat.ne_of_gt (Heap.lt_size hoi)
  have hSl : s.heap.objs.size ≠ l := Nat.ne_of_gt (Heap.lt_size hol)
  refine callType_codes (Q₁ := fun obj s₁ => obj = .ref s.heap.objs.size ∧ s₁ = { s with heap := s.heap.push { cls := .type "list", data := .seq #[] } }) F.called_list (F.typeCall_list_1 _) F.entry_list_init
    (code_list_new _ ⟨rfl, rfl⟩) fun obj s₁ h₁ => ?_
  obtain ⟨rfl, rfl⟩ := h₁
  have hS : (s.heap.push { cls := .type "list", data := .seq #[] }).get? s.heap.objs.size = some { cls := .type "list", data := .seq #[] } := Heap.get?_push_size _ rfl
  have hit1 : (s.heap.push { cls := .type "list", data := .seq #[] }).IsRevIter it l ((items.size : Int) - 1) := hit.at fun o e => Heap.get?_push_of_some _ e
  refine ⟨⟨_, hS, rfl⟩, F.args_list_init_2 _ _, init_rev (s := { s with heap := s.heap.push { cls := .type "list", data := .seq #[] } }) (A := A.in1) hh hit1 (hl.push _) hne hSi hSl hn hS fun h' tk acc c' hk hS' ha => ⟨rfl, hQ h' tk acc c' (fun b o hb e => hk b o (fun z => ?_) hb (Heap.get?_push_of_some _ e)) hS' ha⟩⟩
  rw [z] at e
  exact absurd (Heap.lt_size e) (Nat.lt_irrefl _)
end
section
variable {X : Cx} {K : PySem.W.Frag} {e : Expr} {fe : DF}
theorem pe_lstRev {te : TE} {p p2 pos pos2 : Pos} (hc : X.calm = true) (hg : Gl X "list") (hm : X.mg "list" = none) (hg2 : Gl X "reversed") (hm2 : X.mg "reversed" = none) (he : PE X e te)
    (hs : starEach [e] X.env = (false, eval e X.env) :: starEach [] X.env)
    (hs2 : starEach [.Call (.Name "reversed" p2) [e] [] pos2] X.env = (false, eval (.Call (.Name "reversed" p2) [e] [] pos2) X.env) :: starEach [] X.env) :
    PE X (.Call (.Name "list" p) [.Call (.Name "reversed" p2) [e] [] pos2] [] pos) (tLstRev X.K te) := by
  refine ⟨fun pins s σ H Q I h => ?_⟩
  refine Call_ (ld_blt I hg hm boot_list (PyProof.Rows.callWith_type1 (args_cons (Call_ (ld_blt I hg2 hm2 PyProof.Rows.boot_reversed (PyProof.Rows.callWith_type1 (args_cons (thn (he.run pins s σ H _ I h) fun u s1 ⟨v, H1, I1, r1, q1⟩ => args_nil ?_) hs) hs rfl))) hs2) hs2 rfl))
  obtain ⟨a, xs, ev, hq, q⟩ := q1
  subst ev
  obtain rfl : u = Value.ref a := r1
  obtain ⟨its, rv, p', hz⟩ := I1.list hq
  refine call_reversed_list p'.isList (args_nil ?_)
  have k0 : ∀ b o, s1.heap.get? b = some o → (s1.heap.push (revObj a ((its.toArray.size : Int) - 1))).get? b = some o := fun b o e => Heap.get?_push_of_some _ e
  have I2 : Inv X pins σ H1 { s1 with heap := s1.heap.push (revObj a ((its.toArray.size : Int) - 1)) } := I1.kept (t' := s1.toks) k0
  obtain ⟨f0, f1, f2, f3, f4, f5⟩ := I1.fpOk (H' := H1) (b := s1.heap.objs.size) (Nat.le_refl _) (I1.hok.fresh (Nat.le_refl _))
  have hl := p'.isList
  obtain ⟨ol, hol, _⟩ := id hl
  have hne : a ≠ s1.heap.objs.size := Nat.ne_of_lt (Heap.lt_size hol)
  have hn : its.toArray.size ≤ sizeLine := by rw [List.size_toArray, ← rv.length]; exact hz
  refine call_list_rev (s := { s1 with heap := s1.heap.push (revObj a ((its.toArray.size : Int) - 1)) }) (I1.ok.hd hc) ⟨_, Heap.get?_push_size _ rfl, rfl, rfl⟩ (hl.push _) hne hn fun h' tk acc c' hk hS hi => ?_
  have hS0 : s1.heap.objs.size ≤ (s1.heap.push (revObj a ((its.toArray.size : Int) - 1))).objs.size := by rw [Heap.size_push]; exact Nat.le_succ _
  have hk1 : ∀ b u, s1.heap.get? b = some u → h'.get? b = some u := fun b u eb => hk b u (Nat.ne_of_lt (Heap.lt_size eb)) (k0 b u eb)
  refine ⟨.ref _, upd H1 _ (.lst xs.reverse), I1.laid (t' := tk) hk1 hS0 (show ObjOk X.prog X.w _ _ _ (.lst xs.reverse) from ⟨by rw [List.length_reverse]; exact hz, acc.toList, c', RT.vals_rev rv hi, ?_⟩), rfl, q _ (I1.hok.fresh hS0)⟩
  rw [Array.toArray_toList]
  exact hS
theorem dn_listRev {p p2 pos pos2 : Pos} (hm : X.mg "list" = none) (hm2 : X.mg "reversed" = none) (he : DE X K e fe) (hK : X.K = K := by rfl) (hc : X.calm = true := by rfl) (hg : Gl X "list" := by rfl) (hg2 : Gl X "reversed" := by rfl)
    (hs : starEach [e] X.env = (false, eval e X.env) :: starEach [] X.env := by rfl)
    (hs2 : starEach [.Call (.Name "reversed" p2) [e] [] pos2] X.env = (false, eval (.Call (.Name "reversed" p2) [e] [] pos2) X.env) :: starEach [] X.env := by rfl) :
    DN X K (.Call (.Name "list" p) [.Call (.Name "reversed" p2) [e] [] pos2] [] pos) (fRev fe) := by
  subst hK
  refine (pe_lstRev hc hg hm hg2 hm2 he hs hs2).weak fun σ H Q ⟨Z, ρ, d, s, v, ed, q⟩ => ?_
  obtain ⟨x, e1, e2⟩ := opt_bind ed
  obtain ⟨ds, e3, e4⟩ := opt_bind e2
  cases e4
  have := asList_inv e3
  subst this
  refine ⟨Z, ρ, _, s, v, e1, fun vx H1 Z1 x1 r1 => ?_⟩
  cases r1 with
  | lst ha r =>
    refine ⟨_, _, rfl, SqL.of (x1.sub _ _ ha), fun p hp => ?_⟩
    exact q p _ _ _ (x1.trans (Ext.free x1.sub hp)) (x1.big.free hp) (x1.sub.free hp) upd_same r.reverse
end
/-! ### turns enough for any while: all that the names hold -/
mutual
def szD : PyData → Nat
  | .int i => i.natAbs
  | .list ds => 1 + szDs ds
  | .tuple ds => 1 + szDs ds
  | _ => 1
def szDs : List PyData → Nat
  | [] => 0
  | d :: ds => 1 + szD d + szDs ds
end
def szC : Option Cell → Nat
  | some (.sh d) => szD d
  | some (.ow ds) => szDs ds
  | _ => 0
def fuD (ρ : Sto) : Nat := 10000 + (ρ.map szC).sum
/-- the script -/
def scrD (ns : List Int) : PyData := .dict (ns.map fun n => (PyData.none, PyData.int n))
section
variable {P : Program} {w : World} {K : PySem.W.Frag} {mg : Str → Option Value} {base : Heap} {x qual : Str} {st : Stmt} {f : Addr} {fd : FuncData} {N ps : List Str} {k n m : Nat} {F : SFn}
theorem def_D (Fn : Fun K x qual st f fd) (S : FnScope N ps (defScope st)) (hn : ps.length = n) (hm : N.length = m)
    (hbody : ∀ (cdv : Value) (A : Around) (outer : List PySem.Env) (s : Shared) (H : Hp) (E : XK), Room k (A.deeper (envOfC qual (defScope st) s.heap.objs.size f cdv)) → DSs (cxOf CX0 P w K mg base N qual (defScope st) f cdv A outer s H E).nox K (defBody st) F) :
    FnOk P w K mg base CX0 (k + 1) f fd ps (spD K n (runD m F)) := by
  subst hn; subst hm; exact fn_D Fn S hbody
theorem def_N (Fn : Fun K x qual st f fd) (S : FnScope N ps (defScope st)) (hn : ps.length = n) (hm : N.length = m)
    (hbody : ∀ (cdv : Value) (A : Around) (outer : List PySem.Env) (s : Shared) (H : Hp) (E : XK), Room k (A.deeper (envOfC qual (defScope st) s.heap.objs.size f cdv)) → DSs (cxOf CX0 P w K mg base N qual (defScope st) f cdv A outer s H E).nox K (defBody st) F) :
    FnOk P w K mg base CX0 (k + 1) f fd ps (spN K n (runN m F)) := by
  subst hn; subst hm; exact fn_N Fn S hbody
end
end DL
/-! part DL9 -/
namespace DL
open PySem PySem.Spec PyProof.Rows L2
/-! ### reckoning with what a def does on data -/
theorem gI0_ii {g : Int → Int → PyData} {i j : Int} : gI0 g (.int i) (.int j) = some (g i j) := rfl
theorem gI_ii {C : Int → Int → Prop} {g : Int → Int → PyData} {i j : Int} (h : C i j) : gI C g (.int i) (.int j) = some (g i j) := by
  unfold gI; exact if_pos h
theorem gMul_ii {i j : Int} (h1 : Bd 100000 i) (h2 : Bd 100000 j) : gI MulG (fun i j => .int (i * j)) (.int i) (.int j) = some (.int (i * j)) := gI_ii ⟨h1, h2⟩
theorem gDiv_ii {i j : Int} (h1 : j ≠ 0) (h2 : Bd 8999 j) : gI DivG (fun i j => .int (i.fdiv j)) (.int i) (.int j) = some (.int (i.fdiv j)) := gI_ii ⟨h1, h2⟩
theorem gDiv_pos {i j : Int} (h1 : 0 < j) (h2 : Bd 8999 j) : gI DivG (fun i j => .int (i.fdiv j)) (.int i) (.int j) = some (.int (i / j)) := by
  rw [gDiv_ii (by omega) h2, Int.fdiv_eq_ediv_of_nonneg i (by omega)]
theorem gMod_ii {i j : Int} (h1 : j ≠ 0) : gI ModG (fun i j => .int (i.fmod j)) (.int i) (.int j) = some (.int (i.fmod j)) := gI_ii h1
theorem gMod_pos {i j : Int} (h1 : 0 < j) : gI ModG (fun i j => .int (i.fmod j)) (.int i) (.int j) = some (.int (i % j)) := by
  rw [gMod_ii (by omega), Int.fmod_eq_emod_of_nonneg i (by omega)]
theorem gPow_ii {i j : Int} (h : PowG i j) : gI PowG (fun i j => .int (i ^ j.toNat)) (.int i) (.int j) = some (.int (i ^ j.toNat)) := gI_ii h
theorem gEq_int {i j : Int} : gEq (.int i) (.int j) = some (.bool (decide (i = j))) := by
  unfold gEq
  have h : ∀ k : Int, SeqAt.shaped (.int k) = true := fun k => by simp [SeqAt.shaped, PyData.canLay0, PyData.depth]
  rw [h, h]
  simp only [Bool.and_self, if_true, PyData.eqv]
  rw [PySem.W.beq_decide]
theorem gNe_int {i j : Int} : gNe (.int i) (.int j) = some (.bool (!decide (i = j))) := by
  unfold gNe
  have h : ∀ k : Int, SeqAt.shaped (.int k) = true := fun k => by simp [SeqAt.shaped, PyData.canLay0, PyData.depth]
  rw [h, h]
  simp only [Bool.and_self, if_true, PyData.eqv]
  rw [PySem.W.beq_decide]
/-! bounds -/
theorem bd_mono {n m : Nat} {i : Int} (h : Bd n i) (hm : n ≤ m) : Bd m i := Nat.lt_of_lt_of_le h (Nat.pow_le_pow_right (by decide) hm)
theorem bd_add {n m : Nat} {i j : Int} (h1 : Bd n i) (h2 : Bd m j) : Bd (max n m + 1) (i + j) := by
  have a := bd_mono h1 (Nat.le_max_left n m)
  have b := bd_mono h2 (Nat.le_max_right n m)
  unfold Bd at *
  rw [Nat.pow_succ]
  omega
theorem bd_sub {n m : Nat} {i j : Int} (h1 : Bd n i) (h2 : Bd m j) : Bd (max n m + 1) (i - j) := by
  have a := bd_mono h1 (Nat.le_max_left n m)
  have b := bd_mono h2 (Nat.le_max_right n m)
  unfold Bd at *
  rw [Nat.pow_succ]
  omega
theorem bd_mul {n m : Nat} {i j : Int} (h1 : Bd n i) (h2 : Bd m j) : Bd (n + m) (i * j) := wide_lt h1 h2
theorem bd_neg {n : Nat} {i : Int} (h1 : Bd n i) : Bd n (-i) := by unfold Bd at *; rwa [Int.natAbs_neg]
theorem bd_emod {n : Nat} {i j : Int} (h0 : 0 < j) (h1 : Bd n j) : Bd n (i % j) := by
  have a := Int.emod_nonneg i (show j ≠ 0 by omega)
  have b := Int.emod_lt_of_pos i h0
  unfold Bd at *
  omega
theorem bd_ediv {n : Nat} {i j : Int} (h1 : Bd n i) : Bd (n + 1) (i / j) := by
  unfold Bd at *
  have := Int.natAbs_ediv_le_natAbs i j
  rw [Nat.pow_succ]
  omega
theorem bd_lit {n : Nat} {i : Int} (h : i.natAbs < 2 ^ n) : Bd n i := h
/-! sets of tuples of ints, of ints -/
/-! unpacking what is a tuple or a list -/
theorem _root_.L2.PG.or {X : Cx} {e : Expr} {t1 t2 : TG} (h1 : PG X e t1) (h2 : PG X e t2) : PG X e (fun v σ H Q => t1 v σ H Q ∨ t2 v σ H Q) :=
  ⟨fun pins s σ H v u Q I r q => by
    rcases q with q | q
    · exact h1.run pins s σ H v u Q I r q
    · exact h2.run pins s σ H v u Q I r q⟩
def tgE (js : List Nat) : TgF := fun d => match d with
  | .tuple ds => if ds.length = js.length then some (js.zip ds) else none
  | .list ds => if ds.length = js.length then some (js.zip ds) else none
  | _ => none
theorem dg_eith {X : Cx} {K : PySem.W.Frag} {pos : Pos} {es : List Expr} {js : List Nat} {k n : Nat} (hK : X.K = K := by rfl) (hc : X.calm = true := by rfl) (h : PGs X es (gDs js)) (hj : js.length = n := by rfl)
    (hn : (assignEach es X.env).length = n := by rfl) (hst : (assignEach es X.env).findIdx? (·.1) = none := by rfl) : DG X K (.Tuple es k pos) (tgE js) :=
  ((dg_tup hK hc h hj hn hst).or (dg_unl hK hc h hj hn hst)).weak fun v σ H Q ⟨Z, d, asg, s, r, e, q⟩ => by
    unfold tgE at e
    split at e
    · exact .inl ⟨Z, _, asg, s, r, e, q⟩
    · exact .inr ⟨Z, _, asg, s, r, e, q⟩
    · cases e
end DL
/-! part DL10 -/
namespace DL
open PySem PySem.Spec PyProof.Rows L2
/-! ### an exception of the program's own leaves -/
/-- where R says so, the def raises C -/
def spR (K : PySem.W.Frag) (n : Nat) (R : List PyData → Bool) (C : Addr) : Sp := fun vs H Q E => vs.length = n ∧ ∃ Z ds, Same Z H ∧ RpAll K Z vs ds ∧ R ds = true ∧ ∀ H' Z', Ext Z H Z' H' → E (.ref C) none H'
/-- a statement that raises C where R tells a state -/
abbrev RFn := Sto → Option Sto
def tR (K : PySem.W.Frag) (W : WX) (C : Addr) (R : RFn) : TS := fun _ σ H => ∃ H0 Z0 Z ρ ρ', Hold K H0 Z0 σ H Z ρ ∧ R ρ = some ρ' ∧ ∀ σ' H' Z', Hold K H0 Z0 σ' H' Z' ρ' → W (.ref C) none σ' H'
def tRE (K : PySem.W.Frag) (W : WX) (C : Addr) (R : Env → Bool) : TE := fun σ H _ => ∃ Z ρ, Same Z H ∧ View K Z σ ρ ∧ R ρ = true ∧ ∀ H' Z', Ext Z H Z' H' → W (.ref C) none σ H'
abbrev DR (X : Cx) (K : PySem.W.Frag) (W : WX) (C : Addr) (st : Stmt) (R : RFn) : Prop := PS X st (tR K W C R)
abbrev DRs (X : Cx) (K : PySem.W.Frag) (W : WX) (C : Addr) (sts : List Stmt) (R : RFn) : Prop := PSs X sts (tR K W C R)
abbrev DRE (X : Cx) (K : PySem.W.Frag) (W : WX) (C : Addr) (e : Expr) (R : Env → Bool) : Prop := PE X e (tRE K W C R)
/-- the facts of an own class of exceptions -/
structure ExcT (K : PySem.W.Frag) (mg : Str → Option Value) (x : Str) (C : Addr) : Prop where
  gC : mg x = some (.ref C)
  xP : PySem.W.excIn K C [.type "ValueError", .type "Exception", .type "BaseException", .type "object"] "ValueError.__new__" = true
  kP : PySem.W.keepIn K (.ref C) = true
  bP : PySem.W.subIn K (.ref C) (.type "BaseException") = some true
  tP : PySem.W.typeIn K (.ref C) = some (.type "type")
  iP : PySem.W.isClsIn K C = true
  ga : PySem.W.findIn K (.ref C) "__getattribute__" = some (some (.builtin "BaseException.__getattribute__"))
  gg : PySem.W.findIn K (.ref C) "__getattr__" = some none
  cl : PySem.W.findIn K (.ref C) "__class__" = some (some (.builtin "object.__class__"))
  ob : PySem.W.mroIn K C (.type "object") = some true
  sg : PySem.W.specialIn K (.builtin "object.__class__") "__get__" = some (some (.builtin "getset_descriptor.__get__"))
  tk : PySem.W.takesIn K (.builtin "object.__class__") = some true
section
variable {X : Cx} {K : PySem.W.Frag} {pos p : Pos} {W : WX} {C : Addr} {st : Stmt} {sts : List Stmt} {F : SFn} {R : RFn} {e : Expr} {es : List Expr} {fs : Env → Option (List PyData)}
theorem drs_head (h : DR X K W C st R) : DRs X K W C (st :: sts) R := (pss_cons h (pss_never)).weak fun D σ H q => q
theorem drs_skip (h : DS X K st F) (h2 : DRs X K W C sts R) : DRs X K W C (st :: sts) (fun ρ => match F ρ with | .next ρ' => R ρ' | _ => none) := (pss_cons h h2).weak fun D σ H ⟨H0, Z0, Z, ρ, ρ', hh, e, q⟩ => by
  refine ⟨H0, Z0, Z, ρ, hh, ?_⟩
  cases e1 : F ρ with
  | next ρ1 =>
    simp only [e1] at e
    exact fun σ H Z h3 => ⟨H0, Z0, Z, ρ1, ρ', h3, e, q⟩
  | _ => simp only [e1] at e; cases e
def rIf (c : Env → Option Bool) (R : RFn) : RFn := fun ρ => match c (vO ρ) with
  | some true => R ρ
  | _ => none
theorem dr_if {c : Expr} {fc : Env → Option Bool} {a b : List Stmt} (hc : DT X K c fc) (ha : DRs X K W C a R) : DR X K W C (.If c a b pos) (rIf fc R) := (ps_if hc ha pss_never).weak fun D σ H ⟨H0, Z0, Z, ρ, ρ', h, e, q⟩ => by
  unfold rIf at e
  cases e1 : fc (vO ρ) with
  | none => simp only [e1] at e; cases e
  | some k =>
    cases k with
    | false => simp only [e1] at e; cases e
    | true =>
      simp only [e1] at e
      exact ⟨_, vO ρ, true, h.zO_sub, h.viewO, e1, fun H' Z' x => iteT ⟨H0, Z0, _, ρ, ρ', h.afterO x, e, q⟩⟩
theorem dr_raise {x m : Str} {j : Nat} {p p2 pos2 : Pos} (T : ExcT X.K X.mg x C) (tk : Takes X W) (hc : X.calm = true := by rfl) (hg : Gl X x := by rfl) (hd : (x == ("__debug__" : Str)) = false := by decide) :
    DR X K W C (.Raise (some (.Call (.Name x p) [.Constant (.str m) j p2] [] pos2)) none pos) some :=
  (ps_raise hc tk (pmk_own PySem.F.excBase_ValueError T.xP T.gC T.kP (raises_own T.bP T.tP) hg hd)).weak fun D σ H ⟨H0, Z0, Z, ρ, ρ', h, e, q⟩ => by
    cases e
    exact q σ H Z h
def rEx (R : Env → Bool) : RFn := fun ρ => if R (vO ρ) then some ρ else none
theorem rEx_inv {R : Env → Bool} {ρ ρ' : Sto} (e : rEx R ρ = some ρ') : R (vO ρ) = true ∧ ρ' = ρ := by
  unfold rEx at e
  split at e
  · rename_i h; cases e; exact ⟨h, rfl⟩
  · cases e
theorem dr_expr {R : Env → Bool} (he : DRE X K W C e R) (hs : swapsWith e none pos.line X.env = pure false := by rfl) : DR X K W C (.Expr e pos) (rEx R) := (ps_expr he hs).weak fun D σ H ⟨H0, Z0, Z, ρ, ρ', h, e, q⟩ => by
  obtain ⟨e1, rfl⟩ := rEx_inv e
  exact ⟨_, vO ρ', h.zO_sub, h.viewO, e1, fun H' Z' x => q σ H' _ (h.afterO x)⟩
def rCall (n : Nat) (R : List PyData → Bool) (fs : Env → Option (List PyData)) : Env → Bool := fun ρ => match fs ρ with
  | some ds => decide (ds.length = n) && R ds
  | none => false
theorem dre_call {R : List PyData → Bool} {x : Str} {k n : Nat} {f : Addr} {fd : FuncData} {ps : List Str} (F : FnOk X.prog X.w X.K X.mg X.base (CX X.prog X.w) k f fd ps (spR K n R C)) (tk : Takes X W) (hr : Room k X.A) (hm : X.mg x = some (.ref f)) (hk : PySem.W.keepIn X.K (.ref f) = true) (hb : Binds X.K fd ps [])
    (ha : DA X K (e :: es) fs) (hg : Gl X x := by rfl) (hdb : (x == ("__debug__" : Str)) = false := by decide) (he : starEach (e :: es) X.env = (false, eval e X.env) :: starEach es X.env := by rfl) (hpl : (backTo pos (starEach es X.env)).any (·.1) = false := by rfl) :
    DRE X K W C (.Call (.Name x p) (e :: es) [] pos) (rCall n R fs) := (pe_callS F hr hg hm hk hb (fun σ => passAt tk σ) ha hdb he hpl).weak fun σ H Q ⟨Z, ρ, s, v, e, q⟩ => by
  unfold rCall at e
  cases e1 : fs ρ with
  | none => rw [e1] at e; cases e
  | some ds =>
    simp only [e1, Bool.and_eq_true, decide_eq_true_eq] at e
    refine ⟨Z, ρ, ds, s, v, e1, fun vs H1 Z1 x1 r1 => ?_⟩
    exact ⟨r1.length.trans e.1, Z1, ds, x1.sub, r1, e.2, fun H2 Z2 x2 => q H2 Z2 (x1.trans x2)⟩
end
/-- a def that may raise stands at the name -/
structure HasR (P : Program) (w : World) (K : PySem.W.Frag) (mg : Str → Option Value) (base : Heap) (x : Str) (k : Nat) (ps : List Str) (sp : Sp) : Prop where
  ex : ∃ (f : Addr) (fd : FuncData), FnOk P w K mg base (CX P w) k f fd ps sp ∧ mg x = some (.ref f) ∧ PySem.W.keepIn K (.ref f) = true ∧ Binds K fd ps []
section
variable {X : Cx} {K : PySem.W.Frag} {pos p : Pos} {W : WX} {C : Addr} {e : Expr} {es : List Expr} {fs : Env → Option (List PyData)} {x : Str} {j k n : Nat} {ps : List Str} {R : List PyData → Bool}
theorem dre_user (h : HasR X.prog X.w X.K X.mg X.base x j ps (spR K n R C)) (tk : Takes X W) (hr : Room k X.A)
    (ha : DA X K (e :: es) fs) (hjk : j ≤ k := by decide) (hg : Gl X x := by rfl) (hdb : (x == ("__debug__" : Str)) = false := by decide) (he : starEach (e :: es) X.env = (false, eval e X.env) :: starEach es X.env := by rfl) (hpl : (backTo pos (starEach es X.env)).any (·.1) = false := by rfl) :
    DRE X K W C (.Call (.Name x p) (e :: es) [] pos) (rCall n R fs) := by
  obtain ⟨f, fd, F, hm, hk, hb⟩ := h.ex
  exact dre_call F tk (hr.mono hjk) hm hk hb ha hg hdb he hpl
end
def runR (m : Nat) (R : RFn) : List PyData → Bool := fun ds => (R (sto0 m ds)).isSome
section
variable {P : Program} {w : World} {K : PySem.W.Frag} {mg : Str → Option Value} {base : Heap} {x qual : Str} {st : Stmt} {f : Addr} {fd : FuncData} {N ps : List Str} {k n m : Nat} {R : RFn} {C : Addr}
theorem def_R (Fn : Fun K x qual st f fd) (S : FnScope N ps (defScope st)) (hn : ps.length = n) (hm : N.length = m)
    (hbody : ∀ (cdv : Value) (A : Around) (outer : List PySem.Env) (s : Shared) (H : Hp) (E : XK), Room k (A.deeper (envOfC qual (defScope st) s.heap.objs.size f cdv)) →
      DRs (cxOf (CX P w) P w K mg base N qual (defScope st) f cdv A outer s H E) K (fun cls d _ H => E cls d H) C (defBody st) R) :
    FnOk P w K mg base (CX P w) (k + 1) f fd ps (spR K n (runR m R) C) := by
  subst hn; subst hm
  refine Fn.okX S (fun vs H Q E h => h.1) (fun cdv A outer s H vs Q E hr h => ⟨_, hbody cdv A outer s H E hr, ?_⟩)
  obtain ⟨hl, Z, ds, sm, r, e, q⟩ := h
  unfold runR at e
  cases e1 : R (sto0 N.length ds) with
  | none => rw [e1] at e; cases e
  | some ρ' => exact ⟨H, Z, Z, sto0 N.length ds, ρ', hold_start sm r, e1, fun σ' H' Z' hh => q H' Z' hh.ext⟩
end
/-! ### try .. except -/
theorem Hold.clear {K : PySem.W.Frag} {H0 Z0 H Z : Hp} {σ : L2.St} {ρ : Sto} (h : Hold K H0 Z0 σ H Z ρ) (i : Nat) (x : Option V) : Hold K H0 Z0 (σ.set i x) H Z (ρ.set i none) := by
  refine ⟨h.ext, by rw [List.length_set, List.length_set, h.len], fun j e hj => ?_, fun j c hj hc => ?_, fun j k a c d hj hk hc hd h1 h2 => ?_⟩
  · obtain ⟨e2, hj⟩ := set_other hj (by intro z; cases z)
    rw [List.getElem?_set_ne e2]; exact h.sh j e hj
  · obtain ⟨e2, hj⟩ := set_other hj (by intro z; cases z)
    rw [List.getElem?_set_ne e2]; exact h.own j c hj hc
  · obtain ⟨e2, hj⟩ := set_other hj (by intro z; cases z)
    obtain ⟨e3, hk⟩ := set_other hk (by intro z; cases z)
    rw [List.getElem?_set_ne e2] at h1
    rw [List.getElem?_set_ne e3] at h2
    exact h.ap j k a c d hj hk hc hd h1 h2
def clrR (i : Nat) : Res → Res
  | .next ρ => .next (ρ.set i none)
  | .brk ρ => .brk (ρ.set i none)
  | .ct ρ => .ct (ρ.set i none)
  | r => r
def dTryR (i : Nat) (R : RFn) (F : SFn) : SFn := fun ρ => match R ρ with
  | some ρ' => if i < ρ'.length then clrR i (F (ρ'.set i none)) else .fail
  | none => .fail
/-- a reading that knows the caught exception's place -/
def tSE (K : PySem.W.Frag) (a : Addr) (i : Nat) (F : SFn) : TS := fun D σ H => σ[i]? = some (some (.ref a)) ∧ i < σ.length ∧ tS K F D σ H
def tTE (K : PySem.W.Frag) (a : Addr) (i : Nat) (f : Env → Option Bool) : TT := fun σ H Q => σ[i]? = some (some (.ref a)) ∧ tT K f σ H Q
theorem ds_tryR {X : Cx} {K : PySem.W.Frag} {C CF : Addr} {x n : Str} {i : Nat} {body suite : List Stmt} {b0 : Stmt} {np pos pos' : Pos} {R : RFn} {F : SFn} (hN : X.N.Nodup) (hgF : X.mg x = some (.ref CF)) (hx : PySem.W.exmOne X.K (.ref C) (.ref CF) = some true)
    (hb : ∀ (W : WX) (pn : List (Addr × Obj)) (xe : Value → Shared → Prop), Takes (X.tr pn xe) W → PassesOwn (model X.prog X.w) X.A X.env xe → DRs (X.tr pn xe) K W C body R)
    (hs : ∀ (a : Addr) (oe : Obj) (pn : List (Addr × Obj)), oe.cls = .ref C → oe.dict = none → (∃ vs, oe.data = .fields vs) → PSs (X.suite a ((a, oe) :: pn)) (b0 :: suite) (tSE K a i F))
    (hst : X.stack = X.env :: X.outer := by rfl) (hf : X.env.frame = some X.env.locals := by rfl) (hi : X.N[i]? = some n := by rfl) (hl : X.env.kindOf n = some .local := by rfl) (hgx : Gl X x := by rfl) (hd : (x == ("__debug__" : Str)) = false := by decide) :
    DS X K (.Try body [.ExceptHandler (some (.Name x np)) (some n) (b0 :: suite) pos'] [] [] pos) (dTryR i R F) :=
  (ps_try_as (i := i) (tb := fun W => tR K W C R) (ts := fun a cls d D σ H => cls = .ref C ∧ d = none ∧ tSE K a i F D σ H) (Wout := fun _ _ _ _ => False) hst hf hN hi hl ⟨hgx, hd, .inl hgF⟩ takes0 hb
    (fun a oe cls d pn hz hfl => ⟨fun pins s σ H D I ⟨hc, hdn, q⟩ => (hs a oe pn (by rw [hz.1, hc]) (by rw [hz.2, hdn]) hfl).run pins s σ H D I q⟩)).weak fun D σ H ⟨H0, Z0, Z, ρ, h, g⟩ => by
    unfold dTryR at g
    cases e1 : R ρ with
    | none => rw [e1] at g; exact g.elim
    | some ρ' =>
      simp only [e1] at g
      by_cases hil : i < ρ'.length
      case neg => rw [if_neg hil] at g; exact g.elim
      rw [if_pos hil] at g
      refine ⟨H0, Z0, Z, ρ, ρ', h, e1, fun σ' H' Z' h' => ⟨true, hx, fun _ a ha => ⟨rfl, rfl, ?_⟩, fun z => nomatch z⟩⟩
      have hlen : i < σ'.length := by rw [← h'.len]; exact hil
      refine ⟨List.getElem?_set_self hlen, by rw [List.length_set]; exact hlen, H0, Z0, Z', ρ'.set i none, h'.clear i _, ?_⟩
      cases e2 : F (ρ'.set i none) with
      | fail => simp only [e2, clrR] at g; exact g.elim
      | next ρ1 => simp only [e2, clrR] at g; exact fun σ H Z hh => g _ H Z (hh.clear i none)
      | ct ρ1 => simp only [e2, clrR] at g; exact fun σ H Z hh => g _ H Z (hh.clear i none)
      | brk ρ1 => simp only [e2, clrR] at g; exact fun σ H Z hh => g _ H Z (hh.clear i none)
      | ret d => simp only [e2, clrR] at g; exact g
      | retN d => simp only [e2, clrR] at g; exact g
section
variable {X : Cx} {K : PySem.W.Frag} {pos p pn pt : Pos} {a : Addr} {i : Nat} {C : Addr} {oe : Obj} {n : Str}
/-- isinstance of the caught exception -/
def rIsE (K : PySem.W.Frag) (a C : Addr) : List V → Hp → VK → Prop := fun xs H Q => ∃ (c : V) (u : Value) (b : Bool), xs = [.ref a, c] ∧ ClsV c u ∧ PySem.W.kitOne K (.ref C) u = some b ∧ Q (.bl b) H
def rIsET (K : PySem.W.Frag) (a C : Addr) : List V → Hp → VK → Prop := fun xs H Q => ∃ (tp : Addr) (cs : List V) (us : List Value) (b : Bool), xs = [.ref a, .ref tp] ∧ H tp = some (.tup cs) ∧ Paired ClsV cs us ∧ PySem.W.kitAny K (.ref C) us = some b ∧ Q (.bl b) H
theorem kitE {x : Str} (T : ExcT K X.mg x C) (oe : Obj) : PySem.W.KitX K (.ref a) (.ref C) fun h => PySem.W.InstAt h a oe C none :=
  PySem.W.kitx_exc T.iP T.ga T.gg T.bP T.cl T.sg T.tk T.ob
theorem clsV_rel {c : V} {u u' : Value} (h : ClsV c u) (r : RelV c u') : u' = u := by
  cases h <;> exact r
theorem call_isE {x : Str} (T : ExcT X.K X.mg x C) (hp : (a, oe) ∈ X.pn) (hc : oe.cls = .ref C) (hd : oe.dict = none) (hf : ∃ vs, oe.data = .fields vs) : CallR X (.builtin "isinstance") (rIsE X.K a C) := fun pins s σ H xs us Q I vals h => by
  obtain ⟨c, u, b, rfl, hcu, hk, q⟩ := h
  obtain ⟨h1, h2, h3, h4, h5⟩ := I.pin (a, oe) (List.mem_append_left _ hp)
  cases vals with
  | cons r1 t1 =>
    cases t1 with
    | cons r2 t2 =>
      cases t2
      obtain rfl : _ = Value.ref a := r1
      have e2 := clsV_rel hcu r2
      subst e2
      refine PySem.W.kia_one (kitE T oe) I.kIn ⟨h1, hc, ?_, ?_⟩ hk (by intro z; cases z) fun tk => ⟨.bl b, H, I.kept (t' := tk) (fun _ _ e => e), rfl, q⟩
      · obtain ⟨vs, hv⟩ := hf
        unfold PySem.W.notCls; rw [hv]
      · rw [hd]; trivial
theorem call_isET {x : Str} (T : ExcT X.K X.mg x C) (hp : (a, oe) ∈ X.pn) (hc : oe.cls = .ref C) (hd : oe.dict = none) (hf : ∃ vs, oe.data = .fields vs) : CallR X (.builtin "isinstance") (rIsET X.K a C) := fun pins s σ H xs us Q I vals h => by
  obtain ⟨tp, cs, ws, b, rfl, hH, hp2, hk, q⟩ := h
  obtain ⟨h1, h2, h3, h4, h5⟩ := I.pin (a, oe) (List.mem_append_left _ hp)
  cases vals with
  | cons r1 t1 =>
    cases t1 with
    | cons r2 t2 =>
      cases t2
      obtain rfl : _ = Value.ref a := r1
      obtain rfl : _ = Value.ref tp := r2
      obtain ⟨hz, its, hv, to, hget, hcl, n, hdat⟩ := I.hok tp _ hH
      have e2 : its = ws := by
        clear hk hH hz hget hdat
        induction hp2 generalizing its with
        | nil => cases hv; rfl
        | cons h t ih => cases hv with | cons r s => rw [clsV_rel h r, ih _ s]
      subst e2
      obtain ⟨tcls, tdict, tdata, tsl⟩ := to
      simp only at hcl hdat
      subst hcl
      subst hdat
      refine PySem.W.kia_tup (kitE T oe) I.kIn ⟨h1, hc, ?_, ?_⟩ hget hk (by intro z; cases z) fun tk => ⟨.bl b, H, I.kept (t' := tk) (fun _ _ e => e), rfl, q⟩
      · obtain ⟨vs, hv⟩ := hf
        unfold PySem.W.notCls; rw [hv]
      · rw [hd]; trivial
end
/-! tests in the suite -/
abbrev DTE (X : Cx) (K : PySem.W.Frag) (a : Addr) (i : Nat) (e : Expr) (f : Env → Option Bool) : Prop := PT X e (tTE K a i f)
abbrev DWE (X : Cx) (K : PySem.W.Frag) (a : Addr) (i : Nat) (e : Expr) (f : Env → Option Bool) : Prop := PW X e (tTE K a i f)
def fK (b : Bool) : Env → Option Bool := fun _ => some b
section
variable {X : Cx} {K : PySem.W.Frag} {pos p pn pt pu tpos : Pos} {a : Addr} {i : Nat} {C : Addr} {oe : Obj} {n x : Str} {F G : SFn}
theorem dtE_isi {t : Str} {c : V} {u : Value} {b : Bool} (T : ExcT X.K X.mg x C) (hp : (a, oe) ∈ X.pn) (hc : oe.cls = .ref C) (hd : oe.dict = none) (hf : ∃ vs, oe.data = .fields vs) (hm : X.mg "isinstance" = none)
    (ht : PE X (.Name t pt) (tC c)) (hcu : ClsV c u) (hk : PySem.W.kitOne X.K (.ref C) u = some b) (hN : X.N[i]? = some n := by rfl) (hg : Gl X "isinstance" := by rfl) (hv : Vis X.env.scope n := by first | exact Or.inl rfl | exact Or.inr (Or.inl rfl) | exact Or.inr (Or.inr rfl)) (hdn : (n == ("__debug__" : Str)) = false := by decide) (hcn : (n == ("__classdict__" : Str)) = false := by decide)
    (he : starEach [.Name n pn, .Name t pt] X.env = (false, eval (.Name n pn) X.env) :: starEach [.Name t pt] X.env := by rfl) (he2 : starEach [.Name t pt] X.env = (false, eval (.Name t pt) X.env) :: starEach [] X.env := by rfl)
    (hpl : (backTo pos (starEach [.Name t pt] X.env)).any (·.1) = false := by rfl) : DTE X K a i (.Call (.Name "isinstance" p) [.Name n pn, .Name t pt] [] pos) (fK b) :=
  (pt_val (pe_callB (call_isE (oe := oe) T hp hc hd hf) hg hm (by decide +kernel) (pa_cons (pe_var hN hv hdn hcn) (pa_cons ht pa_nil he2) he) (by decide) (by decide) he hpl)).weak fun σ H Q ⟨h, Z, ρ, b', s, v, e, q⟩ => by
    cases e
    exact ⟨.ref a, h, c, u, _, rfl, hcu, hk, _, rfl, q H Z (Ext.refl s)⟩
theorem dtE_isi2 {t1 t2 : Str} {C1 C2 : Addr} {b : Bool} {nn : Nat} (T : ExcT X.K X.mg x C) (hp : (a, oe) ∈ X.pn) (hc : oe.cls = .ref C) (hd : oe.dict = none) (hf : ∃ vs, oe.data = .fields vs) (hm : X.mg "isinstance" = none)
    (h1 : PE X (.Name t1 pt) (tC (.ref C1))) (h2 : PE X (.Name t2 pu) (tC (.ref C2))) (hk : PySem.W.kitAny X.K (.ref C) [.ref C1, .ref C2] = some b) (hN : X.N[i]? = some n := by rfl) (hg : Gl X "isinstance" := by rfl) (hv : Vis X.env.scope n := by first | exact Or.inl rfl | exact Or.inr (Or.inl rfl) | exact Or.inr (Or.inr rfl)) (hdn : (n == ("__debug__" : Str)) = false := by decide) (hcn : (n == ("__classdict__" : Str)) = false := by decide)
    (he : starEach [.Name n pn, .Tuple [.Name t1 pt, .Name t2 pu] nn tpos] X.env = (false, eval (.Name n pn) X.env) :: starEach [.Tuple [.Name t1 pt, .Name t2 pu] nn tpos] X.env := by rfl) (he2 : starEach [.Tuple [.Name t1 pt, .Name t2 pu] nn tpos] X.env = (false, eval (.Tuple [.Name t1 pt, .Name t2 pu] nn tpos) X.env) :: starEach [] X.env := by rfl)
    (he3 : starEach [.Name t1 pt, .Name t2 pu] X.env = (false, eval (.Name t1 pt) X.env) :: starEach [.Name t2 pu] X.env := by rfl) (he4 : starEach [.Name t2 pu] X.env = (false, eval (.Name t2 pu) X.env) :: starEach [] X.env := by rfl)
    (hpl : (backTo pos (starEach [.Tuple [.Name t1 pt, .Name t2 pu] nn tpos] X.env)).any (·.1) = false := by rfl) : DTE X K a i (.Call (.Name "isinstance" p) [.Name n pn, .Tuple [.Name t1 pt, .Name t2 pu] nn tpos] [] pos) (fK b) :=
  (pt_val (pe_callB (call_isET (oe := oe) T hp hc hd hf) hg hm (by decide +kernel) (pa_cons (pe_var hN hv hdn hcn) (pa_cons (pe_tup (pa_cons h1 (pa_cons h2 pa_nil he4) he3)) pa_nil he2) he) (by decide) (by decide) he hpl)).weak fun σ H Q ⟨h, Z, ρ, b', s, v, e, q⟩ => by
    cases e
    refine ⟨.ref a, h, show 2 ≤ sizeLine by decide, fun tp htp => ?_⟩
    exact ⟨tp, [.ref C1, .ref C2], [.ref C1, .ref C2], _, rfl, upd_same, .cons (.own C1) (.cons (.own C2) .nil), hk, _, rfl, q _ Z (Ext.free s htp)⟩
theorem dtE_not {e : Expr} {f : Env → Option Bool} (h : DTE X K a i e f) : DTE X K a i (.UnaryOp .Not e pos) (fNot f) := (pt_not h).weak fun σ H Q ⟨h, Z, ρ, d, s, v, ed, q⟩ => by
  unfold fNot at ed
  cases e1 : f ρ with
  | none => rw [e1] at ed; cases ed
  | some x =>
    rw [e1] at ed
    cases ed
    exact ⟨h, Z, ρ, x, s, v, e1, fun H1 Z1 x1 => q H1 Z1 x1⟩
theorem dwE_and1 {e : Expr} {f : Env → Option Bool} (h : DTE X K a i e f) : DWE X K a i (.BoolOp .And [e] pos) f := pw_and1 h
theorem dwE_and {e b : Expr} {rest : List Expr} {f g : Env → Option Bool} (ha : DTE X K a i e f) (hb : DWE X K a i (.BoolOp .And (b :: rest) pos) g) : DWE X K a i (.BoolOp .And (e :: b :: rest) pos) (fAnd f g) := (pw_and ha hb).weak fun σ H Q ⟨h, Z, ρ, d, s, v, ed, q⟩ => by
  obtain ⟨x, e1, e2⟩ := opt_bind ed
  refine ⟨h, Z, ρ, x, s, v, e1, fun H1 Z1 x1 => ?_⟩
  cases x with
  | true => exact iteT ⟨h, Z1, ρ, d, x1.sub, v.mono x1.up, e2, fun H2 Z2 x2 => q H2 Z2 (x1.trans x2)⟩
  | false => cases e2; exact iteF (q H1 Z1 x1)
theorem dwE_dt {e : Expr} {f : Env → Option Bool} (h : DWE X K a i e f) : DTE X K a i e f := h.pt
theorem dsE_if {c : Expr} {fc : Env → Option Bool} {s1 s2 : List Stmt} (hc : DTE X K a i c fc) (ha : DSs X K s1 F) (hb : DSs X K s2 G) : PS X (.If c s1 s2 pos) (tSE K a i (dIf fc F G)) := (ps_if hc ha hb).weak fun D σ H ⟨h, hl, H0, Z0, Z, ρ, hh, g⟩ => by
  unfold dIf at g
  cases e1 : fc (vO ρ) with
  | none => rw [e1] at g; exact g.elim
  | some k =>
    rw [e1] at g
    refine ⟨h, _, vO ρ, k, hh.zO_sub, hh.viewO, e1, fun H' Z' x => ?_⟩
    cases k with
    | true => exact iteT ⟨H0, Z0, _, ρ, hh.afterO x, g⟩
    | false => exact iteF ⟨H0, Z0, _, ρ, hh.afterO x, g⟩
theorem dssE_one {st : Stmt} (h : PS X st (tSE K a i F)) : PSs X [st] (tSE K a i F) := pss_one h
end
/-! what the classes are to one another -/
theorem exm_up {K : PySem.W.Frag} {C S : Addr} (h1 : PySem.W.subIn K (.ref S) (.type "BaseException") = some true) (h2 : PySem.W.isClsIn K S = true) (h3 : PySem.W.typeIn K (.ref S) = some (.type "type")) (h4 : PySem.W.subIn K (.ref C) (.ref S) = some true) :
    PySem.W.exmOne K (.ref C) (.ref S) = some true := by
  have e1 : (PySem.W.subIn K (.ref S) (.type "BaseException") == some true) = true := by rw [h1] <;> rfl
  have e2 : ((PySem.W.clsIn K S).isSome && PySem.W.typeIn K (.ref S) == some (.type "type")) = true := by
    have h2' : (PySem.W.clsIn K S).isSome = true := h2
    rw [h2', h3] <;> rfl
  show (if (PySem.W.subIn K (.ref S) (.type "BaseException") == some true) = true then (if ((PySem.W.clsIn K S).isSome && PySem.W.typeIn K (.ref S) == some (.type "type")) = true then PySem.W.subIn K (.ref C) (.ref S) else none) else none) = some true
  rw [if_pos e1, if_pos e2]
  exact h4
theorem kit_own {K : PySem.W.Frag} {C S : Addr} {r : Bool} (h2 : PySem.W.isClsIn K S = true) (h3 : PySem.W.typeIn K (.ref S) = some (.type "type")) (h4 : PySem.W.subIn K (.ref C) (.ref S) = some r) (h5 : PySem.W.subIn K (.ref S) (.ref S) = some true) :
    PySem.W.kitOne K (.ref C) (.ref S) = some r := by
  have e2 : ((PySem.W.clsIn K S).isSome && PySem.W.typeIn K (.ref S) == some (.type "type")) = true := by
    have h2' : (PySem.W.clsIn K S).isSome = true := h2
    rw [h2', h3] <;> rfl
  by_cases hc : C = S
  · subst hc
    rw [h5] at h4
    cases h4
    show (if ((Value.ref C == Value.ref C) = true) then some true else _) = some true
    rw [if_pos (by simp)]
  · show (if ((Value.ref C == Value.ref S) = true) then some true else (if ((PySem.W.clsIn K S).isSome && PySem.W.typeIn K (.ref S) == some (.type "type")) = true then PySem.W.subIn K (.ref C) (.ref S) else none)) = some r
    rw [if_neg (by simpa using hc), if_pos e2]
    exact h4
theorem kit_val {K : PySem.W.Frag} {C : Addr} (h : PySem.W.subIn K (.ref C) (.type "ValueError") = some true) : PySem.W.kitOne K (.ref C) (.type "ValueError") = some true := by
  show (if ((Value.ref C == Value.type "ValueError") = true) then some true else (if PySem.W.kitMeta "ValueError" = true then PySem.W.subIn K (.ref C) (.type "ValueError") else none)) = some true
  rw [if_neg (by simp), if_pos (by decide +kernel)]
  exact h
theorem kit_any2 {K : PySem.W.Frag} {t c d : Value} {b1 b2 : Bool} (h1 : PySem.W.kitOne K t c = some b1) (h2 : PySem.W.kitOne K t d = some b2) : PySem.W.kitAny K t [c, d] = some (b1 || b2) := by
  unfold PySem.W.kitAny PySem.W.kitAny PySem.W.kitAny
  simp only [h1, h2]
  cases b1 <;> cases b2 <;> rfl
/-- the four classes -/
structure ErrT (K : PySem.W.Frag) (mg : Str → Option Value) (CF CN CT CW : Addr) : Prop where
  xF : ExcT K mg "FenceError" CF
  xN : ExcT K mg "NoFence" CN
  xT : ExcT K mg "NoTurning" CT
  xW : ExcT K mg "TooWide" CW
  nV : mg "ValueError" = none
  NF : PySem.W.exmOne K (.ref CN) (.ref CF) = some true
  TF : PySem.W.exmOne K (.ref CT) (.ref CF) = some true
  WF : PySem.W.exmOne K (.ref CW) (.ref CF) = some true
  kNV : PySem.W.kitOne K (.ref CN) (.type "ValueError") = some true
  kTV : PySem.W.kitOne K (.ref CT) (.type "ValueError") = some true
  kWV : PySem.W.kitOne K (.ref CW) (.type "ValueError") = some true
  kNN : PySem.W.kitOne K (.ref CN) (.ref CN) = some true
  kNT : PySem.W.kitOne K (.ref CN) (.ref CT) = some false
  kNW : PySem.W.kitOne K (.ref CN) (.ref CW) = some false
  kTN : PySem.W.kitOne K (.ref CT) (.ref CN) = some false
  kTT : PySem.W.kitOne K (.ref CT) (.ref CT) = some true
  kTW : PySem.W.kitOne K (.ref CT) (.ref CW) = some false
  kWN : PySem.W.kitOne K (.ref CW) (.ref CN) = some false
  kWT : PySem.W.kitOne K (.ref CW) (.ref CT) = some false
  kWW : PySem.W.kitOne K (.ref CW) (.ref CW) = some true
end DL
/-! part DL11 -/
/-! set(list of ints), as an object whose order is known to its readers -/
namespace DLS
open PySem PySem.Spec PyProof.Rows L2
section
variable {P : Program} {w : World} {A : Around} {E : Value → Shared → Prop} {s : Shared}
end
end DLS
/-! part DL12 -/
namespace DL
open PySem PySem.Spec PyProof.Rows L2
/-! ### len(set(list of tuples of ints)) -/
section
variable {X : Cx} {K : PySem.W.Frag} {pos p p2 q : Pos} {a e : Expr} {fe fa fb fp fq : DF}
/-! ### sorted(set(list of ints)) -/
end
end DL
/-! part DL13 -/
namespace DL
open PySem PySem.Spec PyProof.Rows L2
/-! ### a dict with text keys -/
def putD (kvs : List (Str × PyData)) (k : Str) (d : PyData) : List (Str × PyData) := if (kvs.any fun p => decide (p.1 = k)) = true then kvs.map (fun p => if p.1 = k then (p.1, d) else p) else kvs ++ [(k, d)]
section
variable {K : PySem.W.Frag} {Z H : Hp}
end
section
variable {X : Cx} {K : PySem.W.Frag} {pos p px py tpos tpos2 p1 p2 p3 q1 q2 q3 : Pos} {a b e : Expr} {f fa fb fk fp fq : DF} {x : Str} {i : Nat}
/-- d[k] = e -/
def dPutD (i : Nat) (fk f : DF) : SFn := fun ρ => match ρ[i]? with
  | some (some (.ob (.dk kvs))) => match f (vO ρ) with
    | some d => match fk (vO ρ) with
      | some (.str k) => if noL d && decide (kvs.length < 1000) then .next (ρ.set i (some (.ob (.dk (putD kvs k d))))) else .fail
      | _ => .fail
    | none => .fail
  | _ => .fail
end
end DL
/-! part DL14 -/
namespace DL
open PySem PySem.Spec PyProof.Rows L2
/-! ### min of a pair of whole numbers, a tuple -/
section
variable {K : PySem.W.Frag} {X : Cx}
variable {e : Expr} {p pos : Pos} {fs : Env → Option (List PyData)}
end
end DL
/-! part DL15 -/
namespace DL
open PySem PySem.Spec PyProof.Rows L2
/-! ### x not in a tuple -/
def rNotInT (K : PySem.W.Frag) : R2 := fun x y H Q => ∃ d ds, Dp K H x d ∧ Dp K H y (.tuple ds) ∧ SeqAt.shaped d = true ∧ SeqAt.shaped (.tuple ds) = true ∧ Q (.bl (!ds.any fun z => PyData.eqv z d)) H
theorem op_notInT {X : Cx} (hu : X.A.units + 65 < cLine) : OpR X (compareOp .NotIn) (rNotInT X.K) := by
  intro pins s σ H x y v u Q I rx ry h
  obtain ⟨d, ds, hd, he, sd, se, q⟩ := h
  obtain ⟨as, r1⟩ := Dp.reads I d x v hd rx
  obtain ⟨bs, r2⟩ := Dp.reads I (.tuple ds) y u he ry
  exact SeqAt.notIn_tuple_reads r2 r1 (SeqAt.canLay_of_shaped se) (SeqAt.canLay_of_shaped sd) (room_in_shaped sd hu) ⟨.bl _, H, I, rfl, q⟩
def gNotInT : G2 := fun x y => match y with
  | .tuple ds => if SeqAt.shaped x && SeqAt.shaped (.tuple ds) then some (.bool (!ds.any fun z => PyData.eqv z x)) else none
  | _ => none
section
variable {K : PySem.W.Frag} {X : Cx} {a b : Expr} {fa fb : DF} {pos : Pos}
theorem rr_notInT : RR K (rNotInT K) gNotInT := fun x y dx dy d Z H s rx ry e Q q => by
  unfold gNotInT at e
  split at e
  · split at e
    · rename_i h
      rw [Bool.and_eq_true] at h
      cases e
      exact ⟨dx, _, (rx.mono s).dp (shaped_lay h.1), (ry.mono s).dp (shaped_lay h.2), h.1, h.2, q _ H Z (Ext.refl s) (.bl _)⟩
    · cases e
  · cases e
theorem dt_notInT {k : Nat} (hr : Room k X.A) (hK : X.K = K := by rfl) (ha : DE X K a fa) (hb : DE X K b fb) (hm : behindInMarks .NotIn b = false := by rfl) : DT X K (.Compare a [.NotIn] [b] pos) (fTst (f2 gNotInT fa fb)) := by
  subst hK; exact dt_cmp (op_notInT (units65 hr)) rr_notInT ha hb hm
end
end DL
/-! part DL16 -/
namespace DL
open PySem PySem.Spec PyProof.Rows L2
/-! ### a dict whose keys are steps (two points of whole numbers), each True -/
def asSk : PyData → Option SK
  | .tuple [.tuple [.int a, .int b], .tuple [.int c, .int d]] => some ((a, b), (c, d))
  | _ => none
theorem asSk_skD (k : SK) : asSk (skD k) = some k := rfl
theorem asSk_inv {d : PyData} {k : SK} (h : asSk d = some k) : d = skD k := by
  unfold asSk at h
  split at h
  · cases h; rfl
  · cases h
def skPairs : List (PyData × PyData) → Option (List SK)
  | [] => some []
  | (d, .bool true) :: r => (asSk d).bind fun k => (skPairs r).map (k :: ·)
  | _ => none
theorem skPairs_map : ∀ ks : List SK, skPairs (ks.map fun k => (skD k, PyData.bool true)) = some ks
  | [] => rfl
  | k :: ks => by
    rw [List.map_cons]
    unfold skPairs
    rw [asSk_skD, skPairs_map ks]; rfl
theorem skPairs_inv : ∀ {r : List (PyData × PyData)} {ks : List SK}, skPairs r = some ks → r = ks.map fun k => (skD k, PyData.bool true)
  | [], ks, h => by cases h; rfl
  | (d, .bool true) :: r, ks, h => by
    unfold skPairs at h
    obtain ⟨k, e1, e2⟩ := opt_bind h
    cases e : skPairs r with
    | none => rw [e] at e2; cases e2
    | some m => rw [e] at e2; cases e2; rw [skPairs_inv e, asSk_inv e1]; rfl
  | (d, .bool false) :: r, ks, h => by cases h
  | (d, .none) :: r, ks, h => by cases h
  | (d, .int _) :: r, ks, h => by cases h
  | (d, .str _) :: r, ks, h => by cases h
  | (d, .list _) :: r, ks, h => by cases h
  | (d, .tuple _) :: r, ks, h => by cases h
  | (d, .dict _) :: r, ks, h => by cases h
def asKd : PyData → Option (List SK)
  | .dict ((.bool false, .none) :: r) => skPairs r
  | _ => none
theorem asKd_kdD (ks : List SK) : asKd (kdD ks) = some ks := skPairs_map ks
theorem asKd_inv {d : PyData} {ks : List SK} (h : asKd d = some ks) : d = kdD ks := by
  unfold asKd at h
  split at h
  · rw [skPairs_inv h]; rfl
  · cases h
def putSk (ks : List SK) (k : SK) : List SK := if k ∈ ks then ks else ks ++ [k]
def putSx (xs : List (SK × Addr)) (k : SK) (b : Addr) : List (SK × Addr) := if k ∈ xs.map (·.1) then xs else xs ++ [(k, b)]
theorem putSx_keys (xs : List (SK × Addr)) (k : SK) (b : Addr) : (putSx xs k b).map (·.1) = putSk (xs.map (·.1)) k := by
  unfold putSx putSk
  split
  · rfl
  · simp
theorem skN_inj {k k' : SK} (h : skN k = skN k') : k = k' := by
  obtain ⟨⟨a, b⟩, c, d⟩ := k
  obtain ⟨⟨a', b'⟩, c', d'⟩ := k'
  unfold skN at h
  injection h with h
  injection h with h1 h2
  injection h1 with h1
  injection h1 with h1 h3
  injection h3 with h3 _
  injection h2 with h2 _
  injection h2 with h2
  injection h2 with h2 h4
  injection h4 with h4 _
  injection h1 with h1
  injection h2 with h2
  injection h3 with h3
  injection h4 with h4
  subst h1 h2 h3 h4
  rfl
def skT (x : SK × Addr) : NestedKey × Addr × Value := (skN x.1, x.2, .bool true)
section
variable {P : Program} {w : World} {K : PySem.W.Frag} {Z H : Hp} {h : Heap}
theorem tup_at (ok : HOk P w H h) (s : Same Z H) {a : Addr} {xs : List V} (e : Z a = some (.tup xs)) : ∃ (o : Obj) (its : List Value) (n : Nat), Vals xs its ∧ h.get? a = some o ∧ o.cls = .type "tuple" ∧ o.data = .seq its.toArray n := by
  obtain ⟨_, its, r, o, h1, h2, n, h3⟩ := (show ObjOk P w H h a (.tup xs) from ok a _ (s _ _ e))
  exact ⟨o, its, n, r, h1, h2, h3⟩
theorem pt_at (ok : HOk P w H h) (s : Same Z H) {v : V} {i j : Int} (r : Rp K Z v (.tuple [.int i, .int j])) : ∃ b, v = .ref b ∧ NestedIs h (.tup [.num i, .num j]) (.ref b) := by
  generalize hd : PyData.tuple [.int i, .int j] = d at r
  cases r with
  | @tup a xs ds hz ra =>
    cases hd
    obtain ⟨o, its, n, rv, h1, h2, h3⟩ := tup_at ok s hz
    refine ⟨a, rfl, .tup h1 h2 h3 ?_⟩
    cases ra with
    | cons r1 ra =>
      cases ra with
      | cons r2 ra =>
        cases ra
        cases r1
        cases r2
        cases rv with
        | cons v1 rv =>
          cases rv with
          | cons v2 rv =>
            cases rv
            obtain ⟨t1, rfl⟩ := v1
            obtain ⟨t2, rfl⟩ := v2
            exact .cons (.int _ _) (.cons (.int _ _) .nil)
  | _ => first | cases hd | (unfold dD at hd; cases hd) | (unfold kdD at hd; cases hd)
theorem sk_at (ok : HOk P w H h) (s : Same Z H) {v : V} {k : SK} (r : Rp K Z v (skD k)) : ∃ b, v = .ref b ∧ (nestedKind P w).is h (skN k) b := by
  generalize hd : skD k = d at r
  cases r with
  | @tup a xs ds hz ra =>
    unfold skD at hd
    cases hd
    obtain ⟨o, its, n, rv, h1, h2, h3⟩ := tup_at ok s hz
    refine ⟨a, rfl, ⟨.tup h1 h2 h3 ?_, by simp [skN, NestedKey.depth, NestedKey.depthAll]⟩⟩
    cases ra with
    | cons r1 ra =>
      cases ra with
      | cons r2 ra =>
        cases ra
        obtain ⟨b1, rfl, n1⟩ := pt_at ok s r1
        obtain ⟨b2, rfl, n2⟩ := pt_at ok s r2
        cases rv with
        | cons v1 rv =>
          cases rv with
          | cons v2 rv =>
            cases rv
            cases v1
            cases v2
            exact .cons n1 (.cons n2 .nil)
  | _ => first | (unfold skD at hd; cases hd) | (unfold skD dD at hd; cases hd) | (unfold skD kdD at hd; cases hd)
theorem kd_of {v : V} {ks : List SK} (r : Rp K Z v (kdD ks)) : ∃ a o xs, v = .ref a ∧ Z a = some (SKo a o) ∧ SkOb a o xs ∧ ks = xs.map (·.1) ∧ RpAll K Z (xs.map fun x => V.ref x.2) (xs.map fun x => skD x.1) := by
  generalize hd : kdD ks = d at r
  cases r with
  | @kdt a o xs hz so ra =>
    have e : asKd (kdD ks) = asKd (kdD (xs.map (·.1))) := by rw [hd]
    rw [asKd_kdD, asKd_kdD] at e
    cases e
    exact ⟨a, o, xs, rfl, hz, so, rfl, ra⟩
  | dct hz r =>
    unfold dD kdD at hd
    cases hd
  | @scr a ns hs =>
    unfold kdD at hd
    cases ns with
    | nil => cases hd
    | cons n ns => cases hd
  | _ => unfold kdD at hd; cases hd
theorem rp_mem : ∀ {xs : List (SK × Addr)}, RpAll K Z (xs.map fun x => V.ref x.2) (xs.map fun x => skD x.1) → ∀ x ∈ xs, Rp K Z (.ref x.2) (skD x.1)
  | [], _, x, hx => nomatch hx
  | y :: xs, r, x, hx => by
    cases r with
    | cons r1 r2 =>
      rcases List.mem_cons.mp hx with e | hx
      · subst e; exact r1
      · exact rp_mem r2 x hx
theorem sko_at (ok : HOk P w H h) {a : Addr} {o : Obj} (e : H a = some (SKo a o)) : h.get? a = some o := (show ObjOk P w H h a (SKo a o) from ok a _ e).1
theorem sko_ok {a : Addr} {o : Obj} (e : h.get? a = some o) : ObjOk P w H h a (SKo a o) := ⟨e, ⟨o, e⟩, fun h1 h2 p st => st o p⟩
theorem sk_dict (ok : HOk P w H h) (s : Same Z H) {a : Addr} {o : Obj} {xs : List (SK × Addr)} (e : H a = some (SKo a o)) (so : SkOb a o xs) (r : RpAll K Z (xs.map fun x => V.ref x.2) (xs.map fun x => skD x.1)) :
    h.DictOfH (nestedKind P w) a (xs.map skT) := by
  obtain ⟨es, ep, hd, he⟩ := so.dat
  refine ⟨o, es, ep, sko_at ok e, so.ex, hd, ?_, fun x hx => ?_, ?_⟩
  · rw [he, List.map_map]; rfl
  · obtain ⟨y, hy, rfl⟩ := List.mem_map.mp hx
    obtain ⟨b, e1, e2⟩ := sk_at ok s (rp_mem r y hy)
    cases e1
    exact e2
  · rw [List.map_map]
    have nd := so.nd
    rw [List.nodup_iff_pairwise_ne, List.pairwise_map] at nd
    rw [List.nodup_iff_pairwise_ne, List.pairwise_map]
    exact nd.imp fun hne z => hne (skN_inj z)
theorem sk_val (xs : List (SK × Addr)) (k : SK) : (atKey (xs.map skT) (skN k)).isSome = decide (k ∈ xs.map (·.1)) := by
  induction xs with
  | nil => rfl
  | cons x xs ih =>
    unfold atKey at ih ⊢
    rw [List.map_cons, List.find?_cons]
    by_cases e : x.1 = k
    · have : decide ((skT x).1 = skN k) = true := decide_eq_true (by unfold skT; rw [e])
      rw [this]
      simp [e]
    · have : decide ((skT x).1 = skN k) = false := decide_eq_false (fun z => e (skN_inj z))
      rw [this]
      simp only []
      rw [ih]
      refine decide_eq_decide.mpr ?_
      rw [List.map_cons, List.mem_cons]
      exact ⟨.inr, fun z => z.elim (fun z => absurd z.symm e) id⟩
theorem sk_stored (xs : List (SK × Addr)) (k : SK) (b : Addr) : storedH (xs.map skT) (skN k) b (.bool true) = (putSx xs k b).map skT := by
  unfold storedH putSx
  rw [sk_val]
  by_cases e : k ∈ xs.map (·.1)
  · rw [if_pos e, if_pos (decide_eq_true e), List.map_map]
    refine List.map_congr_left fun x hx => ?_
    show putAt _ _ (skT x) = skT x
    unfold putAt skT
    split <;> rfl
  · rw [if_neg e, if_neg (by rw [decide_eq_false e]; exact Bool.false_ne_true), List.map_append]
    rfl
theorem sk_new {a : Addr} {xs : List (SK × Addr)} (hz : xs.length ≤ sizeLine) (hm : (a == sysModules) = false) (d : h.DictOfH (nestedKind P w) a (xs.map skT)) : ∃ o, h.get? a = some o ∧ SkOb a o xs := by
  obtain ⟨o, es, ep, h1, h2, h3, h4, h5, h6⟩ := d
  refine ⟨o, h1, hz, hm, h2, ?_, es, ep, h3, ?_⟩
  · rw [List.map_map, List.nodup_iff_pairwise_ne, List.pairwise_map] at h6
    rw [List.nodup_iff_pairwise_ne, List.pairwise_map]
    exact h6.imp fun hne z => hne (show skN _ = skN _ by rw [z])
  · rw [h4, List.map_map]; rfl
theorem putSx_len (xs : List (SK × Addr)) (k : SK) (b : Addr) : (putSx xs k b).length ≤ xs.length + 1 := by
  unfold putSx; split
  · omega
  · rw [List.length_append]; exact Nat.le_refl _
end
/-! ### k in d, k not in d -/
def rKin (K : PySem.W.Frag) (g : Bool → Bool) : R2 := fun x y H Q => ∃ Z k ks, Same Z H ∧ Rp K Z x (skD k) ∧ Rp K Z y (kdD ks) ∧ Q (.bl (g (decide (k ∈ ks)))) H
theorem room_nested {P : Program} {w : World} {A : Around} (hu : A.units + 65 < cLine) : (nestedKind P w).room A.in1 := by
  show A.units + 1 + 8 < cLine; omega
theorem op_kin {X : Cx} (hu : X.A.units + 65 < cLine) : OpR X (compareOp .In) (rKin X.K id) := by
  intro pins s σ H x y v u Q I rx ry h
  obtain ⟨Z, k, ks, sm, r1, r2, q⟩ := h
  obtain ⟨b, rfl, kb⟩ := sk_at I.hok sm r1
  obtain ⟨a, o, xs, rfl, hz, so, rfl, ra⟩ := kd_of r2
  cases (show v = Value.ref b from rx)
  cases (show u = Value.ref a from ry)
  refine wpAny_in_heap (room_nested hu) kb so.mods (sk_dict I.hok sm (sm _ _ hz) so ra) ?_
  rw [sk_val]
  exact ⟨.bl _, H, I.tok _, rfl, q⟩
theorem op_knotin {X : Cx} (hu : X.A.units + 65 < cLine) : OpR X (compareOp .NotIn) (rKin X.K not) := by
  intro pins s σ H x y v u Q I rx ry h
  obtain ⟨Z, k, ks, sm, r1, r2, q⟩ := h
  obtain ⟨b, rfl, kb⟩ := sk_at I.hok sm r1
  obtain ⟨a, o, xs, rfl, hz, so, rfl, ra⟩ := kd_of r2
  cases (show v = Value.ref b from rx)
  cases (show u = Value.ref a from ry)
  refine wpAny_notIn_heap (room_nested hu) kb so.mods (sk_dict I.hok sm (sm _ _ hz) so ra) ?_
  rw [sk_val]
  exact ⟨.bl _, H, I.tok _, rfl, q⟩
def gKin (g : Bool → Bool) : G2 := fun x y => (asSk x).bind fun k => (asKd y).map fun ks => .bool (g (decide (k ∈ ks)))
section
variable {K : PySem.W.Frag} {X : Cx} {a b e : Expr} {fa fb fk fe : DF} {pos tpos px : Pos} {x : Str} {i : Nat} {g : Bool → Bool}
theorem rr_kin : RR K (rKin K g) (gKin g) := fun x y dx dy d Z H s rx ry e Q q => by
  unfold gKin at e
  obtain ⟨k, e1, e2⟩ := opt_bind e
  obtain ⟨ks, e3, rfl⟩ := Option.map_eq_some_iff.mp e2
  rw [asSk_inv e1] at rx
  rw [asKd_inv e3] at ry
  exact ⟨Z, k, ks, s, rx, ry, q _ H Z (Ext.refl s) (.bl _)⟩
theorem de_kin {k : Nat} (hr : Room k X.A) (hK : X.K = K := by rfl) (ha : DE X K a fa) (hb : DE X K b fb) (hm : behindInMarks .In b = false := by rfl) : DE X K (.Compare a [.In] [b] pos) (f2 (gKin id) fa fb) := by
  subst hK; exact de_cmp (op_kin (units65 hr)) rr_kin ha hb hm
theorem dt_kin {k : Nat} (hr : Room k X.A) (hK : X.K = K := by rfl) (ha : DE X K a fa) (hb : DE X K b fb) (hm : behindInMarks .In b = false := by rfl) : DT X K (.Compare a [.In] [b] pos) (fTst (f2 (gKin id) fa fb)) := by
  subst hK; exact dt_cmp (op_kin (units65 hr)) rr_kin ha hb hm
theorem dt_knotin {k : Nat} (hr : Room k X.A) (hK : X.K = K := by rfl) (ha : DE X K a fa) (hb : DE X K b fb) (hm : behindInMarks .NotIn b = false := by rfl) : DT X K (.Compare a [.NotIn] [b] pos) (fTst (f2 (gKin not) fa fb)) := by
  subst hK; exact dt_cmp (op_knotin (units65 hr)) rr_kin ha hb hm
/-! ### x = {} -/
def tKNew : TE := fun _ H Q => ∀ p o, H p = none → SkOb p o [] → Q (.ref p) (upd H p (SKo p o))
theorem pe_knew : PE X (.Dict [] [] pos) tKNew := ⟨fun pins s σ H Q I h => by
  have nw := sk_new (P := X.prog) (w := X.w) (xs := []) (a := s.heap.objs.size) (Nat.zero_le _) (beq_eq_false_iff_ne.mpr (Ne.symm (Nat.ne_of_lt I.big))) ⟨_, #[], 0, Heap.get?_push_size (o := { cls := .type "dict", data := .dict #[] }) _ rfl, ⟨rfl, rfl, rfl⟩, rfl, rfl, (fun _ hx => nomatch hx), List.nodup_nil⟩
  obtain ⟨o, ho, so⟩ := nw
  exact wpAny_Dict_empty ⟨.ref s.heap.objs.size, _, I.laid (a := s.heap.objs.size) (o := SKo s.heap.objs.size o) (t' := s.toks) (fun _ _ q => Heap.get?_push_of_some _ q) (Nat.le_refl _) (sko_ok ho), rfl, h _ _ (I.hok.fresh (Nat.le_refl _)) so⟩⟩
def dKNew (i : Nat) : SFn := fun ρ => .next (ρ.set i (some (.ob (.sk []))))
theorem ds_knew (hNd : X.N.Nodup) (hi : X.N[i]? = some x := by rfl) (hx : Loc X.env.scope x := by first | exact Or.inl rfl | exact Or.inr rfl)
    (hs : swapsWith (.Dict [] [] tpos) (some (.Name x px)) pos.line X.env = pure false := by rfl) (hf : X.fn x = true ∨ X.env.scope.names.lookup x = some .local := by first | exact .inl rfl | exact .inr rfl) :
    DS X K (.Assign [.Name x px] (.Dict [] [] tpos) pos) (dKNew i) :=
  (ps_set hNd hi hx pe_knew hs hf).weak fun D σ H ⟨H0, Z0, Z, ρ, h, g⟩ => by
  intro pp o hp so
  have x2 : Ext Z H Z (upd H pp (SKo pp o)) := Ext.free h.sub hp
  exact g _ _ Z ((h.afterS x2).setown upd_same (h.sub.free hp) (h.ext.big.free hp) (own_old h hp) rfl ⟨o, [], rfl, so, rfl, .nil⟩)
/-! ### d[k] = True -/
def sKPut (K : PySem.W.Frag) (td ty tv : TE) : TS := fun D σ H => tv σ H fun v H1 => td σ H1 fun x H2 => ty σ H2 fun y H3 =>
  ∃ a o xs k Z b, v = .bl true ∧ x = .ref a ∧ y = .ref b ∧ Same Z H3 ∧ Rp K Z (.ref b) (skD k) ∧ H3 a = some (SKo a o) ∧ SkOb a o xs ∧ RpAll K Z (xs.map fun x => V.ref x.2) (xs.map fun x => skD x.1) ∧ xs.length < sizeLine ∧
    ∀ o', SkOb a o' (putSx xs k b) → D.nx σ (upd H3 a (SKo a o'))
theorem ps_kput {td ty tv : TE} {o i value : Expr} {pos' : Pos} (hu : X.A.units + 65 < cLine) (ho : PE X o td) (hi : PE X i ty) (hv : PE X value tv) (hs : swapsWith value (some (.Subscript o i pos')) pos.line X.env = pure false) :
    PS X (.Assign [.Subscript o i pos'] value pos) (sKPut K td ty tv) := by
  refine ⟨fun pins s σ H D I h => ?_⟩
  refine wpAny_Assign_Subscript (thn (hv.run pins s σ H _ I h) fun r s1 ⟨v, H1, I1, rv, q1⟩ => thn (ho.run pins s1 σ H1 _ I1 q1) fun u s2 ⟨x, H2, I2, rx, q2⟩ => thn (hi.run pins s2 σ H2 _ I2 q2) fun iv s3 ⟨y, H3, I3, ry, q3⟩ => ?_) hs
  obtain ⟨a, o, xs, k, Z, b, rfl, rfl, rfl, sm, rk, hz, so, ra, hl, q⟩ := q3
  cases (show u = Value.ref a from rx)
  cases (show iv = Value.ref b from ry)
  cases (show r = Value.bool true from rv)
  obtain ⟨b', e1, kb⟩ := sk_at I3.hok sm rk
  cases e1
  refine wpAny_setItem_heap (hsz := by rw [List.length_map]; exact Nat.le_of_lt hl) (room_nested hu) kb (sk_dict I3.hok sm hz so ra) fun h' dd' hs => ?_
  rw [sk_stored] at dd'
  obtain ⟨o', ho', so'⟩ := sk_new (Nat.le_trans (putSx_len _ _ _) hl) so.mods dd'
  exact ⟨σ, _, d_write I3 (by rw [hz]; exact True.intro) hs ⟨_, ho'⟩ (sko_ok ho'), q o' so'⟩
def dKPut (i : Nat) (fk : DF) : SFn := fun ρ => match ρ[i]? with
  | some (some (.ob (.sk ks))) => match fk (vO ρ) with
    | some d => match asSk d with
      | some k => if ks.length < 1000000 then .next (ρ.set i (some (.ob (.sk (putSk ks k))))) else .fail
      | none => .fail
    | none => .fail
  | _ => .fail
theorem skD_noL (k : SK) : noL (skD k) = true := rfl
theorem ds_kput {k j : Nat} {kp : Pos} (i : Nat) (hr : Room k X.A) (ha : DE X K a fk) (hN : X.N[i]? = some x := by rfl) (hv : Vis X.env.scope x := by first | exact Or.inl rfl | exact Or.inr (Or.inl rfl) | exact Or.inr (Or.inr rfl)) (hd : (x == ("__debug__" : Str)) = false := by decide)
    (hcd : (x == ("__classdict__" : Str)) = false := by decide) (hs : swapsWith (.Constant (.bool true) j kp) (some (.Subscript (.Name x px) a tpos)) pos.line X.env = pure false := by rfl) : DS X K (.Assign [.Subscript (.Name x px) a tpos] (.Constant (.bool true) j kp) pos) (dKPut i fk) :=
  (ps_kput (K := K) (units65 hr) (pe_var hN hv hd hcd) ha pe_bl hs).weak fun D σ H ⟨H0, Z0, Z, ρ, h, g⟩ => by
  unfold dKPut at g
  split at g
  · rename_i ks e1
    split at g
    · rename_i d e2
      split at g
      · rename_i k e3
        split at g
        · rename_i hl
          have := asSk_inv e3
          subst this
          obtain ⟨c, ho, s1, s2, s3, s4, o0, xs0, rfl, so0, ek0, s5⟩ := h.own i _ e1 rfl
          refine ⟨.ref c, s1, _, vO ρ, _, h.zO_sub, h.viewO, e2, fun vy H2 Z2 x2 r2 => ?_⟩
          have h' := h.afterO x2
          obtain ⟨c', ho, t1, t2, t3, t4, o, xs, rfl, so, ek, t5⟩ := h'.own i _ e1 rfl
          rw [s1] at t1
          cases t1
          have rr := r2.noL (h.cut_tup x2) (skD_noL k)
          have hb : ∃ b, vy = .ref b := by
            generalize hd : skD k = d at r2
            cases r2 with
            | tup hz ra => exact ⟨_, rfl⟩
            | lst hz ra => exact ⟨_, rfl⟩
            | scr hz => exact ⟨_, rfl⟩
            | dct hz ra => exact ⟨_, rfl⟩
            | kdt hz so ra => exact ⟨_, rfl⟩
            | _ => unfold skD at hd; cases hd
          obtain ⟨b, rfl⟩ := hb
          refine ⟨c, o, xs, k, _, b, rfl, rfl, rfl, h'.sub, rr, t2, so, t5, ?_, fun o' so' => ?_⟩
          · rw [ek, List.length_map] at hl
            exact lt_line hl
          · refine g σ _ _ (h'.mutOwn e1 rfl rfl s1 ⟨o', putSx xs k b, rfl, so', ?_, ?_⟩)
            · rw [putSx_keys, ek]
            · unfold putSx
              split
              · exact t5
              · rw [List.map_append, List.map_append]
                exact t5.append (.cons rr .nil)
        · exact g.elim
      · exact g.elim
    · exact g.elim
  · exact g.elim
end
/-! ### for k in d -/
def Itsk (a : Addr) (o : Obj) (xs : List (SK × Addr)) : It :=
  ⟨fun i H => H a = some (SKo a o) ∧ i < xs.length, fun i H x H' => H' = H ∧ ∃ k b, xs[i]? = some (k, b) ∧ x = .ref b, fun i H => H a = some (SKo a o) ∧ xs.length ≤ i⟩
theorem turn_sk {P : Program} {w : World} {K : PySem.W.Frag} {tg : Expr} {d : Addr} {o : Obj} {xs : List (SK × Addr)} {es : Array DictEntry} {ep : Nat} (it : Addr) (so : SkOb d o xs) (hod : o.data = .dict es ep) : Turn P w K tg (Itsk d o xs) [it] it (fun i h => h.IsKeyIter it d i xs.length ep) := by
  obtain ⟨es', ep', hd', he⟩ := so.dat
  obtain ⟨rfl, rfl⟩ := dict_ep hod hd'
  have hsz : es'.size = xs.length := by rw [← Array.length_toList, he, List.length_map]
  exact {
    mem := by simp
    obj := fun i h st b hb => by
      have e : b = it := by simpa using hb
      subst e
      obtain ⟨oi, e, c, dd⟩ := st
      exact ⟨oi, e, fun v z => by rw [dd] at z; cases z⟩
    keep := fun i h h' st k => st.at fun oi e => k it (by simp) oi e
    item := by
      intro X hP hw hK hc i pins s σ H E I hf st hg
      subst hP hw hK
      obtain ⟨hd, hi⟩ := hg
      obtain ⟨f0, f1, f2, f3, f4, f5⟩ := hf it (by simp)
      have hgd := sko_at I.hok hd
      obtain ⟨⟨k, b⟩, hkv⟩ : ∃ p, xs[i]? = some p := ⟨xs[i], List.getElem?_eq_getElem hi⟩
      have hen : es'[i]? = some (⟨skH k, .ref b, .bool true⟩ : DictEntry) := by rw [← Array.getElem?_toList, he, List.getElem?_map, hkv]; rfl
      refine next_key_item st hgd hod hsz hen fun h' st' sb => ?_
      have I1 : Inv X pins σ H { s with heap := h' } := I.turned (t' := s.toks) (fun b ob hb e => (sb.2 b hb).trans e) f0 f1 f3 f4 f5
      obtain ⟨oi, e, c, dd⟩ := id st'
      exact ⟨_, rfl, go_of (s := { s with heap := h' }) e c dd (by decide) ⟨.ref b, H, I1, rfl, ⟨rfl, k, b, hkv, rfl⟩, st', fun b hb => (hf b hb).1⟩⟩
    done := by
      intro X hP hw hK hc i pins s σ H E I hf st hg
      subst hP hw hK
      obtain ⟨hd, hi⟩ := hg
      obtain ⟨f0, f1, f2, f3, f4, f5⟩ := hf it (by simp)
      exact next_key_end (I.ok.hd hc) st (sko_at I.hok hd) hod hsz hi fun h' eb => ⟨rfl, I.turned (t' := s.toks) (fun b ob hb e => eb b ob hb e) f0 f1 f3 f4 f5⟩
    self := fun A i s Q E st h => by
      refine wpAny_pyIter_slot st.typeIs F.slot_dict_keyiterator_iter (wpAny_call_entry F.slot_dict_keyiterator_iter st.typeIs F.entry_dict_keyiterator_iter ?_ (F.args_dict_keyiterator_iter_1 _))
      show wpAny _ _ (ret (.ref it)) _ _ s
      exact wpAny_pure ⟨_, rfl, "dict_keyiterator", _, st.typeIs, F.slot_dict_keyiterator_next.lookup, h⟩ }
def iSk (td : TE) : TI := fun σ H R => td σ H fun x H1 => ∃ d o xs, x = .ref d ∧ H1 d = some (SKo d o) ∧ SkOb d o xs ∧ R (Itsk d o xs) H1
theorem pi_sk {X : Cx} {tg e : Expr} {td : TE} (he : PE X e td) : PI X tg e (iSk td) := by
  refine ⟨fun pins s σ H R I h => ?_⟩
  refine thn (he.run pins s σ H _ I h) fun u s1 ⟨x, H1, I1, rx, d, o, xs, ex, hd, so, q⟩ => ?_
  subst ex
  obtain rfl : u = Value.ref d := rx
  obtain ⟨es, ep, hdt, hes⟩ := so.dat
  have hsz : es.size = xs.length := by rw [← Array.length_toList, hes, List.length_map]
  refine iter_keys so.mods (sko_at I1.hok hd) so.ex hdt (pi_one (tk := s1.toks) I1 _ (turn_sk _ so hdt) ⟨_, Heap.get?_push_size _ rfl, rfl, ?_⟩ q)
  rw [hsz] <;> rfl
theorem walks_sk {K : PySem.W.Frag} {Z : Hp} {a : Addr} {o : Obj} {xs : List (SK × Addr)} (h : Z a = some (SKo a o)) (r : RpAll K Z (xs.map fun x => V.ref x.2) (xs.map fun x => skD x.1)) : Walks K Z (Itsk a o xs) (xs.map fun x => skD x.1) where
  go := fun i H d s e => by
    rw [List.getElem?_map] at e
    obtain ⟨x, hx, _⟩ := Option.map_eq_some_iff.mp e
    exact ⟨s _ _ h, (List.getElem?_eq_some_iff.mp hx).1⟩
  yld := fun i H d x H2 s e y => by
    obtain ⟨rfl, k, b, hx, rfl⟩ := y
    rw [List.getElem?_map, hx] at e
    cases e
    exact ⟨rfl, rp_mem r _ (List.mem_of_getElem? hx)⟩
  stop := fun i H s hi => ⟨s _ _ h, by rw [List.length_map] at hi; exact hi⟩
def fIK (fe : DF) : Env → Option (List PyData) := fun ρ => (fe ρ).bind fun d => (asKd d).map fun ks => ks.map skD
theorem di_kd {X : Cx} {K : PySem.W.Frag} {tg e : Expr} {fe : DF} (he : DE X K e fe) : DI X K tg e (fIK fe) :=
  (pi_sk he).weak fun σ H R ⟨Z, ρ, ds, s, v, ed, q⟩ => by
  obtain ⟨d, e1, e2⟩ := opt_bind ed
  obtain ⟨ks, e3, rfl⟩ := Option.map_eq_some_iff.mp e2
  have := asKd_inv e3
  subst this
  refine ⟨Z, ρ, _, s, v, e1, fun vx H1 Z1 x1 r1 => ?_⟩
  obtain ⟨a, o, xs, rfl, hz, so, rfl, ra⟩ := kd_of r1
  refine ⟨a, o, xs, rfl, x1.sub _ _ hz, so, q _ H1 Z1 x1 ?_⟩
  rw [List.map_map]
  exact walks_sk hz ra
end DL
/-! part SU -/
namespace LW
open PySem PySem.Spec PyProof.Rows L2 DL
/-- cross(origin, one, other): 0 origin 1 one 2 other 3 left -/
noncomputable def fb_cross : SFn := (dSeq (dSet 3 (f2 gMul (f2 gSub (f2 gIx (fVar 1) (fC (.int 0))) (f2 gIx (fVar 0) (fC (.int 0)))) (f2 gSub (f2 gIx (fVar 2) (fC (.int 1))) (f2 gIx (fVar 0) (fC (.int 1)))))) (dRet (f2 gSub (fVar 3) (f2 gMul (f2 gSub (f2 gIx (fVar 1) (fC (.int 1))) (f2 gIx (fVar 0) (fC (.int 1)))) (f2 gSub (f2 gIx (fVar 2) (fC (.int 0))) (f2 gIx (fVar 0) (fC (.int 0))))))))
noncomputable def g_cross : List PyData → Option PyData := runD 4 fb_cross
/-- side_of(origin, one, other): 0 origin 1 one 2 other 3 turn -/
noncomputable def fb_side_of : SFn := (dSeq (dSet 3 (fCallF 3 g_cross (fCons (fVar 0) (fCons (fVar 1) (fCons (fVar 2) fNil))))) (dRet (f2 gSub (fCall gInt (fCons (f2 gGt (fVar 3) (fC (.int 0))) fNil)) (fCall gInt (fCons (f2 gLt (fVar 3) (fC (.int 0))) fNil)))))
noncomputable def g_side_of : List PyData → Option PyData := runD 4 fb_side_of
/-- on_side(one, other, point): 0 one 1 other 2 point -/
noncomputable def fb_on_side : SFn := (dSeq (dIf (fTst (f2 gNe (fCallF 3 g_cross (fCons (fVar 0) (fCons (fVar 1) (fCons (fVar 2) fNil)))) (fC (.int 0)))) (dRet (fC (.bool false))) dNext) (dSeq (dIf (fNot (fChain gLe gLe (fCall gMin2 (fCons (f2 gIx (fVar 0) (fC (.int 0))) (fCons (f2 gIx (fVar 1) (fC (.int 0))) fNil))) (f2 gIx (fVar 2) (fC (.int 0))) (fCall gMax2 (fCons (f2 gIx (fVar 0) (fC (.int 0))) (fCons (f2 gIx (fVar 1) (fC (.int 0))) fNil))))) (dRet (fC (.bool false))) dNext) (dRet (fB (fChain gLe gLe (fCall gMin2 (fCons (f2 gIx (fVar 0) (fC (.int 1))) (fCons (f2 gIx (fVar 1) (fC (.int 1))) fNil))) (f2 gIx (fVar 2) (fC (.int 1))) (fCall gMax2 (fCons (f2 gIx (fVar 0) (fC (.int 1))) (fCons (f2 gIx (fVar 1) (fC (.int 1))) fNil))))))))
noncomputable def g_on_side : List PyData → Option PyData := runD 3 fb_on_side
/-- meet(one, other, third, fourth): 0 one 1 other 2 third 3 fourth 4 point -/
noncomputable def fb_meet : SFn := (dSeq (dFor (fIT (fTup (fCons (fVar 2) (fCons (fVar 3) fNil)))) (tgN 4) (dIf (fTst (fCallF 3 g_on_side (fCons (fVar 0) (fCons (fVar 1) (fCons (fVar 4) fNil))))) (dRet (fC (.bool true))) dNext)) (dSeq (dFor (fIT (fTup (fCons (fVar 0) (fCons (fVar 1) fNil)))) (tgN 4) (dIf (fTst (fCallF 3 g_on_side (fCons (fVar 2) (fCons (fVar 3) (fCons (fVar 4) fNil))))) (dRet (fC (.bool true))) dNext)) (dSeq (dIf (fTst (f2 gGe (f2 gMul (fCallF 3 g_side_of (fCons (fVar 0) (fCons (fVar 1) (fCons (fVar 2) fNil)))) (fCallF 3 g_side_of (fCons (fVar 0) (fCons (fVar 1) (fCons (fVar 3) fNil))))) (fC (.int 0)))) (dRet (fC (.bool false))) dNext) (dRet (f2 gLt (f2 gMul (fCallF 3 g_side_of (fCons (fVar 2) (fCons (fVar 3) (fCons (fVar 0) fNil)))) (fCallF 3 g_side_of (fCons (fVar 2) (fCons (fVar 3) (fCons (fVar 1) fNil))))) (fC (.int 0)))))))
noncomputable def g_meet : List PyData → Option PyData := runD 5 fb_meet
/-- sides(corners): 0 corners 1 k -/
noncomputable def fb_sides : SFn := (dRet (fL (fLc [1] (fIR rng1 (fCons (fCall gLen (fCons (fVar 0) fNil)) fNil)) (tgN 1) fYes (fTup (fCons (f2 gIx (fVar 0) (fVar 1)) (fCons (f2 gIx (fVar 0) (f2 gMod (f2 gAdd (fVar 1) (fC (.int 1))) (fCall gLen (fCons (fVar 0) fNil)))) fNil))))))
noncomputable def g_sides : List PyData → Option PyData := runD 2 fb_sides
/-- folds_back(one, middle, other): 0 one 1 middle 2 other 3 along -/
noncomputable def fb_folds_back : SFn := (dSeq (dIf (fTst (f2 gNe (fCallF 3 g_cross (fCons (fVar 0) (fCons (fVar 1) (fCons (fVar 2) fNil)))) (fC (.int 0)))) (dRet (fC (.bool false))) dNext) (dSeq (dSet 3 (f2 gMul (f2 gSub (f2 gIx (fVar 0) (fC (.int 0))) (f2 gIx (fVar 1) (fC (.int 0)))) (f2 gSub (f2 gIx (fVar 2) (fC (.int 0))) (f2 gIx (fVar 1) (fC (.int 0)))))) (dRet (f2 gGt (f2 gAdd (fVar 3) (f2 gMul (f2 gSub (f2 gIx (fVar 0) (fC (.int 1))) (f2 gIx (fVar 1) (fC (.int 1)))) (f2 gSub (f2 gIx (fVar 2) (fC (.int 1))) (f2 gIx (fVar 1) (fC (.int 1)))))) (fC (.int 0))))))
noncomputable def g_folds_back : List PyData → Option PyData := runD 4 fb_folds_back
/-- is_fence(corners): 0 corners 1 many 2 k 3 row 4 j -/
noncomputable def fb_is_fence : SFn := (dSeq (dSet 1 (fCall gLen (fCons (fVar 0) fNil))) (dSeq (dIf (fNot (fChain gLe gLe (fC (.int 3)) (fVar 1) (fC (.int 12)))) (dRet (fC (.bool false))) dNext) (dSeq (dForO (fIR rng1 (fCons (fVar 1) fNil)) (tgN 2) (dIf (fOr (fTst (f2 gIn (f2 gIx (fVar 0) (fVar 2)) (fL (fSl (fVar 0) fPn (fPs (fVar 2)))))) (fTst (fCallF 3 g_folds_back (fCons (f2 gIx (fVar 0) (f2 gSub (fVar 2) (fC (.int 2)))) (fCons (f2 gIx (fVar 0) (f2 gSub (fVar 2) (fC (.int 1)))) (fCons (f2 gIx (fVar 0) (fVar 2)) fNil)))))) (dRet (fC (.bool false))) dNext)) (dSeq (dSet 3 (fCallF 1 g_sides (fCons (fVar 0) fNil))) (dSeq (dForO (fIR rng1 (fCons (fVar 1) fNil)) (tgN 2) (dForO (fIR rng2 (fCons (f2 gAdd (fVar 2) (fC (.int 2))) (fCons (fVar 1) fNil))) (tgN 4) (dIf (fAnd (fTst (f2 gNe (f2 gMod (f2 gAdd (fVar 4) (fC (.int 1))) (fVar 1)) (fVar 2))) (fTst (fCallF 4 g_meet (fCons (f2 gIx (f2 gIx (fVar 3) (fVar 2)) (fC (.int 0))) (fCons (f2 gIx (f2 gIx (fVar 3) (fVar 2)) (fC (.int 1))) (fCons (f2 gIx (f2 gIx (fVar 3) (fVar 4)) (fC (.int 0))) (fCons (f2 gIx (f2 gIx (fVar 3) (fVar 4)) (fC (.int 1))) fNil))))))) (dRet (fC (.bool false))) dNext))) (dRet (fC (.bool true))))))))
noncomputable def g_is_fence : List PyData → Option PyData := runD 5 fb_is_fence
/-- _law_cell_at(script, k): 0 script 1 k -/
noncomputable def fb__law_cell_at : SFn := (dSeq (dIf (fTst (f2 gLt (fVar 1) (fCall gLen (fCons (fVar 0) fNil)))) (dRet (f2 gIx (fVar 0) (fVar 1))) dNext) (dRet (fC (.int 0))))
noncomputable def g__law_cell_at : List PyData → Option PyData := runD 2 fb__law_cell_at
/-- _law_draw(cell, k, bound): 0 cell 1 k 2 bound 3 stir -/
noncomputable def fb__law_draw : SFn := (dSeq (dSet 3 (f2 gMod (f2 gMul (f2 gAdd (f2 gAdd (f2 gMod (fVar 0) (fC (.int 2147483647))) (f2 gMul (fC (.int 977)) (fVar 1))) (fC (.int 1))) (fC (.int 48271))) (fC (.int 2147483647)))) (dSeq (dSet 3 (f2 gMod (f2 gMul (f2 gAdd (fVar 3) (f2 gMul (fC (.int 40692)) (f2 gAdd (fVar 1) (fC (.int 3))))) (fC (.int 69621))) (fC (.int 2147483629)))) (dRet (f2 gMod (f2 gDiv (fVar 3) (fC (.int 8))) (fVar 2)))))
noncomputable def g__law_draw : List PyData → Option PyData := runD 4 fb__law_draw
/-- _law_cross(one, other, third): 0 one 1 other 2 third 3 left -/
noncomputable def fb__law_cross : SFn := (dSeq (dSet 3 (f2 gMul (f2 gSub (f2 gIx (fVar 1) (fC (.int 0))) (f2 gIx (fVar 0) (fC (.int 0)))) (f2 gSub (f2 gIx (fVar 2) (fC (.int 1))) (f2 gIx (fVar 0) (fC (.int 1)))))) (dRet (f2 gSub (fVar 3) (f2 gMul (f2 gSub (f2 gIx (fVar 1) (fC (.int 1))) (f2 gIx (fVar 0) (fC (.int 1)))) (f2 gSub (f2 gIx (fVar 2) (fC (.int 0))) (f2 gIx (fVar 0) (fC (.int 0))))))))
noncomputable def g__law_cross : List PyData → Option PyData := runD 4 fb__law_cross
/-- _law_rows_by(script, first): 0 script 1 first 2 cell 3 many 4 x 5 lows 6 highs 7 k 8 low -/
noncomputable def fb__law_rows_by : SFn := (dSeq (dSet 2 (fCallF 2 g__law_cell_at (fCons (fVar 0) (fCons (fVar 1) fNil)))) (dSeq (dSet 3 (f2 gAdd (fC (.int 2)) (f2 gMod (fVar 2) (fC (.int 5))))) (dSeq (dSet 4 (fC (.int 0))) (dSeq (dSetN 5 (fLst fNil)) (dSeq (dSetN 6 (fLst fNil)) (dSeq (dForO (fIR rng1 (fCons (fVar 3) fNil)) (tgN 7) (dSeq (dSet 8 (f2 gSub (fCallF 3 g__law_draw (fCons (fCallF 2 g__law_cell_at (fCons (fVar 0) (fCons (f2 gAdd (fVar 1) (fC (.int 1))) fNil))) (fCons (fVar 7) (fCons (fC (.int 9)) fNil)))) (fC (.int 4)))) (dSeq (dApp 5 (fTup (fCons (fVar 4) (fCons (fVar 8) fNil)))) (dSeq (dApp 6 (fTup (fCons (fVar 4) (fCons (f2 gAdd (f2 gAdd (fVar 8) (fC (.int 1))) (fCallF 3 g__law_draw (fCons (fCallF 2 g__law_cell_at (fCons (fVar 0) (fCons (f2 gAdd (fVar 1) (fC (.int 2))) fNil))) (fCons (fVar 7) (fCons (fC (.int 5)) fNil))))) fNil)))) (dSet 4 (f2 gAdd (f2 gAdd (fVar 4) (fC (.int 1))) (fCallF 3 g__law_draw (fCons (fCallF 2 g__law_cell_at (fCons (fVar 0) (fCons (f2 gAdd (fVar 1) (fC (.int 3))) fNil))) (fCons (fVar 7) (fCons (fC (.int 3)) fNil)))))))))) (dRet (fL (fLst (fCons (fVar 5) (fCons (fVar 6) (fCons (f2 gMod (f2 gDiv (fVar 2) (fC (.int 5))) (fC (.int 4))) fNil))))))))))))
noncomputable def g__law_rows_by : List PyData → Option PyData := runD 9 fb__law_rows_by
/-- _law_joined(lows, highs, tips): 0 lows 1 highs 2 tips 3 top -/
noncomputable def fb__law_joined : SFn := (dSeq (dSetN 3 (fCallN gListC (fCons (fVar 1) fNil))) (dSeq (dIf (fTst (f2 gEq (f2 gMod (fVar 2) (fC (.int 2))) (fC (.int 1)))) (dPopAt 3 (fC (.int 0))) dNext) (dSeq (dIf (fAnd (fTst (f2 gGt (fVar 2) (fC (.int 1)))) (fTst (f2 gGt (f2 gAdd (fCall gLen (fCons (fVar 0) fNil)) (fCall gLen (fCons (fVar 3) fNil))) (fC (.int 3))))) (dPop 3) dNext) (dRet (fL (fCat (fVar 0) (fL (fRev (fVar 3)))))))))
noncomputable def g__law_joined : List PyData → Option PyData := runD 4 fb__law_joined
/-- _law_spiral(cell): 0 cell 1 w 2 h 3 outer -/
noncomputable def fb__law_spiral : SFn := (dSeq (dSet 1 (f2 gAdd (fC (.int 5)) (f2 gMod (fVar 0) (fC (.int 3))))) (dSeq (dSet 2 (f2 gAdd (fC (.int 6)) (f2 gMod (f2 gDiv (fVar 0) (fC (.int 3))) (fC (.int 3))))) (dSeq (dSet 3 (fL (fLst (fCons (fTup (fCons (fC (.int 0)) (fCons (fC (.int 0)) fNil))) (fCons (fTup (fCons (fVar 1) (fCons (fC (.int 0)) fNil))) (fCons (fTup (fCons (fVar 1) (fCons (fVar 2) fNil))) (fCons (fTup (fCons (fC (.int 0)) (fCons (fVar 2) fNil))) (fCons (fTup (fCons (fC (.int 0)) (fCons (fC (.int 3)) fNil))) (fCons (fTup (fCons (f2 gSub (fVar 1) (fC (.int 3))) (fCons (fC (.int 3)) fNil))) fNil))))))))) (dRet (fL (fCat (fVar 3) (fL (fLst (fCons (fTup (fCons (f2 gSub (fVar 1) (fC (.int 3))) (fCons (fC (.int 4)) fNil))) (fCons (fTup (fCons (fC (.int 1)) (fCons (fC (.int 4)) fNil))) (fCons (fTup (fCons (fC (.int 1)) (fCons (f2 gSub (fVar 2) (fC (.int 1))) fNil))) (fCons (fTup (fCons (f2 gSub (fVar 1) (fC (.int 1))) (fCons (f2 gSub (fVar 2) (fC (.int 1))) fNil))) (fCons (fTup (fCons (f2 gSub (fVar 1) (fC (.int 1))) (fCons (fC (.int 1)) fNil))) (fCons (fTup (fCons (fC (.int 0)) (fCons (fC (.int 1)) fNil))) fNil))))))))))))))
noncomputable def g__law_spiral : List PyData → Option PyData := runD 4 fb__law_spiral
/-- _law_flat(corners, cell): 0 corners 1 cell 2 at 3 one 4 x 5 y 6 parts 7 k -/
noncomputable def fb__law_flat : SFn := (dSeq (dSet 2 (f2 gMod (fVar 1) (fCall gLen (fCons (fVar 0) fNil)))) (dSeq (dSet 3 (f2 gIx (fVar 0) (f2 gSub (fVar 2) (fC (.int 1))))) (dSeq (dSet 4 (f2 gSub (f2 gIx (f2 gIx (fVar 0) (fVar 2)) (fC (.int 0))) (f2 gIx (fVar 3) (fC (.int 0))))) (dSeq (dSet 5 (f2 gSub (f2 gIx (f2 gIx (fVar 0) (fVar 2)) (fC (.int 1))) (f2 gIx (fVar 3) (fC (.int 1))))) (dSeq (dSet 6 (fL (fLc [7] (fIR rng2 (fCons (fC (.int 2)) (fCons (fC (.int 20)) fNil))) (tgN 7) (fAnd (fTst (f2 gEq (f2 gMod (fVar 4) (fVar 7)) (fC (.int 0)))) (fTst (f2 gEq (f2 gMod (fVar 5) (fVar 7)) (fC (.int 0))))) (fVar 7)))) (dSeq (dIf (fOr (fTst (f2 gEq (fVar 6) (fL (fLst fNil)))) (fTst (f2 gGt (fCall gLen (fCons (fVar 0) fNil)) (fC (.int 11))))) (dRet (fVar 0)) dNext) (dSeq (dSet 7 (f2 gAdd (fC (.int 1)) (f2 gMod (f2 gDiv (fVar 1) (fC (.int 12))) (f2 gSub (f2 gIx (fVar 6) (f1 gNeg (fC (.int 1)))) (fC (.int 1)))))) (dRet (fL (fCat (fL (fCat (fL (fSl (fVar 0) fPn (fPs (fVar 2)))) (fL (fLst (fCons (fTup (fCons (f2 gAdd (f2 gIx (fVar 3) (fC (.int 0))) (f2 gMul (f2 gDiv (fVar 4) (f2 gIx (fVar 6) (f1 gNeg (fC (.int 1))))) (fVar 7))) (fCons (f2 gAdd (f2 gIx (fVar 3) (fC (.int 1))) (f2 gMul (f2 gDiv (fVar 5) (f2 gIx (fVar 6) (f1 gNeg (fC (.int 1))))) (fVar 7))) fNil))) fNil))))) (fL (fSl (fVar 0) (fPs (fVar 2)) fPn))))))))))))
noncomputable def g__law_flat : List PyData → Option PyData := runD 8 fb__law_flat
/-- _law_fence_by(script, first): 0 script 1 first 2 rows 3 corners 4 cell 5 turn 6 x 7 y -/
noncomputable def fb__law_fence_by : SFn := (dSeq (dSet 2 (fCallF 2 g__law_rows_by (fCons (fVar 0) (fCons (fVar 1) fNil)))) (dSeq (dSet 3 (fCallF 3 g__law_joined (fCons (f2 gIx (fVar 2) (fC (.int 0))) (fCons (f2 gIx (fVar 2) (fC (.int 1))) (fCons (f2 gIx (fVar 2) (fC (.int 2))) fNil))))) (dSeq (dSet 4 (f2 gDiv (fCallF 2 g__law_cell_at (fCons (fVar 0) (fCons (fVar 1) fNil))) (fC (.int 20)))) (dSeq (dIf (fTst (f2 gEq (f2 gMod (f2 gDiv (fVar 4) (fC (.int 48))) (fC (.int 5))) (fC (.int 1)))) (dSet 3 (fCallF 1 g__law_spiral (fCons (fCallF 2 g__law_cell_at (fCons (fVar 0) (fCons (f2 gAdd (fVar 1) (fC (.int 1))) fNil))) fNil))) dNext) (dSeq (dIf (fTst (f2 gEq (f2 gMod (f2 gDiv (fVar 4) (fC (.int 240))) (fC (.int 2))) (fC (.int 1)))) (dSet 3 (fCallF 2 g__law_flat (fCons (fVar 3) (fCons (fCallF 2 g__law_cell_at (fCons (fVar 0) (fCons (f2 gAdd (fVar 1) (fC (.int 2))) fNil))) fNil)))) dNext) (dSeq (dSet 5 (f2 gMod (fVar 4) (fCall gLen (fCons (fVar 3) fNil)))) (dSeq (dSet 3 (fL (fCat (fL (fSl (fVar 3) (fPs (fVar 5)) fPn)) (fL (fSl (fVar 3) fPn (fPs (fVar 5))))))) (dSeq (dIf (fTst (f2 gEq (f2 gMod (f2 gDiv (fVar 4) (fC (.int 12))) (fC (.int 2))) (fC (.int 1)))) (dSet 3 (fL (fRev (fVar 3)))) dNext) (dSeq (dIf (fTst (f2 gEq (f2 gMod (f2 gDiv (fVar 4) (fC (.int 24))) (fC (.int 2))) (fC (.int 1)))) (dSet 3 (fL (fLc [6, 7] (fIL (fVar 3)) (tgT [6, 7]) fYes (fTup (fCons (fVar 7) (fCons (fVar 6) fNil)))))) dNext) (dRet (fVar 3)))))))))))
noncomputable def g__law_fence_by : List PyData → Option PyData := runD 8 fb__law_fence_by
/-- _law_turning_by(script, first, far): 0 script 1 first 2 far 3 s 4 t 5 sign 6 e 7 f -/
noncomputable def fb__law_turning_by : SFn := (dSeq (dSet 3 (f2 gSub (f2 gMod (fCallF 2 g__law_cell_at (fCons (fVar 0) (fCons (fVar 1) fNil))) (fVar 2)) (f2 gDiv (fVar 2) (fC (.int 2))))) (dSeq (dSet 4 (f2 gSub (f2 gMod (fCallF 2 g__law_cell_at (fCons (fVar 0) (fCons (f2 gAdd (fVar 1) (fC (.int 1))) fNil))) (fVar 2)) (f2 gDiv (fVar 2) (fC (.int 2))))) (dSeq (dSet 5 (f2 gSub (fC (.int 1)) (f2 gMul (fC (.int 2)) (f2 gMod (fCallF 2 g__law_cell_at (fCons (fVar 0) (fCons (f2 gAdd (fVar 1) (fC (.int 2))) fNil))) (fC (.int 2)))))) (dSeq (dSet 6 (f2 gSub (f2 gMod (fCallF 2 g__law_cell_at (fCons (fVar 0) (fCons (f2 gAdd (fVar 1) (fC (.int 3))) fNil))) (f2 gPow (fC (.int 10)) (fC (.int 30)))) (f2 gPow (fC (.int 10)) (fC (.int 29))))) (dSeq (dSet 7 (f2 gSub (f2 gMod (f2 gDiv (fCallF 2 g__law_cell_at (fCons (fVar 0) (fCons (f2 gAdd (fVar 1) (fC (.int 2))) fNil))) (fC (.int 2))) (f2 gPow (fC (.int 10)) (fC (.int 30)))) (f2 gPow (fC (.int 10)) (fC (.int 29))))) (dRet (fTup (fCons (f2 gAdd (fC (.int 1)) (f2 gMul (fVar 3) (fVar 4))) (fCons (fVar 3) (fCons (f2 gMul (fVar 5) (fVar 4)) (fCons (fVar 5) (fCons (fVar 6) (fCons (fVar 7) fNil)))))))))))))
noncomputable def g__law_turning_by : List PyData → Option PyData := runD 8 fb__law_turning_by
/-- _law_led(turning, point): 0 turning 1 point 2 a 3 b 4 c 5 d 6 e 7 f -/
noncomputable def fb__law_led : SFn := (dSeq (dAsg (tgE [2, 3, 4, 5, 6, 7]) (fVar 0)) (dRet (fTup (fCons (f2 gAdd (f2 gAdd (f2 gMul (fVar 2) (f2 gIx (fVar 1) (fC (.int 0)))) (f2 gMul (fVar 3) (f2 gIx (fVar 1) (fC (.int 1))))) (fVar 6)) (fCons (f2 gAdd (f2 gAdd (f2 gMul (fVar 4) (f2 gIx (fVar 1) (fC (.int 0)))) (f2 gMul (fVar 5) (f2 gIx (fVar 1) (fC (.int 1))))) (fVar 7)) fNil)))))
noncomputable def g__law_led : List PyData → Option PyData := runD 8 fb__law_led
/-- asked(corners): 0 corners -/
noncomputable def fb_asked : SFn := (dIf (fNot (fTst (fCallF 1 g_is_fence (fCons (fVar 0) fNil)))) dNever dNext)
noncomputable def g_asked : List PyData → Option PyData := runD 1 fb_asked
/-- turn_sum(corners): 0 corners 1 one 2 other -/
noncomputable def fb_turn_sum : SFn := (dRet (fCall gSum (fCons (fL (fLc [1, 2] (fIL (fCallF 1 g_sides (fCons (fVar 0) fNil))) (tgT [1, 2]) fYes (f2 gSub (f2 gMul (f2 gIx (fVar 1) (fC (.int 0))) (f2 gIx (fVar 2) (fC (.int 1)))) (f2 gMul (f2 gIx (fVar 1) (fC (.int 1))) (f2 gIx (fVar 2) (fC (.int 0))))))) fNil)))
noncomputable def g_turn_sum : List PyData → Option PyData := runD 3 fb_turn_sum
/-- double_area(corners): 0 corners -/
noncomputable def fb_double_area : SFn := (dSeq (dDrop (fCallF 1 g_asked (fCons (fVar 0) fNil))) (dRet (fCall gAbs (fCons (fCallF 1 g_turn_sum (fCons (fVar 0) fNil)) fNil))))
noncomputable def g_double_area : List PyData → Option PyData := runD 1 fb_double_area
/-- _law_sum(corners): 0 corners 1 total 2 k 3 one 4 other -/
noncomputable def fb__law_sum : SFn := (dSeq (dSet 1 (fC (.int 0))) (dSeq (dForO (fIR rng1 (fCons (fCall gLen (fCons (fVar 0) fNil)) fNil)) (tgN 2) (dSeq (dSet 3 (f2 gIx (fVar 0) (f2 gSub (fVar 2) (fC (.int 1))))) (dSeq (dSet 4 (f2 gIx (fVar 0) (fVar 2))) (dSet 1 (f2 gAdd (fVar 1) (f2 gMul (f2 gSub (f2 gIx (fVar 3) (fC (.int 0))) (f2 gIx (fVar 4) (fC (.int 0)))) (f2 gAdd (f2 gIx (fVar 3) (fC (.int 1))) (f2 gIx (fVar 4) (fC (.int 1)))))))))) (dRet (fVar 1))))
noncomputable def g__law_sum : List PyData → Option PyData := runD 5 fb__law_sum
/-- _law_whole(found): 0 found -/
noncomputable def fb__law_whole : SFn := (dRet (fB (fAnd (fTst (fIsi' "int" (fVar 0))) (fNot (fTst (fIsi' "bool" (fVar 0)))))))
noncomputable def g__law_whole : List PyData → Option PyData := runD 1 fb__law_whole
/-- common(one, other): 0 one 1 other 2 rest -/
noncomputable def fb_common : SFn := (dSeq (dSet 0 (fCall gAbs (fCons (fVar 0) fNil))) (dSeq (dSet 1 (fCall gAbs (fCons (fVar 1) fNil))) (dSeq (dWhile fuD (fTst (f2 gGt (fVar 1) (fC (.int 0)))) (dSeq (dSet 2 (f2 gMod (fVar 0) (fVar 1))) (dSeq (dSet 0 (fVar 1)) (dSet 1 (fVar 2))))) (dRet (fVar 0)))))
noncomputable def g_common : List PyData → Option PyData := runD 3 fb_common
/-- rim(corners): 0 corners 1 one 2 other -/
noncomputable def fb_rim : SFn := (dSeq (dDrop (fCallF 1 g_asked (fCons (fVar 0) fNil))) (dRet (fCall gSum (fCons (fL (fLc [1, 2] (fIL (fCallF 1 g_sides (fCons (fVar 0) fNil))) (tgT [1, 2]) fYes (fCallF 2 g_common (fCons (f2 gSub (f2 gIx (fVar 2) (fC (.int 0))) (f2 gIx (fVar 1) (fC (.int 0)))) (fCons (f2 gSub (f2 gIx (fVar 2) (fC (.int 1))) (f2 gIx (fVar 1) (fC (.int 1)))) fNil))))) fNil))))
noncomputable def g_rim : List PyData → Option PyData := runD 3 fb_rim
/-- greater_counts(corners, k): 0 corners 1 k 2 wide 3 edge -/
noncomputable def fb_greater_counts : SFn := (dSeq (dSet 2 (f2 gMul (f2 gMul (fVar 1) (fVar 1)) (fCallF 1 g_double_area (fCons (fVar 0) fNil)))) (dSeq (dSet 3 (f2 gMul (fVar 1) (fCallF 1 g_rim (fCons (fVar 0) fNil)))) (dRet (fTup (fCons (f2 gAdd (f2 gDiv (f2 gAdd (fVar 2) (fVar 3)) (fC (.int 2))) (fC (.int 1))) (fCons (f2 gAdd (f2 gDiv (f2 gSub (fVar 2) (fVar 3)) (fC (.int 2))) (fC (.int 1))) fNil))))))
noncomputable def g_greater_counts : List PyData → Option PyData := runD 4 fb_greater_counts
/-- _law_points_are(found, due): 0 found 1 due 2 point -/
noncomputable def fb__law_points_are : SFn := (dSeq (dIf (fOr (fNot (fTst (fIsi' "list" (fVar 0)))) (fTst (f2 gNe (fCall gLen (fCons (fVar 0) fNil)) (fCall gLen (fCons (fVar 1) fNil))))) (dRet (fC (.bool false))) dNext) (dSeq (dFor (fIL (fVar 0)) (tgN 2) (dIf (fOr (fNot (fTst (fIsi' "tuple" (fVar 2)))) (fOr (fTst (f2 gNe (fCall gLen (fCons (fVar 2) fNil)) (fC (.int 2)))) (fOr (fNot (fTst (fCallF 1 g__law_whole (fCons (f2 gIx (fVar 2) (fC (.int 0))) fNil)))) (fNot (fTst (fCallF 1 g__law_whole (fCons (f2 gIx (fVar 2) (fC (.int 1))) fNil))))))) (dRet (fC (.bool false))) dNext)) (dRet (f2 gEq (fVar 0) (fVar 1)))))
noncomputable def g__law_points_are : List PyData → Option PyData := runD 3 fb__law_points_are
/-- is_ear(left, k): 0 left 1 k 2 one 3 middle 4 other 5 point -/
noncomputable def fb_is_ear : SFn := (dSeq (dSet 2 (f2 gIx (fVar 0) (f2 gSub (fVar 1) (fC (.int 1))))) (dSeq (dSet 3 (f2 gIx (fVar 0) (fVar 1))) (dSeq (dSet 4 (f2 gIx (fVar 0) (f2 gMod (f2 gAdd (fVar 1) (fC (.int 1))) (fCall gLen (fCons (fVar 0) fNil))))) (dSeq (dIf (fTst (f2 gLe (fCallF 3 g_cross (fCons (fVar 2) (fCons (fVar 3) (fCons (fVar 4) fNil)))) (fC (.int 0)))) (dRet (fC (.bool false))) dNext) (dSeq (dFor (fIL (fVar 0)) (tgN 5) (dIf (fAnd (fTst (f2 gNotInT (fVar 5) (fTup (fCons (fVar 2) (fCons (fVar 3) (fCons (fVar 4) fNil)))))) (fTst (f2 gGe (fCallF 3 g_cross (fCons (fVar 2) (fCons (fVar 3) (fCons (fVar 5) fNil)))) (fC (.int 0))))) (dIf (fAnd (fTst (f2 gGe (fCallF 3 g_cross (fCons (fVar 3) (fCons (fVar 4) (fCons (fVar 5) fNil)))) (fC (.int 0)))) (fTst (f2 gGe (fCallF 3 g_cross (fCons (fVar 4) (fCons (fVar 2) (fCons (fVar 5) fNil)))) (fC (.int 0))))) (dRet (fC (.bool false))) dNext) dNext)) (dRet (fC (.bool true))))))))
noncomputable def g_is_ear : List PyData → Option PyData := runD 6 fb_is_ear
/-- ears(corners): 0 corners 1 left 2 found 3 k -/
noncomputable def fb_ears : SFn := (dSeq (dSetN 1 (fCallN gListC (fCons (fVar 0) fNil))) (dSeq (dSetN 2 (fLst fNil)) (dSeq (dWhile fuD (fTst (f2 gGt (fCall gLen (fCons (fVar 1) fNil)) (fC (.int 3)))) (dSeq (dSet 3 (fC (.int 0))) (dSeq (dWhile fuD (fNot (fTst (fCallF 2 g_is_ear (fCons (fVar 1) (fCons (fVar 3) fNil))))) (dSet 3 (f2 gAdd (fVar 3) (fC (.int 1))))) (dSeq (dAppO 2 (fTup (fCons (f2 gIx (fVar 1) (f2 gSub (fVar 3) (fC (.int 1)))) (fCons (f2 gIx (fVar 1) (fVar 3)) (fCons (f2 gIx (fVar 1) (f2 gMod (f2 gAdd (fVar 3) (fC (.int 1))) (fCall gLen (fCons (fVar 1) fNil)))) fNil))))) (dPopAt 1 (fVar 3)))))) (dSeq (dAppO 2 (fTup (fCons (f2 gIx (fVar 1) (fC (.int 0))) (fCons (f2 gIx (fVar 1) (fC (.int 1))) (fCons (f2 gIx (fVar 1) (fC (.int 2))) fNil))))) (dRetOw 2)))))
noncomputable def g_ears : List PyData → Option (List PyData) := runN 4 fb_ears
/-- shares_of(one, other): 0 one 1 other 2 rest 3 later 4 times 5 after -/
noncomputable def fb_shares_of : SFn := (dSeq (dSet 2 (fTup (fCons (fVar 0) (fCons (fC (.int 1)) (fCons (fC (.int 0)) fNil))))) (dSeq (dSet 3 (fTup (fCons (fVar 1) (fCons (fC (.int 0)) (fCons (fC (.int 1)) fNil))))) (dSeq (dWhile fuD (fTst (f2 gNe (f2 gIx (fVar 3) (fC (.int 0))) (fC (.int 0)))) (dSeq (dSet 4 (f2 gDiv (f2 gIx (fVar 2) (fC (.int 0))) (f2 gIx (fVar 3) (fC (.int 0))))) (dSeq (dSet 5 (fTup (fCons (f2 gSub (f2 gIx (fVar 2) (fC (.int 0))) (f2 gMul (fVar 4) (f2 gIx (fVar 3) (fC (.int 0))))) (fCons (f2 gSub (f2 gIx (fVar 2) (fC (.int 1))) (f2 gMul (fVar 4) (f2 gIx (fVar 3) (fC (.int 1))))) (fCons (f2 gSub (f2 gIx (fVar 2) (fC (.int 2))) (f2 gMul (fVar 4) (f2 gIx (fVar 3) (fC (.int 2))))) fNil))))) (dSeq (dSet 2 (fVar 3)) (dSet 3 (fVar 5)))))) (dRet (fTup (fCons (f2 gMul (f2 gIx (fVar 2) (fC (.int 1))) (f2 gIx (fVar 2) (fC (.int 0)))) (fCons (f2 gMul (f2 gIx (fVar 2) (fC (.int 2))) (f2 gIx (fVar 2) (fC (.int 0)))) fNil)))))))
noncomputable def g_shares_of : List PyData → Option PyData := runD 6 fb_shares_of
/-- point_of(triangle): 0 triangle 1 k 2 one 3 x 4 y 5 parts 6 other 7 third 8 shares 9 over 10 along -/
noncomputable def fb_point_of : SFn := (dSeq (dForO (fIR rng1 (fCons (fC (.int 3)) fNil)) (tgN 1) (dSeq (dSet 2 (f2 gIx (fVar 0) (fVar 1))) (dSeq (dSet 3 (f2 gSub (f2 gIx (f2 gIx (fVar 0) (f2 gMod (f2 gAdd (fVar 1) (fC (.int 1))) (fC (.int 3)))) (fC (.int 0))) (f2 gIx (fVar 2) (fC (.int 0))))) (dSeq (dSet 4 (f2 gSub (f2 gIx (f2 gIx (fVar 0) (f2 gMod (f2 gAdd (fVar 1) (fC (.int 1))) (fC (.int 3)))) (fC (.int 1))) (f2 gIx (fVar 2) (fC (.int 1))))) (dSeq (dSet 5 (fCallF 2 g_common (fCons (fVar 3) (fCons (fVar 4) fNil)))) (dIf (fTst (f2 gGt (fVar 5) (fC (.int 1)))) (dRet (fTup (fCons (f2 gAdd (f2 gIx (fVar 2) (fC (.int 0))) (f2 gDiv (fVar 3) (fVar 5))) (fCons (f2 gAdd (f2 gIx (fVar 2) (fC (.int 1))) (f2 gDiv (fVar 4) (fVar 5))) fNil)))) dNext)))))) (dSeq (dAsg (tgT [2, 6, 7]) (fVar 0)) (dSeq (dSet 3 (f2 gSub (f2 gIx (fVar 6) (fC (.int 0))) (f2 gIx (fVar 2) (fC (.int 0))))) (dSeq (dSet 4 (f2 gSub (f2 gIx (fVar 6) (fC (.int 1))) (f2 gIx (fVar 2) (fC (.int 1))))) (dSeq (dSet 8 (fCallF 2 g_shares_of (fCons (fVar 3) (fCons (fVar 4) fNil)))) (dSeq (dSet 9 (f2 gAdd (f2 gMul (f2 gSub (f2 gIx (fVar 7) (fC (.int 0))) (f2 gIx (fVar 2) (fC (.int 0)))) (f2 gIx (fVar 8) (fC (.int 0)))) (f2 gMul (f2 gSub (f2 gIx (fVar 7) (fC (.int 1))) (f2 gIx (fVar 2) (fC (.int 1)))) (f2 gIx (fVar 8) (fC (.int 1)))))) (dSeq (dSet 10 (f2 gSub (fC (.int 0)) (f2 gDiv (f2 gSub (fC (.int 0)) (fVar 9)) (fCallF 3 g_cross (fCons (fVar 2) (fCons (fVar 6) (fCons (fVar 7) fNil))))))) (dRet (fTup (fCons (f2 gSub (f2 gAdd (f2 gIx (fVar 2) (fC (.int 0))) (f2 gMul (fVar 10) (fVar 3))) (f2 gIx (fVar 8) (fC (.int 1)))) (fCons (f2 gAdd (f2 gAdd (f2 gIx (fVar 2) (fC (.int 1))) (f2 gMul (fVar 10) (fVar 4))) (f2 gIx (fVar 8) (fC (.int 0)))) fNil)))))))))))
noncomputable def g_point_of : List PyData → Option PyData := runD 11 fb_point_of
/-- least_triangles(corners): 0 corners 1 wide 2 row 3 waiting 4 found 5 triangle 6 point 7 k 8 one 9 other -/
noncomputable def fb_least_triangles : SFn := (dSeq (dDrop (fCallF 1 g_asked (fCons (fVar 0) fNil))) (dSeq (dSet 1 (fCallF 1 g_turn_sum (fCons (fVar 0) fNil))) (dSeq (dIf (fTst (f2 gGt (fCall gAbs (fCons (fVar 1) fNil)) (fC (.int 60)))) dNever dNext) (dSeq (dSet 2 (fL (fCallN gListC (fCons (fVar 0) fNil)))) (dSeq (dIf (fTst (f2 gLt (fVar 1) (fC (.int 0)))) (dSet 2 (fL (fRev (fVar 2)))) dNext) (dSeq (dSetN 3 (fCallFN 1 g_ears (fCons (fVar 2) fNil))) (dSeq (dSetN 4 (fLst fNil)) (dSeq (dWhile fuD (fTst (f2 gGt (fCall gLen (fCons (fVar 3) fNil)) (fC (.int 0)))) (dSeq (dPopTo 5 3) (dIf (fTst (f2 gEq (fCallF 3 g_cross (fCons (f2 gIx (fVar 5) (fC (.int 0))) (fCons (f2 gIx (fVar 5) (fC (.int 1))) (fCons (f2 gIx (fVar 5) (fC (.int 2))) fNil)))) (fC (.int 1)))) (dApp 4 (fL (fCallN gListC (fCons (fVar 5) fNil)))) (dSeq (dSet 6 (fCallF 1 g_point_of (fCons (fVar 5) fNil))) (dForO (fIR rng1 (fCons (fC (.int 3)) fNil)) (tgN 7) (dSeq (dSet 8 (f2 gIx (fVar 5) (fVar 7))) (dSeq (dSet 9 (f2 gIx (fVar 5) (f2 gMod (f2 gAdd (fVar 7) (fC (.int 1))) (fC (.int 3))))) (dIf (fTst (f2 gGt (fCallF 3 g_cross (fCons (fVar 8) (fCons (fVar 9) (fCons (fVar 6) fNil)))) (fC (.int 0)))) (dApp 3 (fTup (fCons (fVar 8) (fCons (fVar 9) (fCons (fVar 6) fNil))))) dNext)))))))) (dRet (fVar 4))))))))))
noncomputable def g_least_triangles : List PyData → Option PyData := runD 10 fb_least_triangles
/-- _law_common(one, other): 0 one 1 other 2 rest -/
noncomputable def fb__law_common : SFn := (dSeq (dSet 0 (fCall gAbs (fCons (fVar 0) fNil))) (dSeq (dSet 1 (fCall gAbs (fCons (fVar 1) fNil))) (dSeq (dWhile fuD (fTst (f2 gGt (fVar 1) (fC (.int 0)))) (dSeq (dSet 2 (f2 gMod (fVar 0) (fVar 1))) (dSeq (dSet 0 (fVar 1)) (dSet 1 (fVar 2))))) (dRet (fVar 0)))))
noncomputable def g__law_common : List PyData → Option PyData := runD 3 fb__law_common
/-- _law_steps(corners): 0 corners 1 steps 2 k 3 one 4 x 5 y 6 parts 7 j 8 start -/
noncomputable def fb__law_steps : SFn := (dSeq (dKNew 1) (dSeq (dForO (fIR rng1 (fCons (fCall gLen (fCons (fVar 0) fNil)) fNil)) (tgN 2) (dSeq (dSet 3 (f2 gIx (fVar 0) (f2 gSub (fVar 2) (fC (.int 1))))) (dSeq (dSet 4 (f2 gSub (f2 gIx (f2 gIx (fVar 0) (fVar 2)) (fC (.int 0))) (f2 gIx (fVar 3) (fC (.int 0))))) (dSeq (dSet 5 (f2 gSub (f2 gIx (f2 gIx (fVar 0) (fVar 2)) (fC (.int 1))) (f2 gIx (fVar 3) (fC (.int 1))))) (dSeq (dSet 6 (fCallF 2 g__law_common (fCons (fVar 4) (fCons (fVar 5) fNil)))) (dForO (fIR rng1 (fCons (fVar 6) fNil)) (tgN 7) (dSeq (dSet 8 (fTup (fCons (f2 gAdd (f2 gIx (fVar 3) (fC (.int 0))) (f2 gMul (f2 gDiv (fVar 4) (fVar 6)) (fVar 7))) (fCons (f2 gAdd (f2 gIx (fVar 3) (fC (.int 1))) (f2 gMul (f2 gDiv (fVar 5) (fVar 6)) (fVar 7))) fNil)))) (dKPut 1 (fTup (fCons (fVar 8) (fCons (fTup (fCons (f2 gAdd (f2 gIx (fVar 8) (fC (.int 0))) (f2 gDiv (fVar 4) (fVar 6))) (fCons (f2 gAdd (f2 gIx (fVar 8) (fC (.int 1))) (f2 gDiv (fVar 5) (fVar 6))) fNil))) fNil))))))))))) (dRet (fVar 1))))
noncomputable def g__law_steps : List PyData → Option PyData := runD 9 fb__law_steps
/-- _law_gone(triangles): 0 triangles 1 gone 2 triangle 3 row 4 k 5 step -/
noncomputable def fb__law_gone : SFn := (dSeq (dKNew 1) (dSeq (dFor (fIL (fVar 0)) (tgN 2) (dSeq (dSet 3 (fL (fCallN gListC (fCons (fVar 2) fNil)))) (dSeq (dIf (fTst (f2 gLt (fCallF 3 g__law_cross (fCons (f2 gIx (fVar 3) (fC (.int 0))) (fCons (f2 gIx (fVar 3) (fC (.int 1))) (fCons (f2 gIx (fVar 3) (fC (.int 2))) fNil)))) (fC (.int 0)))) (dSet 3 (fL (fRev (fVar 3)))) dNext) (dForO (fIR rng1 (fCons (fC (.int 3)) fNil)) (tgN 4) (dSeq (dSet 5 (fTup (fCons (f2 gIx (fVar 3) (f2 gSub (fVar 4) (fC (.int 1)))) (fCons (f2 gIx (fVar 3) (fVar 4)) fNil)))) (dSeq (dIf (fTst (f2 (gKin id) (fVar 5) (fVar 1))) (dRet (fC .none)) dNext) (dKPut 1 (fVar 5)))))))) (dRet (fVar 1))))
noncomputable def g__law_gone : List PyData → Option PyData := runD 6 fb__law_gone
/-- _law_fills(triangles, corners): 0 triangles 1 corners 2 steps 3 gone 4 step -/
noncomputable def fb__law_fills : SFn := (dSeq (dSet 2 (fCallF 1 g__law_steps (fCons (fVar 1) fNil))) (dSeq (dSet 3 (fCallF 1 g__law_gone (fCons (fVar 0) fNil))) (dSeq (dIf (fTst (f1 (fun d => some (gIsN d)) (fVar 3))) (dRet (fC (.bool false))) dNext) (dSeq (dFor (fIK (fVar 3)) (tgN 4) (dIf (fTst (f2 gEq (f2 (gKin id) (fTup (fCons (f2 gIx (fVar 4) (fC (.int 1))) (fCons (f2 gIx (fVar 4) (fC (.int 0))) fNil))) (fVar 3)) (f2 (gKin id) (fVar 4) (fVar 2)))) (dRet (fC (.bool false))) dNext)) (dSeq (dFor (fIK (fVar 2)) (tgN 4) (dIf (fTst (f2 (gKin not) (fVar 4) (fVar 3))) (dRet (fC (.bool false))) dNext)) (dRet (fC (.bool true))))))))
noncomputable def g__law_fills : List PyData → Option PyData := runD 5 fb__law_fills
end LW
/-! part EA -/
namespace LW
open PySem (PyData)
open DL
open L2 (atI ixN kitB)
/-! ### reckoning: the rows used again and again -/
theorem bind_some' {α β : Type} (a : α) (f : α → Option β) : (some a).bind f = f a := rfl
theorem gIx_list {ds : List PyData} {i : Int} : gIx (.list ds) (.int i) = atI ds i := rfl
theorem gIx_tup {ds : List PyData} {i : Int} : gIx (.tuple ds) (.int i) = atI ds i := rfl
theorem gIx_scr {ns : List Int} {i : Int} : gIx (scrD ns) (.int i) = (atI ns i).map .int := by
  show (if isScr (ns.map fun n => (PyData.none, PyData.int n)) then (atI (ns.map fun n => (PyData.none, PyData.int n)) i).map (fun p => p.2) else none) = _
  rw [if_pos (isScr_ns ns), atI_map, Option.map_map]
  rfl
theorem gLen_scr {ns : List Int} : gLen [scrD ns] = some (.int ns.length) := by
  show (if isScr (ns.map fun n => (PyData.none, PyData.int n)) then some (PyData.int ((ns.map fun n => (PyData.none, PyData.int n)).length : Nat)) else none) = _
  rw [if_pos (isScr_ns ns), List.length_map]
theorem atI_ge {α : Type} {xs : List α} {i : Int} (h : 0 ≤ i) : atI xs i = xs[i.toNat]? := by
  unfold atI ixN
  rw [if_pos h]
  by_cases c : i < xs.length
  · rw [if_pos c]; rfl
  · rw [if_neg c, List.getElem?_eq_none (by omega)]; rfl
theorem atI_neg {α : Type} {xs : List α} {i : Int} (h : i < 0) (h1 : -(xs.length : Int) ≤ i) : atI xs i = xs[(i + xs.length).toNat]? := by
  unfold atI ixN
  rw [if_neg (by omega), if_pos h1]; rfl
theorem pair0 {α : Type} {x y : α} : atI [x, y] 0 = some x := rfl
theorem pair1 {α : Type} {x y : α} : atI [x, y] 1 = some y := rfl
local macro_rules | `(tactic| walk_at "dl") => `(tactic| simp only [runD, runN, sto0, dSeq, dSet, dSetO, dRet, dRetN, dNext, dIf, dDrop, vS, vO, cS, cO, fVar, f2, f1, fC, fTst, asBool, fCallF, fCallFN, fCall, fCallN, fCons, fNil, fAnd, fOr, fNot, fB, fTup, fL,
  List.map_cons, List.map_nil, List.length_cons, List.length_nil, List.replicate_succ, List.replicate_zero, List.cons_append, List.nil_append, List.getElem?_cons_zero, List.getElem?_cons_succ, Option.join_some, bind_some', Option.map_some,
  List.set_cons_zero, List.set_cons_succ, gI0_ii, gIx_list, gIx_tup, gIx_scr, gLen_scr, pair0, pair1, gEq_int, gNe_int, Nat.reduceSub, Nat.reduceAdd, Nat.reduceEqDiff, Nat.reduceLeDiff, if_true, if_false, ite_true, ite_false, Bool.true_eq_false, Bool.false_eq_true, reduceIte])
def cell (ns : List Int) (k : Nat) : Int := ns.getD k 0
theorem e_cell (ns : List Int) (k : Int) (hk : 0 ≤ k) : g__law_cell_at [scrD ns, .int k] = some (.int (cell ns k.toNat)) := by
  unfold g__law_cell_at fb__law_cell_at cell
  by_cases c : k < ns.length
  · walk_at "dl"
    rw [decide_eq_true c, atI_ge hk, List.getD_eq_getElem?_getD, List.getElem?_eq_getElem (by omega)]
    rfl
  · walk_at "dl"
    rw [decide_eq_false c, List.getD_eq_getElem?_getD, List.getElem?_eq_none (by omega)]
    rfl
theorem kit_int : kitB "int" "int" = some true := by decide +kernel
theorem kit_int_b : kitB "int" "bool" = some false := by decide +kernel
theorem e_whole (k : Int) : g__law_whole [.int k] = some (.bool true) := by
  unfold g__law_whole fb__law_whole
  walk_at "dl"
  simp only [fIsi', fVar, List.getElem?_cons_zero, Option.join_some, bind_some', notScr, tyN, kit_int, kit_int_b, if_true, Option.map_some, asBool]
  rfl
theorem gPow10 {j : Int} (h0 : 0 ≤ j) (h1 : j ≤ 1000) : gI PowG (fun i j => .int (i ^ j.toNat)) (.int 10) (.int j) = some (.int (10 ^ j.toNat)) := gPow_ii ⟨h0, by omega, by decide⟩
theorem lcD_map {tg : TgF} {ft : DL.Env → Option Bool} {fe : DF} {ρ : DL.Env} (h : PyData → PyData) : ∀ ds : List PyData, (∀ d ∈ ds, ∃ asg, tg d = some asg ∧ ft (setE ρ asg) = some true ∧ fe (setE ρ asg) = some (h d)) → lcD tg ft fe ρ ds = some (ds.map h)
  | [], _ => rfl
  | d :: ds, H => by
    obtain ⟨asg, h1, h2, h3⟩ := H d List.mem_cons_self
    unfold lcD
    rw [h1, bind_some', h2, bind_some', if_pos rfl, h3, bind_some', lcD_map h ds fun e he => H e (List.mem_cons_of_mem _ he)]
    rfl
theorem rng1_ok {j : Int} (h0 : 0 ≤ j) (h1 : j < 1000000) : rng1 [.int j] = some (rngD 0 j.toNat) := by
  show (if j < 2 ^ 62 ∧ -(2 ^ 62) ≤ j then some (rngD 0 j.toNat) else none) = _
  rw [if_pos (by omega)]
theorem rng2_ok {i j : Int} (h0 : -1000000 ≤ i ∧ i < 1000000) (h1 : -1000000 ≤ j ∧ j < 1000000) : rng2 [.int i, .int j] = some (rngD i (j - i).toNat) := by
  show (if (i < 2 ^ 62 ∧ -(2 ^ 62) ≤ i) ∧ (j < 2 ^ 62 ∧ -(2 ^ 62) ≤ j) then some (rngD i (j - i).toNat) else none) = _
  rw [if_pos (by omega)]
theorem dSeq_step {F G : SFn} {ρ ρ' : Sto} {r : Res} (h : F ρ = .next ρ') (h2 : G ρ' = r) : dSeq F G ρ = r := by
  unfold dSeq; rw [h]; exact h2
theorem dSeq_ret {F G : SFn} {ρ : Sto} {d : PyData} (h : F ρ = .ret d) : dSeq F G ρ = .ret d := by
  unfold dSeq; rw [h]
theorem dIf_t {c : DL.Env → Option Bool} {F G : SFn} {ρ : Sto} (hc : c (vO ρ) = some true) : dIf c F G ρ = F ρ := by unfold dIf; rw [hc]
theorem dIf_f {c : DL.Env → Option Bool} {F G : SFn} {ρ : Sto} (hc : c (vO ρ) = some false) : dIf c F G ρ = G ρ := by unfold dIf; rw [hc]
theorem runD_ret {n : Nat} {F : SFn} {ds : List PyData} {d : PyData} (h : F (sto0 n ds) = .ret d) : runD n F ds = some d := by unfold runD; rw [h]
theorem gSum_ints (ns : List Int) : gSum [.list (ns.map .int)] = some (.int ns.sum) := by
  show (intsOf (ns.map .int)).map _ = _
  rw [intsOf_map]; rfl
theorem gAbs_int (i : Int) : gAbs [.int i] = some (.int (if i < 0 then -i else i)) := rfl
end LW
/-! part EF1 -/
namespace LW
open PySem (PyData)
open DL
open L2 (atI ixN kitB)
local macro_rules | `(tactic| walk_at "bd") => `(tactic| (apply bd_mono; (focus (repeat' (first | assumption | apply bd_sub | apply bd_add | apply bd_mul | apply bd_neg | apply bd_ediv | (apply bd_emod <;> first | assumption | decide | omega | exact bd_lit (n := 200) (by decide)) | exact bd_lit (n := 200) (by decide)))); decide))
local macro_rules | `(tactic| walk_at "dis") => `(tactic| first | assumption | omega | decide | walk_at "bd")
local macro_rules | `(tactic| walk_at "dl") => `(tactic| simp (disch := walk_at "dis") only [runD, DL.runN, sto0, dSeq, dSet, dSetO, dRet, dRetN, dNext, dIf, dDrop, vS, vO, cS, cO, fVar, f2, f1, fC, fTst, asBool, fCallF, fCallFN, fCall, fCallN, fCons, fNil, fAnd, fOr, fNot, fB, fTup, fL,
  List.map_cons, List.map_nil, List.length_cons, List.length_nil, List.replicate_succ, List.replicate_zero, List.cons_append, List.nil_append, List.getElem?_cons_zero, List.getElem?_cons_succ, Option.join_some, bind_some', Option.map_some,
  List.set_cons_zero, List.set_cons_succ, gI0_ii, gMul_ii, gDiv_pos, gMod_pos, gPow10, e_cell, e_whole, gAbs_int, Bool.not_true, Bool.not_false, Int.reduceToNat, gIx_list, gIx_tup, gIx_scr, gLen_scr, pair0, pair1, gEq_int, gNe_int, Nat.reduceSub, Nat.reduceAdd, Nat.reduceEqDiff, Nat.reduceLeDiff, if_true, if_false, ite_true, ite_false, Bool.true_eq_false, Bool.false_eq_true, reduceIte])
/-! points as data -/
def pD (p : Pt) : PyData := .tuple [.int p.1, .int p.2]
def psD (l : List Pt) : PyData := .list (l.map pD)
def PB (n : Nat) (p : Pt) : Prop := Bd n p.1 ∧ Bd n p.2
theorem pD_eqv (p q : Pt) : PyData.eqv (pD p) (pD q) = decide (p = q) := by
  obtain ⟨a, b⟩ := p
  obtain ⟨c, d⟩ := q
  simp only [pD, PyData.eqv, PyData.eqvAll, Bool.and_true]
  rw [PySem.W.beq_decide, PySem.W.beq_decide]
  by_cases h1 : a = c <;> by_cases h2 : b = d <;> simp [h1, h2]
theorem shaped_pD (p : Pt) : PySem.SeqAt.shaped (pD p) = true := by
  simp [PySem.SeqAt.shaped, pD, PyData.canLay0, PyData.canLayAll0, PyData.depth, PyData.depthAll]
theorem lay_psD : ∀ l : List Pt, PyData.canLayAll0 (l.map pD) = true
  | [] => rfl
  | p :: l => by
    rw [List.map_cons]
    simp only [PyData.canLayAll0, lay_psD l, Bool.and_true]
    simp [pD, PyData.canLay0, PyData.canLayAll0]
theorem dep_psD : ∀ l : List Pt, PyData.depthAll (l.map pD) ≤ 2
  | [] => by simp [PyData.depthAll]
  | p :: l => by
    have := dep_psD l
    rw [List.map_cons]
    simp only [PyData.depthAll]
    have e : PyData.depth (pD p) ≤ 2 := by simp [pD, PyData.depth, PyData.depthAll]
    omega
theorem shaped_psD (l : List Pt) : PySem.SeqAt.shaped (psD l) = true := by
  have := dep_psD l
  simp only [PySem.SeqAt.shaped, psD, PyData.canLay0, PyData.depth, lay_psD, Bool.true_and]
  apply decide_eq_true; omega
theorem psD_eqvAll : ∀ (l m : List Pt), PyData.eqvAll (l.map pD) (m.map pD) = decide (l = m)
  | [], [] => by simp [PyData.eqvAll]
  | [], _ :: _ => by simp [PyData.eqvAll]
  | _ :: _, [] => by simp [PyData.eqvAll]
  | p :: l, q :: m => by
    simp only [List.map_cons, PyData.eqvAll, pD_eqv, psD_eqvAll l m]
    by_cases h1 : p = q <;> by_cases h2 : l = m <;> simp [h1, h2]
theorem gEq_psD (l m : List Pt) : gEq (psD l) (psD m) = some (.bool (decide (l = m))) := by
  unfold gEq
  rw [shaped_psD, shaped_psD]
  show some (PyData.bool (PyData.eqvAll _ _)) = _
  rw [psD_eqvAll]
theorem gNe_psD (l m : List Pt) : gNe (psD l) (psD m) = some (.bool (!decide (l = m))) := by
  unfold gNe
  rw [shaped_psD, shaped_psD]
  show some (PyData.bool (!PyData.eqvAll _ _)) = _
  rw [psD_eqvAll]
theorem gIn_psD (p : Pt) (l : List Pt) : gIn (pD p) (psD l) = some (.bool (decide (p ∈ l))) := by
  show (if PySem.SeqAt.shaped (pD p) && PySem.SeqAt.shaped (psD l) then some (PyData.bool ((l.map pD).any fun z => PyData.eqv z (pD p))) else none) = _
  rw [shaped_pD, shaped_psD]
  show some (PyData.bool _) = _
  congr 2
  rw [List.any_map]
  induction l with
  | nil => rfl
  | cons q l ih =>
    rw [List.any_cons, ih]
    show (PyData.eqv (pD q) (pD p) || _) = _
    rw [pD_eqv]
    by_cases h1 : q = p
    · subst h1; simp
    · simp [h1, Ne.symm h1]
theorem gLen_psD (l : List Pt) : gLen [psD l] = some (.int l.length) := by
  show some (PyData.int ((l.map pD).length : Nat)) = _
  rw [List.length_map]
theorem gIx_psD (l : List Pt) (i : Int) : gIx (psD l) (.int i) = (atI l i).map pD := by
  show atI (l.map pD) i = _
  rw [atI_map]
theorem gIx_p0 (p : Pt) : gIx (pD p) (.int 0) = some (.int p.1) := rfl
theorem gIx_p1 (p : Pt) : gIx (pD p) (.int 1) = some (.int p.2) := rfl
/-! ### the program's defs -/
theorem e_cross {n : Nat} (hn : n ≤ 4000) {o a b : Pt} (ho : PB n o) (ha : PB n a) (hb : PB n b) : g_cross [pD o, pD a, pD b] = some (.int (cr o a b)) := by
  have o1 := bd_mono ho.1 hn
  have o2 := bd_mono ho.2 hn
  have a1 := bd_mono ha.1 hn
  have a2 := bd_mono ha.2 hn
  have b1 := bd_mono hb.1 hn
  have b2 := bd_mono hb.2 hn
  unfold g_cross fb_cross
  refine runD_ret ?_
  walk_at "dl"
  simp only [gIx_p0, gIx_p1, bind_some', gI0_ii]
  walk_at "dl"
  simp only [gIx_p0, gIx_p1, bind_some', gI0_ii]
  walk_at "dl"
  rfl
def sgn (x : Int) : Int := if 0 < x then 1 else if x < 0 then -1 else 0
theorem gInt_bool (b : Bool) : gInt [.bool b] = some (.int (if b then 1 else 0)) := rfl
theorem e_side_of {n : Nat} (hn : n ≤ 4000) {o a b : Pt} (ho : PB n o) (ha : PB n a) (hb : PB n b) : g_side_of [pD o, pD a, pD b] = some (.int (sgn (cr o a b))) := by
  have e := e_cross hn ho ha hb
  unfold g_side_of fb_side_of
  refine runD_ret ?_
  walk_at "dl"
  simp only [e, bind_some', List.getElem?_cons_succ, List.getElem?_cons_zero]
  walk_at "dl"
  simp only [bind_some', gI0_ii, gInt_bool]
  unfold sgn
  by_cases h : 0 < cr o a b
  · have h2 : ¬ cr o a b < 0 := by omega
    simp only [h, h2, decide_true, decide_false, if_true, if_false]; rfl
  · by_cases h2 : cr o a b < 0
    · simp only [h, h2, decide_true, decide_false, if_true, if_false]; rfl
    · simp only [h, h2, decide_true, decide_false, if_true, if_false]; rfl
/-- within the box of two points -/
def boxB (a b p : Pt) : Bool := decide (min a.1 b.1 ≤ p.1 ∧ p.1 ≤ max a.1 b.1 ∧ min a.2 b.2 ≤ p.2 ∧ p.2 ≤ max a.2 b.2)
def onB (a b p : Pt) : Bool := decide (cr a b p = 0) && boxB a b p
theorem chain_mm (a b p : Int) {ρ : DL.Env} {fa fb fc : DF} (h1 : fa ρ = some (.int a)) (h2 : fb ρ = some (.int b)) (h3 : fc ρ = some (.int p)) :
    fChain gLe gLe (fCall gMin2 (fCons fa (fCons fb fNil))) fc (fCall gMax2 (fCons fa (fCons fb fNil))) ρ = some (decide (min a b ≤ p ∧ p ≤ max a b)) := by
  unfold fChain fCall fCons fNil
  simp only [h1, h2, h3, bind_some', gMin2, gMax2, gI0_ii, asBool, Option.map_some]
  have e1 : (if b < a then b else a) = min a b := by omega
  have e2 : (if b > a then b else a) = max a b := by omega
  rw [e1, e2]
  by_cases c : min a b ≤ p
  · rw [decide_eq_true c, if_pos rfl]
    congr 1
    by_cases d : p ≤ max a b
    · rw [decide_eq_true d, decide_eq_true ⟨c, d⟩]
    · rw [decide_eq_false d, decide_eq_false (fun z => d z.2)]
  · rw [decide_eq_false c, if_neg (by decide), decide_eq_false (fun z => c z.1)]
theorem e_on_side {n : Nat} (hn : n ≤ 4000) {a b p : Pt} (ha : PB n a) (hb : PB n b) (hp : PB n p) : g_on_side [pD a, pD b, pD p] = some (.bool (onB a b p)) := by
  have e := e_cross hn ha hb hp
  have c0 := chain_mm a.1 b.1 p.1 (ρ := [some (pD a), some (pD b), some (pD p)]) (fa := f2 gIx (fVar 0) (fC (.int 0))) (fb := f2 gIx (fVar 1) (fC (.int 0))) (fc := f2 gIx (fVar 2) (fC (.int 0))) rfl rfl rfl
  have c1 := chain_mm a.2 b.2 p.2 (ρ := [some (pD a), some (pD b), some (pD p)]) (fa := f2 gIx (fVar 0) (fC (.int 1))) (fb := f2 gIx (fVar 1) (fC (.int 1))) (fc := f2 gIx (fVar 2) (fC (.int 1))) rfl rfl rfl
  unfold g_on_side fb_on_side
  refine runD_ret ?_
  have t0 : fTst (f2 gNe (fCallF 3 g_cross (fCons (fVar 0) (fCons (fVar 1) (fCons (fVar 2) fNil)))) (fC (.int 0))) (vO (sto0 3 [pD a, pD b, pD p])) = some (!decide (cr a b p = 0)) := by
    walk_at "dl"
    simp only [e, bind_some', gNe_int, asBool]
  unfold onB boxB
  by_cases h : cr a b p = 0
  · refine dSeq_step ((dIf_f (by rw [t0, decide_eq_true h]; rfl)).trans rfl) ?_
    rw [decide_eq_true h, Bool.true_and]
    by_cases h2 : min a.1 b.1 ≤ p.1 ∧ p.1 ≤ max a.1 b.1
    · refine dSeq_step ((dIf_f (by show Option.map _ (fChain _ _ _ _ _ [some (pD a), some (pD b), some (pD p)]) = _; rw [c0, decide_eq_true h2]; rfl)).trans rfl) ?_
      show (match fB _ [some (pD a), some (pD b), some (pD p)] with | some d => Res.ret d | none => .fail) = _
      unfold fB
      rw [c1]
      show Res.ret (.bool _) = _
      congr 2
      by_cases h3 : min a.2 b.2 ≤ p.2 ∧ p.2 ≤ max a.2 b.2
      · rw [decide_eq_true h3, decide_eq_true ⟨h2.1, h2.2, h3.1, h3.2⟩]
      · rw [decide_eq_false h3, decide_eq_false (fun z => h3 z.2.2)]
    · refine dSeq_ret ?_
      rw [dIf_t (by show Option.map _ (fChain _ _ _ _ _ [some (pD a), some (pD b), some (pD p)]) = _; rw [c0, decide_eq_false h2]; rfl)]
      rw [decide_eq_false (fun z => h2 ⟨z.1, z.2.1⟩)]; rfl
  · refine dSeq_ret ?_
    rw [dIf_t (by rw [t0, decide_eq_false h]; rfl), decide_eq_false h]
    rfl
theorem e_folds {n : Nat} (hn : n ≤ 4000) {a m b : Pt} (ha : PB n a) (hm : PB n m) (hb : PB n b) : g_folds_back [pD a, pD m, pD b] = some (.bool (decide (cr a m b = 0 ∧ 0 < dt a m b))) := by
  have e := e_cross hn ha hm hb
  have a1 := bd_mono ha.1 hn
  have a2 := bd_mono ha.2 hn
  have m1 := bd_mono hm.1 hn
  have m2 := bd_mono hm.2 hn
  have b1 := bd_mono hb.1 hn
  have b2 := bd_mono hb.2 hn
  unfold g_folds_back fb_folds_back
  refine runD_ret ?_
  have t0 : fTst (f2 gNe (fCallF 3 g_cross (fCons (fVar 0) (fCons (fVar 1) (fCons (fVar 2) fNil)))) (fC (.int 0))) (vO (sto0 4 [pD a, pD m, pD b])) = some (!decide (cr a m b = 0)) := by
    walk_at "dl"
    simp only [e, bind_some', gNe_int, asBool]
  by_cases h : cr a m b = 0
  · refine dSeq_step ((dIf_f (by rw [t0, decide_eq_true h]; rfl)).trans rfl) ?_
    walk_at "dl"
    simp only [gIx_p0, gIx_p1, bind_some', gI0_ii]
    walk_at "dl"
    simp only [gIx_p0, gIx_p1, bind_some', gI0_ii]
    walk_at "dl"
    show Res.ret (.bool _) = _
    congr 2
    unfold dt
    by_cases h2 : 0 < (a.1 - m.1) * (b.1 - m.1) + (a.2 - m.2) * (b.2 - m.2)
    · rw [decide_eq_true h2, decide_eq_true ⟨h, h2⟩]
    · rw [decide_eq_false h2, decide_eq_false (fun z => h2 z.2)]
  · refine dSeq_ret ?_
    rw [dIf_t (by rw [t0, decide_eq_false h]; rfl), decide_eq_false (fun z => h z.1)]
    rfl
/-! the loops -/
theorem forF_rng {F : SFn} {j : Nat} {lo : Int} {r : PyData} {Inv : Sto → Prop} (p : Nat → Bool) : ∀ (n k : Nat), (∀ i, k ≤ i → i < k + n → ∀ ρ, Inv ρ → ∃ ρ', Inv ρ' ∧ F (ρ.set j (some (.sh (.int (lo + (i : Nat)))))) = if p i then .ret r else .next ρ') → ∀ ρ, Inv ρ →
    ∃ ρ', Inv ρ' ∧ forF (tgN j) F ((List.range' k n).map fun i => .int (lo + (i : Nat))) ρ = if (List.range' k n).any p then .ret r else .next ρ'
  | 0, k, _, ρ, hi => ⟨ρ, hi, rfl⟩
  | n + 1, k, H, ρ, hi => by
    obtain ⟨ρ1, i1, e1⟩ := H k (Nat.le_refl _) (by omega) ρ hi
    rw [List.range'_succ, List.map_cons, List.any_cons]
    have e3 : forF (tgN j) F (PyData.int (lo + (k : Nat)) :: List.map (fun i => PyData.int (lo + (i : Nat))) (List.range' (k + 1) n)) ρ = (match F (ρ.set j (some (.sh (.int (lo + (k : Nat)))))) with | .next ρ' => forF (tgN j) F (List.map (fun i => PyData.int (lo + (i : Nat))) (List.range' (k + 1) n)) ρ' | .ct ρ' => forF (tgN j) F (List.map (fun i => PyData.int (lo + (i : Nat))) (List.range' (k + 1) n)) ρ' | .brk ρ' => .next ρ' | r => r) := rfl
    rw [e3, e1]
    cases hp : p k with
    | true => exact ⟨ρ1, i1, rfl⟩
    | false =>
      obtain ⟨ρ2, i2, e2⟩ := forF_rng p n (k + 1) (fun i h1 h2 => H i (by omega) (by omega)) ρ1 i1
      exact ⟨ρ2, i2, e2⟩
theorem rngD_eq (lo : Int) (n : Nat) : rngD lo n = (List.range' 0 n).map fun i => .int (lo + (i : Nat)) := by
  unfold rngD; rw [List.range_eq_range']
theorem noLs_ints : ∀ l : List Nat, ∀ lo : Int, noLs (l.map fun i => PyData.int (lo + (i : Nat))) = true
  | [], _ => rfl
  | i :: l, lo => by rw [List.map_cons]; simp [noLs, noL, noLs_ints l lo]
theorem noLs_rng (lo : Int) (n : Nat) : noLs (rngD lo n) = true := noLs_ints _ _
def meetB (a b c d : Pt) : Bool := (onB a b c || onB a b d) || ((onB c d a || onB c d b) || (decide (sgn (cr a b c) * sgn (cr a b d) < 0) && decide (sgn (cr c d a) * sgn (cr c d b) < 0)))
theorem sgn_bd (x : Int) : Bd 2 (sgn x) := by unfold sgn; split; exact bd_lit (by decide); split; exact bd_lit (by decide); exact bd_lit (by decide)
theorem dIf_b {c : DL.Env → Option Bool} {ρ : Sto} {b : Bool} {d : PyData} (hc : c (vO ρ) = some b) : dIf c (dRet (fC d)) dNext ρ = if b then .ret d else .next ρ := by
  unfold dIf; rw [hc]; cases b <;> rfl
theorem dFor_of {fi : DL.Env → Option (List PyData)} {tg : TgF} {F : SFn} {ρ : Sto} {ds : List PyData} (h : fi (vS ρ) = some ds) : dFor fi tg F ρ = forF tg F ds ρ := by unfold dFor; rw [h]
theorem dForO_of {fi : DL.Env → Option (List PyData)} {tg : TgF} {F : SFn} {ρ : Sto} {ds : List PyData} (h : fi (vO ρ) = some ds) (hn : noLs ds = true) : dForO fi tg F ρ = forF tg F ds ρ := by unfold dForO; rw [h]; exact if_pos hn
theorem two_loop {F : SFn} {st : Option Cell → Sto} {r dx dy : PyData} {bx by' : Bool} (hset : ∀ c4 d, (st c4).set 4 (some (.sh d)) = st (some (.sh d))) (h1 : F (st (some (.sh dx))) = if bx then .ret r else .next (st (some (.sh dx))))
    (h2 : F (st (some (.sh dy))) = if by' then .ret r else .next (st (some (.sh dy)))) (c : Option Cell) : forF (tgN 4) F [dx, dy] (st c) = if bx || by' then .ret r else .next (st (some (.sh dy))) := by
  have e3 : forF (tgN 4) F [dx, dy] (st c) = (match F ((st c).set 4 (some (.sh dx))) with | .next ρ' => forF (tgN 4) F [dy] ρ' | .ct ρ' => forF (tgN 4) F [dy] ρ' | .brk ρ' => .next ρ' | r => r) := rfl
  rw [e3, hset, h1]
  cases bx with
  | true => rfl
  | false =>
    show forF (tgN 4) F [dy] (st (some (.sh dx))) = _
    have e4 : forF (tgN 4) F [dy] (st (some (.sh dx))) = (match F ((st (some (.sh dx))).set 4 (some (.sh dy))) with | .next ρ' => .next ρ' | .ct ρ' => .next ρ' | .brk ρ' => .next ρ' | r => r) := rfl
    rw [e4, hset, h2]
    cases by' <;> rfl
theorem e_meet {n : Nat} (hn : n ≤ 4000) {a b c d : Pt} (ha : PB n a) (hb : PB n b) (hc : PB n c) (hd : PB n d) : g_meet [pD a, pD b, pD c, pD d] = some (.bool (meetB a b c d)) := by
  have s1 := e_side_of hn ha hb hc
  have s2 := e_side_of hn ha hb hd
  have s3 := e_side_of hn hc hd ha
  have s4 := e_side_of hn hc hd hb
  have q1 := sgn_bd (cr a b c)
  have q2 := sgn_bd (cr a b d)
  have q3 := sgn_bd (cr c d a)
  have q4 := sgn_bd (cr c d b)
  unfold g_meet fb_meet
  refine runD_ret ?_
  let st : Option Cell → Sto := fun c4 => [some (.sh (pD a)), some (.sh (pD b)), some (.sh (pD c)), some (.sh (pD d)), c4]
  have hset : ∀ c4 d, (st c4).set 4 (some (.sh d)) = st (some (.sh d)) := fun _ _ => rfl
  have L1 := two_loop (F := dIf (fTst (fCallF 3 g_on_side (fCons (fVar 0) (fCons (fVar 1) (fCons (fVar 4) fNil))))) (dRet (fC (.bool true))) dNext) (st := st) (r := .bool true) (dx := pD c) (dy := pD d) (bx := onB a b c) (by' := onB a b d) hset
    (dIf_b (by show (g_on_side [pD a, pD b, pD c]).bind asBool = _; rw [e_on_side hn ha hb hc]; rfl)) (dIf_b (by show (g_on_side [pD a, pD b, pD d]).bind asBool = _; rw [e_on_side hn ha hb hd]; rfl)) none
  have L2 := fun c4 => two_loop (F := dIf (fTst (fCallF 3 g_on_side (fCons (fVar 2) (fCons (fVar 3) (fCons (fVar 4) fNil))))) (dRet (fC (.bool true))) dNext) (st := st) (r := .bool true) (dx := pD a) (dy := pD b) (bx := onB c d a) (by' := onB c d b) hset
    (dIf_b (by show (g_on_side [pD c, pD d, pD a]).bind asBool = _; rw [e_on_side hn hc hd ha]; rfl)) (dIf_b (by show (g_on_side [pD c, pD d, pD b]).bind asBool = _; rw [e_on_side hn hc hd hb]; rfl)) c4
  have f1 : fIT (fTup (fCons (fVar 2) (fCons (fVar 3) fNil))) (vS (st none)) = some [pD c, pD d] := rfl
  have f2 : ∀ c4, fIT (fTup (fCons (fVar 0) (fCons (fVar 1) fNil))) (vS (st c4)) = some [pD a, pD b] := fun _ => rfl
  unfold meetB
  cases x1 : onB a b c || onB a b d with
  | true =>
    refine dSeq_ret ?_
    show dFor _ _ _ (st none) = _
    rw [dFor_of f1, L1, x1]; rfl
  | false =>
    refine dSeq_step (ρ' := st (some (.sh (pD d)))) ?_ ?_
    · show dFor _ _ _ (st none) = _
      rw [dFor_of f1, L1, x1]; rfl
    cases x2 : onB c d a || onB c d b with
    | true =>
      refine dSeq_ret ?_
      rw [dFor_of (f2 _), L2, x2]; rfl
    | false =>
      refine dSeq_step (ρ' := st (some (.sh (pD b)))) ?_ ?_
      · rw [dFor_of (f2 _), L2, x2]; rfl
      rw [Bool.false_or]
      by_cases h : 0 ≤ sgn (cr a b c) * sgn (cr a b d)
      · refine dSeq_ret ?_
        rw [dIf_t (by
          simp only [st]
          walk_at "dl"
          simp only [s1, s2, bind_some']
          walk_at "dl"
          rw [decide_eq_true h])]
        rw [decide_eq_false (show ¬ sgn (cr a b c) * sgn (cr a b d) < 0 by omega)]
        rfl
      · refine dSeq_step ((dIf_f (by
          simp only [st]
          walk_at "dl"
          simp only [s1, s2, bind_some']
          walk_at "dl"
          rw [decide_eq_false h])).trans rfl) ?_
        rw [decide_eq_true (show sgn (cr a b c) * sgn (cr a b d) < 0 by omega), Bool.true_and]
        simp only [st]
        walk_at "dl"
        simp only [s3, s4, bind_some']
        walk_at "dl"
        rfl
end LW
/-! part EF2 -/
namespace LW
open PySem (PyData)
open DL
open L2 (atI ixN kitB)
local macro_rules | `(tactic| walk_at "bd") => `(tactic| (apply bd_mono; (focus (repeat' (first | assumption | apply bd_sub | apply bd_add | apply bd_mul | apply bd_neg | apply bd_ediv | (apply bd_emod <;> first | assumption | decide | omega | exact bd_lit (n := 200) (by decide)) | exact bd_lit (n := 200) (by decide)))); decide))
local macro_rules | `(tactic| walk_at "dis") => `(tactic| first | assumption | omega | decide | walk_at "bd")
local macro_rules | `(tactic| walk_at "dl") => `(tactic| simp (disch := walk_at "dis") only [runD, DL.runN, sto0, dSeq, dSet, dSetO, dRet, dRetN, dNext, dIf, dDrop, vS, vO, cS, cO, fVar, f2, f1, fC, fTst, asBool, fCallF, fCallFN, fCall, fCallN, fCons, fNil, fAnd, fOr, fNot, fB, fTup, fL,
  List.map_cons, List.map_nil, List.length_cons, List.length_nil, List.replicate_succ, List.replicate_zero, List.cons_append, List.nil_append, List.getElem?_cons_zero, List.getElem?_cons_succ, Option.join_some, bind_some', Option.map_some,
  List.set_cons_zero, List.set_cons_succ, gI0_ii, gMul_ii, gDiv_pos, gMod_pos, gPow10, e_cell, e_whole, gAbs_int, Bool.not_true, Bool.not_false, Int.reduceToNat, gIx_list, gIx_tup, gIx_scr, gLen_scr, pair0, pair1, gEq_int, gNe_int, Nat.reduceSub, Nat.reduceAdd, Nat.reduceEqDiff, Nat.reduceLeDiff, if_true, if_false, ite_true, ite_false, Bool.true_eq_false, Bool.false_eq_true, reduceIte])
def sD (s : Sd) : PyData := .tuple [pD s.1, pD s.2]
def ptI (l : List Pt) (i : Int) : Pt := (atI l i).getD (0, 0)
theorem atI_ok {α : Type} {l : List α} {i : Int} (h0 : -(l.length : Int) ≤ i) (h1 : i < l.length) : ∃ x, atI l i = some x := by
  rcases Int.lt_or_le i 0 with h | h
  · rw [atI_neg h h0, List.getElem?_eq_getElem (by omega)]; exact ⟨_, rfl⟩
  · rw [atI_ge h, List.getElem?_eq_getElem (by omega)]; exact ⟨_, rfl⟩
theorem ptI_ok {l : List Pt} {i : Int} (h0 : -(l.length : Int) ≤ i) (h1 : i < l.length) : atI l i = some (ptI l i) := by
  obtain ⟨x, e⟩ := atI_ok h0 h1
  unfold ptI; rw [e]; rfl
theorem gIx_ok {l : List Pt} {i : Int} (h0 : -(l.length : Int) ≤ i) (h1 : i < l.length) : gIx (psD l) (.int i) = some (pD (ptI l i)) := by rw [gIx_psD, ptI_ok h0 h1]; rfl
theorem ptI_nat {l : List Pt} {k : Nat} (h : k < l.length) : ptI l k = l[k] := by
  unfold ptI; rw [atI_ge (by omega)]; simp [h]
theorem ptI_mem {l : List Pt} {i : Int} (h0 : -(l.length : Int) ≤ i) (h1 : i < l.length) : ptI l i ∈ l := by
  have := ptI_ok h0 h1
  rcases Int.lt_or_le i 0 with h | h
  · rw [atI_neg h h0] at this; exact List.mem_of_getElem? this
  · rw [atI_ge h] at this; exact List.mem_of_getElem? this
/-- the sides by number -/
theorem sds_num (l : List Pt) : sdsL l = (List.range' 0 l.length).map fun k => (ptI l (k : Nat), ptI l (((k : Nat) + 1 : Int) % l.length)) := by
  apply List.ext_getElem?
  intro k
  by_cases h : k < l.length
  · rw [sds_get h, List.getElem?_map, List.getElem?_range' h]
    simp only [Option.map_some, Nat.zero_add, Nat.one_mul]
    rw [ptI_nat h]
    have e : (((k : Nat) + 1 : Int) % l.length) = (((k + 1) % l.length : Nat) : Int) := by rw [Int.natCast_emod]; rfl
    rw [e, ptI_nat]
  · rw [List.getElem?_eq_none (by rw [sds_len]; omega), List.getElem?_eq_none (by simp; omega)]
theorem fLc_of {vs : List Nat} {fi : DL.Env → Option (List PyData)} {tg : TgF} {ft : DL.Env → Option Bool} {fe : DF} {ρ : DL.Env} {ds out : List PyData} (h : fi ρ = some ds) (hl : ds.length ≤ 1000000) (hlc : lcD tg ft fe (wipeE ρ vs) ds = some out) : fLc vs fi tg ft fe ρ = some out := by
  unfold fLc; rw [h, bind_some']
  have e : (if ds.length ≤ 1000000 then lcD tg ft fe (wipeE ρ vs) ds else none) = lcD tg ft fe (wipeE ρ vs) ds := if_pos hl
  rw [e, hlc]
theorem fL_of {f : DL.Env → Option (List PyData)} {ρ : DL.Env} {ds : List PyData} (h : f ρ = some ds) : fL f ρ = some (.list ds) := by unfold fL; rw [h]; rfl
theorem rngD_len (lo : Int) (n : Nat) : (rngD lo n).length = n := by unfold rngD; rw [List.length_map, List.length_range]
theorem sides_r1 {l : List Pt} (hl : l.length < 100000) : (fIR rng1 (fCons (fCall gLen (fCons (fVar 0) fNil)) fNil)) (vO (sto0 2 [psD l])) = some (rngD 0 l.length) := by
  unfold fIR
  walk_at "dl"
  rw [gLen_psD, bind_some', bind_some', rng1_ok (by omega) (by omega), Int.toNat_natCast]
theorem sides_x3 {l : List Pt} {k : Nat} (hk : k < l.length) (hl : l.length < 100000) : f2 gIx (fVar 0) (f2 gMod (f2 gAdd (fVar 1) (fC (.int 1))) (fCall gLen (fCons (fVar 0) fNil))) [some (psD l), some (.int (0 + (k : Nat)))] = some (pD (ptI l (((0 + (k : Nat) : Int) + 1) % l.length))) := by
  have m0 := Int.emod_nonneg ((k : Int) + 1) (show (l.length : Int) ≠ 0 by omega)
  have m1 := Int.emod_lt_of_pos ((k : Int) + 1) (show (0 : Int) < (l.length : Int) by omega)
  have x2 := gIx_ok (l := l) (i := ((0 + (k : Nat) : Int) + 1) % l.length) (by rw [Int.zero_add]; omega) (by rw [Int.zero_add]; omega)
  have g1 : gMod (.int ((0 + (k : Nat) : Int) + 1)) (.int l.length) = _ := gMod_pos (by omega)
  walk_at "dl"
  rw [gLen_psD, bind_some', g1, bind_some', x2]
theorem fTup2 {fa fb : DF} {ρ : DL.Env} {x y : PyData} (h1 : fa ρ = some x) (h2 : fb ρ = some y) : fTup (fCons fa (fCons fb fNil)) ρ = some (.tuple [x, y]) := by
  unfold fTup fCons fNil
  rw [h1, h2]; rfl
theorem sides_item {l : List Pt} {k : Nat} (hk : k < l.length) (hl : l.length < 100000) : (fTup (fCons (f2 gIx (fVar 0) (fVar 1)) (fCons (f2 gIx (fVar 0) (f2 gMod (f2 gAdd (fVar 1) (fC (.int 1))) (fCall gLen (fCons (fVar 0) fNil)))) fNil))) [some (psD l), some (.int (0 + (k : Nat)))] = some (sD (ptI l (0 + (k : Nat) : Int), ptI l (((0 + (k : Nat) : Int) + 1) % l.length))) := by
  have x1 := gIx_ok (l := l) (i := (0 + (k : Nat) : Int)) (by omega) (by omega)
  exact fTup2 x1 (sides_x3 hk hl)
def sideOf (l : List Pt) (d : PyData) : PyData := match d with | .int k => sD (ptI l k, ptI l ((k + 1) % l.length)) | _ => .none
theorem rngD_mem {lo : Int} {n : Nat} {d : PyData} (h : d ∈ rngD lo n) : ∃ k : Nat, k < n ∧ d = .int (lo + (k : Nat)) := by
  unfold rngD at h
  obtain ⟨k, hk, rfl⟩ := List.mem_map.mp h
  rw [List.mem_range] at hk
  exact ⟨k, hk, rfl⟩
theorem sides_map (l : List Pt) : (rngD 0 l.length).map (sideOf l) = (sdsL l).map sD := by
  rw [sds_num, rngD_eq, List.map_map, List.map_map]
  refine List.map_congr_left fun k hk => ?_
  show sD _ = sD _
  simp
theorem rng_le {n : Nat} {lo : Int} (h : n < 100000) : (rngD lo n).length ≤ 1000000 := by rw [rngD_len]; exact Nat.le_of_lt (Nat.lt_trans h (by decide))
theorem dRet_of {f : DF} {ρ : Sto} {d : PyData} (h : f (vO ρ) = some d) : dRet f ρ = .ret d := by unfold dRet; rw [h]
theorem sides_lc {l : List Pt} (hl : l.length < 100000) : lcD (tgN 1) fYes (fTup (fCons (f2 gIx (fVar 0) (fVar 1)) (fCons (f2 gIx (fVar 0) (f2 gMod (f2 gAdd (fVar 1) (fC (.int 1))) (fCall gLen (fCons (fVar 0) fNil)))) fNil))) [some (psD l), none] (rngD 0 l.length) = some ((rngD 0 l.length).map (sideOf l)) := by
  refine lcD_map (sideOf l) _ fun d hd => ?_
  obtain ⟨k, hk, rfl⟩ := rngD_mem hd
  refine ⟨[(1, .int (0 + (k : Nat)))], rfl, rfl, sides_item hk hl⟩
theorem e_sides {l : List Pt} (hl : l.length < 100000) : g_sides [psD l] = some (.list ((sdsL l).map sD)) := by
  unfold g_sides fb_sides
  refine runD_ret (dRet_of ?_)
  rw [← sides_map]
  exact fL_of (fLc_of (sides_r1 hl) (rng_le hl) (sides_lc hl))
end LW
/-! part EF3 -/
namespace LW
open PySem (PyData)
open DL
open L2 (atI ixN kitB)
local macro_rules | `(tactic| walk_at "bd") => `(tactic| (apply bd_mono; (focus (repeat' (first | assumption | apply bd_sub | apply bd_add | apply bd_mul | apply bd_neg | apply bd_ediv | (apply bd_emod <;> first | assumption | decide | omega | exact bd_lit (n := 200) (by decide)) | exact bd_lit (n := 200) (by decide)))); decide))
local macro_rules | `(tactic| walk_at "dis") => `(tactic| first | assumption | omega | decide | walk_at "bd")
local macro_rules | `(tactic| walk_at "dl") => `(tactic| simp (disch := walk_at "dis") only [runD, DL.runN, sto0, dSeq, dSet, dSetO, dRet, dRetN, dNext, dIf, dDrop, vS, vO, cS, cO, fVar, f2, f1, fC, fTst, asBool, fCallF, fCallFN, fCall, fCallN, fCons, fNil, fAnd, fOr, fNot, fB, fTup, fL,
  List.map_cons, List.map_nil, List.length_cons, List.length_nil, List.replicate_succ, List.replicate_zero, List.cons_append, List.nil_append, List.getElem?_cons_zero, List.getElem?_cons_succ, Option.join_some, bind_some', Option.map_some,
  List.set_cons_zero, List.set_cons_succ, gI0_ii, gMul_ii, gDiv_pos, gMod_pos, gPow10, e_cell, e_whole, gAbs_int, Bool.not_true, Bool.not_false, Int.reduceToNat, gIx_list, gIx_tup, gIx_scr, gLen_scr, pair0, pair1, gEq_int, gNe_int, Nat.reduceSub, Nat.reduceAdd, Nat.reduceEqDiff, Nat.reduceLeDiff, if_true, if_false, ite_true, ite_false, Bool.true_eq_false, Bool.false_eq_true, reduceIte])
/-! rows to put a reckoning together -/
theorem f2_of {g : G2} {fa fb : DF} {ρ : DL.Env} {x y r : PyData} (h1 : fa ρ = some x) (h2 : fb ρ = some y) (h3 : g x y = some r) : f2 g fa fb ρ = some r := by
  unfold f2; rw [h1, bind_some', h2, bind_some', h3]
theorem fTst_of {f : DF} {ρ : DL.Env} {b : Bool} (h : f ρ = some (.bool b)) : fTst f ρ = some b := by unfold fTst; rw [h]; rfl
theorem fOr_of {f g : DL.Env → Option Bool} {ρ : DL.Env} {a b : Bool} (h1 : f ρ = some a) (h2 : g ρ = some b) : fOr f g ρ = some (a || b) := by
  unfold fOr; rw [h1, bind_some', h2]; cases a <;> rfl
theorem fAnd_all {f g : DL.Env → Option Bool} {ρ : DL.Env} {a b : Bool} (h1 : f ρ = some a) (h2 : g ρ = some b) : fAnd f g ρ = some (a && b) := by
  unfold fAnd; rw [h1, bind_some', h2]; cases a <;> rfl
theorem fNot_of {f : DL.Env → Option Bool} {ρ : DL.Env} {a : Bool} (h1 : f ρ = some a) : fNot f ρ = some (!a) := by unfold fNot; rw [h1]; rfl
theorem fB_of {f : DL.Env → Option Bool} {ρ : DL.Env} {a : Bool} (h1 : f ρ = some a) : fB f ρ = some (.bool a) := by unfold fB; rw [h1]; rfl
theorem fCons_of {fa : DF} {fs : DL.Env → Option (List PyData)} {ρ : DL.Env} {x : PyData} {xs : List PyData} (h1 : fa ρ = some x) (h2 : fs ρ = some xs) : fCons fa fs ρ = some (x :: xs) := by
  unfold fCons; rw [h1, bind_some', h2]; rfl
theorem fCallF_of {m : Nat} {g : List PyData → Option PyData} {fs : DL.Env → Option (List PyData)} {ρ : DL.Env} {xs : List PyData} {r : PyData} (h1 : fs ρ = some xs) (hm : xs.length = m) (h2 : g xs = some r) : fCallF m g fs ρ = some r := by
  unfold fCallF; rw [h1]
  show (if xs.length = m then g xs else none) = _
  rw [if_pos hm, h2]
theorem fCall_of {g : List PyData → Option PyData} {fs : DL.Env → Option (List PyData)} {ρ : DL.Env} {xs : List PyData} {r : PyData} (h1 : fs ρ = some xs) (h2 : g xs = some r) : fCall g fs ρ = some r := by
  unfold fCall; rw [h1]; exact h2
theorem dSet_of {i : Nat} {f : DF} {ρ : Sto} {d : PyData} (h : f (vS ρ) = some d) : dSet i f ρ = .next (ρ.set i (some (.sh d))) := by unfold dSet; rw [h]
theorem dIR1_of {fa : DF} {ρ : DL.Env} {n : Nat} (h : fa ρ = some (.int (n : Int))) (hn : n < 100000) : fIR rng1 (fCons fa fNil) ρ = some (rngD 0 n) := by
  unfold fIR; rw [fCons_of h (show fNil ρ = some [] from rfl), bind_some', rng1_ok (by omega) (by omega), Int.toNat_natCast]
theorem dIR2_of {fa fb : DF} {ρ : DL.Env} {i j : Int} (h1 : fa ρ = some (.int i)) (h2 : fb ρ = some (.int j)) (hi : -1000000 ≤ i ∧ i < 1000000) (hj : -1000000 ≤ j ∧ j < 1000000) : fIR rng2 (fCons fa (fCons fb fNil)) ρ = some (rngD i (j - i).toNat) := by
  unfold fIR; rw [fCons_of h1 (fCons_of h2 (show fNil ρ = some [] from rfl)), bind_some', rng2_ok hi hj]
def foldB (a m b : Pt) : Bool := decide (cr a m b = 0 ∧ 0 < dt a m b)
/-- what is_fence looks at, corner by corner -/
def badK (l : List Pt) (k : Nat) : Bool := decide (ptI l (k : Nat) ∈ l.take k) || foldB (ptI l ((k : Nat) - 2)) (ptI l ((k : Nat) - 1)) (ptI l (k : Nat))
/-- and side by side -/
def badKJ (l : List Pt) (k j : Nat) : Bool := decide (((j : Int) + 1) % l.length ≠ k) && meetB (ptI l (k : Nat)) (ptI l (((k : Nat) + 1 : Int) % l.length)) (ptI l (j : Nat)) (ptI l (((j : Nat) + 1 : Int) % l.length))
def isFB (l : List Pt) : Bool := decide (3 ≤ l.length ∧ l.length ≤ 12) && (!(List.range' 0 l.length).any (badK l) && !(List.range' 0 l.length).any fun k => (List.range' 0 (l.length - (k + 2))).any fun i => badKJ l k (k + 2 + i))
theorem cut_take {l : List PyData} {k : Nat} (h : k ≤ l.length) : cutG l none (some (k : Int)) = l.take k := by
  unfold cutG
  have e1 : HT.sIx l.length 0 none = 0 := rfl
  have e2 : HT.sIx l.length l.length (some (k : Int)) = k := by
    show (if (k : Int) < 0 then ((k : Int) + (l.length : Int)).toNat else min (k : Int).toNat l.length) = k
    rw [if_neg (by omega)]; omega
  rw [e1, e2]; simp
theorem cut_drop {l : List PyData} {k : Nat} (h : k ≤ l.length) : cutG l (some (k : Int)) none = l.drop k := by
  unfold cutG
  have e1 : HT.sIx l.length l.length none = l.length := rfl
  have e2 : HT.sIx l.length 0 (some (k : Int)) = k := by
    show (if (k : Int) < 0 then ((k : Int) + (l.length : Int)).toNat else min (k : Int).toNat l.length) = k
    rw [if_neg (by omega)]; omega
  rw [e1, e2]
  apply List.take_of_length_le
  simp
theorem sl_take {l : List Pt} {k : Nat} (h : k ≤ l.length) {ρ : DL.Env} {fe : DF} {fi : DF} (h1 : fe ρ = some (psD l)) (h2 : fi ρ = some (.int (k : Int))) : fL (fSl fe fPn (fPs fi)) ρ = some (psD (l.take k)) := by
  refine fL_of (ds := (l.take k).map pD) ?_
  unfold fSl fPs fPn
  rw [h1, h2, bind_some', bind_some']
  show some (cutG (l.map pD) none (some (k : Int))) = _
  rw [cut_take (by rw [List.length_map]; exact h), List.map_take]
theorem sl_drop {l : List Pt} {k : Nat} (h : k ≤ l.length) {ρ : DL.Env} {fe : DF} {fi : DF} (h1 : fe ρ = some (psD l)) (h2 : fi ρ = some (.int (k : Int))) : fL (fSl fe (fPs fi) fPn) ρ = some (psD (l.drop k)) := by
  refine fL_of (ds := (l.drop k).map pD) ?_
  unfold fSl fPs fPn
  rw [h1, h2, bind_some', bind_some']
  show some (cutG (l.map pD) (some (k : Int)) none) = _
  rw [cut_drop (by rw [List.length_map]; exact h), List.map_drop]
theorem test1 {n : Nat} (hn : n ≤ 4000) {l : List Pt} (hb : ∀ p ∈ l, PB n p) (h3 : 3 ≤ l.length) {k : Nat} (hk : k < l.length) {c3 c4 : Option PyData} :
    (fOr (fTst (f2 gIn (f2 gIx (fVar 0) (fVar 2)) (fL (fSl (fVar 0) fPn (fPs (fVar 2)))))) (fTst (fCallF 3 g_folds_back (fCons (f2 gIx (fVar 0) (f2 gSub (fVar 2) (fC (.int 2)))) (fCons (f2 gIx (fVar 0) (f2 gSub (fVar 2) (fC (.int 1)))) (fCons (f2 gIx (fVar 0) (fVar 2)) fNil)))))) [some (psD l), some (.int l.length), some (.int (k : Int)), c3, c4] = some (badK l k) := by
  have x1 := gIx_ok (l := l) (i := (k : Int)) (by omega) (by omega)
  have x2 := gIx_ok (l := l) (i := (k : Int) - 1) (by omega) (by omega)
  have x3 := gIx_ok (l := l) (i := (k : Int) - 2) (by omega) (by omega)
  have m1 := hb _ (ptI_mem (l := l) (i := (k : Int)) (by omega) (by omega))
  have m2 := hb _ (ptI_mem (l := l) (i := (k : Int) - 1) (by omega) (by omega))
  have m3 := hb _ (ptI_mem (l := l) (i := (k : Int) - 2) (by omega) (by omega))
  have s := sl_take (l := l) (k := k) (by omega) (ρ := [some (psD l), some (.int l.length), some (.int (k : Int)), c3, c4]) (fe := fVar 0) (fi := fVar 2) rfl rfl
  have e1 : fTst (f2 gIn (f2 gIx (fVar 0) (fVar 2)) (fL (fSl (fVar 0) fPn (fPs (fVar 2))))) [some (psD l), some (.int l.length), some (.int (k : Int)), c3, c4] = some (decide (ptI l (k : Nat) ∈ l.take k)) := by
    exact fTst_of (f2_of (f2_of rfl rfl x1) s (gIn_psD _ _))
  have e2 : fTst (fCallF 3 g_folds_back (fCons (f2 gIx (fVar 0) (f2 gSub (fVar 2) (fC (.int 2)))) (fCons (f2 gIx (fVar 0) (f2 gSub (fVar 2) (fC (.int 1)))) (fCons (f2 gIx (fVar 0) (fVar 2)) fNil)))) [some (psD l), some (.int l.length), some (.int (k : Int)), c3, c4] = some (foldB (ptI l ((k : Nat) - 2)) (ptI l ((k : Nat) - 1)) (ptI l (k : Nat))) := by
    exact fTst_of (fCallF_of (fCons_of (f2_of rfl (f2_of rfl rfl rfl) x3) (fCons_of (f2_of rfl (f2_of rfl rfl rfl) x2) (fCons_of (f2_of rfl rfl x1) rfl))) rfl (e_folds hn m3 m2 m1))
  exact fOr_of e1 e2
theorem gIx_sd {l : List Pt} {k : Nat} (hk : k < l.length) : gIx (.list ((sdsL l).map sD)) (.int (k : Int)) = some (sD (ptI l (k : Nat), ptI l (((k : Nat) + 1 : Int) % l.length))) := by
  show atI _ (k : Int) = _
  rw [atI_ge (by omega), Int.toNat_natCast, List.getElem?_map, sds_num, List.getElem?_map, List.getElem?_range' hk]
  simp
theorem test2 {n : Nat} (hn : n ≤ 4000) {l : List Pt} (hb : ∀ p ∈ l, PB n p) {k j : Nat} (hk : k < l.length) (hj : j < l.length) (hl : l.length ≤ 12) :
    (fAnd (fTst (f2 gNe (f2 gMod (f2 gAdd (fVar 4) (fC (.int 1))) (fVar 1)) (fVar 2))) (fTst (fCallF 4 g_meet (fCons (f2 gIx (f2 gIx (fVar 3) (fVar 2)) (fC (.int 0))) (fCons (f2 gIx (f2 gIx (fVar 3) (fVar 2)) (fC (.int 1))) (fCons (f2 gIx (f2 gIx (fVar 3) (fVar 4)) (fC (.int 0))) (fCons (f2 gIx (f2 gIx (fVar 3) (fVar 4)) (fC (.int 1))) fNil)))))))
      [some (psD l), some (.int l.length), some (.int (k : Int)), some (.list ((sdsL l).map sD)), some (.int (j : Int))] = some (badKJ l k j) := by
  have x1 := gIx_sd hk
  have x2 := gIx_sd hj
  have n0 := Int.emod_nonneg ((k : Int) + 1) (show (l.length : Int) ≠ 0 by omega)
  have n1 := Int.emod_lt_of_pos ((k : Int) + 1) (show (0 : Int) < (l.length : Int) by omega)
  have n2 := Int.emod_nonneg ((j : Int) + 1) (show (l.length : Int) ≠ 0 by omega)
  have n3 := Int.emod_lt_of_pos ((j : Int) + 1) (show (0 : Int) < (l.length : Int) by omega)
  have m1 := hb _ (ptI_mem (l := l) (i := (k : Int)) (by omega) (by omega))
  have m2 := hb _ (ptI_mem (l := l) (i := ((k : Int) + 1) % l.length) (by omega) (by omega))
  have m3 := hb _ (ptI_mem (l := l) (i := (j : Int)) (by omega) (by omega))
  have m4 := hb _ (ptI_mem (l := l) (i := ((j : Int) + 1) % l.length) (by omega) (by omega))
  have g1 : gMod (.int ((j : Int) + 1)) (.int l.length) = _ := gMod_pos (by omega)
  have e1 : fTst (f2 gNe (f2 gMod (f2 gAdd (fVar 4) (fC (.int 1))) (fVar 1)) (fVar 2)) [some (psD l), some (.int l.length), some (.int (k : Int)), some (.list ((sdsL l).map sD)), some (.int (j : Int))] = some (decide (((j : Int) + 1) % l.length ≠ k)) := by
    refine fTst_of ((f2_of (f2_of (f2_of rfl rfl rfl) rfl g1) rfl gNe_int).trans ?_)
    congr 2
    simp
  have e2 : fTst (fCallF 4 g_meet (fCons (f2 gIx (f2 gIx (fVar 3) (fVar 2)) (fC (.int 0))) (fCons (f2 gIx (f2 gIx (fVar 3) (fVar 2)) (fC (.int 1))) (fCons (f2 gIx (f2 gIx (fVar 3) (fVar 4)) (fC (.int 0))) (fCons (f2 gIx (f2 gIx (fVar 3) (fVar 4)) (fC (.int 1))) fNil)))))
      [some (psD l), some (.int l.length), some (.int (k : Int)), some (.list ((sdsL l).map sD)), some (.int (j : Int))] = some (meetB (ptI l (k : Nat)) (ptI l (((k : Nat) + 1 : Int) % l.length)) (ptI l (j : Nat)) (ptI l (((j : Nat) + 1 : Int) % l.length))) := by
    exact fTst_of (fCallF_of (fCons_of (f2_of (f2_of rfl rfl x1) rfl rfl) (fCons_of (f2_of (f2_of rfl rfl x1) rfl rfl) (fCons_of (f2_of (f2_of rfl rfl x2) rfl rfl) (fCons_of (f2_of (f2_of rfl rfl x2) rfl rfl) rfl)))) rfl (e_meet hn m1 m2 m3 m4))
  exact fAnd_all e1 e2
theorem e_is_fence {n : Nat} (hn : n ≤ 4000) {l : List Pt} (hb : ∀ p ∈ l, PB n p) (hl : l.length < 100000) : g_is_fence [psD l] = some (.bool (isFB l)) := by
  unfold g_is_fence fb_is_fence
  refine runD_ret ?_
  have s0 : sto0 5 [psD l] = [some (.sh (psD l)), none, none, none, none] := rfl
  rw [s0]
  refine dSeq_step (dSet_of (fCall_of (fCons_of rfl rfl) (gLen_psD l))) ?_
  show dSeq _ _ [some (.sh (psD l)), some (.sh (.int l.length)), none, none, none] = _
  have t0 : fNot (fChain gLe gLe (fC (.int 3)) (fVar 1) (fC (.int 12))) (vO [some (.sh (psD l)), some (.sh (.int l.length)), none, none, none]) = some (!decide (3 ≤ l.length ∧ l.length ≤ 12)) := by
    refine fNot_of ?_
    show (Option.bind (some (.bool (decide ((3 : Int) ≤ l.length)))) fun z => (asBool z).bind fun k => if k = true then (Option.bind (some (.int 12)) fun w => (gLe (.int l.length) w).bind asBool) else some false) = _
    show (if decide ((3 : Int) ≤ l.length) = true then some (decide ((l.length : Int) ≤ 12)) else some false) = _
    by_cases h1 : 3 ≤ l.length
    · rw [if_pos (decide_eq_true (by omega))]
      exact congrArg some (decide_eq_decide.mpr (by omega))
    · rw [if_neg (by rw [decide_eq_true_eq]; omega), decide_eq_false (fun z => h1 z.1)]
  unfold isFB
  by_cases hc : 3 ≤ l.length ∧ l.length ≤ 12
  case neg =>
    rw [decide_eq_false hc, Bool.false_and]
    exact dSeq_ret ((dIf_t (by rw [t0, decide_eq_false hc]; rfl)).trans rfl)
  rw [decide_eq_true hc, Bool.true_and]
  refine dSeq_step ((dIf_f (by rw [t0, decide_eq_true hc]; rfl)).trans rfl) ?_
  obtain ⟨h3, h12⟩ := hc
  -- corner by corner
  have L1 := forF_rng (F := dIf (fOr (fTst (f2 gIn (f2 gIx (fVar 0) (fVar 2)) (fL (fSl (fVar 0) fPn (fPs (fVar 2)))))) (fTst (fCallF 3 g_folds_back (fCons (f2 gIx (fVar 0) (f2 gSub (fVar 2) (fC (.int 2)))) (fCons (f2 gIx (fVar 0) (f2 gSub (fVar 2) (fC (.int 1)))) (fCons (f2 gIx (fVar 0) (fVar 2)) fNil)))))) (dRet (fC (.bool false))) dNext)
    (j := 2) (lo := 0) (r := .bool false) (Inv := fun ρ => ∃ c, ρ = [some (.sh (psD l)), some (.sh (.int l.length)), c, none, none]) (badK l) l.length 0 (by
      rintro i h1 h2 ρ ⟨c, rfl⟩
      refine ⟨[some (.sh (psD l)), some (.sh (.int l.length)), some (.sh (.int (i : Nat))), none, none], ⟨_, rfl⟩, ?_⟩
      show dIf _ _ _ [some (.sh (psD l)), some (.sh (.int l.length)), some (.sh (.int (0 + (i : Nat)))), none, none] = _
      rw [Int.zero_add]
      exact dIf_b (test1 hn hb h3 (by omega))) _ ⟨none, rfl⟩
  obtain ⟨ρ1, ⟨c2, rfl⟩, e1⟩ := L1
  rw [← rngD_eq] at e1
  have d1 : fIR rng1 (fCons (fVar 1) fNil) (vO [some (.sh (psD l)), some (.sh (.int l.length)), none, none, none]) = some (rngD 0 l.length) := dIR1_of rfl hl
  cases b1 : (List.range' 0 l.length).any (badK l) with
  | true =>
    rw [b1] at e1
    exact dSeq_ret ((dForO_of d1 (noLs_rng _ _)).trans e1)
  | false =>
    rw [b1] at e1
    refine dSeq_step ((dForO_of d1 (noLs_rng _ _)).trans e1) ?_
    refine dSeq_step (dSet_of (fCallF_of (fCons_of rfl rfl) rfl (e_sides hl))) ?_
    show dSeq _ _ [some (.sh (psD l)), some (.sh (.int l.length)), c2, some (.sh (.list ((sdsL l).map sD))), none] = _
    have L2 := forF_rng (F := dForO (fIR rng2 (fCons (f2 gAdd (fVar 2) (fC (.int 2))) (fCons (fVar 1) fNil))) (tgN 4) (dIf (fAnd (fTst (f2 gNe (f2 gMod (f2 gAdd (fVar 4) (fC (.int 1))) (fVar 1)) (fVar 2))) (fTst (fCallF 4 g_meet (fCons (f2 gIx (f2 gIx (fVar 3) (fVar 2)) (fC (.int 0))) (fCons (f2 gIx (f2 gIx (fVar 3) (fVar 2)) (fC (.int 1))) (fCons (f2 gIx (f2 gIx (fVar 3) (fVar 4)) (fC (.int 0))) (fCons (f2 gIx (f2 gIx (fVar 3) (fVar 4)) (fC (.int 1))) fNil))))))) (dRet (fC (.bool false))) dNext))
      (j := 2) (lo := 0) (r := .bool false) (Inv := fun ρ => ∃ c d, ρ = [some (.sh (psD l)), some (.sh (.int l.length)), c, some (.sh (.list ((sdsL l).map sD))), d]) (fun k => (List.range' 0 (l.length - (k + 2))).any fun i => badKJ l k (k + 2 + i)) l.length 0 (by
        rintro k h1 h2 ρ ⟨c, d, rfl⟩
        show ∃ ρ', _ ∧ dForO _ _ _ [some (.sh (psD l)), some (.sh (.int l.length)), some (.sh (.int (0 + (k : Nat)))), some (.sh (.list ((sdsL l).map sD))), d] = _
        rw [Int.zero_add]
        have d2 : fIR rng2 (fCons (f2 gAdd (fVar 2) (fC (.int 2))) (fCons (fVar 1) fNil)) (vO [some (.sh (psD l)), some (.sh (.int l.length)), some (.sh (.int (k : Nat))), some (.sh (.list ((sdsL l).map sD))), d]) = some (rngD ((k : Int) + 2) ((l.length : Int) - ((k : Int) + 2)).toNat) := dIR2_of (f2_of rfl rfl rfl) rfl (by omega) (by omega)
        have L3 := forF_rng (F := dIf (fAnd (fTst (f2 gNe (f2 gMod (f2 gAdd (fVar 4) (fC (.int 1))) (fVar 1)) (fVar 2))) (fTst (fCallF 4 g_meet (fCons (f2 gIx (f2 gIx (fVar 3) (fVar 2)) (fC (.int 0))) (fCons (f2 gIx (f2 gIx (fVar 3) (fVar 2)) (fC (.int 1))) (fCons (f2 gIx (f2 gIx (fVar 3) (fVar 4)) (fC (.int 0))) (fCons (f2 gIx (f2 gIx (fVar 3) (fVar 4)) (fC (.int 1))) fNil))))))) (dRet (fC (.bool false))) dNext)
          (j := 4) (lo := (k : Int) + 2) (r := .bool false) (Inv := fun ρ => ∃ d, ρ = [some (.sh (psD l)), some (.sh (.int l.length)), some (.sh (.int (k : Nat))), some (.sh (.list ((sdsL l).map sD))), d]) (fun i => badKJ l k (k + 2 + i)) (l.length - (k + 2)) 0 (by
            rintro i g1 g2 ρ ⟨d, rfl⟩
            refine ⟨[some (.sh (psD l)), some (.sh (.int l.length)), some (.sh (.int (k : Nat))), some (.sh (.list ((sdsL l).map sD))), some (.sh (.int ((k + 2 + i : Nat) : Int)))], ⟨_, rfl⟩, ?_⟩
            have ei : (k : Int) + 2 + (i : Nat) = ((k + 2 + i : Nat) : Int) := by omega
            show dIf _ _ _ [some (.sh (psD l)), some (.sh (.int l.length)), some (.sh (.int (k : Nat))), some (.sh (.list ((sdsL l).map sD))), some (.sh (.int ((k : Int) + 2 + (i : Nat))))] = _
            rw [ei]
            exact dIf_b (test2 hn hb (by omega) (by omega) h12)) _ ⟨d, rfl⟩
        obtain ⟨ρ3, ⟨d3, rfl⟩, e3⟩ := L3
        rw [← rngD_eq] at e3
        refine ⟨[some (.sh (psD l)), some (.sh (.int l.length)), some (.sh (.int (k : Nat))), some (.sh (.list ((sdsL l).map sD))), d3], ⟨some (.sh (.int (k : Nat))), d3, rfl⟩, ?_⟩
        have en : ((l.length : Int) - ((k : Int) + 2)).toNat = l.length - (k + 2) := by omega
        rw [en] at d2
        exact (dForO_of d2 (noLs_rng _ _)).trans e3) _ ⟨c2, none, rfl⟩
    obtain ⟨ρ2, ⟨c, d, rfl⟩, e2⟩ := L2
    rw [← rngD_eq] at e2
    have d2 : fIR rng1 (fCons (fVar 1) fNil) (vO [some (.sh (psD l)), some (.sh (.int l.length)), c2, some (.sh (.list ((sdsL l).map sD))), none]) = some (rngD 0 l.length) := dIR1_of rfl hl
    cases b2 : (List.range' 0 l.length).any (fun k => (List.range' 0 (l.length - (k + 2))).any fun i => badKJ l k (k + 2 + i)) with
    | true =>
      rw [b2] at e2
      exact dSeq_ret ((dForO_of d2 (noLs_rng _ _)).trans e2)
    | false =>
      rw [b2] at e2
      refine dSeq_step ((dForO_of d2 (noLs_rng _ _)).trans e2) ?_
      rfl
end LW
/-! part MIs -/
namespace LW
/-- a point on a side is a part of the one end and a part of the other -/
theorem on_parts {a b p : Pt} (h : onB a b p = true) : ∃ n k : Int, 0 < n ∧ 0 ≤ k ∧ k ≤ n ∧ n * (p.1 - a.1) = k * (b.1 - a.1) ∧ n * (p.2 - a.2) = k * (b.2 - a.2) := by
  unfold onB boxB at h
  rw [Bool.and_eq_true, decide_eq_true_eq, decide_eq_true_eq] at h
  obtain ⟨hc, h1, h2, h3, h4⟩ := h
  by_cases hab : a = b
  · subst hab
    refine ⟨1, 0, by decide, by decide, by decide, ?_, ?_⟩ <;> omega
  · have x1 := sq_nn (b.1 - a.1)
    have x2 := sq_nn (b.2 - a.2)
    have y1 : 0 ≤ (b.1 - a.1) * (p.1 - a.1) := by
      rcases Int.le_total a.1 b.1 with h | h
      · exact Int.mul_nonneg (by omega) (by omega)
      · exact Int.mul_nonneg_of_nonpos_of_nonpos (by omega) (by omega)
    have y2 : 0 ≤ (b.2 - a.2) * (p.2 - a.2) := by
      rcases Int.le_total a.2 b.2 with h | h
      · exact Int.mul_nonneg (by omega) (by omega)
      · exact Int.mul_nonneg_of_nonpos_of_nonpos (by omega) (by omega)
    have y3 : 0 ≤ (b.1 - a.1) * (b.1 - p.1) := by
      rcases Int.le_total a.1 b.1 with h | h
      · exact Int.mul_nonneg (by omega) (by omega)
      · exact Int.mul_nonneg_of_nonpos_of_nonpos (by omega) (by omega)
    have y4 : 0 ≤ (b.2 - a.2) * (b.2 - p.2) := by
      rcases Int.le_total a.2 b.2 with h | h
      · exact Int.mul_nonneg (by omega) (by omega)
      · exact Int.mul_nonneg_of_nonpos_of_nonpos (by omega) (by omega)
    have e : (b.1 - a.1) * (b.1 - a.1) + (b.2 - a.2) * (b.2 - a.2) = ((b.1 - a.1) * (p.1 - a.1) + (b.2 - a.2) * (p.2 - a.2)) + ((b.1 - a.1) * (b.1 - p.1) + (b.2 - a.2) * (b.2 - p.2)) := by grind
    refine ⟨(b.1 - a.1) * (b.1 - a.1) + (b.2 - a.2) * (b.2 - a.2), (b.1 - a.1) * (p.1 - a.1) + (b.2 - a.2) * (p.2 - a.2), ?_, by omega, by omega, ?_, ?_⟩
    · rcases Int.lt_or_eq_of_le (show 0 ≤ (b.1 - a.1) * (b.1 - a.1) + (b.2 - a.2) * (b.2 - a.2) by omega) with h | h
      · exact h
      · have z1 : (b.1 - a.1) * (b.1 - a.1) = 0 := by omega
        have z2 : (b.2 - a.2) * (b.2 - a.2) = 0 := by omega
        have z3 : b.1 - a.1 = 0 := by rcases Int.mul_eq_zero.mp z1 with h | h <;> exact h
        have z4 : b.2 - a.2 = 0 := by rcases Int.mul_eq_zero.mp z2 with h | h <;> exact h
        exact absurd (Prod.ext (by omega) (by omega)) hab
    · simp only [cr] at hc; grind
    · simp only [cr] at hc; grind
theorem on_sub {a b t : Pt} (h : onB a b t = true) {p q r : Int} (h1 : p * a.1 + q * a.2 + r ≤ 0) (h2 : p * b.1 + q * b.2 + r ≤ 0) : p * t.1 + q * t.2 + r ≤ 0 := by
  obtain ⟨n, k, n0, k0, kn, e1, e2⟩ := on_parts h
  have e : n * (p * t.1 + q * t.2 + r) = (n - k) * (p * a.1 + q * a.2 + r) + k * (p * b.1 + q * b.2 + r) := by grind
  have x1 : (n - k) * (p * a.1 + q * a.2 + r) ≤ 0 := Int.mul_nonpos_of_nonneg_of_nonpos (by omega) h1
  have x2 : k * (p * b.1 + q * b.2 + r) ≤ 0 := Int.mul_nonpos_of_nonneg_of_nonpos (by omega) h2
  rcases Int.lt_or_le 0 (p * t.1 + q * t.2 + r) with h | h
  · have := Int.mul_pos n0 h; omega
  · exact h
theorem on_sup {a b t : Pt} (h : onB a b t = true) {p q r : Int} (h1 : 0 < p * a.1 + q * a.2 + r) (h2 : 0 < p * b.1 + q * b.2 + r) : 0 < p * t.1 + q * t.2 + r := by
  obtain ⟨n, k, n0, k0, kn, e1, e2⟩ := on_parts h
  have e : n * (p * t.1 + q * t.2 + r) = (n - k) * (p * a.1 + q * a.2 + r) + k * (p * b.1 + q * b.2 + r) := by grind
  have x1 : 0 ≤ (n - k) * (p * a.1 + q * a.2 + r) := Int.mul_nonneg (by omega) (by omega)
  have x2 : 0 ≤ k * (p * b.1 + q * b.2 + r) := Int.mul_nonneg k0 (by omega)
  rcases Int.lt_or_le 0 (p * t.1 + q * t.2 + r) with h | h
  · exact h
  · have := Int.mul_nonpos_of_nonneg_of_nonpos (show 0 ≤ n by omega) h
    by_cases hk : k = 0
    · rw [hk, Int.sub_zero, Int.zero_mul, Int.add_zero] at e
      have := Int.mul_pos n0 h1; omega
    · have := Int.mul_pos (show 0 < k by omega) h2; omega
theorem sgn_neg {x y : Int} (h : sgn x * sgn y < 0) : (0 < x ∧ y < 0) ∨ (x < 0 ∧ 0 < y) := by
  unfold sgn at h
  by_cases a : 0 < x <;> by_cases b : 0 < y
  · rw [if_pos a, if_pos b] at h; omega
  · rw [if_pos a, if_neg b] at h
    by_cases c : y < 0
    · exact .inl ⟨a, c⟩
    · rw [if_neg c] at h; omega
  · rw [if_neg a, if_pos b] at h
    by_cases c : x < 0
    · exact .inr ⟨c, b⟩
    · rw [if_neg c] at h; omega
  · rw [if_neg a, if_neg b] at h
    by_cases c : x < 0 <;> by_cases d : y < 0
    · rw [if_pos c, if_pos d] at h; omega
    · rw [if_neg d] at h; omega
    · rw [if_neg c] at h; omega
    · rw [if_neg c] at h; omega
theorem line_meet {a b c d : Pt} (h : Line (a, b) (c, d)) : meetB a b c d = false := by
  obtain ⟨p, q, r, h1, h2, h3, h4⟩ := h
  simp only at h1 h2 h3 h4
  have o1 : onB a b c = false := by cases e : onB a b c; rfl; have := on_sub e h1 h2; omega
  have o2 : onB a b d = false := by cases e : onB a b d; rfl; have := on_sub e h1 h2; omega
  have o3 : onB c d a = false := by cases e : onB c d a; rfl; have := on_sup e h3 h4; omega
  have o4 : onB c d b = false := by cases e : onB c d b; rfl; have := on_sup e h3 h4; omega
  unfold meetB
  rw [o1, o2, o3, o4]
  simp only [Bool.false_or, Bool.and_eq_false_iff, decide_eq_false_iff_not]
  refine Classical.byContradiction fun z => ?_
  have z1 : sgn (cr a b c) * sgn (cr a b d) < 0 := Classical.byContradiction fun y => z (.inl y)
  have z2 : sgn (cr c d a) * sgn (cr c d b) < 0 := Classical.byContradiction fun y => z (.inr y)
  have e : cr c d a * (p * b.1 + q * b.2 + r) - cr c d b * (p * a.1 + q * a.2 + r) + cr a b c * (p * d.1 + q * d.2 + r) - cr a b d * (p * c.1 + q * c.2 + r) = 0 := by
    simp only [cr]; grind
  have e2 : cr c d a - cr c d b + (cr a b c - cr a b d) = 0 := by simp only [cr]; grind
  rcases sgn_neg z2 with ⟨y1, y2⟩ | ⟨y1, y2⟩
  · rcases sgn_neg z1 with ⟨w1, w2⟩ | ⟨w1, w2⟩
    · omega
    · have v1 := Int.mul_nonpos_of_nonneg_of_nonpos (show 0 ≤ cr c d a by omega) h2
      have v2 : cr c d b * (p * a.1 + q * a.2 + r) ≥ 0 := Int.mul_nonneg_of_nonpos_of_nonpos (by omega) h1
      have v3 := Int.mul_neg_of_neg_of_pos w1 h4
      have v4 := Int.mul_pos w2 h3
      omega
  · rcases sgn_neg z1 with ⟨w1, w2⟩ | ⟨w1, w2⟩
    · have v1 : cr c d a * (p * b.1 + q * b.2 + r) ≥ 0 := Int.mul_nonneg_of_nonpos_of_nonpos (by omega) h2
      have v2 := Int.mul_nonpos_of_nonneg_of_nonpos (show 0 ≤ cr c d b by omega) h1
      have v3 := Int.mul_pos w1 h4
      have v4 := Int.mul_neg_of_neg_of_pos w2 h3
      omega
    · omega
theorem meet_comm (a b c d : Pt) : meetB a b c d = meetB c d a b := by
  unfold meetB
  cases onB a b c <;> cases onB a b d <;> cases onB c d a <;> cases onB c d b <;> simp [Bool.and_comm]
theorem apart_meet {a b c d : Pt} (h : Apart (a, b) (c, d)) : meetB a b c d = false := by
  rcases h with h | h
  · exact line_meet h
  · rw [meet_comm]; exact line_meet h
/-- the k-th side -/
def sdN (l : List Pt) (k : Nat) : Sd := (ptI l (k : Nat), ptI l (((k : Nat) + 1 : Int) % l.length))
theorem sds_at {l : List Pt} {k : Nat} (h : k < l.length) : (sdsL l)[k]? = some (sdN l k) := by
  rw [sds_num, List.getElem?_map, List.getElem?_range' h]
  simp [sdN]
theorem Good.at {l : List Pt} (g : Good l) {i j : Nat} (hi : i < l.length) (hj : j < l.length) (h : i ≠ j) : Rel (sdN l i) (sdN l j) := by
  have key : ∀ i j : Nat, i < l.length → j < l.length → i < j → Rel (sdN l i) (sdN l j) := fun i j hi hj h => by
    have hi' : i < (sdsL l).length := by rw [sds_len]; exact hi
    have hj' : j < (sdsL l).length := by rw [sds_len]; exact hj
    have := List.pairwise_iff_getElem.mp g.rel i j hi' hj' h
    have e1 := sds_at hi
    have e2 := sds_at hj
    rw [List.getElem?_eq_getElem hi'] at e1
    rw [List.getElem?_eq_getElem hj'] at e2
    rw [Option.some.inj e1, Option.some.inj e2] at this
    exact this
  rcases Nat.lt_or_gt_of_ne h with h | h
  · exact key i j hi hj h
  · exact (key j i hj hi h).symm
theorem nodup_at {l : List Pt} (h : l.Nodup) {i j : Nat} (hi : i < l.length) (hj : j < l.length) (e : ptI l (i : Nat) = ptI l (j : Nat)) : i = j := by
  rw [ptI_nat hi, ptI_nat hj] at e
  exact (List.getElem_inj h).mp e
theorem ptI_wrap {l : List Pt} {i : Int} (h0 : -(l.length : Int) ≤ i) (h1 : i < 0) : ptI l i = ptI l ((i + l.length).toNat : Nat) := by
  unfold ptI
  rw [atI_neg h1 h0, atI_ge (by omega)]
  congr 2
theorem Good.is {l : List Pt} (g : Good l) : isFB l = true := by
  have h3 := g.lo
  have h12 := g.hi
  unfold isFB
  rw [decide_eq_true ⟨h3, h12⟩, Bool.true_and, Bool.and_eq_true]
  refine ⟨?_, ?_⟩
  · rw [Bool.not_eq_true', List.any_eq_false]
    intro k hk
    rw [List.mem_range'_1] at hk
    have hk : k < l.length := by omega
    unfold badK
    rw [Bool.not_eq_true, Bool.or_eq_false_iff]
    refine ⟨?_, ?_⟩
    · refine decide_eq_false fun hm => ?_
      obtain ⟨i, hi, e⟩ := List.mem_iff_getElem.mp hm
      rw [List.length_take] at hi
      rw [List.getElem_take] at e
      have : i = k := nodup_at g.nd (by omega) hk (by rw [← e, ptI_nat])
      omega
    · unfold foldB
      refine decide_eq_false ?_
      -- the corners before
      obtain ⟨m, hm, em, hmk⟩ : ∃ m : Nat, m < l.length ∧ ptI l ((k : Nat) - 1) = ptI l (m : Nat) ∧ ((m : Int) + 1) % l.length = k := by
        by_cases c : k = 0
        · subst c
          refine ⟨l.length - 1, by omega, ?_, ?_⟩
          · rw [ptI_wrap (by omega) (by omega)]; congr 2; omega
          · rw [show ((l.length - 1 : Nat) : Int) + 1 = l.length by omega, Int.emod_self]; rfl
        · refine ⟨k - 1, by omega, ?_, ?_⟩
          · congr 1; omega
          · rw [show ((k - 1 : Nat) : Int) + 1 = k by omega]; exact Int.emod_eq_of_lt (by omega) (by omega)
      obtain ⟨a, ha, ea, ham, hne⟩ : ∃ a : Nat, a < l.length ∧ ptI l ((k : Nat) - 2) = ptI l (a : Nat) ∧ ((a : Int) + 1) % l.length = m ∧ a ≠ k := by
        by_cases c : k < 2
        · refine ⟨l.length + k - 2, by omega, ?_, ?_, by omega⟩
          · rw [ptI_wrap (by omega) (by omega)]; congr 2; omega
          · by_cases c0 : k = 0
            · subst c0
              have : m = l.length - 1 := by
                by_cases c2 : (m : Int) + 1 < l.length
                · rw [Int.emod_eq_of_lt (by omega) c2] at hmk; omega
                · omega
              rw [Int.emod_eq_of_lt (by omega) (by omega)]; omega
            · have hk1 : k = 1 := by omega
              subst hk1
              have : m = 0 := by
                by_cases c2 : (m : Int) + 1 < l.length
                · rw [Int.emod_eq_of_lt (by omega) c2] at hmk; omega
                · have : (m : Int) + 1 = l.length := by omega
                  rw [this, Int.emod_self] at hmk; omega
              subst this
              rw [show ((l.length + 1 - 2 : Nat) : Int) + 1 = l.length by omega, Int.emod_self]; rfl
        · refine ⟨k - 2, by omega, by congr 1; omega, ?_, by omega⟩
          have : m = k - 1 := by
            by_cases c2 : (m : Int) + 1 < l.length
            · rw [Int.emod_eq_of_lt (by omega) c2] at hmk; omega
            · have : (m : Int) + 1 = l.length := by omega
              rw [this, Int.emod_self] at hmk; omega
          rw [Int.emod_eq_of_lt (by omega) (by omega)]; omega
      rw [em, ea]
      have ham' : a ≠ m := by
        intro e; subst e
        by_cases c2 : (a : Int) + 1 < l.length
        · rw [Int.emod_eq_of_lt (by omega) c2] at ham; omega
        · have : (a : Int) + 1 = l.length := by omega
          rw [this, Int.emod_self] at ham; omega
      have hmk' : m ≠ k := by
        intro e; subst e
        by_cases c2 : (m : Int) + 1 < l.length
        · rw [Int.emod_eq_of_lt (by omega) c2] at hmk; omega
        · have : (m : Int) + 1 = l.length := by omega
          rw [this, Int.emod_self] at hmk; omega
      have R := g.at ha hm ham'
      unfold sdN at R
      rw [ham, hmk] at R
      rcases R with (⟨p, q, r, h1, h2, h3, h4⟩ | ⟨p, q, r, h1, h2, h3, h4⟩) | x | x | x | x
      · simp only at h2 h3; omega
      · simp only at h1 h4; omega
      · exact x.2
      · exact absurd (nodup_at g.nd ha hk x.1) hne
      · exact absurd (nodup_at g.nd ha hm x.1) ham'
      · exact absurd (nodup_at g.nd hm hk x.1) hmk'
  · rw [Bool.not_eq_true', List.any_eq_false]
    intro k hk
    rw [List.mem_range'_1] at hk
    rw [Bool.not_eq_true, List.any_eq_false]
    intro i hi
    rw [List.mem_range'_1] at hi
    have hj : k + 2 + i < l.length := by omega
    have hkl : k < l.length := by omega
    generalize hjj : k + 2 + i = j at hj
    unfold badKJ
    rw [Bool.not_eq_true]
    by_cases c : ((j : Int) + 1) % l.length ≠ k
    · rw [decide_eq_true c, Bool.true_and]
      have R := g.at hkl hj (show k ≠ j by omega)
      have k1 : (((k : Nat) + 1 : Int) % l.length) = ((k + 1 : Nat) : Int) := by rw [Int.emod_eq_of_lt (by omega) (by omega)]; omega
      obtain ⟨j1, hj1, ej1⟩ : ∃ j1 : Nat, j1 < l.length ∧ (((j : Nat) + 1 : Int) % l.length) = (j1 : Nat) := by
        have n0 := Int.emod_nonneg ((j : Int) + 1) (show (l.length : Int) ≠ 0 by omega)
        have n1 := Int.emod_lt_of_pos ((j : Int) + 1) (show (0 : Int) < (l.length : Int) by omega)
        exact ⟨(((j : Nat) + 1 : Int) % l.length).toNat, by omega, by omega⟩
      have hjv : j1 = j + 1 ∨ j1 = 0 := by
        by_cases c2 : (j : Int) + 1 < l.length
        · rw [Int.emod_eq_of_lt (by omega) c2] at ej1; omega
        · have : (j : Int) + 1 = l.length := by omega
          rw [this, Int.emod_self] at ej1; omega
      unfold sdN at R
      rw [k1, ej1] at R
      rw [k1, ej1]
      rw [ej1] at c
      rcases R with x | x | x | x | x
      · exact apart_meet x
      · have := nodup_at g.nd (show k + 1 < l.length by omega) hj x.1; omega
      · have := nodup_at g.nd hkl hj1 x.1; omega
      · have := nodup_at g.nd hkl hj x.1; omega
      · have := nodup_at g.nd (show k + 1 < l.length by omega) hj1 x.1; omega
    · rw [decide_eq_false c, Bool.false_and]
end LW
/-! part EF4 -/
namespace LW
open PySem (PyData)
open DL
open L2 (atI ixN kitB)
local macro_rules | `(tactic| walk_at "bd") => `(tactic| (apply bd_mono; (focus (repeat' (first | assumption | apply bd_sub | apply bd_add | apply bd_mul | apply bd_neg | apply bd_ediv | (apply bd_emod <;> first | assumption | decide | omega | exact bd_lit (n := 200) (by decide)) | exact bd_lit (n := 200) (by decide)))); decide))
local macro_rules | `(tactic| walk_at "dis") => `(tactic| first | assumption | omega | decide | walk_at "bd")
local macro_rules | `(tactic| walk_at "dl") => `(tactic| simp (disch := walk_at "dis") only [runD, DL.runN, sto0, dSeq, dSet, dSetO, dRet, dRetN, dNext, dIf, dDrop, vS, vO, cS, cO, fVar, f2, f1, fC, fTst, asBool, fCallF, fCallFN, fCall, fCallN, fCons, fNil, fAnd, fOr, fNot, fB, fTup, fL,
  List.map_cons, List.map_nil, List.length_cons, List.length_nil, List.replicate_succ, List.replicate_zero, List.cons_append, List.nil_append, List.getElem?_cons_zero, List.getElem?_cons_succ, Option.join_some, bind_some', Option.map_some,
  List.set_cons_zero, List.set_cons_succ, gI0_ii, gMul_ii, gDiv_pos, gMod_pos, gPow10, e_cell, e_whole, gAbs_int, Bool.not_true, Bool.not_false, Int.reduceToNat, gIx_list, gIx_tup, gIx_scr, gLen_scr, pair0, pair1, gEq_int, gNe_int, Nat.reduceSub, Nat.reduceAdd, Nat.reduceEqDiff, Nat.reduceLeDiff, if_true, if_false, ite_true, ite_false, Bool.true_eq_false, Bool.false_eq_true, reduceIte])
/-! ### the area -/
theorem dDrop_of {f : DF} {ρ : Sto} {d : PyData} (h : f (vO ρ) = some d) : dDrop f ρ = .next ρ := by unfold dDrop; rw [h]
theorem e_asked {n : Nat} (hn : n ≤ 4000) {l : List Pt} (hb : ∀ p ∈ l, PB n p) (hl : l.length < 100000) (h : isFB l = true) : g_asked [psD l] = some .none := by
  have e : fb_asked (sto0 1 [psD l]) = .next (sto0 1 [psD l]) := by
    unfold fb_asked
    exact (dIf_f (by have e := fNot_of (fTst_of (fCallF_of (m := 1) (g := g_is_fence) (fs := fCons (fVar 0) fNil) (ρ := vO (sto0 1 [psD l])) (fCons_of rfl rfl) rfl (e_is_fence hn hb hl))); rw [h] at e; exact e)).trans rfl
  unfold g_asked runD
  rw [e]
theorem lcD_of {α : Type} {tg : TgF} {ft : DL.Env → Option Bool} {fe : DF} {ρ : DL.Env} (enc h : α → PyData) : ∀ as : List α, (∀ a ∈ as, ∃ asg, tg (enc a) = some asg ∧ ft (setE ρ asg) = some true ∧ fe (setE ρ asg) = some (h a)) → lcD tg ft fe ρ (as.map enc) = some (as.map h)
  | [], _ => rfl
  | d :: ds, H => by
    obtain ⟨asg, h1, h2, h3⟩ := H d List.mem_cons_self
    rw [List.map_cons]
    unfold lcD
    rw [h1, bind_some', h2, bind_some', if_pos rfl, h3, bind_some', lcD_of enc h ds fun e he => H e (List.mem_cons_of_mem _ he)]
    rfl
theorem fIL_of {f : DF} {ρ : DL.Env} {ds : List PyData} (h : f ρ = some (.list ds)) : fIL f ρ = some ds := by unfold fIL; rw [h]; rfl
theorem sds_mem {l : List Pt} {s : Sd} (h : s ∈ sdsL l) : s.1 ∈ l ∧ s.2 ∈ l := by
  cases l with
  | nil => cases h
  | cons p x =>
    have := chain_mem2 (show s ∈ chain p (x ++ [p]) from h)
    refine ⟨?_, ?_⟩
    · rcases List.mem_cons.mp this.1 with h | h
      · rw [h]; exact List.mem_cons_self
      · rcases List.mem_append.mp h with h | h
        · exact List.mem_cons_of_mem _ h
        · rw [List.mem_singleton] at h; rw [h]; exact List.mem_cons_self
    · rcases List.mem_append.mp this.2 with h | h
      · exact List.mem_cons_of_mem _ h
      · rw [List.mem_singleton] at h; rw [h]; exact List.mem_cons_self
theorem e_turn_sum {n : Nat} (hn : n ≤ 4000) {l : List Pt} (hb : ∀ p ∈ l, PB n p) (hl : l.length < 100000) : g_turn_sum [psD l] = some (.int (A2 l)) := by
  unfold g_turn_sum fb_turn_sum
  refine runD_ret (dRet_of (fCall_of (fCons_of (fL_of (fLc_of (fIL_of (fCallF_of (fCons_of rfl rfl) rfl (e_sides hl))) ?_ (lcD_of sD (fun s => .int (wt s)) _ ?_))) rfl) ?_))
  · rw [List.length_map, sds_len]; exact Nat.le_of_lt (Nat.lt_trans hl (by decide))
  · intro s hs
    have hm := sds_mem hs
    have b1 := hb _ hm.1
    have b2 := hb _ hm.2
    refine ⟨[(1, pD s.1), (2, pD s.2)], rfl, rfl, ?_⟩
    have c11 := bd_mono b1.1 (show n ≤ 100000 by omega)
    have c12 := bd_mono b1.2 (show n ≤ 100000 by omega)
    have c21 := bd_mono b2.1 (show n ≤ 100000 by omega)
    have c22 := bd_mono b2.2 (show n ≤ 100000 by omega)
    exact f2_of (f2_of (f2_of rfl rfl rfl) (f2_of rfl rfl rfl) (gMul_ii c11 c22)) (f2_of (f2_of rfl rfl rfl) (f2_of rfl rfl rfl) (gMul_ii c12 c21)) rfl
  · have : (sdsL l).map (fun s => PyData.int (wt s)) = ((sdsL l).map wt).map .int := by rw [List.map_map]; rfl
    rw [this, gSum_ints]; rfl
theorem e_double_area {n : Nat} (hn : n ≤ 4000) {l : List Pt} (hb : ∀ p ∈ l, PB n p) (hl : l.length < 100000) (h : isFB l = true) : g_double_area [psD l] = some (.int (if A2 l < 0 then - A2 l else A2 l)) := by
  unfold g_double_area fb_double_area
  refine runD_ret (dSeq_step (dDrop_of (fCallF_of (fCons_of rfl rfl) rfl (e_asked hn hb hl h))) ?_)
  exact dRet_of (fCall_of (fCons_of (fCallF_of (fCons_of rfl rfl) rfl (e_turn_sum hn hb hl)) rfl) rfl)
/-! the law's own sum -/
theorem forF_inv {F : SFn} {j : Nat} {lo : Int} (Inv : Nat → Sto → Prop) : ∀ (n k : Nat), (∀ i, k ≤ i → i < k + n → ∀ ρ, Inv i ρ → ∃ ρ', F (ρ.set j (some (.sh (.int (lo + (i : Nat)))))) = .next ρ' ∧ Inv (i + 1) ρ') → ∀ ρ, Inv k ρ →
    ∃ ρ', forF (tgN j) F ((List.range' k n).map fun i => .int (lo + (i : Nat))) ρ = .next ρ' ∧ Inv (k + n) ρ'
  | 0, k, _, ρ, hi => ⟨ρ, rfl, hi⟩
  | n + 1, k, H, ρ, hi => by
    obtain ⟨ρ1, e1, i1⟩ := H k (Nat.le_refl _) (by omega) ρ hi
    rw [List.range'_succ, List.map_cons]
    have e3 : forF (tgN j) F (PyData.int (lo + (k : Nat)) :: List.map (fun i => PyData.int (lo + (i : Nat))) (List.range' (k + 1) n)) ρ = (match F (ρ.set j (some (.sh (.int (lo + (k : Nat)))))) with | .next ρ' => forF (tgN j) F (List.map (fun i => PyData.int (lo + (i : Nat))) (List.range' (k + 1) n)) ρ' | .ct ρ' => forF (tgN j) F (List.map (fun i => PyData.int (lo + (i : Nat))) (List.range' (k + 1) n)) ρ' | .brk ρ' => .next ρ' | r => r) := rfl
    rw [e3, e1]
    obtain ⟨ρ2, e2, i2⟩ := forF_inv Inv n (k + 1) (fun i h1 h2 => H i (by omega) (by omega)) ρ1 i1
    exact ⟨ρ2, e2, by rw [show k + (n + 1) = k + 1 + n by omega]; exact i2⟩
theorem sum_succ (f : Nat → Int) (k : Nat) : ((List.range' 0 (k + 1)).map f).sum = ((List.range' 0 k).map f).sum + f k := by
  rw [List.range'_1_concat, List.map_append, List.sum_append]; simp
/-- the sides counted from the one that ends at each corner -/
theorem sds_back {l : List Pt} (h0 : l ≠ []) : ((List.range' 0 l.length).map fun k => (ptI l ((k : Nat) - 1 : Int), ptI l (k : Nat))).Perm (sdsL l) := by
  obtain ⟨w, a, rfl⟩ : ∃ w a, l = w ++ [a] := ⟨l.dropLast, l.getLast h0, (List.dropLast_concat_getLast h0).symm⟩
  refine List.Perm.trans ?_ (sds_rot [a] w)
  rw [sds_num]
  have hlen : ([a] ++ w).length = (w ++ [a]).length := by simp
  rw [hlen]
  refine (List.Perm.of_eq (List.map_congr_left fun k hk => ?_))
  rw [List.mem_range'_1] at hk
  have hk2 : k < w.length + 1 := by have := hk.2; simp at this; omega
  refine Prod.ext ?_ ?_
  · show ptI (w ++ [a]) ((k : Nat) - 1 : Int) = ptI ([a] ++ w) (k : Nat)
    rw [ptI_nat (l := [a] ++ w) (by simp; omega)]
    by_cases c : k = 0
    · subst c
      rw [ptI_wrap (by simp; omega) (by omega)]
      have : ((((0 : Nat) : Int) - 1 + (w ++ [a]).length).toNat) = w.length := by simp; omega
      rw [this, ptI_nat (by simp)]; simp
    · rw [show ((k : Nat) - 1 : Int) = ((k - 1 : Nat) : Int) by omega, ptI_nat (by simp; omega)]
      rw [List.getElem_append_left (by omega)]
      simp only [List.singleton_append, List.getElem_cons]
      rw [dif_neg c]
  · show ptI (w ++ [a]) (k : Nat) = ptI ([a] ++ w) (((k : Nat) + 1 : Int) % (w ++ [a]).length)
    rw [ptI_nat (l := w ++ [a]) (by simp; omega)]
    by_cases c : k = w.length
    · have : (((k : Nat) + 1 : Int) % (w ++ [a]).length) = ((0 : Nat) : Int) := by
        rw [show ((w ++ [a]).length : Int) = (k : Int) + 1 by simp; omega, Int.emod_self]; rfl
      rw [this, ptI_nat (by simp)]
      subst c; simp
    · have : (((k : Nat) + 1 : Int) % (w ++ [a]).length) = ((k + 1 : Nat) : Int) := by
        rw [Int.emod_eq_of_lt (by omega) (by simp; omega)]; omega
      rw [this, ptI_nat (by simp; omega), List.getElem_append_left (by omega)]
      simp
theorem e_law_sum {n : Nat} (hn : n ≤ 4000) {l : List Pt} (hb : ∀ p ∈ l, PB n p) (hl : l.length < 100000) (h0 : l ≠ []) : g__law_sum [psD l] = some (.int (A2 l)) := by
  unfold g__law_sum fb__law_sum
  refine runD_ret (dSeq_step (dSet_of rfl) ?_)
  show dSeq _ _ [some (.sh (psD l)), some (.sh (.int 0)), none, none, none] = _
  obtain ⟨ρ', e1, c2, c3, c4, rfl⟩ := forF_inv (F := (dSeq (dSet 3 (f2 gIx (fVar 0) (f2 gSub (fVar 2) (fC (.int 1))))) (dSeq (dSet 4 (f2 gIx (fVar 0) (fVar 2))) (dSet 1 (f2 gAdd (fVar 1) (f2 gMul (f2 gSub (f2 gIx (fVar 3) (fC (.int 0))) (f2 gIx (fVar 4) (fC (.int 0)))) (f2 gAdd (f2 gIx (fVar 3) (fC (.int 1))) (f2 gIx (fVar 4) (fC (.int 1)))))))))) (j := 2) (lo := 0)
    (fun i ρ => ∃ c2 c3 c4, ρ = [some (.sh (psD l)), some (.sh (.int ((List.range' 0 i).map fun k => wl (ptI l ((k : Nat) - 1 : Int), ptI l (k : Nat))).sum)), c2, c3, c4]) l.length 0 (by
      rintro i h1 h2 ρ ⟨c2, c3, c4, rfl⟩
      have x1 := gIx_ok (l := l) (i := (i : Int)) (by omega) (by omega)
      have x2 := gIx_ok (l := l) (i := (i : Int) - 1) (by omega) (by omega)
      have m1 := hb _ (ptI_mem (l := l) (i := (i : Int)) (by omega) (by omega))
      have m2 := hb _ (ptI_mem (l := l) (i := (i : Int) - 1) (by omega) (by omega))
      have a1 := bd_mono m1.1 hn
      have a2 := bd_mono m1.2 hn
      have a3 := bd_mono m2.1 hn
      have a4 := bd_mono m2.2 hn
      rw [Int.zero_add]
      refine ⟨_, dSeq_step (dSet_of (f2_of rfl (f2_of rfl rfl rfl) x2)) (dSeq_step (dSet_of (f2_of rfl rfl x1)) (dSet_of (f2_of rfl (f2_of (f2_of (f2_of rfl rfl rfl) (f2_of rfl rfl rfl) rfl) (f2_of (f2_of rfl rfl rfl) (f2_of rfl rfl rfl) rfl) (gMul_ii (bd_mono (bd_sub a3 a1) (by decide)) (bd_mono (bd_add a4 a2) (by decide)))) rfl))), some (.sh (.int (i : Nat))), some (.sh (pD (ptI l ((i : Nat) - 1 : Int)))), some (.sh (pD (ptI l (i : Nat)))), ?_⟩
      rw [sum_succ]; rfl) [some (.sh (psD l)), some (.sh (.int 0)), none, none, none] ⟨none, none, none, rfl⟩
  rw [← rngD_eq] at e1
  refine dSeq_step ((dForO_of (dIR1_of (fCall_of (fCons_of rfl rfl) (gLen_psD l)) hl) (noLs_rng _ _)).trans e1) ?_
  refine (dRet_of rfl).trans ?_
  rw [Nat.zero_add]
  have e2 : ((List.range' 0 l.length).map fun k => wl (ptI l ((k : Nat) - 1 : Int), ptI l (k : Nat))).sum = A2 l := by
    rw [← A2_wl]
    have := sumBy_perm (f := wl) (sds_back h0)
    rw [← this]
    unfold sumBy
    rw [List.map_map]; rfl
  rw [e2]
/-! led -/
def affD (t : Aff) : PyData := .tuple [.int t.a, .int t.b, .int t.c, .int t.d, .int t.e, .int t.f]
def AB (n : Nat) (t : Aff) : Prop := Bd n t.a ∧ Bd n t.b ∧ Bd n t.c ∧ Bd n t.d ∧ Bd n t.e ∧ Bd n t.f
theorem dAsg_of {tg : TgF} {f : DF} {ρ : Sto} {d : PyData} {asg : Asg} (h : f (vS ρ) = some d) (h2 : tg d = some asg) : dAsg tg f ρ = .next (setSh ρ asg) := by
  unfold dAsg; rw [h]; simp only [h2]
theorem fTup_of {fs : DL.Env → Option (List PyData)} {ρ : DL.Env} {ds : List PyData} (h : fs ρ = some ds) (hl : ds.length ≤ 1000) : fTup fs ρ = some (.tuple ds) := by
  unfold fTup; rw [h, bind_some']
  exact if_pos hl
theorem e_led {n m : Nat} (hn : n ≤ 4000) (hm : m ≤ 4000) {t : Aff} {p : Pt} (ht : AB n t) (hp : PB m p) : g__law_led [affD t, pD p] = some (pD (t.ap p)) := by
  obtain ⟨a1, a2, a3, a4, a5, a6⟩ := ht
  have w1 : n ≤ 100000 := by omega
  have w2 : m ≤ 100000 := by omega
  have b1 := bd_mono hp.1 w2
  have b2 := bd_mono hp.2 w2
  unfold g__law_led fb__law_led
  refine runD_ret (dSeq_step (dAsg_of rfl rfl) (dRet_of (fTup_of (fCons_of (f2_of (f2_of (f2_of rfl (f2_of rfl rfl rfl) (gMul_ii (bd_mono a1 w1) b1)) (f2_of rfl (f2_of rfl rfl rfl) (gMul_ii (bd_mono a2 w1) b2)) rfl) rfl rfl) (fCons_of (f2_of (f2_of (f2_of rfl (f2_of rfl rfl rfl) (gMul_ii (bd_mono a3 w1) b1)) (f2_of rfl (f2_of rfl rfl rfl) (gMul_ii (bd_mono a4 w1) b2)) rfl) rfl rfl) rfl)) (show 2 ≤ 1000 by decide))))
theorem pb_ap {n m : Nat} {t : Aff} {p : Pt} (ht : AB n t) (hp : PB m p) : PB (n + m + 2) (t.ap p) := by
  obtain ⟨a1, a2, a3, a4, a5, a6⟩ := ht
  refine ⟨?_, ?_⟩
  · exact bd_mono (bd_add (bd_add (bd_mul a1 hp.1) (bd_mul a2 hp.2)) a5) (by omega)
  · exact bd_mono (bd_add (bd_add (bd_mul a3 hp.1) (bd_mul a4 hp.2)) a6) (by omega)
end LW
/-! part EF5 -/
namespace LW
open PySem (PyData)
open DL
open L2 (atI ixN kitB)
local macro_rules | `(tactic| walk_at "bd") => `(tactic| (apply bd_mono; (focus (repeat' (first | assumption | apply bd_sub | apply bd_add | apply bd_mul | apply bd_neg | apply bd_ediv | (apply bd_emod <;> first | assumption | decide | omega | exact bd_lit (n := 200) (by decide)) | exact bd_lit (n := 200) (by decide)))); decide))
local macro_rules | `(tactic| walk_at "dis") => `(tactic| first | assumption | omega | decide | walk_at "bd")
local macro_rules | `(tactic| walk_at "dl") => `(tactic| simp (disch := walk_at "dis") only [runD, DL.runN, sto0, dSeq, dSet, dSetO, dRet, dRetN, dNext, dIf, dDrop, vS, vO, cS, cO, fVar, f2, f1, fC, fTst, asBool, fCallF, fCallFN, fCall, fCallN, fCons, fNil, fAnd, fOr, fNot, fB, fTup, fL,
  List.map_cons, List.map_nil, List.length_cons, List.length_nil, List.replicate_succ, List.replicate_zero, List.cons_append, List.nil_append, List.getElem?_cons_zero, List.getElem?_cons_succ, Option.join_some, bind_some', Option.map_some,
  List.set_cons_zero, List.set_cons_succ, gI0_ii, gMul_ii, gDiv_pos, gMod_pos, gPow10, e_cell, e_whole, gAbs_int, Bool.not_true, Bool.not_false, Int.reduceToNat, gIx_list, gIx_tup, gIx_scr, gLen_scr, pair0, pair1, gEq_int, gNe_int, Nat.reduceSub, Nat.reduceAdd, Nat.reduceEqDiff, Nat.reduceLeDiff, if_true, if_false, ite_true, ite_false, Bool.true_eq_false, Bool.false_eq_true, reduceIte])
/-! ### what the law draws -/
theorem cell_of {ns : List Int} {fa fi : DF} {ρ : DL.Env} {k : Nat} (h0 : fa ρ = some (scrD ns)) (h : fi ρ = some (.int (k : Nat))) : fCallF 2 g__law_cell_at (fCons fa (fCons fi fNil)) ρ = some (.int (cell ns k)) :=
  fCallF_of (fCons_of h0 (fCons_of h rfl)) rfl (by rw [e_cell ns (k : Int) (by omega), Int.toNat_natCast])
def drawI (c k b : Int) : Int := (((c % 2147483647 + 977 * k + 1) * 48271 % 2147483647 + 40692 * (k + 3)) * 69621 % 2147483629) / 8 % b
theorem drawI_r (c k : Int) {b : Int} (h : 0 < b) : 0 ≤ drawI c k b ∧ drawI c k b < b := ⟨Int.emod_nonneg _ (by omega), Int.emod_lt_of_pos _ h⟩
theorem e_draw {c k b : Int} (hk : Bd 200 k) (h : 0 < b) : g__law_draw [.int c, .int k, .int b] = some (.int (drawI c k b)) := by
  have m1 : Bd 100 (c % 2147483647) := bd_mono (bd_emod (n := 32) (by decide) (bd_lit (by decide))) (by decide)
  have l1 : Bd 300 (977 : Int) := bd_lit (by decide)
  have l2 : Bd 300 (48271 : Int) := bd_lit (by decide)
  have l3 : Bd 300 (40692 : Int) := bd_lit (by decide)
  have l4 : Bd 300 (69621 : Int) := bd_lit (by decide)
  have l5 : Bd 300 (1 : Int) := bd_lit (by decide)
  have l6 : Bd 300 (3 : Int) := bd_lit (by decide)
  have b1 : Bd 1000 (c % 2147483647 + 977 * k + 1) := bd_mono (bd_add (bd_add m1 (bd_mul l1 hk)) l5) (by decide)
  have m2 : Bd 100 ((c % 2147483647 + 977 * k + 1) * 48271 % 2147483647) := bd_mono (bd_emod (n := 32) (by decide) (bd_lit (by decide))) (by decide)
  have b2 : Bd 1000 ((c % 2147483647 + 977 * k + 1) * 48271 % 2147483647 + 40692 * (k + 3)) := bd_mono (bd_add m2 (bd_mul l3 (bd_add hk l6))) (by decide)
  unfold g__law_draw fb__law_draw
  have w : 300 ≤ 100000 := by decide
  have w2 : 1000 ≤ 100000 := by decide
  refine runD_ret (dSeq_step (dSet_of (f2_of (f2_of (f2_of (f2_of (f2_of rfl rfl (gMod_pos (by decide))) (f2_of rfl rfl (gMul_ii (bd_mono l1 w) (bd_mono hk (by decide)))) rfl) rfl rfl) rfl (gMul_ii (bd_mono b1 w2) (bd_mono l2 w))) rfl (gMod_pos (by decide)))) ?_)
  refine dSeq_step (dSet_of (f2_of (f2_of (f2_of rfl (f2_of rfl (f2_of rfl rfl rfl) (gMul_ii (bd_mono l3 w) (bd_mono (bd_add hk l6) (by decide)))) rfl) rfl (gMul_ii (bd_mono b2 w2) (bd_mono l4 w))) rfl (gMod_pos (by decide)))) ?_
  exact dRet_of (f2_of (f2_of rfl rfl (gDiv_pos (by decide) (bd_lit (by decide)))) rfl (gMod_pos h))
def colX (c : Int) : Nat → Int
  | 0 => 0
  | i + 1 => colX c i + 1 + drawI c i 3
/-- the i-th column that is drawn -/
def colN (a b c : Int) (i : Nat) : Col := ⟨colX c i, drawI a i 9 - 4, drawI a i 9 - 4 + 1 + drawI b i 5⟩
def colsN (a b c : Int) (n : Nat) : List Col := (List.range' 0 n).map (colN a b c)
theorem colsN_len (a b c : Int) (n : Nat) : (colsN a b c n).length = n := by simp [colsN]
theorem colX_lt (c : Int) : ∀ {i j : Nat}, i < j → colX c i < colX c j
  | i, 0, h => by omega
  | i, j + 1, h => by
    have d := drawI_r c j (show (0 : Int) < 3 by decide)
    show colX c i < colX c j + 1 + drawI c j 3
    by_cases e : i = j
    · subst e; omega
    · have := colX_lt c (show i < j by omega); omega
theorem colX_b (c : Int) : ∀ i : Nat, 0 ≤ colX c i ∧ colX c i ≤ 3 * i
  | 0 => ⟨Int.le_refl _, Int.le_refl _⟩
  | i + 1 => by
    have d := drawI_r c i (show (0 : Int) < 3 by decide)
    have := colX_b c i
    show 0 ≤ colX c i + 1 + drawI c i 3 ∧ colX c i + 1 + drawI c i 3 ≤ 3 * ((i + 1 : Nat) : Int)
    omega
theorem colsN_pw (a b c : Int) (n : Nat) : (colsN a b c n).Pairwise fun a b => a.x < b.x := by
  unfold colsN
  rw [List.pairwise_map]
  exact (List.pairwise_lt_range' (s := 0) (n := n)).imp fun h => colX_lt c h
theorem colsN_nd (a b c : Int) (n : Nat) : ∀ d ∈ colsN a b c n, d.l < d.u := by
  intro d hd
  obtain ⟨i, _, rfl⟩ := List.mem_map.mp hd
  have := drawI_r b i (show (0 : Int) < 5 by decide)
  show drawI a i 9 - 4 < drawI a i 9 - 4 + 1 + drawI b i 5
  omega
theorem colsN_b (a b c : Int) {n : Nat} (hn : n ≤ 6) : ∀ d ∈ colsN a b c n, 0 ≤ d.x ∧ d.x ≤ 15 ∧ -4 ≤ d.l ∧ d.l ≤ d.u ∧ d.u ≤ 9 := by
  intro d hd
  obtain ⟨i, hi, rfl⟩ := List.mem_map.mp hd
  rw [List.mem_range'_1] at hi
  have h1 := drawI_r a i (show (0 : Int) < 9 by decide)
  have h2 := drawI_r b i (show (0 : Int) < 5 by decide)
  have h3 := colX_b c i
  show 0 ≤ colX c i ∧ colX c i ≤ 15 ∧ -4 ≤ drawI a i 9 - 4 ∧ drawI a i 9 - 4 ≤ drawI a i 9 - 4 + 1 + drawI b i 5 ∧ drawI a i 9 - 4 + 1 + drawI b i 5 ≤ 9
  omega
theorem dApp_of {i : Nat} {f : DF} {ρ : Sto} {ds : List PyData} {d : PyData} (h : ρ[i]? = some (some (.ow ds))) (h1 : f (vS ρ) = some d) (hl : ds.length < 1000) : dApp i f ρ = .next (ρ.set i (some (.ow (ds ++ [d])))) := by
  unfold dApp
  rw [h]; simp only [h1]
  exact if_pos (by omega)
theorem dSetN_of {i : Nat} {f : DL.Env → Option (List PyData)} {ρ : Sto} {ds : List PyData} (h : f (vS ρ) = some ds) : dSetN i f ρ = .next (ρ.set i (some (.ow ds))) := by unfold dSetN; rw [h]
theorem fLst_of {fs : DL.Env → Option (List PyData)} {ρ : DL.Env} {ds : List PyData} (h : fs ρ = some ds) (hl : ds.length ≤ 1000) : fLst fs ρ = some ds := by
  unfold fLst; rw [h, bind_some']
  exact if_pos hl
theorem colsN_succ (a b c : Int) (n : Nat) : colsN a b c (n + 1) = colsN a b c n ++ [colN a b c n] := by
  unfold colsN; rw [List.range'_1_concat, List.map_append]; simp
theorem e_rows_by (ns : List Int) (first : Nat) : ∃ n : Nat, 2 ≤ n ∧ n ≤ 6 ∧ ((2 : Int) + cell ns first % 5 = n) ∧ g__law_rows_by [scrD ns, .int (first : Nat)] = some (.list [psD ((colsN (cell ns (first + 1)) (cell ns (first + 2)) (cell ns (first + 3)) n).map Col.lo), psD ((colsN (cell ns (first + 1)) (cell ns (first + 2)) (cell ns (first + 3)) n).map Col.hi), .int (cell ns first / 5 % 4)]) := by
  have h0 := Int.emod_nonneg (cell ns first) (show (5 : Int) ≠ 0 by decide)
  have h1 := Int.emod_lt_of_pos (cell ns first) (show (0 : Int) < 5 by decide)
  obtain ⟨n, hn⟩ : ∃ n : Nat, (2 : Int) + cell ns first % 5 = n := ⟨(2 + cell ns first % 5).toNat, by omega⟩
  refine ⟨n, by omega, by omega, hn, ?_⟩
  generalize ea : cell ns (first + 1) = a
  generalize eb : cell ns (first + 2) = b
  generalize ec : cell ns (first + 3) = c
  have cA : ∀ {ρ : DL.Env}, ρ[0]? = some (some (scrD ns)) → ρ[1]? = some (some (.int (first : Nat))) → fCallF 2 g__law_cell_at (fCons (fVar 0) (fCons (f2 gAdd (fVar 1) (fC (.int 1))) fNil)) ρ = some (.int a) := fun {ρ} z1 z2 => by
    rw [← ea]; exact cell_of (by unfold fVar; rw [z1]; rfl) (f2_of (by unfold fVar; rw [z2]; rfl) rfl rfl)
  have cB : ∀ {ρ : DL.Env}, ρ[0]? = some (some (scrD ns)) → ρ[1]? = some (some (.int (first : Nat))) → fCallF 2 g__law_cell_at (fCons (fVar 0) (fCons (f2 gAdd (fVar 1) (fC (.int 2))) fNil)) ρ = some (.int b) := fun {ρ} z1 z2 => by
    rw [← eb]; exact cell_of (by unfold fVar; rw [z1]; rfl) (f2_of (by unfold fVar; rw [z2]; rfl) rfl rfl)
  have cC : ∀ {ρ : DL.Env}, ρ[0]? = some (some (scrD ns)) → ρ[1]? = some (some (.int (first : Nat))) → fCallF 2 g__law_cell_at (fCons (fVar 0) (fCons (f2 gAdd (fVar 1) (fC (.int 3))) fNil)) ρ = some (.int c) := fun {ρ} z1 z2 => by
    rw [← ec]; exact cell_of (by unfold fVar; rw [z1]; rfl) (f2_of (by unfold fVar; rw [z2]; rfl) rfl rfl)
  unfold g__law_rows_by fb__law_rows_by
  refine runD_ret ?_
  refine dSeq_step (dSet_of (cell_of rfl rfl)) ?_
  refine dSeq_step (dSet_of (f2_of rfl (f2_of rfl rfl (gMod_pos (by decide))) (congrArg (fun z => some (PyData.int z)) hn))) ?_
  refine dSeq_step (dSet_of rfl) ?_
  refine dSeq_step (dSetN_of (fLst_of rfl (by decide))) ?_
  refine dSeq_step (dSetN_of (fLst_of rfl (by decide))) ?_
  show dSeq _ _ [some (.sh (scrD ns)), some (.sh (.int (first : Nat))), some (.sh (.int (cell ns first))), some (.sh (.int (n : Nat))), some (.sh (.int 0)), some (.ow []), some (.ow []), none, none] = _
  obtain ⟨ρ', e1, c7, c8, rfl⟩ := forF_inv (F := (dSeq (dSet 8 (f2 gSub (fCallF 3 g__law_draw (fCons (fCallF 2 g__law_cell_at (fCons (fVar 0) (fCons (f2 gAdd (fVar 1) (fC (.int 1))) fNil))) (fCons (fVar 7) (fCons (fC (.int 9)) fNil)))) (fC (.int 4)))) (dSeq (dApp 5 (fTup (fCons (fVar 4) (fCons (fVar 8) fNil)))) (dSeq (dApp 6 (fTup (fCons (fVar 4) (fCons (f2 gAdd (f2 gAdd (fVar 8) (fC (.int 1))) (fCallF 3 g__law_draw (fCons (fCallF 2 g__law_cell_at (fCons (fVar 0) (fCons (f2 gAdd (fVar 1) (fC (.int 2))) fNil))) (fCons (fVar 7) (fCons (fC (.int 5)) fNil))))) fNil)))) (dSet 4 (f2 gAdd (f2 gAdd (fVar 4) (fC (.int 1))) (fCallF 3 g__law_draw (fCons (fCallF 2 g__law_cell_at (fCons (fVar 0) (fCons (f2 gAdd (fVar 1) (fC (.int 3))) fNil))) (fCons (fVar 7) (fCons (fC (.int 3)) fNil))))))))))
    (j := 7) (lo := 0)
    (fun i ρ => ∃ c7 c8, ρ = [some (.sh (scrD ns)), some (.sh (.int (first : Nat))), some (.sh (.int (cell ns first))), some (.sh (.int (n : Nat))), some (.sh (.int (colX c i))), some (.ow (((colsN a b c i).map Col.lo).map pD)), some (.ow (((colsN a b c i).map Col.hi).map pD)), c7, c8]) n 0 (by
      rintro i h1 h2 ρ ⟨c7, c8, rfl⟩
      have bi : Bd 200 (i : Int) := bd_mono (show Bd 10 (i : Int) by unfold Bd; omega) (by decide)
      rw [Int.zero_add]
      show ∃ ρ', dSeq _ _ [some (.sh (scrD ns)), some (.sh (.int (first : Nat))), some (.sh (.int (cell ns first))), some (.sh (.int (n : Nat))), some (.sh (.int (colX c i))), some (.ow (((colsN a b c i).map Col.lo).map pD)), some (.ow (((colsN a b c i).map Col.hi).map pD)), some (.sh (.int (i : Nat))), c8] = _ ∧ _
      refine ⟨_, dSeq_step (dSet_of (f2_of (fCallF_of (fCons_of (cA rfl rfl) (fCons_of rfl (fCons_of rfl rfl))) rfl (e_draw bi (by decide))) rfl rfl))
        (dSeq_step (dApp_of rfl (fTup_of (fCons_of rfl (fCons_of rfl rfl)) (show 2 ≤ 1000 by decide)) (by rw [List.length_map, List.length_map, colsN_len]; omega))
        (dSeq_step (dApp_of rfl (fTup_of (fCons_of rfl (fCons_of (f2_of (f2_of rfl rfl rfl) (fCallF_of (fCons_of (cB rfl rfl) (fCons_of rfl (fCons_of rfl rfl))) rfl (e_draw bi (by decide))) rfl) rfl)) (show 2 ≤ 1000 by decide)) (by rw [List.length_map, List.length_map, colsN_len]; omega))
        (dSet_of (f2_of (f2_of rfl rfl rfl) (fCallF_of (fCons_of (cC rfl rfl) (fCons_of rfl (fCons_of rfl rfl))) rfl (e_draw bi (by decide))) rfl)))), some (.sh (.int (i : Nat))), some (.sh (.int (drawI a i 9 - 4))), ?_⟩
      rw [colsN_succ, List.map_append, List.map_append, List.map_append, List.map_append]
      rfl) [some (.sh (scrD ns)), some (.sh (.int (first : Nat))), some (.sh (.int (cell ns first))), some (.sh (.int (n : Nat))), some (.sh (.int 0)), some (.ow []), some (.ow []), none, none] ⟨none, none, rfl⟩
  rw [← rngD_eq, Nat.zero_add] at e1
  refine dSeq_step ((dForO_of (dIR1_of rfl (by omega)) (noLs_rng _ _)).trans e1) ?_
  exact dRet_of (fL_of (fLst_of (fCons_of rfl (fCons_of rfl (fCons_of (f2_of (f2_of rfl rfl (gDiv_pos (by decide) (bd_lit (by decide)))) rfl (gMod_pos (by decide))) rfl))) (show 3 ≤ 1000 by decide)))
end LW
/-! part EF6 -/
namespace LW
open PySem (PyData)
open DL
open L2 (atI ixN kitB)
local macro_rules | `(tactic| walk_at "bd") => `(tactic| (apply bd_mono; (focus (repeat' (first | assumption | apply bd_sub | apply bd_add | apply bd_mul | apply bd_neg | apply bd_ediv | (apply bd_emod <;> first | assumption | decide | omega | exact bd_lit (n := 200) (by decide)) | exact bd_lit (n := 200) (by decide)))); decide))
local macro_rules | `(tactic| walk_at "dis") => `(tactic| first | assumption | omega | decide | walk_at "bd")
local macro_rules | `(tactic| walk_at "dl") => `(tactic| simp (disch := walk_at "dis") only [runD, DL.runN, sto0, dSeq, dSet, dSetO, dRet, dRetN, dNext, dIf, dDrop, vS, vO, cS, cO, fVar, f2, f1, fC, fTst, asBool, fCallF, fCallFN, fCall, fCallN, fCons, fNil, fAnd, fOr, fNot, fB, fTup, fL,
  List.map_cons, List.map_nil, List.length_cons, List.length_nil, List.replicate_succ, List.replicate_zero, List.cons_append, List.nil_append, List.getElem?_cons_zero, List.getElem?_cons_succ, Option.join_some, bind_some', Option.map_some,
  List.set_cons_zero, List.set_cons_succ, gI0_ii, gMul_ii, gDiv_pos, gMod_pos, gPow10, e_cell, e_whole, gAbs_int, Bool.not_true, Bool.not_false, Int.reduceToNat, gIx_list, gIx_tup, gIx_scr, gLen_scr, pair0, pair1, gEq_int, gNe_int, Nat.reduceSub, Nat.reduceAdd, Nat.reduceEqDiff, Nat.reduceLeDiff, if_true, if_false, ite_true, ite_false, Bool.true_eq_false, Bool.false_eq_true, reduceIte])
theorem dPopAt0_of {i : Nat} {f : DF} {ρ : Sto} {ds : List PyData} (h : ρ[i]? = some (some (.ow ds))) (h1 : f (vO ρ) = some (.int 0)) (hl : 0 < ds.length) : dPopAt i f ρ = .next (ρ.set i (some (.ow (ds.eraseIdx 0)))) := by
  unfold dPopAt
  rw [h]; simp only [h1]
  exact if_pos ⟨by decide, by decide, by omega⟩
theorem dPop_of {i : Nat} {ρ : Sto} {ds : List PyData} (h : ρ[i]? = some (some (.ow ds))) (hl : 0 < ds.length) : dPop i ρ = .next (ρ.set i (some (.ow ds.dropLast))) := by
  unfold dPop
  rw [h]
  have e : ds[ds.length - 1]? = some ds[ds.length - 1] := List.getElem?_eq_getElem (by omega)
  simp only [e]
theorem fCat_ps {fa fb : DF} {ρ : DL.Env} {l m : List Pt} (h1 : fa ρ = some (psD l)) (h2 : fb ρ = some (psD m)) (hl : l.length + m.length ≤ 1000) : fL (fCat fa fb) ρ = some (psD (l ++ m)) := by
  refine fL_of (ds := (l ++ m).map pD) ?_
  unfold fCat
  rw [h1, bind_some', h2]
  show (if (l.map pD).length + (m.map pD).length ≤ 1000 then some (l.map pD ++ m.map pD) else none) = _
  rw [List.map_append]
  exact if_pos (by rw [List.length_map, List.length_map]; exact hl)
theorem fRev_ps {fa : DF} {ρ : DL.Env} {l : List Pt} (h1 : fa ρ = some (psD l)) : fL (fRev fa) ρ = some (psD l.reverse) := by
  refine fL_of (ds := l.reverse.map pD) ?_
  unfold fRev
  rw [h1, bind_some']
  show some (l.map pD).reverse = _
  rw [List.map_reverse]
theorem e_joined {cs : List Col} {tips : Int} (h2 : 2 ≤ cs.length) (h6 : cs.length ≤ 100) : g__law_joined [psD (cs.map Col.lo), psD (cs.map Col.hi), .int tips] = some (psD (joinC cs (decide (tips % 2 = 1)) (decide (1 < tips ∧ 3 < cs.length + (if decide (tips % 2 = 1) = true then cs.tail else cs).length)))) := by
  unfold g__law_joined fb__law_joined
  refine runD_ret ?_
  refine dSeq_step (dSetN_of (ds := (cs.map Col.hi).map pD) rfl) ?_
  show dSeq _ _ [some (.sh (psD (cs.map Col.lo))), some (.sh (psD (cs.map Col.hi))), some (.sh (.int tips)), some (.ow ((cs.map Col.hi).map pD))] = _
  generalize ho : decide (tips % 2 = 1) = odd
  have t1 : ∀ {ρ : DL.Env}, ρ[2]? = some (some (.int tips)) → fTst (f2 gEq (f2 gMod (fVar 2) (fC (.int 2))) (fC (.int 1))) ρ = some odd := fun {ρ} z => by
    rw [← ho]; exact fTst_of (f2_of (f2_of (by unfold fVar; rw [z]; rfl) rfl (gMod_pos (by decide))) rfl gEq_int)
  have s1 : dIf (fTst (f2 gEq (f2 gMod (fVar 2) (fC (.int 2))) (fC (.int 1)))) (dPopAt 3 (fC (.int 0))) dNext [some (.sh (psD (cs.map Col.lo))), some (.sh (psD (cs.map Col.hi))), some (.sh (.int tips)), some (.ow ((cs.map Col.hi).map pD))]
      = .next [some (.sh (psD (cs.map Col.lo))), some (.sh (psD (cs.map Col.hi))), some (.sh (.int tips)), some (.ow (((if odd = true then cs.tail else cs).map Col.hi).map pD))] := by
    cases odd with
    | true =>
      rw [dIf_t (t1 rfl), dPopAt0_of rfl rfl (by rw [List.length_map, List.length_map]; omega)]
      cases cs with
      | nil => simp at h2
      | cons c cs => rfl
    | false => rw [dIf_f (t1 rfl)]; rfl
  refine dSeq_step s1 ?_
  generalize hT : (if odd = true then cs.tail else cs) = T
  have hTl : cs.length - 1 ≤ T.length ∧ T.length ≤ cs.length := by
    rw [← hT]; cases odd
    · exact ⟨by show cs.length - 1 ≤ cs.length; omega, Nat.le_refl _⟩
    · show cs.length - 1 ≤ cs.tail.length ∧ cs.tail.length ≤ cs.length
      rw [List.length_tail]; omega
  have t2 : fAnd (fTst (f2 gGt (fVar 2) (fC (.int 1)))) (fTst (f2 gGt (f2 gAdd (fCall gLen (fCons (fVar 0) fNil)) (fCall gLen (fCons (fVar 3) fNil))) (fC (.int 3)))) (vO [some (.sh (psD (cs.map Col.lo))), some (.sh (psD (cs.map Col.hi))), some (.sh (.int tips)), some (.ow ((T.map Col.hi).map pD))]) = some (decide (1 < tips ∧ 3 < cs.length + T.length)) := by
    refine (fAnd_all (a := decide (1 < tips)) (b := decide (3 < cs.length + T.length)) (fTst_of (f2_of rfl rfl rfl)) (fTst_of ((f2_of (f2_of (fCall_of (fCons_of rfl rfl) (gLen_psD (cs.map Col.lo))) (fCall_of (fCons_of rfl rfl) (gLen_psD (T.map Col.hi))) rfl) rfl rfl).trans ?_))).trans ?_
    · refine congrArg some (congrArg PyData.bool (decide_eq_decide.mpr ?_))
      rw [List.length_map, List.length_map]; omega
    · rw [Bool.decide_and]
  have s2 : dIf (fAnd (fTst (f2 gGt (fVar 2) (fC (.int 1)))) (fTst (f2 gGt (f2 gAdd (fCall gLen (fCons (fVar 0) fNil)) (fCall gLen (fCons (fVar 3) fNil))) (fC (.int 3))))) (dPop 3) dNext [some (.sh (psD (cs.map Col.lo))), some (.sh (psD (cs.map Col.hi))), some (.sh (.int tips)), some (.ow ((T.map Col.hi).map pD))]
      = .next [some (.sh (psD (cs.map Col.lo))), some (.sh (psD (cs.map Col.hi))), some (.sh (.int tips)), some (.ow (((if decide (1 < tips ∧ 3 < cs.length + T.length) = true then T.dropLast else T).map Col.hi).map pD))] := by
    generalize decide (1 < tips ∧ 3 < cs.length + T.length) = cut at t2
    cases cut with
    | true =>
      rw [dIf_t t2, dPop_of rfl (by rw [List.length_map, List.length_map]; omega)]
      rw [← List.map_dropLast, ← List.map_dropLast]; rfl
    | false => rw [dIf_f t2]; rfl
  refine dSeq_step s2 ?_
  refine dRet_of ?_
  unfold joinC
  rw [hT]
  generalize hT2 : (if decide (1 < tips ∧ 3 < cs.length + T.length) = true then T.dropLast else T) = T2
  have hl2 : T2.length ≤ 100 := by
    rw [← hT2]; split
    · rw [List.length_dropLast]; omega
    · omega
  exact fCat_ps rfl (fRev_ps rfl) (by rw [List.length_map, List.length_reverse, List.length_map]; omega)
theorem e_spiral (c : Int) : g__law_spiral [.int c] = some (psD (spiral (5 + c % 3) (6 + c / 3 % 3))) := by
  unfold g__law_spiral fb__law_spiral
  refine runD_ret ?_
  refine dSeq_step (dSet_of (f2_of rfl (f2_of rfl rfl (gMod_pos (by decide))) rfl)) ?_
  refine dSeq_step (dSet_of (f2_of rfl (f2_of (f2_of rfl rfl (gDiv_pos (by decide) (bd_lit (by decide)))) rfl (gMod_pos (by decide))) rfl)) ?_
  refine dSeq_step (dSet_of (d := psD [(0, 0), (5 + c % 3, 0), (5 + c % 3, 6 + c / 3 % 3), (0, 6 + c / 3 % 3), (0, 3), (5 + c % 3 - 3, 3)]) rfl) ?_
  refine (dRet_of (fCat_ps (l := [(0, 0), (5 + c % 3, 0), (5 + c % 3, 6 + c / 3 % 3), (0, 6 + c / 3 % 3), (0, 3), (5 + c % 3 - 3, 3)]) (m := [(5 + c % 3 - 3, 4), (1, 4), (1, 6 + c / 3 % 3 - 1), (5 + c % 3 - 1, 6 + c / 3 % 3 - 1), (5 + c % 3 - 1, 1), (0, 1)]) rfl rfl (show 6 + 6 ≤ 1000 by decide))).trans ?_
  rfl
theorem lcD_fof {α : Type} {tg : TgF} {ft : DL.Env → Option Bool} {fe : DF} {ρ : DL.Env} (enc h : α → PyData) (p : α → Bool) : ∀ as : List α, (∀ a ∈ as, ∃ asg, tg (enc a) = some asg ∧ ft (setE ρ asg) = some (p a) ∧ (p a = true → fe (setE ρ asg) = some (h a))) → lcD tg ft fe ρ (as.map enc) = some ((as.filter p).map h)
  | [], _ => rfl
  | d :: ds, H => by
    obtain ⟨asg, h1, h2, h3⟩ := H d List.mem_cons_self
    have ih := lcD_fof enc h p ds fun e he => H e (List.mem_cons_of_mem _ he)
    rw [List.map_cons]
    unfold lcD
    rw [h1, bind_some', h2, bind_some']
    cases hp : p d with
    | true => rw [if_pos rfl, h3 hp, bind_some', ih, List.filter_cons, hp]; rfl
    | false => rw [if_neg (by decide), ih, List.filter_cons, hp]; rfl
theorem shaped_ints : ∀ l : List Nat, PyData.canLayAll0 (l.map fun i => PyData.int (2 + (i : Nat))) = true ∧ PyData.depthAll (l.map fun i => PyData.int (2 + (i : Nat))) ≤ 2
  | [] => ⟨rfl, by simp [PyData.depthAll]⟩
  | i :: l => by
    have := shaped_ints l
    rw [List.map_cons]
    simp only [PyData.canLayAll0, PyData.depthAll, PyData.canLay0, this.1, Bool.true_and, true_and]
    have e : PyData.depth (.int (2 + (i : Nat))) ≤ 2 := by simp [PyData.depth]
    omega
theorem gEq_nil (l : List Nat) : gEq (.list (l.map fun i => PyData.int (2 + (i : Nat)))) (.list []) = some (.bool l.isEmpty) := by
  have h1 : PySem.SeqAt.shaped (.list (l.map fun i => PyData.int (2 + (i : Nat)))) = true := by
    have := shaped_ints l
    simp only [PySem.SeqAt.shaped, PyData.canLay0, PyData.depth, this.1, Bool.true_and]
    apply decide_eq_true; omega
  have h2 : PySem.SeqAt.shaped (.list []) = true := by simp [PySem.SeqAt.shaped, PyData.canLay0, PyData.canLayAll0, PyData.depth, PyData.depthAll]
  unfold gEq
  rw [h1, h2]
  cases l with
  | nil => simp [PyData.eqv, PyData.eqvAll]
  | cons a l => simp [PyData.eqv, PyData.eqvAll]
theorem e_flat {l : List Pt} (d : Drawn l) (c : Int) : ∃ l', g__law_flat [psD l, .int c] = some (psD l') ∧ Drawn l' := by
  have h3 := d.good.lo
  have h12 := d.good.hi
  have n0 := Int.emod_nonneg c (show (l.length : Int) ≠ 0 by omega)
  have n1 := Int.emod_lt_of_pos c (show (0 : Int) < (l.length : Int) by omega)
  obtain ⟨k, hk⟩ : ∃ k : Nat, c % (l.length : Int) = k := ⟨(c % (l.length : Int)).toNat, by omega⟩
  rw [hk] at n0 n1
  have hkl : k < l.length := by omega
  have x1 := gIx_ok (l := l) (i := (k : Int)) (by omega) (by omega)
  have x2 := gIx_ok (l := l) (i := (k : Int) - 1) (by omega) (by omega)
  have gc : l[k]? = some (ptI l (k : Nat)) := by rw [ptI_nat hkl]; exact List.getElem?_eq_getElem hkl
  have ga : l[(k + l.length - 1) % l.length]? = some (ptI l ((k : Nat) - 1)) := by
    by_cases c0 : k = 0
    · subst c0
      rw [ptI_wrap (by omega) (by omega), Nat.zero_add, Nat.mod_eq_of_lt (show l.length - 1 < l.length by omega)]
      have e : ((((0 : Nat) : Int) - 1 + l.length).toNat) = l.length - 1 := by omega
      rw [e, ptI_nat (by omega)]; exact List.getElem?_eq_getElem (by omega)
    · have e : (k + l.length - 1) % l.length = k - 1 := by
        rw [show k + l.length - 1 = (k - 1) + l.length by omega, Nat.add_mod_right]
        exact Nat.mod_eq_of_lt (by omega)
      rw [e, show ((k : Nat) - 1 : Int) = ((k - 1 : Nat) : Int) by omega, ptI_nat (by omega)]; exact List.getElem?_eq_getElem (by omega)
  have ba := d.box _ (List.mem_of_getElem? ga)
  have bc := d.box _ (List.mem_of_getElem? gc)
  generalize ptI l ((k : Nat) - 1) = a at *
  generalize ptI l (k : Nat) = e at *
  let x := e.1 - a.1
  let y := e.2 - a.2
  let p : Nat → Bool := fun i => decide (x % (2 + (i : Nat)) = 0) && decide (y % (2 + (i : Nat)) = 0)
  let P := (List.range' 0 18).filter p
  -- up to the parts
  have s7 : ∀ {R : Res}, (∀ c7, dSeq (dIf (fOr (fTst (f2 gEq (fVar 6) (fL (fLst fNil)))) (fTst (f2 gGt (fCall gLen (fCons (fVar 0) fNil)) (fC (.int 11))))) (dRet (fVar 0)) dNext) (dSeq (dSet 7 (f2 gAdd (fC (.int 1)) (f2 gMod (f2 gDiv (fVar 1) (fC (.int 12))) (f2 gSub (f2 gIx (fVar 6) (f1 gNeg (fC (.int 1)))) (fC (.int 1)))))) (dRet (fL (fCat (fL (fCat (fL (fSl (fVar 0) fPn (fPs (fVar 2)))) (fL (fLst (fCons (fTup (fCons (f2 gAdd (f2 gIx (fVar 3) (fC (.int 0))) (f2 gMul (f2 gDiv (fVar 4) (f2 gIx (fVar 6) (f1 gNeg (fC (.int 1))))) (fVar 7))) (fCons (f2 gAdd (f2 gIx (fVar 3) (fC (.int 1))) (f2 gMul (f2 gDiv (fVar 5) (f2 gIx (fVar 6) (f1 gNeg (fC (.int 1))))) (fVar 7))) fNil))) fNil))))) (fL (fSl (fVar 0) (fPs (fVar 2)) fPn))))))
      [some (.sh (psD l)), some (.sh (.int c)), some (.sh (.int (k : Nat))), some (.sh (pD a)), some (.sh (.int x)), some (.sh (.int y)), some (.sh (.list (P.map fun i => .int (2 + (i : Nat))))), c7] = R) → fb__law_flat (sto0 8 [psD l, .int c]) = R := fun {R} h => by
    unfold fb__law_flat
    refine dSeq_step (dSet_of (f2_of rfl (fCall_of (fCons_of rfl rfl) (gLen_psD l)) ((gMod_pos (by omega)).trans (congrArg (fun z => some (PyData.int z)) hk)))) ?_
    refine dSeq_step (dSet_of (f2_of rfl (f2_of rfl rfl rfl) x2)) ?_
    refine dSeq_step (dSet_of (f2_of (f2_of (f2_of rfl rfl x1) rfl rfl) (f2_of rfl rfl rfl) rfl)) ?_
    refine dSeq_step (dSet_of (f2_of (f2_of (f2_of rfl rfl x1) rfl rfl) (f2_of rfl rfl rfl) rfl)) ?_
    show dSeq _ _ [some (.sh (psD l)), some (.sh (.int c)), some (.sh (.int (k : Nat))), some (.sh (pD a)), some (.sh (.int x)), some (.sh (.int y)), none, none] = _
    refine dSeq_step (dSet_of (fL_of (fLc_of (dIR2_of rfl rfl (by decide) (by decide)) (by rw [rngD_len]; decide) ?_))) (h none)
    rw [rngD_eq]
    refine lcD_fof (fun i : Nat => PyData.int (2 + (i : Nat))) (fun i => .int (2 + (i : Nat))) p (List.range' 0 18) fun i _ => ?_
    refine ⟨[(7, .int (2 + (i : Nat)))], rfl, ?_, fun _ => rfl⟩
    exact fAnd_all (fTst_of (f2_of (f2_of rfl rfl (gMod_pos (by omega))) rfl gEq_int)) (fTst_of (f2_of (f2_of rfl rfl (gMod_pos (by omega))) rfl gEq_int))
  have t1 : ∀ c7, fOr (fTst (f2 gEq (fVar 6) (fL (fLst fNil)))) (fTst (f2 gGt (fCall gLen (fCons (fVar 0) fNil)) (fC (.int 11)))) (vO [some (.sh (psD l)), some (.sh (.int c)), some (.sh (.int (k : Nat))), some (.sh (pD a)), some (.sh (.int x)), some (.sh (.int y)), some (.sh (.list (P.map fun i => .int (2 + (i : Nat))))), c7]) = some (P.isEmpty || decide ((11 : Int) < l.length)) := fun c7 =>
    fOr_of (fTst_of (f2_of rfl rfl (gEq_nil P))) (fTst_of (f2_of (fCall_of (fCons_of rfl rfl) (gLen_psD l)) rfl rfl))
  by_cases hz : (P.isEmpty || decide ((11 : Int) < l.length)) = true
  · refine ⟨l, runD_ret (s7 fun c7 => ?_), d⟩
    exact dSeq_ret ((dIf_t (by rw [t1, hz])).trans rfl)
  · rw [Bool.not_eq_true] at hz
    have hz2 := hz
    rw [Bool.or_eq_false_iff, decide_eq_false_iff_not] at hz
    have hP : P ≠ [] := by intro z; rw [z] at hz; exact absurd hz.1 (by decide)
    obtain ⟨i, hi, hlast⟩ : ∃ i, i ∈ P ∧ gIx (.list (P.map fun i => .int (2 + (i : Nat)))) (.int (-1)) = some (.int (2 + (i : Nat))) := by
      refine ⟨P.getLast hP, List.getLast_mem hP, ?_⟩
      show atI (P.map fun i => PyData.int (2 + (i : Nat))) (-1) = _
      have hpos := List.length_pos_iff.mpr hP
      rw [atI_neg (by decide) (by rw [List.length_map]; omega), List.getElem?_map]
      have e1 : (-1 + ((P.map fun i => PyData.int (2 + (i : Nat))).length : Int)).toNat = P.length - 1 := by rw [List.length_map]; omega
      rw [e1, List.getLast_eq_getElem, List.getElem?_eq_getElem (by omega)]; rfl
    obtain ⟨hr, hpi⟩ := List.mem_filter.mp hi
    rw [List.mem_range'_1] at hr
    have hpi' : x % (2 + (i : Nat)) = 0 ∧ y % (2 + (i : Nat)) = 0 := by
      have : (decide (x % (2 + (i : Nat)) = 0) && decide (y % (2 + (i : Nat)) = 0)) = true := hpi
      rw [Bool.and_eq_true, decide_eq_true_eq, decide_eq_true_eq] at this; exact this
    let q : Int := 1 + c / 12 % (2 + (i : Nat) - 1)
    have q0 := Int.emod_nonneg (c / 12) (show (2 + (i : Nat) - 1 : Int) ≠ 0 by omega)
    have q1 := Int.emod_lt_of_pos (c / 12) (show (0 : Int) < 2 + (i : Nat) - 1 by omega)
    let b : Pt := (a.1 + x / (2 + (i : Nat)) * q, a.2 + y / (2 + (i : Nat)) * q)
    have hx := Int.mul_ediv_cancel_of_emod_eq_zero hpi'.1
    have hy := Int.mul_ediv_cancel_of_emod_eq_zero hpi'.2
    have hbt : Btw a b e := by
      refine ⟨2 + (i : Nat), q, by show 0 < 1 + c / 12 % (2 + (i : Nat) - 1); omega, by show 1 + c / 12 % (2 + (i : Nat) - 1) < _; omega, ?_, ?_⟩
      · show (2 + (i : Nat) : Int) * (a.1 + x / (2 + (i : Nat)) * q - a.1) = q * x
        generalize q = q'
        generalize x / (2 + (i : Nat)) = xx at hx
        rw [← hx]; grind
      · show (2 + (i : Nat) : Int) * (a.2 + y / (2 + (i : Nat)) * q - a.2) = q * y
        generalize q = q'
        generalize y / (2 + (i : Nat)) = xx at hy
        rw [← hy]; grind
    refine ⟨l.take k ++ b :: l.drop k, runD_ret (s7 fun c7 => ?_), Drawn.flat d hkl gc ga hbt (by omega)⟩
    have bi : Bd 8999 (2 + (i : Nat) : Int) := bd_mono (show Bd 10 (2 + (i : Nat) : Int) by unfold Bd; omega) (by decide)
    have bq : Bd 100000 q := bd_mono (show Bd 10 q by unfold Bd; show (1 + c / 12 % (2 + (i : Nat) - 1)).natAbs < _; omega) (by decide)
    have bx : Bd 100000 (x / (2 + (i : Nat))) := bd_mono (bd_ediv (show Bd 10 x by unfold Bd; show (e.1 - a.1).natAbs < _; omega)) (by decide)
    have by' : Bd 100000 (y / (2 + (i : Nat))) := bd_mono (bd_ediv (show Bd 10 y by unfold Bd; show (e.2 - a.2).natAbs < _; omega)) (by decide)
    refine dSeq_step ((dIf_f (by rw [t1, hz2])).trans rfl) ?_
    refine dSeq_step (dSet_of (f2_of rfl (f2_of (f2_of rfl rfl (gDiv_pos (by decide) (bd_lit (by decide)))) (f2_of (f2_of rfl rfl hlast) rfl rfl) (gMod_pos (by omega))) rfl)) ?_
    refine dRet_of ?_
    have e1 : l.take k ++ b :: l.drop k = (l.take k ++ [b]) ++ l.drop k := by simp
    rw [e1]
    refine fCat_ps (fCat_ps (sl_take (by omega) rfl rfl) (fL_of (fLst_of (fCons_of (fTup_of (fCons_of (f2_of (f2_of rfl rfl rfl) (f2_of (f2_of rfl (f2_of rfl rfl hlast) (gDiv_pos (by omega) bi)) rfl (gMul_ii bx bq)) rfl) (fCons_of (f2_of (f2_of rfl rfl rfl) (f2_of (f2_of rfl (f2_of rfl rfl hlast) (gDiv_pos (by omega) bi)) rfl (gMul_ii by' bq)) rfl) rfl)) (show 2 ≤ 1000 by decide)) rfl) (show 1 ≤ 1000 by decide))) (by rw [List.length_take]; show min k l.length + 1 ≤ 1000; omega)) (sl_drop (by omega) rfl rfl) (by rw [List.length_append, List.length_take, List.length_drop]; show min k l.length + 1 + (l.length - k) ≤ 1000; omega)
theorem swap_lc {l : List Pt} {ρ : DL.Env} (h6 : 7 < ρ.length) : lcD (tgT [6, 7]) fYes (fTup (fCons (fVar 7) (fCons (fVar 6) fNil))) ρ (l.map pD) = some ((l.map fun p => (p.2, p.1)).map pD) := by
  rw [List.map_map]
  refine lcD_of pD (fun p => pD (p.2, p.1)) l fun p _ => ?_
  refine ⟨[(6, .int p.1), (7, .int p.2)], rfl, rfl, ?_⟩
  have e1 : fVar 7 (setE ρ [(6, .int p.1), (7, .int p.2)]) = some (.int p.2) := by
    show ((ρ.set 6 (some (.int p.1))).set 7 (some (.int p.2)))[7]?.join = _
    rw [List.getElem?_set_self (by rw [List.length_set]; exact h6)]; rfl
  have e2 : fVar 6 (setE ρ [(6, .int p.1), (7, .int p.2)]) = some (.int p.1) := by
    show ((ρ.set 6 (some (.int p.1))).set 7 (some (.int p.2)))[6]?.join = _
    rw [List.getElem?_set_ne (by decide), List.getElem?_set_self (by omega)]; rfl
  exact fTup_of (fCons_of e1 (fCons_of e2 rfl)) (show 2 ≤ 1000 by decide)
theorem e_fence_by (ns : List Int) (first : Nat) : ∃ l, g__law_fence_by [scrD ns, .int (first : Nat)] = some (psD l) ∧ Drawn l := by
  obtain ⟨n, n2, n6, hn, er⟩ := e_rows_by ns first
  generalize ecs : colsN (cell ns (first + 1)) (cell ns (first + 2)) (cell ns (first + 3)) n = cs at er
  have hcl : cs.length = n := by rw [← ecs]; exact colsN_len _ _ _ _
  have ej := e_joined (cs := cs) (tips := cell ns first / 5 % 4) (by omega) (by omega)
  have tk := tip_ok (cs := cs) (odd := decide (cell ns first / 5 % 4 % 2 = 1)) (cut := decide (1 < cell ns first / 5 % 4 ∧ 3 < cs.length + (if decide (cell ns first / 5 % 4 % 2 = 1) = true then cs.tail else cs).length)) (by omega) (by rw [← ecs]; exact colsN_pw _ _ _ _) (by rw [← ecs]; exact colsN_nd _ _ _ _) (by
    intro h1 h2
    rw [h1] at h2
    have := (of_decide_eq_true h2).2
    rw [if_pos rfl, List.length_tail] at this
    omega)
  obtain ⟨ok, okl, oke, okm⟩ := tk
  rw [← oke] at ej
  have d0 : Drawn (colFence (tipC cs (decide (cell ns first / 5 % 4 % 2 = 1)) (decide (1 < cell ns first / 5 % 4 ∧ 3 < cs.length + (if decide (cell ns first / 5 % 4 % 2 = 1) = true then cs.tail else cs).length)))) := by
    refine Drawn.col ok (by omega) fun e he => ?_
    obtain ⟨d, hd, h⟩ := okm e he
    have hb := colsN_b (cell ns (first + 1)) (cell ns (first + 2)) (cell ns (first + 3)) n6 d (by rw [ecs]; exact hd)
    rcases h with rfl | rfl
    · exact hb
    · show 0 ≤ d.x ∧ d.x ≤ 15 ∧ -4 ≤ d.l ∧ d.l ≤ d.l ∧ d.l ≤ 9
      omega
  generalize colFence (tipC cs (decide (cell ns first / 5 % 4 % 2 = 1)) (decide (1 < cell ns first / 5 % 4 ∧ 3 < cs.length + (if decide (cell ns first / 5 % 4 % 2 = 1) = true then cs.tail else cs).length))) = l0 at ej d0
  have q48 : ∀ {ρ : DL.Env} {K : Int}, ρ[4]? = some (some (.int K)) → fTst (f2 gEq (f2 gMod (f2 gDiv (fVar 4) (fC (.int 48))) (fC (.int 5))) (fC (.int 1))) ρ = some (decide (K / 48 % 5 = 1)) := fun {ρ K} z =>
    fTst_of (f2_of (f2_of (f2_of (by unfold fVar; rw [z]; rfl) rfl (gDiv_pos (by decide) (bd_lit (by decide)))) rfl (gMod_pos (by decide))) rfl gEq_int)
  have q240 : ∀ {ρ : DL.Env} {K : Int}, ρ[4]? = some (some (.int K)) → fTst (f2 gEq (f2 gMod (f2 gDiv (fVar 4) (fC (.int 240))) (fC (.int 2))) (fC (.int 1))) ρ = some (decide (K / 240 % 2 = 1)) := fun {ρ K} z =>
    fTst_of (f2_of (f2_of (f2_of (by unfold fVar; rw [z]; rfl) rfl (gDiv_pos (by decide) (bd_lit (by decide)))) rfl (gMod_pos (by decide))) rfl gEq_int)
  have q12 : ∀ {ρ : DL.Env} {K : Int}, ρ[4]? = some (some (.int K)) → fTst (f2 gEq (f2 gMod (f2 gDiv (fVar 4) (fC (.int 12))) (fC (.int 2))) (fC (.int 1))) ρ = some (decide (K / 12 % 2 = 1)) := fun {ρ K} z =>
    fTst_of (f2_of (f2_of (f2_of (by unfold fVar; rw [z]; rfl) rfl (gDiv_pos (by decide) (bd_lit (by decide)))) rfl (gMod_pos (by decide))) rfl gEq_int)
  have q24 : ∀ {ρ : DL.Env} {K : Int}, ρ[4]? = some (some (.int K)) → fTst (f2 gEq (f2 gMod (f2 gDiv (fVar 4) (fC (.int 24))) (fC (.int 2))) (fC (.int 1))) ρ = some (decide (K / 24 % 2 = 1)) := fun {ρ K} z =>
    fTst_of (f2_of (f2_of (f2_of (by unfold fVar; rw [z]; rfl) rfl (gDiv_pos (by decide) (bd_lit (by decide)))) rfl (gMod_pos (by decide))) rfl gEq_int)
  refine Exists.elim (p := fun l => fb__law_fence_by (sto0 8 [scrD ns, .int (first : Nat)]) = .ret (psD l) ∧ Drawn l) ?_ fun l h => ⟨l, runD_ret h.1, h.2⟩
  unfold fb__law_fence_by
  generalize hK : cell ns first / 20 = K
  generalize hR : (PyData.list [psD (cs.map Col.lo), psD (cs.map Col.hi), .int (cell ns first / 5 % 4)]) = R at er
  -- spiral
  obtain ⟨l1, e1, d1⟩ : ∃ l1, dIf (fTst (f2 gEq (f2 gMod (f2 gDiv (fVar 4) (fC (.int 48))) (fC (.int 5))) (fC (.int 1)))) (dSet 3 (fCallF 1 g__law_spiral (fCons (fCallF 2 g__law_cell_at (fCons (fVar 0) (fCons (f2 gAdd (fVar 1) (fC (.int 1))) fNil))) fNil))) dNext
      [some (.sh (scrD ns)), some (.sh (.int (first : Nat))), some (.sh R), some (.sh (psD l0)), some (.sh (.int K)), none, none, none] = .next [some (.sh (scrD ns)), some (.sh (.int (first : Nat))), some (.sh R), some (.sh (psD l1)), some (.sh (.int K)), none, none, none] ∧ Drawn l1 := by
    by_cases h : K / 48 % 5 = 1
    · refine ⟨spiral (5 + cell ns (first + 1) % 3) (6 + cell ns (first + 1) / 3 % 3), ?_, Drawn.spi (by omega) (by omega)⟩
      rw [dIf_t ((q48 rfl).trans (by rw [decide_eq_true h]))]
      exact dSet_of (fCallF_of (fCons_of (cell_of (k := first + 1) rfl (f2_of rfl rfl rfl)) rfl) rfl (e_spiral _))
    · refine ⟨l0, ?_, d0⟩
      rw [dIf_f ((q48 rfl).trans (by rw [decide_eq_false h]))]; rfl
  -- a corner more
  obtain ⟨l2, e2, d2⟩ : ∃ l2, dIf (fTst (f2 gEq (f2 gMod (f2 gDiv (fVar 4) (fC (.int 240))) (fC (.int 2))) (fC (.int 1)))) (dSet 3 (fCallF 2 g__law_flat (fCons (fVar 3) (fCons (fCallF 2 g__law_cell_at (fCons (fVar 0) (fCons (f2 gAdd (fVar 1) (fC (.int 2))) fNil))) fNil)))) dNext
      [some (.sh (scrD ns)), some (.sh (.int (first : Nat))), some (.sh R), some (.sh (psD l1)), some (.sh (.int K)), none, none, none] = .next [some (.sh (scrD ns)), some (.sh (.int (first : Nat))), some (.sh R), some (.sh (psD l2)), some (.sh (.int K)), none, none, none] ∧ Drawn l2 := by
    by_cases h : K / 240 % 2 = 1
    · obtain ⟨l2, ef, d2⟩ := e_flat d1 (cell ns (first + 2))
      refine ⟨l2, ?_, d2⟩
      rw [dIf_t ((q240 rfl).trans (by rw [decide_eq_true h]))]
      exact dSet_of (fCallF_of (fCons_of rfl (fCons_of (cell_of (k := first + 2) rfl (f2_of rfl rfl rfl)) rfl)) rfl ef)
    · refine ⟨l1, ?_, d1⟩
      rw [dIf_f ((q240 rfl).trans (by rw [decide_eq_false h]))]; rfl
  have h3 := d2.good.lo
  have h12 := d2.good.hi
  have m0 := Int.emod_nonneg K (show (l2.length : Int) ≠ 0 by omega)
  have m1 := Int.emod_lt_of_pos K (show (0 : Int) < (l2.length : Int) by omega)
  obtain ⟨t, ht⟩ : ∃ t : Nat, K % (l2.length : Int) = t := ⟨(K % (l2.length : Int)).toNat, by omega⟩
  rw [ht] at m0 m1
  have d3 : Drawn (l2.drop t ++ l2.take t) := Drawn.rot (by rw [List.take_append_drop]; exact d2)
  generalize hl3 : l2.drop t ++ l2.take t = l3 at d3
  have h3l : l3.length ≤ 12 := d3.good.hi
  obtain ⟨l4, e4, d4⟩ : ∃ l4, dIf (fTst (f2 gEq (f2 gMod (f2 gDiv (fVar 4) (fC (.int 12))) (fC (.int 2))) (fC (.int 1)))) (dSet 3 (fL (fRev (fVar 3)))) dNext
      [some (.sh (scrD ns)), some (.sh (.int (first : Nat))), some (.sh R), some (.sh (psD l3)), some (.sh (.int K)), some (.sh (.int (t : Nat))), none, none] = .next [some (.sh (scrD ns)), some (.sh (.int (first : Nat))), some (.sh R), some (.sh (psD l4)), some (.sh (.int K)), some (.sh (.int (t : Nat))), none, none] ∧ Drawn l4 := by
    by_cases h : K / 12 % 2 = 1
    · refine ⟨l3.reverse, ?_, d3.rev⟩
      rw [dIf_t ((q12 rfl).trans (by rw [decide_eq_true h]))]
      exact dSet_of (fRev_ps rfl)
    · refine ⟨l3, ?_, d3⟩
      rw [dIf_f ((q12 rfl).trans (by rw [decide_eq_false h]))]; rfl
  obtain ⟨l5, e5, d5⟩ : ∃ l5, dIf (fTst (f2 gEq (f2 gMod (f2 gDiv (fVar 4) (fC (.int 24))) (fC (.int 2))) (fC (.int 1)))) (dSet 3 (fL (fLc [6, 7] (fIL (fVar 3)) (tgT [6, 7]) fYes (fTup (fCons (fVar 7) (fCons (fVar 6) fNil)))))) dNext
      [some (.sh (scrD ns)), some (.sh (.int (first : Nat))), some (.sh R), some (.sh (psD l4)), some (.sh (.int K)), some (.sh (.int (t : Nat))), none, none] = .next [some (.sh (scrD ns)), some (.sh (.int (first : Nat))), some (.sh R), some (.sh (psD l5)), some (.sh (.int K)), some (.sh (.int (t : Nat))), none, none] ∧ Drawn l5 := by
    by_cases h : K / 24 % 2 = 1
    · refine ⟨l4.map fun p => (p.2, p.1), ?_, d4.swap⟩
      rw [dIf_t ((q24 rfl).trans (by rw [decide_eq_true h]))]
      have h4 := d4.good.hi
      exact dSet_of (fL_of (fLc_of (fIL_of rfl) (by rw [List.length_map]; omega) (swap_lc (show 7 < 8 from Nat.lt_succ_self 7))))
    · refine ⟨l4, ?_, d4⟩
      rw [dIf_f ((q24 rfl).trans (by rw [decide_eq_false h]))]; rfl
  refine ⟨l5, ?_, d5⟩
  refine dSeq_step (dSet_of (fCallF_of (fCons_of rfl (fCons_of rfl rfl)) rfl er)) ?_
  refine dSeq_step (dSet_of (fCallF_of (fCons_of (f2_of rfl rfl (by rw [← hR]; rfl)) (fCons_of (f2_of rfl rfl (by rw [← hR]; rfl)) (fCons_of (f2_of rfl rfl (by rw [← hR]; rfl)) rfl))) rfl ej)) ?_
  refine dSeq_step (dSet_of (f2_of (cell_of rfl rfl) rfl ((gDiv_pos (by decide) (bd_lit (by decide))).trans (congrArg (fun z => some (PyData.int z)) hK)))) ?_
  refine dSeq_step e1 (dSeq_step e2 ?_)
  refine dSeq_step (dSet_of (f2_of rfl (fCall_of (fCons_of rfl rfl) (gLen_psD l2)) ((gMod_pos (by omega)).trans (congrArg (fun z => some (PyData.int z)) ht)))) ?_
  refine dSeq_step (dSet_of (fCat_ps (sl_drop (by omega) rfl rfl) (sl_take (by omega) rfl rfl) (by rw [List.length_drop, List.length_take]; omega))) ?_
  rw [hl3]
  exact dSeq_step e4 (dSeq_step e5 (dRet_of rfl))
end LW
/-! part EF7 -/
namespace LW
open PySem (PyData)
open DL
open L2 (atI ixN kitB)
local macro_rules | `(tactic| walk_at "bd") => `(tactic| (apply bd_mono; (focus (repeat' (first | assumption | apply bd_sub | apply bd_add | apply bd_mul | apply bd_neg | apply bd_ediv | (apply bd_emod <;> first | assumption | decide | omega | exact bd_lit (n := 200) (by decide)) | exact bd_lit (n := 200) (by decide)))); decide))
local macro_rules | `(tactic| walk_at "dis") => `(tactic| first | assumption | omega | decide | walk_at "bd")
local macro_rules | `(tactic| walk_at "dl") => `(tactic| simp (disch := walk_at "dis") only [runD, DL.runN, sto0, dSeq, dSet, dSetO, dRet, dRetN, dNext, dIf, dDrop, vS, vO, cS, cO, fVar, f2, f1, fC, fTst, asBool, fCallF, fCallFN, fCall, fCallN, fCons, fNil, fAnd, fOr, fNot, fB, fTup, fL,
  List.map_cons, List.map_nil, List.length_cons, List.length_nil, List.replicate_succ, List.replicate_zero, List.cons_append, List.nil_append, List.getElem?_cons_zero, List.getElem?_cons_succ, Option.join_some, bind_some', Option.map_some,
  List.set_cons_zero, List.set_cons_succ, gI0_ii, gMul_ii, gDiv_pos, gMod_pos, gPow10, e_cell, e_whole, gAbs_int, Bool.not_true, Bool.not_false, Int.reduceToNat, gIx_list, gIx_tup, gIx_scr, gLen_scr, pair0, pair1, gEq_int, gNe_int, Nat.reduceSub, Nat.reduceAdd, Nat.reduceEqDiff, Nat.reduceLeDiff, if_true, if_false, ite_true, ite_false, Bool.true_eq_false, Bool.false_eq_true, reduceIte])
/-! ### a turning drawn, and a list led by it -/
theorem e_turning_by' (ns : List Int) (first : Nat) {far : Int} (h0 : 0 < far) (hf : Bd 200 far) : ∃ t : Aff, g__law_turning_by [scrD ns, .int (first : Nat), .int far] = some (affD t) ∧ (t.det = 1 ∨ t.det = -1) ∧ AB 500 t ∧ ∃ s u g e f : Int, t = Aff.mk (1 + s * u) s (g * u) g e f ∧ (g = 1 ∨ g = -1) := by
  have z0 := Int.emod_nonneg (cell ns (first + 2)) (show (2 : Int) ≠ 0 by decide)
  have z1 := Int.emod_lt_of_pos (cell ns (first + 2)) (show (0 : Int) < 2 by decide)
  have bs : ∀ x : Int, Bd 202 (x % far - far / 2) := fun x => bd_mono (bd_sub (bd_emod h0 hf) (bd_ediv hf)) (by decide)
  have be : ∀ x : Int, Bd 202 (x % 10 ^ (30 : Int).toNat - 10 ^ (29 : Int).toNat) := fun x => bd_mono (bd_sub (bd_emod (n := 120) (by decide) (bd_lit (by decide))) (bd_lit (n := 120) (by decide))) (by decide)
  have b1 : Bd 202 (1 : Int) := bd_lit (by decide)
  have bE := be (cell ns (first + 3))
  have bF := be (cell ns (first + 2) / 2)
  generalize hE : cell ns (first + 3) % 10 ^ (30 : Int).toNat - 10 ^ (29 : Int).toNat = E at bE
  generalize hF : cell ns (first + 2) / 2 % 10 ^ (30 : Int).toNat - 10 ^ (29 : Int).toNat = F at bF
  generalize hs : cell ns first % far - far / 2 = s
  generalize hu : cell ns (first + 1) % far - far / 2 = u
  generalize hg : 1 - 2 * (cell ns (first + 2) % 2) = g
  have bS := bs (cell ns first)
  have bU := bs (cell ns (first + 1))
  rw [hs] at bS
  rw [hu] at bU
  have hg' : g = 1 ∨ g = -1 := by omega
  have bG : Bd 202 g := by rcases hg' with h | h <;> rw [h] <;> exact bd_lit (by decide)
  refine ⟨⟨1 + s * u, s, g * u, g, E, F⟩, ?_, ?_, ?_, s, u, g, E, F, rfl, hg'⟩
  · unfold g__law_turning_by fb__law_turning_by
    refine runD_ret ?_
    refine dSeq_step (dSet_of (d := .int s) (by rw [← hs]; exact f2_of (f2_of (cell_of rfl rfl) rfl (gMod_pos h0)) (f2_of rfl rfl (gDiv_pos (by decide) (bd_lit (by decide)))) rfl)) ?_
    refine dSeq_step (dSet_of (d := .int u) (by rw [← hu]; exact f2_of (f2_of (cell_of rfl (f2_of rfl rfl rfl)) rfl (gMod_pos h0)) (f2_of rfl rfl (gDiv_pos (by decide) (bd_lit (by decide)))) rfl)) ?_
    refine dSeq_step (dSet_of (d := .int g) (by rw [← hg]; exact f2_of rfl (f2_of rfl (f2_of (cell_of rfl (f2_of rfl rfl rfl)) rfl (gMod_pos (by decide))) (gMul_ii (bd_mono (bd_lit (n := 10) (by decide)) (by decide)) (bd_mono (show Bd 2 (cell ns (first + 2) % 2) by unfold Bd; omega) (by decide)))) rfl)) ?_
    refine dSeq_step (dSet_of (d := .int E) (by rw [← hE]; exact f2_of (f2_of (cell_of (k := first + 3) rfl (f2_of rfl rfl rfl)) (f2_of rfl rfl (gPow10 (by decide) (by decide))) (gMod_pos (by decide))) (f2_of rfl rfl (gPow10 (by decide) (by decide))) rfl)) ?_
    refine dSeq_step (dSet_of (d := .int F) (by rw [← hF]; exact f2_of (f2_of (f2_of (cell_of (k := first + 2) rfl (f2_of rfl rfl rfl)) rfl (gDiv_pos (by decide) (bd_lit (by decide)))) (f2_of rfl rfl (gPow10 (by decide) (by decide))) (gMod_pos (by decide))) (f2_of rfl rfl (gPow10 (by decide) (by decide))) rfl)) ?_
    exact dRet_of (fTup_of (fCons_of (f2_of rfl (f2_of rfl rfl (gMul_ii (bd_mono bS (by decide)) (bd_mono bU (by decide)))) rfl) (fCons_of rfl (fCons_of (f2_of rfl rfl (gMul_ii (bd_mono bG (by decide)) (bd_mono bU (by decide)))) (fCons_of rfl (fCons_of rfl (fCons_of rfl rfl)))))) (show 6 ≤ 1000 from Nat.le_of_ble_eq_true rfl))
  · have e : (1 + s * u) * g - s * (g * u) = g := by grind
    show (1 + s * u) * g - s * (g * u) = 1 ∨ (1 + s * u) * g - s * (g * u) = -1
    rw [e]; exact hg'
  · exact ⟨bd_mono (bd_add b1 (bd_mul bS bU)) (by decide), bd_mono bS (by decide), bd_mono (bd_mul bG bU) (by decide), bd_mono bG (by decide), bd_mono bE (by decide), bd_mono bF (by decide)⟩
theorem e_turning_by (ns : List Int) (first : Nat) {far : Int} (h0 : 0 < far) (hf : Bd 200 far) : ∃ t : Aff, g__law_turning_by [scrD ns, .int (first : Nat), .int far] = some (affD t) ∧ (t.det = 1 ∨ t.det = -1) ∧ AB 500 t := by
  obtain ⟨t, h1, h2, h3, _⟩ := e_turning_by' ns first h0 hf
  exact ⟨t, h1, h2, h3⟩
theorem led_lc {n m : Nat} (hn : n ≤ 4000) (hm : m ≤ 4000) {t : Aff} (ht : AB n t) {l : List Pt} (hl : ∀ p ∈ l, PB m p) {i j : Nat} {ρ : DL.Env} (hi : ρ[i]? = some (some (affD t))) (hj : j < ρ.length) (hij : i ≠ j) :
    lcD (tgN j) fYes (fCallF 2 g__law_led (fCons (fVar i) (fCons (fVar j) fNil))) ρ (l.map pD) = some ((l.map t.ap).map pD) := by
  rw [List.map_map]
  refine lcD_of pD (fun p => pD (t.ap p)) l fun p hp => ?_
  refine ⟨[(j, pD p)], rfl, rfl, ?_⟩
  refine fCallF_of (fCons_of (x := affD t) ?_ (fCons_of (x := pD p) ?_ rfl)) rfl (e_led hn hm ht (hl p hp))
  · show (ρ.set j (some (pD p)))[i]?.join = _
    rw [List.getElem?_set_ne (Ne.symm hij), hi]; rfl
  · show (ρ.set j (some (pD p)))[j]?.join = _
    rw [List.getElem?_set_self hj]; rfl
theorem Drawn.pb {l : List Pt} (d : Drawn l) : ∀ p ∈ l, PB 10 p := fun p hp => by
  have := d.box p hp
  exact ⟨by unfold Bd; omega, by unfold Bd; omega⟩
/-- what the fences of the laws are: a list drawn, led or not -/
structure Fenced (l : List Pt) : Prop where
  good : Good l
  area : A2 l ≠ 0
  pb : ∀ p ∈ l, PB 600 p
theorem Fenced.len {l : List Pt} (f : Fenced l) : l.length < 100000 := by have := f.good.hi; omega
theorem Drawn.led {l : List Pt} (d : Drawn l) {t : Aff} (hd : t.det = 1 ∨ t.det = -1) (ht : AB 500 t) : Fenced (l.map t.ap) := by
  refine ⟨d.good.aff hd, ?_, ?_⟩
  · rw [A2_aff]
    have := d.area
    rcases hd with h | h <;> rw [h] <;> omega
  · intro p hp
    obtain ⟨q, hq, rfl⟩ := List.mem_map.mp hp
    have := pb_ap ht (d.pb q hq)
    exact ⟨bd_mono this.1 (by decide), bd_mono this.2 (by decide)⟩
end LW
/-! part MRim -/
namespace LW
def gw (s : Sd) : Int := (Int.gcd (s.2.1 - s.1.1) (s.2.2 - s.1.2) : Nat)
def rimS (l : List Pt) : Int := sumBy gw (sdsL l)
/-! ### the rim has the same parity as the double area -/
end LW
/-! part EF8 -/
namespace LW
open PySem (PyData)
open DL
open L2 (atI ixN kitB)
local macro_rules | `(tactic| walk_at "bd") => `(tactic| (apply bd_mono; (focus (repeat' (first | assumption | apply bd_sub | apply bd_add | apply bd_mul | apply bd_neg | apply bd_ediv | (apply bd_emod <;> first | assumption | decide | omega | exact bd_lit (n := 200) (by decide)) | exact bd_lit (n := 200) (by decide)))); decide))
local macro_rules | `(tactic| walk_at "dis") => `(tactic| first | assumption | omega | decide | walk_at "bd")
local macro_rules | `(tactic| walk_at "dl") => `(tactic| simp (disch := walk_at "dis") only [runD, DL.runN, sto0, dSeq, dSet, dSetO, dRet, dRetN, dNext, dIf, dDrop, vS, vO, cS, cO, fVar, f2, f1, fC, fTst, asBool, fCallF, fCallFN, fCall, fCallN, fCons, fNil, fAnd, fOr, fNot, fB, fTup, fL,
  List.map_cons, List.map_nil, List.length_cons, List.length_nil, List.replicate_succ, List.replicate_zero, List.cons_append, List.nil_append, List.getElem?_cons_zero, List.getElem?_cons_succ, Option.join_some, bind_some', Option.map_some,
  List.set_cons_zero, List.set_cons_succ, gI0_ii, gMul_ii, gDiv_pos, gMod_pos, gPow10, e_cell, e_whole, gAbs_int, Bool.not_true, Bool.not_false, Int.reduceToNat, gIx_list, gIx_tup, gIx_scr, gLen_scr, pair0, pair1, gEq_int, gNe_int, Nat.reduceSub, Nat.reduceAdd, Nat.reduceEqDiff, Nat.reduceLeDiff, if_true, if_false, ite_true, ite_false, Bool.true_eq_false, Bool.false_eq_true, reduceIte])
/-! ### the rim's points -/
theorem sumsz_mem' {l : List Nat} {x : Nat} (h : x ∈ l) : x ≤ l.sum := by
  induction l with
  | nil => cases h
  | cons y l ih =>
    rw [List.sum_cons]
    rcases List.mem_cons.mp h with e | e
    · omega
    · have := ih e; omega
noncomputable def cmC : DL.Env → Option Bool := fTst (f2 gGt (fVar 1) (fC (.int 0)))
noncomputable def cmB : SFn := dSeq (dSet 2 (f2 gMod (fVar 0) (fVar 1))) (dSeq (dSet 0 (fVar 1)) (dSet 1 (fVar 2)))
theorem cm_loop : ∀ (n : Nat) (a b : Nat) (c : Option Cell), b < n → ∃ c', whileF cmC cmB n [some (.sh (.int (a : Nat))), some (.sh (.int (b : Nat))), c] = .next [some (.sh (.int (Nat.gcd a b : Nat))), some (.sh (.int ((0 : Nat) : Int))), c']
  | 0, _, _, _, h => by omega
  | n + 1, a, b, c, h => by
    unfold whileF
    have ht : cmC (vO [some (.sh (.int (a : Nat))), some (.sh (.int (b : Nat))), c]) = some (decide ((0 : Int) < (b : Nat))) := fTst_of (f2_of rfl rfl rfl)
    rw [ht]
    by_cases hb : 0 < b
    · rw [decide_eq_true (show (0 : Int) < (b : Nat) by omega)]
      have e : cmB [some (.sh (.int (a : Nat))), some (.sh (.int (b : Nat))), c] = .next [some (.sh (.int (b : Nat))), some (.sh (.int ((a % b : Nat) : Int))), some (.sh (.int ((a % b : Nat) : Int)))] := by
        unfold cmB
        refine dSeq_step (dSet_of (d := .int ((a % b : Nat) : Int)) (f2_of rfl rfl ((gMod_pos (by omega)).trans ?_))) ?_
        · rw [Int.natCast_emod]
        · rfl
      rw [e]
      obtain ⟨c', ih⟩ := cm_loop n b (a % b) (some (.sh (.int ((a % b : Nat) : Int)))) (by have := Nat.mod_lt a hb; omega)
      refine ⟨c', ?_⟩
      have eg : Nat.gcd a b = Nat.gcd b (a % b) := by rw [Nat.gcd_comm, Nat.gcd_rec, Nat.gcd_comm]
      rw [eg]
      exact ih
    · have hb0 : b = 0 := by omega
      subst hb0
      rw [decide_eq_false (by omega), Nat.gcd_zero_right]
      exact ⟨c, rfl⟩
theorem e_common (x y : Int) : g_common [.int x, .int y] = some (.int (Int.gcd x y : Nat)) := by
  have e1 : g_common [.int x, .int y] = runD 3 (dSeq (dSet 0 (fCall gAbs (fCons (fVar 0) fNil))) (dSeq (dSet 1 (fCall gAbs (fCons (fVar 1) fNil))) (dSeq (dWhile fuD cmC cmB) (dRet (fVar 0))))) [.int x, .int y] := rfl
  have ab : ∀ z : Int, (if z < 0 then -z else z) = ((z.natAbs : Nat) : Int) := fun z => by split <;> omega
  rw [e1]
  refine runD_ret ?_
  refine dSeq_step (dSet_of (d := .int (x.natAbs : Nat)) (fCall_of (fCons_of rfl rfl) ((gAbs_int x).trans (by rw [ab])))) ?_
  refine dSeq_step (dSet_of (d := .int (y.natAbs : Nat)) (fCall_of (fCons_of rfl rfl) ((gAbs_int y).trans (by rw [ab])))) ?_
  show dSeq _ _ [some (.sh (.int (x.natAbs : Nat))), some (.sh (.int (y.natAbs : Nat))), none] = _
  have hf : y.natAbs < fuD [some (.sh (.int (x.natAbs : Nat))), some (.sh (.int (y.natAbs : Nat))), none] := by
    have := sumsz_mem' (l := ([some (.sh (.int (x.natAbs : Nat))), some (.sh (.int (y.natAbs : Nat))), none] : Sto).map szC) (x := y.natAbs) (by simp [szC, szD])
    unfold fuD
    omega
  obtain ⟨c', h⟩ := cm_loop _ x.natAbs y.natAbs none hf
  refine dSeq_step (F := dWhile fuD cmC cmB) h ?_
  rfl
theorem e_rim {n : Nat} (hn : n ≤ 4000) {l : List Pt} (hb : ∀ p ∈ l, PB n p) (hl : l.length < 100000) (h : isFB l = true) : g_rim [psD l] = some (.int (rimS l)) := by
  unfold g_rim fb_rim
  refine runD_ret (dSeq_step (dDrop_of (fCallF_of (fCons_of rfl rfl) rfl (e_asked hn hb hl h))) ?_)
  refine dRet_of (fCall_of (fCons_of (fL_of (fLc_of (fIL_of (fCallF_of (fCons_of rfl rfl) rfl (e_sides hl))) ?_ (lcD_of sD (fun s => .int (gw s)) _ ?_))) rfl) ?_)
  · rw [List.length_map, sds_len]; exact Nat.le_of_lt (Nat.lt_trans hl (by decide))
  · intro s hs
    refine ⟨[(1, pD s.1), (2, pD s.2)], rfl, rfl, ?_⟩
    exact fCallF_of (fCons_of (f2_of (f2_of rfl rfl rfl) (f2_of rfl rfl rfl) rfl) (fCons_of (f2_of (f2_of rfl rfl rfl) (f2_of rfl rfl rfl) rfl) rfl)) rfl (e_common _ _)
  · have : (sdsL l).map (fun s => PyData.int (gw s)) = ((sdsL l).map gw).map .int := by rw [List.map_map]; rfl
    rw [this, gSum_ints]; rfl
def absI (x : Int) : Int := if x < 0 then -x else x
/-! bounds of area and rim -/
theorem bd_sumBy {f : Sd → Int} {n : Nat} : ∀ {l : List Sd}, (∀ s ∈ l, Bd n (f s)) → Bd (n + l.length + 1) (sumBy f l)
  | [], _ => by rw [sumBy_nil]; exact bd_mono (show Bd 1 (0 : Int) from bd_lit (by decide)) (by omega)
  | s :: l, h => by
    rw [sumBy_cons]
    have h1 := h s List.mem_cons_self
    have h2 := bd_sumBy (l := l) fun t ht => h t (List.mem_cons_of_mem _ ht)
    refine bd_mono (bd_add h1 h2) ?_
    rw [List.length_cons]; omega
theorem bd_gcd {n : Nat} {x y : Int} (h1 : Bd n x) (h2 : Bd n y) : Bd n ((Int.gcd x y : Nat) : Int) := by
  unfold Bd at *
  rw [Int.natAbs_natCast]
  by_cases hx : x = 0
  · subst hx; rw [Int.gcd_zero_left]; exact h2
  · have : Int.gcd x y ≤ x.natAbs := Nat.le_of_dvd (by omega) (Int.natAbs_dvd_natAbs.mpr (Int.gcd_dvd_left ..))
    omega
theorem bd_A2 {n : Nat} {l : List Pt} (hb : ∀ p ∈ l, PB n p) (h12 : l.length ≤ 12) : Bd (n + n + 20) (A2 l) := by
  have := bd_sumBy (f := wt) (n := n + n + 1) (l := sdsL l) fun s hs => by
    have hm := sds_mem hs
    have b1 := hb _ hm.1
    have b2 := hb _ hm.2
    exact bd_mono (bd_sub (bd_mul b1.1 b2.2) (bd_mul b1.2 b2.1)) (by omega)
  exact bd_mono this (by rw [sds_len]; omega)
theorem bd_rim {n : Nat} {l : List Pt} (hb : ∀ p ∈ l, PB n p) (h12 : l.length ≤ 12) : Bd (n + 20) (rimS l) := by
  have := bd_sumBy (f := gw) (n := n + 1) (l := sdsL l) fun s hs => by
    have hm := sds_mem hs
    have b1 := hb _ hm.1
    have b2 := hb _ hm.2
    exact bd_gcd (bd_mono (bd_sub b2.1 b1.1) (by omega)) (bd_mono (bd_sub b2.2 b1.2) (by omega))
  exact bd_mono this (by rw [sds_len]; omega)
theorem bd_abs {n : Nat} {x : Int} (h : Bd n x) : Bd n (absI x) := by unfold absI; split; exact bd_neg h; exact h
theorem e_greater_counts {n : Nat} (hn : n ≤ 4000) {l : List Pt} (hb : ∀ p ∈ l, PB n p) (h12 : l.length ≤ 12) (h : isFB l = true) {k : Int} (hk : Bd 300 k) :
    g_greater_counts [psD l, .int k] = some (.tuple [.int ((k * k * absI (A2 l) + k * rimS l) / 2 + 1), .int ((k * k * absI (A2 l) - k * rimS l) / 2 + 1)]) := by
  have hl : l.length < 100000 := by omega
  have bk := bd_mono hk (show 300 ≤ 100000 by decide)
  unfold g_greater_counts fb_greater_counts
  refine runD_ret ?_
  refine dSeq_step (dSet_of (f2_of (f2_of rfl rfl (gMul_ii bk bk)) (fCallF_of (fCons_of rfl rfl) rfl (e_double_area hn hb hl h)) (gMul_ii (bd_mono (bd_mul hk hk) (by decide)) (bd_mono (bd_abs (bd_A2 hb h12)) (by omega))))) ?_
  refine dSeq_step (dSet_of (f2_of rfl (fCallF_of (fCons_of rfl rfl) rfl (e_rim hn hb hl h)) (gMul_ii bk (bd_mono (bd_rim hb h12) (by omega))))) ?_
  exact dRet_of (fTup_of (fCons_of (f2_of (f2_of (f2_of rfl rfl rfl) rfl (gDiv_pos (by decide) (bd_lit (by decide)))) rfl rfl) (fCons_of (f2_of (f2_of (f2_of rfl rfl rfl) rfl (gDiv_pos (by decide) (bd_lit (by decide)))) rfl rfl) rfl)) (show 2 ≤ 1000 from Nat.le_of_ble_eq_true rfl))
theorem kit_tup : kitB "tuple" "tuple" = some true := by decide +kernel
end LW
/-! part MPlace -/
namespace LW
/-! ### where a point lies: rays to either side -/
theorem mul_sgn (a b : Int) : (0 < a → 0 < b → 0 < a * b) ∧ (0 < a → b < 0 → a * b < 0) ∧ (a < 0 → 0 < b → a * b < 0) ∧ (a < 0 → b < 0 → 0 < a * b) ∧ (a = 0 → a * b = 0) ∧ (b = 0 → a * b = 0) :=
  ⟨fun h1 h2 => Int.mul_pos h1 h2, fun h1 h2 => Int.mul_neg_of_pos_of_neg h1 h2, fun h1 h2 => Int.mul_neg_of_neg_of_pos h1 h2, fun h1 h2 => Int.mul_pos_of_neg_of_neg h1 h2, fun h => by rw [h, Int.zero_mul], fun h => by rw [h, Int.mul_zero]⟩
theorem cr_uv (P : Pt) (s : Sd) : cr s.1 s.2 P = (s.1.1 - P.1) * (s.2.2 - P.2) - (s.1.2 - P.2) * (s.2.1 - P.1) := by
  simp only [cr]; grind
/-! parity along the sides -/
/-! on a side, told by parts -/
/-- the law's test -/
theorem on_law (a b p : Pt) : (decide (cr a b p = 0) && decide ((a.1 - p.1) * (b.1 - p.1) + (a.2 - p.2) * (b.2 - p.2) ≤ 0)) = onB a b p := by
  unfold onB
  by_cases hc : cr a b p = 0
  · rw [decide_eq_true hc, Bool.true_and, Bool.true_and]
    unfold boxB
    refine decide_eq_decide.mpr ⟨fun h => ?_, fun h => ?_⟩
    · -- collinear and not both on one side
      have hc' : (a.1 - p.1) * (b.2 - p.2) = (a.2 - p.2) * (b.1 - p.1) := by
        have := cr_uv p (a, b); simp only at this; omega
      have key : ∀ u1 u2 v1 v2 : Int, u1 * v2 = v1 * u2 → u1 * u2 + v1 * v2 ≤ 0 → u1 * u2 ≤ 0 := fun u1 u2 v1 v2 e h => by
        rcases Int.lt_or_le 0 (u1 * u2) with g | g
        · have hv : v1 * v2 < 0 := by omega
          have g2 := Int.mul_pos g (show 0 < -(v1 * v2) by omega)
          have : u1 * u2 * (-(v1 * v2)) = -((u1 * v2) * (v1 * u2)) := by grind
          rw [this, e] at g2
          have := sq_nn (v1 * u2)
          omega
        · exact g
      have c1 := key _ _ _ _ hc' h
      have c2 := key (a.2 - p.2) (b.2 - p.2) (a.1 - p.1) (b.1 - p.1) (by omega) (by omega)
      have m1 := mul_sgn (a.1 - p.1) (b.1 - p.1)
      have m2 := mul_sgn (a.2 - p.2) (b.2 - p.2)
      generalize (a.1 - p.1) * (b.1 - p.1) = m at *
      generalize (a.2 - p.2) * (b.2 - p.2) = n at *
      omega
    · have m1 := mul_sgn (a.1 - p.1) (b.1 - p.1)
      have m2 := mul_sgn (a.2 - p.2) (b.2 - p.2)
      generalize (a.1 - p.1) * (b.1 - p.1) = m at *
      generalize (a.2 - p.2) * (b.2 - p.2) = n at *
      omega
  · rw [decide_eq_false hc]; rfl
end LW
/-! part MAlike -/
namespace LW
/-! ### is_fence is kept by turnings -/
theorem atI_map' {α β : Type} (f : α → β) (l : List α) (i : Int) : L2.atI (l.map f) i = (L2.atI l i).map f := DL.atI_map
theorem ptI_map {f : Pt → Pt} {l : List Pt} {i : Int} (h0 : -(l.length : Int) ≤ i) (h1 : i < l.length) : ptI (l.map f) i = f (ptI l i) := by
  have e := ptI_ok h0 h1
  unfold ptI at e ⊢
  rw [atI_map' f l i, e]; rfl
/-! ### a fence does not lie on a line -/
theorem isFB_k {l : List Pt} (h : isFB l = true) : (3 ≤ l.length ∧ l.length ≤ 12) ∧ ∀ k : Nat, k < l.length → badK l k = false := by
  unfold isFB at h
  rw [Bool.and_eq_true, Bool.and_eq_true, decide_eq_true_eq] at h
  refine ⟨h.1, fun k hk => ?_⟩
  have h2 := h.2.1
  rw [Bool.not_eq_true', List.any_eq_false] at h2
  have := h2 k (List.mem_range'_1.mpr ⟨by omega, by omega⟩)
  rwa [Bool.not_eq_true] at this
theorem third_ex {l : List Pt} (h : isFB l = true) : ∃ k : Nat, 2 ≤ k ∧ k < l.length ∧ cr (ptI l 0) (ptI l 1) (ptI l (k : Nat)) ≠ 0 := by
  obtain ⟨⟨h3, h12⟩, hk⟩ := isFB_k h
  refine Classical.byContradiction fun hz => ?_
  have col : ∀ k : Nat, k < l.length → cr (ptI l 0) (ptI l 1) (ptI l (k : Nat)) = 0 := fun k hk => by
    by_cases c : 2 ≤ k
    · exact Classical.byContradiction fun z => hz ⟨k, c, hk, z⟩
    · have : k = 0 ∨ k = 1 := by omega
      rcases this with rfl | rfl <;> simp only [cr] <;> grind
  -- neighbours are unlike
  have ne : ∀ i j : Nat, i < j → j < l.length → ptI l (i : Nat) ≠ ptI l (j : Nat) := fun i j hij hj e => by
    have := hk j hj
    unfold badK at this
    rw [Bool.or_eq_false_iff, decide_eq_false_iff_not] at this
    refine this.1 ?_
    rw [← e, ptI_nat (by omega)]
    rw [List.mem_iff_getElem]
    exact ⟨i, by rw [List.length_take]; omega, by rw [List.getElem_take]⟩
  have fold : ∀ k : Nat, k < l.length → ¬ (cr (ptI l ((k : Nat) - 2)) (ptI l ((k : Nat) - 1)) (ptI l (k : Nat)) = 0 ∧ 0 < dt (ptI l ((k : Nat) - 2)) (ptI l ((k : Nat) - 1)) (ptI l (k : Nat))) := fun k hkl => by
    have := hk k hkl
    unfold badK foldB at this
    rw [Bool.or_eq_false_iff, decide_eq_false_iff_not, decide_eq_false_iff_not] at this
    exact this.2
  generalize hA : ptI l 0 = A at *
  generalize hB : ptI l 1 = B at *
  have hAB : A ≠ B := by have := ne 0 1 (by omega) (by omega); rw [← hA, ← hB]; exact this
  let f : Pt → Int := fun p => p.1 * (B.1 - A.1) + p.2 * (B.2 - A.2)
  have nn : 0 < (B.1 - A.1) * (B.1 - A.1) + (B.2 - A.2) * (B.2 - A.2) := by
    have x1 := sq_nn (B.1 - A.1)
    have x2 := sq_nn (B.2 - A.2)
    rcases Int.lt_or_eq_of_le (show 0 ≤ (B.1 - A.1) * (B.1 - A.1) + (B.2 - A.2) * (B.2 - A.2) by omega) with h | h
    · exact h
    · have z1 : (B.1 - A.1) * (B.1 - A.1) = 0 := by omega
      have z2 : (B.2 - A.2) * (B.2 - A.2) = 0 := by omega
      have z3 : B.1 - A.1 = 0 := by rcases Int.mul_eq_zero.mp z1 with h | h <;> exact h
      have z4 : B.2 - A.2 = 0 := by rcases Int.mul_eq_zero.mp z2 with h | h <;> exact h
      exact absurd (Prod.ext (by omega) (by omega)) hAB
  -- one step on, no fold: the same way
  have step : ∀ p q r : Pt, cr A B p = 0 → cr A B q = 0 → cr A B r = 0 → q ≠ r → ¬ (cr p q r = 0 ∧ 0 < dt p q r) → 0 < f q - f p → 0 < f r - f q := fun p q r hp hq hr hqr hf hd => by
    have par : ∀ x y : Pt, cr A B x = 0 → cr A B y = 0 → (B.1 - A.1) * (y.2 - x.2) = (B.2 - A.2) * (y.1 - x.1) := fun x y hx hy => by
      simp only [cr] at hx hy; grind
    have p1 := par p q hp hq
    have p2 := par q r hq hr
    have c0 : cr p q r = 0 := by
      have : ((B.1 - A.1) * (B.1 - A.1) + (B.2 - A.2) * (B.2 - A.2)) * cr p q r = 0 := by simp only [cr]; grind
      rcases Int.mul_eq_zero.mp this with h | h
      · omega
      · exact h
    have d0 : dt p q r ≤ 0 := by
      rcases Int.lt_or_le 0 (dt p q r) with h | h
      · exact absurd ⟨c0, h⟩ hf
      · exact h
    have e : ((B.1 - A.1) * (B.1 - A.1) + (B.2 - A.2) * (B.2 - A.2)) * dt p q r = -((f q - f p) * (f r - f q)) := by
      simp only [dt, f]; grind
    have le := Int.mul_nonpos_of_nonneg_of_nonpos (show 0 ≤ (B.1 - A.1) * (B.1 - A.1) + (B.2 - A.2) * (B.2 - A.2) by omega) d0
    rcases Int.lt_trichotomy (f r - f q) 0 with h | h | h
    · have := Int.mul_neg_of_pos_of_neg hd h; omega
    · -- no step at all
      have e1 : ((B.1 - A.1) * (B.1 - A.1) + (B.2 - A.2) * (B.2 - A.2)) * (r.1 - q.1) = (f r - f q) * (B.1 - A.1) := by simp only [f]; grind
      have e2 : ((B.1 - A.1) * (B.1 - A.1) + (B.2 - A.2) * (B.2 - A.2)) * (r.2 - q.2) = (f r - f q) * (B.2 - A.2) := by simp only [f]; grind
      rw [h, Int.zero_mul] at e1 e2
      have z1 : r.1 - q.1 = 0 := by rcases Int.mul_eq_zero.mp e1 with h | h; omega; exact h
      have z2 : r.2 - q.2 = 0 := by rcases Int.mul_eq_zero.mp e2 with h | h; omega; exact h
      exact absurd (Prod.ext (by omega) (by omega)) hqr
    · exact h
  have up : ∀ k : Nat, k + 1 < l.length → 0 < f (ptI l ((k + 1 : Nat) : Int)) - f (ptI l (k : Nat)) ∧ f A ≤ f (ptI l (k : Nat)) := fun k => by
    induction k with
    | zero =>
      intro _
      have e0 : ptI l ((0 : Nat) : Int) = A := hA
      have e1 : ptI l ((0 + 1 : Nat) : Int) = B := hB
      rw [e0, e1]
      refine ⟨?_, Int.le_refl _⟩
      have : f B - f A = (B.1 - A.1) * (B.1 - A.1) + (B.2 - A.2) * (B.2 - A.2) := by simp only [f]; grind
      rw [this]; exact nn
    | succ k ih =>
      intro hkl
      obtain ⟨i1, i2⟩ := ih (by omega)
      have fk := fold (k + 2) (by omega)
      rw [show (((k + 2 : Nat) : Int) - 2) = (k : Nat) by omega, show (((k + 2 : Nat) : Int) - 1) = ((k + 1 : Nat) : Int) by omega] at fk
      exact ⟨step _ _ _ (col k (by omega)) (col (k + 1) (by omega)) (col (k + 2) (by omega)) (ne (k + 1) (k + 2) (by omega) (by omega)) fk i1, by omega⟩
  obtain ⟨u1, u2⟩ := up (l.length - 2) (by omega)
  rw [show l.length - 2 + 1 = l.length - 1 by omega] at u1
  have f0 := fold 0 (by omega)
  have w2 : ptI l (((0 : Nat) : Int) - 2) = ptI l ((l.length - 2 : Nat) : Int) := by rw [ptI_wrap (by omega) (by omega)]; congr 2; omega
  have w1 : ptI l (((0 : Nat) : Int) - 1) = ptI l ((l.length - 1 : Nat) : Int) := by rw [ptI_wrap (by omega) (by omega)]; congr 2; omega
  have w0 : ptI l ((0 : Nat) : Int) = A := hA
  rw [w2, w1, w0] at f0
  have last := step _ _ _ (col (l.length - 2) (by omega)) (col (l.length - 1) (by omega)) (by simp only [cr]; grind) (by have := ne 0 (l.length - 1) (by omega) (by omega); rw [w0] at this; exact Ne.symm this) f0 u1
  omega
/-! ### the turning of three points -/
end LW
/-! part EF10 -/
namespace LW
open PySem (PyData)
open DL
open L2 (atI ixN kitB)
/-! ### loops that find, loops that keep -/
theorem forF_find {α : Type} {F : SFn} {j : Nat} {Inv : Sto → Prop} (enc : α → PyData) (q : α → Option PyData) : ∀ as : List α, (∀ a ∈ as, ∀ ρ, Inv ρ → ∃ ρ', Inv ρ' ∧ F (ρ.set j (some (.sh (enc a)))) = match q a with | some r => .ret r | none => .next ρ') → ∀ ρ, Inv ρ →
    ∃ ρ', Inv ρ' ∧ forF (tgN j) F (as.map enc) ρ = match as.findSome? q with | some r => .ret r | none => .next ρ'
  | [], _, ρ, hi => ⟨ρ, hi, rfl⟩
  | a :: as, H, ρ, hi => by
    obtain ⟨ρ1, i1, e1⟩ := H a List.mem_cons_self ρ hi
    have e3 : forF (tgN j) F ((a :: as).map enc) ρ = (match F (ρ.set j (some (.sh (enc a)))) with | .next ρ' => forF (tgN j) F (as.map enc) ρ' | .ct ρ' => forF (tgN j) F (as.map enc) ρ' | .brk ρ' => .next ρ' | r => r) := rfl
    rw [e3, e1, List.findSome?_cons]
    cases hq : q a with
    | some r => exact ⟨ρ1, i1, rfl⟩
    | none =>
      obtain ⟨ρ2, i2, e2⟩ := forF_find enc q as (fun x hx => H x (List.mem_cons_of_mem _ hx)) ρ1 i1
      exact ⟨ρ2, i2, e2⟩
theorem forF_all {F : SFn} {j : Nat} {Inv : Sto → Prop} : ∀ ds : List PyData, (∀ d ∈ ds, ∀ ρ, Inv ρ → ∃ ρ', F (ρ.set j (some (.sh d))) = .next ρ' ∧ Inv ρ') → ∀ ρ, Inv ρ → ∃ ρ', forF (tgN j) F ds ρ = .next ρ' ∧ Inv ρ'
  | [], _, ρ, hi => ⟨ρ, rfl, hi⟩
  | d :: ds, H, ρ, hi => by
    obtain ⟨ρ1, e1, i1⟩ := H d List.mem_cons_self ρ hi
    obtain ⟨ρ2, e2, i2⟩ := forF_all ds (fun e he => H e (List.mem_cons_of_mem _ he)) ρ1 i1
    refine ⟨ρ2, ?_, i2⟩
    have e3 : forF (tgN j) F (d :: ds) ρ = (match F (ρ.set j (some (.sh d))) with | .next ρ' => forF (tgN j) F ds ρ' | .ct ρ' => forF (tgN j) F ds ρ' | .brk ρ' => .next ρ' | r => r) := rfl
    rw [e3, e1]; exact e2
theorem kit_ll : kitB "list" "list" = some true := by decide +kernel
theorem kit_tt : kitB "tuple" "tuple" = some true := by decide +kernel
theorem fIsi_list {f : DF} {ρ : DL.Env} {ds : List PyData} (h : f ρ = some (.list ds)) : fIsi' "list" f ρ = some (.bool true) := by
  unfold fIsi'
  rw [h, bind_some']
  simp only [notScr, tyN, kit_ll, if_true, Option.map_some]
theorem fIsi_tupD {f : DF} {ρ : DL.Env} {ds : List PyData} (h : f ρ = some (.tuple ds)) : fIsi' "tuple" f ρ = some (.bool true) := by
  unfold fIsi'
  rw [h, bind_some']
  simp only [notScr, tyN, kit_tt, if_true, Option.map_some]
theorem dFor_of' {fi : DL.Env → Option (List PyData)} {tg : TgF} {F : SFn} {ρ : Sto} {ds : List PyData} {r : Res} (h : fi (vS ρ) = some ds) (h2 : forF tg F ds ρ = r) : dFor fi tg F ρ = r := by unfold dFor; rw [h]; exact h2
theorem e_points_are (l m : List Pt) : g__law_points_are [psD l, psD m] = some (.bool (decide (l = m))) := by
  unfold g__law_points_are fb__law_points_are
  refine runD_ret ?_
  show dSeq _ _ [some (.sh (psD l)), some (.sh (psD m)), none] = _
  have t1 : fOr (fNot (fTst (fIsi' "list" (fVar 0)))) (fTst (f2 gNe (fCall gLen (fCons (fVar 0) fNil)) (fCall gLen (fCons (fVar 1) fNil)))) (vO [some (.sh (psD l)), some (.sh (psD m)), none]) = some (!true || !decide ((l.length : Int) = m.length)) :=
    fOr_of (fNot_of (fTst_of (fIsi_list rfl))) (fTst_of (f2_of (fCall_of (fCons_of rfl rfl) (gLen_psD l)) (fCall_of (fCons_of rfl rfl) (gLen_psD m)) gNe_int))
  by_cases hl : l.length = m.length
  · refine dSeq_step ((dIf_f (t1.trans (by rw [decide_eq_true (show (l.length : Int) = m.length by omega)]; rfl))).trans rfl) ?_
    obtain ⟨ρ', e, c, rfl⟩ := forF_all (F := dIf (fOr (fNot (fTst (fIsi' "tuple" (fVar 2)))) (fOr (fTst (f2 gNe (fCall gLen (fCons (fVar 2) fNil)) (fC (.int 2)))) (fOr (fNot (fTst (fCallF 1 g__law_whole (fCons (f2 gIx (fVar 2) (fC (.int 0))) fNil)))) (fNot (fTst (fCallF 1 g__law_whole (fCons (f2 gIx (fVar 2) (fC (.int 1))) fNil))))))) (dRet (fC (.bool false))) dNext) (j := 2) (Inv := fun ρ => ∃ c, ρ = [some (.sh (psD l)), some (.sh (psD m)), c]) (l.map pD) (fun d hd ρ ⟨c, hc⟩ => by
      obtain ⟨p, hp, rfl⟩ := List.mem_map.mp hd
      subst hc
      refine ⟨_, (dIf_f ((fOr_of (fNot_of (fTst_of (fIsi_tupD (ds := [.int p.1, .int p.2]) rfl))) (fOr_of (fTst_of (f2_of (fCall_of (fCons_of rfl rfl) rfl) rfl gNe_int)) (fOr_of (fNot_of (fTst_of (fCallF_of (fCons_of (f2_of rfl rfl (gIx_p0 p)) rfl) rfl (e_whole _)))) (fNot_of (fTst_of (fCallF_of (fCons_of (f2_of rfl rfl (gIx_p1 p)) rfl) rfl (e_whole _))))))).trans rfl)).trans rfl, ⟨_, rfl⟩⟩) [some (.sh (psD l)), some (.sh (psD m)), none] ⟨none, rfl⟩
    refine dSeq_step (dFor_of' (fIL_of rfl) e) ?_
    exact dRet_of (f2_of rfl rfl (gEq_psD l m))
  · rw [dSeq_ret ((dIf_t (t1.trans (by rw [decide_eq_false (show ¬ (l.length : Int) = m.length by omega)]; rfl))).trans rfl), decide_eq_false (fun z => hl (by rw [z]))]
/-! ### turned, greater -/
end LW
/-! part EF9 -/
namespace LW
open PySem (PyData)
open DL
open L2 (atI ixN kitB)
local macro_rules | `(tactic| walk_at "bd") => `(tactic| (apply bd_mono; (focus (repeat' (first | assumption | apply bd_sub | apply bd_add | apply bd_mul | apply bd_neg | apply bd_ediv | (apply bd_emod <;> first | assumption | decide | omega | exact bd_lit (n := 200) (by decide)) | exact bd_lit (n := 200) (by decide)))); decide))
local macro_rules | `(tactic| walk_at "dis") => `(tactic| first | assumption | omega | decide | walk_at "bd")
local macro_rules | `(tactic| walk_at "dl") => `(tactic| simp (disch := walk_at "dis") only [runD, DL.runN, sto0, dSeq, dSet, dSetO, dRet, dRetN, dNext, dIf, dDrop, vS, vO, cS, cO, fVar, f2, f1, fC, fTst, asBool, fCallF, fCallFN, fCall, fCallN, fCons, fNil, fAnd, fOr, fNot, fB, fTup, fL,
  List.map_cons, List.map_nil, List.length_cons, List.length_nil, List.replicate_succ, List.replicate_zero, List.cons_append, List.nil_append, List.getElem?_cons_zero, List.getElem?_cons_succ, Option.join_some, bind_some', Option.map_some,
  List.set_cons_zero, List.set_cons_succ, gI0_ii, gMul_ii, gDiv_pos, gMod_pos, gPow10, e_cell, e_whole, gAbs_int, Bool.not_true, Bool.not_false, Int.reduceToNat, gIx_list, gIx_tup, gIx_scr, gLen_scr, pair0, pair1, gEq_int, gNe_int, Nat.reduceSub, Nat.reduceAdd, Nat.reduceEqDiff, Nat.reduceLeDiff, if_true, if_false, ite_true, ite_false, Bool.true_eq_false, Bool.false_eq_true, reduceIte])
/-! ### where -/
theorem gEq_bool (a b : Bool) : gEq (.bool a) (.bool b) = some (.bool (a == b)) := by
  cases a <;> cases b <;> simp [gEq, PySem.SeqAt.shaped, PyData.canLay0, PyData.depth, PyData.eqv]
/-! the law's own -/
theorem e_law_cross {n : Nat} (hn : n ≤ 4000) {o a b : Pt} (ho : PB n o) (ha : PB n a) (hb : PB n b) : g__law_cross [pD o, pD a, pD b] = some (.int (cr o a b)) := e_cross hn ho ha hb
end LW
/-! part MKone -/
namespace LW
/-! what the law asks of a fence, told plain -/
def fold2 (m a b : Pt) : Bool := onB m a b || onB m b a
def lawKJ (l : List Pt) (k j : Nat) : Bool := if j + 1 = k then fold2 (ptI l ((k : Nat) - 1)) (ptI l (k : Nat)) (ptI l ((k : Nat) - 2)) else
  if j = 0 ∧ k + 1 = l.length then fold2 (ptI l (k : Nat)) (ptI l ((k : Nat) - 1)) (ptI l ((j : Nat) : Int)) else meetB (ptI l ((k : Nat) - 1)) (ptI l (k : Nat)) (ptI l ((j : Nat) - 1)) (ptI l (j : Nat))
def lawF (l : List Pt) : Bool := decide (3 ≤ l.length ∧ l.length ≤ 12) && (decide l.Nodup && !(List.range' 0 l.length).any fun k => (List.range' 0 k).any (lawKJ l k))
theorem fold2_is {m a b : Pt} (ha : a ≠ m) (hb : b ≠ m) : fold2 m a b = foldB a m b := by
  unfold fold2 foldB
  rw [← on_law, ← on_law, Bool.eq_iff_iff]
  simp only [Bool.or_eq_true, Bool.and_eq_true, decide_eq_true_eq]
  have sq : ∀ {p q : Int}, ¬ (p = 0 ∧ q = 0) → 0 < p * p + q * q := fun {p q} h => by
    have h1 := sq_nn p
    have h2 := sq_nn q
    rcases Int.lt_or_le 0 (p * p + q * q) with z | z
    · exact z
    · have p0 : p * p = 0 := by omega
      have q0 : q * q = 0 := by omega
      exact absurd ⟨by rcases Int.mul_eq_zero.mp p0 with h | h <;> exact h, by rcases Int.mul_eq_zero.mp q0 with h | h <;> exact h⟩ h
  have hu := sq (p := a.1 - m.1) (q := a.2 - m.2) (fun z => ha (Prod.ext (by omega) (by omega)))
  have hv := sq (p := b.1 - m.1) (q := b.2 - m.2) (fun z => hb (Prod.ext (by omega) (by omega)))
  have c1 : cr m a b = -(cr a m b) := by simp only [cr]; grind
  have c2 : cr m b a = cr a m b := by simp only [cr]; grind
  have e1 : (m.1 - b.1) * (a.1 - b.1) + (m.2 - b.2) * (a.2 - b.2) = ((b.1 - m.1) * (b.1 - m.1) + (b.2 - m.2) * (b.2 - m.2)) - dt a m b := by simp only [dt]; grind
  have e2 : (m.1 - a.1) * (b.1 - a.1) + (m.2 - a.2) * (b.2 - a.2) = ((a.1 - m.1) * (a.1 - m.1) + (a.2 - m.2) * (a.2 - m.2)) - dt a m b := by simp only [dt]; grind
  rw [e1, e2, c1, c2]
  have key : cr a m b = 0 → dt a m b * dt a m b = ((a.1 - m.1) * (a.1 - m.1) + (a.2 - m.2) * (a.2 - m.2)) * ((b.1 - m.1) * (b.1 - m.1) + (b.2 - m.2) * (b.2 - m.2)) := fun z => by
    have : dt a m b * dt a m b + cr a m b * cr a m b = ((a.1 - m.1) * (a.1 - m.1) + (a.2 - m.2) * (a.2 - m.2)) * ((b.1 - m.1) * (b.1 - m.1) + (b.2 - m.2) * (b.2 - m.2)) := by simp only [dt, cr]; grind
    rw [z] at this
    omega
  generalize (a.1 - m.1) * (a.1 - m.1) + (a.2 - m.2) * (a.2 - m.2) = U at *
  generalize (b.1 - m.1) * (b.1 - m.1) + (b.2 - m.2) * (b.2 - m.2) = W at *
  generalize dt a m b = D at *
  constructor
  · rintro (⟨h1, h2⟩ | ⟨h1, h2⟩)
    · exact ⟨by omega, by omega⟩
    · exact ⟨h1, by omega⟩
  · rintro ⟨h1, h2⟩
    have k := key h1
    rcases Int.lt_or_le D W with h | h
    · right
      refine ⟨h1, ?_⟩
      rcases Int.lt_or_le D U with h' | h'
      · have x1 : D * D < U * D := Int.mul_lt_mul_of_pos_right h' h2
        have x2 : U * D < U * W := Int.mul_lt_mul_of_pos_left h (by omega)
        omega
      · omega
    · exact .inl ⟨by omega, by omega⟩
theorem foldB_comm (a m b : Pt) : foldB a m b = foldB b m a := by
  unfold foldB
  have c : cr b m a = -(cr a m b) := by simp only [cr]; grind
  have d : dt b m a = dt a m b := by simp only [dt]; grind
  rw [c, d]
  exact decide_eq_decide.mpr (by omega)
theorem any_false {p : Nat → Bool} {n : Nat} : (List.range' 0 n).any p = false ↔ ∀ k, k < n → p k = false := by
  rw [List.any_eq_false]
  constructor
  · intro h k hk
    have := h k (List.mem_range'_1.mpr ⟨by omega, by omega⟩)
    rwa [Bool.not_eq_true] at this
  · intro h k hk
    have := (List.mem_range'_1.mp hk).2
    rw [h k (by omega)]; decide
theorem isFB_iff {l : List Pt} (hl : 3 ≤ l.length ∧ l.length ≤ 12) : isFB l = true ↔ (∀ k, k < l.length → badK l k = false) ∧ ∀ k i, k < l.length → k + 2 + i < l.length → badKJ l k (k + 2 + i) = false := by
  unfold isFB
  rw [decide_eq_true hl, Bool.true_and, Bool.and_eq_true, Bool.not_eq_true', Bool.not_eq_true', any_false, any_false]
  constructor
  · rintro ⟨h1, h2⟩
    exact ⟨h1, fun k i hk hi => any_false.mp (h2 k hk) i (by omega)⟩
  · rintro ⟨h1, h2⟩
    exact ⟨h1, fun k hk => any_false.mpr fun i hi => h2 k i hk (by omega)⟩
theorem lawF_iff {l : List Pt} (hl : 3 ≤ l.length ∧ l.length ≤ 12) : lawF l = true ↔ l.Nodup ∧ ∀ k j, k < l.length → j < k → lawKJ l k j = false := by
  unfold lawF
  rw [decide_eq_true hl, Bool.true_and, Bool.and_eq_true, Bool.not_eq_true', any_false, decide_eq_true_eq]
  constructor
  · rintro ⟨h1, h2⟩
    exact ⟨h1, fun k j hk hj => any_false.mp (h2 k hk) j hj⟩
  · rintro ⟨h1, h2⟩
    exact ⟨h1, fun k hk => any_false.mpr fun j hj => h2 k j hk hj⟩
theorem ptI_w1 {l : List Pt} (h : 0 < l.length) : ptI l (((0 : Nat) : Int) - 1) = ptI l ((l.length - 1 : Nat) : Int) := by
  rw [ptI_wrap (by omega) (by omega)]
  congr 1; omega
theorem nodup_of_badK {l : List Pt} (h : ∀ k, k < l.length → badK l k = false) : l.Nodup := by
  refine List.pairwise_iff_getElem.mpr fun i j hi hj hij e => ?_
  have := h j hj
  unfold badK at this
  rw [Bool.or_eq_false_iff, decide_eq_false_iff_not, ptI_nat hj] at this
  refine this.1 (List.mem_iff_getElem.mpr ⟨i, by rw [List.length_take]; omega, ?_⟩)
  rw [List.getElem_take]; exact e
theorem badK_nodup {l : List Pt} (hn : l.Nodup) {k : Nat} (hk : k < l.length) : badK l k = foldB (ptI l ((k : Nat) - 2)) (ptI l ((k : Nat) - 1)) (ptI l (k : Nat)) := by
  unfold badK
  rw [decide_eq_false, Bool.false_or]
  intro h
  obtain ⟨i, hi, e⟩ := List.mem_iff_getElem.mp h
  rw [List.length_take] at hi
  rw [List.getElem_take, ptI_nat hk] at e
  exact (List.pairwise_iff_getElem.mp hn) i k (by omega) hk (by omega) e
theorem pt_ne {l : List Pt} (hn : l.Nodup) {i j : Int} (h0 : -(l.length : Int) ≤ i) (h1 : i < l.length) (h2 : -(l.length : Int) ≤ j) (h3 : j < l.length) (h : (i - j) ≠ 0) (h' : i - j ≠ l.length) (h'' : j - i ≠ l.length) : ptI l i ≠ ptI l j := by
  have norm : ∀ {i : Int}, -(l.length : Int) ≤ i → i < l.length → ∃ k : Nat, k < l.length ∧ ptI l i = ptI l (k : Nat) ∧ ((k : Int) = i ∨ (k : Int) = i + l.length) := fun {i} h0 h1 => by
    by_cases c : i < 0
    · exact ⟨(i + l.length).toNat, by omega, ptI_wrap h0 c, .inr (by omega)⟩
    · exact ⟨i.toNat, by omega, by congr 1; omega, .inl (by omega)⟩
  obtain ⟨a, ha, ea, da⟩ := norm h0 h1
  obtain ⟨b, hb, eb, db⟩ := norm h2 h3
  rw [ea, eb]
  intro e
  have := nodup_at hn ha hb e
  omega
theorem lawF_is (l : List Pt) : lawF l = isFB l := by
  by_cases hl : 3 ≤ l.length ∧ l.length ≤ 12
  case neg => unfold lawF isFB; rw [decide_eq_false hl]; rfl
  rw [Bool.eq_iff_iff, isFB_iff hl, lawF_iff hl]
  -- the two ways to tell a pair
  have pA : l.Nodup → ∀ k, 1 ≤ k → k < l.length → lawKJ l k (k - 1) = badK l k := fun hn k h1 hk => by
    unfold lawKJ
    rw [if_pos (by omega), badK_nodup hn hk, fold2_is (pt_ne hn (by omega) (by omega) (by omega) (by omega) (by omega) (by omega) (by omega)) (pt_ne hn (by omega) (by omega) (by omega) (by omega) (by omega) (by omega) (by omega)), foldB_comm]
  have pB : l.Nodup → lawKJ l (l.length - 1) 0 = badK l 0 := fun hn => by
    unfold lawKJ
    rw [if_neg (by omega), if_pos ⟨rfl, by omega⟩, badK_nodup hn (by omega), fold2_is (pt_ne hn (by omega) (by omega) (by omega) (by omega) (by omega) (by omega) (by omega)) (pt_ne hn (by omega) (by omega) (by omega) (by omega) (by omega) (by omega) (by omega))]
    have e1 : ptI l (((0 : Nat) : Int) - 1) = ptI l ((l.length - 1 : Nat) : Int) := ptI_w1 (by omega)
    have e2 : ptI l (((0 : Nat) : Int) - 2) = ptI l (((l.length - 1 : Nat) : Int) - 1) := by
      rw [ptI_wrap (by omega) (by omega)]
      congr 1; omega
    rw [e1, e2]
  have mod1 : ∀ k : Nat, k + 1 < l.length → (((k : Nat) : Int) + 1) % (l.length : Int) = ((k + 1 : Nat) : Int) := fun k hk => by
    rw [Int.emod_eq_of_lt (by omega) (by omega)]; omega
  have modn : (((l.length - 1 : Nat) : Int) + 1) % (l.length : Int) = 0 := by
    have : (((l.length - 1 : Nat) : Int) + 1) = (l.length : Int) := by omega
    rw [this, Int.emod_self]
  have pC : ∀ k j, 1 ≤ j → k < l.length → j + 1 < k → lawKJ l k j = badKJ l (j - 1) (k - 1) := fun k j h1 hk hj => by
    unfold lawKJ badKJ
    rw [if_neg (by omega), if_neg (by omega)]
    rw [mod1 (k - 1) (by omega), mod1 (j - 1) (by omega), decide_eq_true (by omega), Bool.true_and, meet_comm]
    have a1 : ((k - 1 + 1 : Nat) : Int) = k := by omega
    have a2 : ((j - 1 + 1 : Nat) : Int) = j := by omega
    have a3 : ((k - 1 : Nat) : Int) = (k : Int) - 1 := by omega
    have a4 : ((j - 1 : Nat) : Int) = (j : Int) - 1 := by omega
    rw [a1, a2, a3, a4]
  have pD : ∀ k, 2 ≤ k → k + 1 < l.length → lawKJ l k 0 = badKJ l (k - 1) (l.length - 1) := fun k h2 hk => by
    unfold lawKJ badKJ
    rw [if_neg (by omega), if_neg (by omega)]
    rw [mod1 (k - 1) (by omega), modn, decide_eq_true (by omega), Bool.true_and]
    have a1 : ((k - 1 + 1 : Nat) : Int) = k := by omega
    have a3 : ((k - 1 : Nat) : Int) = (k : Int) - 1 := by omega
    rw [a1, a3, ptI_w1 (by omega)]
    rfl
  constructor
  · rintro ⟨hn, h⟩
    refine ⟨fun k hk => ?_, fun k i hk hi => ?_⟩
    · by_cases h0 : k = 0
      · subst h0; rw [← pB hn]; exact h _ _ (by omega) (by omega)
      · rw [← pA hn k (by omega) hk]; exact h _ _ hk (by omega)
    · by_cases hlast : k + 2 + i + 1 = l.length
      · by_cases hk0 : k = 0
        · subst hk0
          unfold badKJ
          have e : ((0 + 2 + i : Nat) : Int) + 1 = (l.length : Int) := by omega
          rw [e, Int.emod_self, decide_eq_false (by omega)]; rfl
        · have := pD (k + 1) (by omega) (by omega)
          have e1 : k + 1 - 1 = k := by omega
          have e2 : l.length - 1 = k + 2 + i := by omega
          rw [e1, e2] at this
          rw [← this]
          exact h _ _ (by omega) (by omega)
      · have := pC (k + 2 + i + 1) (k + 1) (by omega) (by omega) (by omega)
        have e1 : k + 1 - 1 = k := by omega
        have e2 : k + 2 + i + 1 - 1 = k + 2 + i := by omega
        rw [e1, e2] at this
        rw [← this]
        exact h _ _ (by omega) (by omega)
  · rintro ⟨h1, h2⟩
    have hn := nodup_of_badK h1
    refine ⟨hn, fun k j hk hj => ?_⟩
    by_cases ha : j + 1 = k
    · have := pA hn k (by omega) hk
      have e1 : k - 1 = j := by omega
      rw [e1] at this
      rw [this]; exact h1 k hk
    · by_cases hj0 : j = 0
      · subst hj0
        by_cases hb : k + 1 = l.length
        · have := pB hn
          have e1 : l.length - 1 = k := by omega
          rw [e1] at this
          rw [this]; exact h1 0 (by omega)
        · rw [pD k (by omega) (by omega)]
          have := h2 (k - 1) (l.length - 1 - (k - 1 + 2)) (by omega) (by omega)
          have e : k - 1 + 2 + (l.length - 1 - (k - 1 + 2)) = l.length - 1 := by omega
          rw [e] at this; exact this
      · rw [pC k j (by omega) hk (by omega)]
        have := h2 (j - 1) (k - 1 - (j - 1 + 2)) (by omega) (by omega)
        have e : j - 1 + 2 + (k - 1 - (j - 1 + 2)) = k - 1 := by omega
        rw [e] at this; exact this
end LW
/-! part EF11 -/
namespace LW
open PySem (PyData)
open DL
open L2 (atI ixN kitB)
/-! ### the law's own test of a fence -/
/-! the walk over all pairs -/
end LW
/-! part MPar -/
namespace LW
/-! ### the parity of crossings does not hang on the ray -/
end LW
/-! part MFloor -/
/-! floor sums, plain -/
namespace LW
end LW
/-! part MPick1 -/
namespace LW
/-! ### counting on a window -/
def ind (b : Bool) : Int := if b then 1 else 0
/-! two windows at once -/
/-! ### floor sums under a side -/
end LW
/-! part MPick4 -/
namespace LW
/-! ### how many there are of a kind -/
/-! ### chains that rise in x -/
def wd (s : Sd) : Int := s.2.1 - s.1.1
def num (s : Sd) (x : Int) : Int := s.1.2 * wd s + (s.2.2 - s.1.2) * (x - s.1.1)
def fl (s : Sd) (x : Int) : Int := num s x / wd s
/-! ### where a point lies in a ring of two chains -/
theorem sds_mono (s : Pt) (ls : List Pt) (e : Pt) (us : List Pt) : (sdsL (monoL s ls e us)).Perm (chain s (ls ++ [e]) ++ (chain s (us ++ [e])).map flip) := by
  have : sdsL (monoL s ls e us) = chain s (ls ++ [e]) ++ chain e (us.reverse ++ [s]) := by
    show chain s (ls ++ e :: us.reverse ++ [s]) = _
    rw [List.append_assoc, List.cons_append, chain_app]
  rw [this, ← chain_rev]
  exact List.Perm.append_left _ ((List.reverse_perm _).map _)
end LW
/-! part MPick5 -/
namespace LW
/-! ### points by columns -/
def iv (x lo hi : Int) : List Pt := (List.range' 0 (hi + 1 - lo).toNat).map fun j => (x, lo + ((j : Nat) : Int))
/-! ### sums along a side -/
/-! ### counting -/
theorem fl_lt {D n y : Int} (hD : 0 < D) : (n < D * y ↔ n / D + 1 ≤ y) ∧ (D * y < n ↔ y ≤ -((-n) / D) - 1) ∧ (n ≤ D * y ↔ -((-n) / D) ≤ y) ∧ (D * y ≤ n ↔ y ≤ n / D) := by
  have h1 : n < D * y ↔ n / D < y := by rw [Int.ediv_lt_iff_lt_mul hD, Int.mul_comm]
  have h2 : D * y < n ↔ (-n) / D < -y := by rw [Int.ediv_lt_iff_lt_mul hD, Int.neg_mul, Int.mul_comm y]; omega
  have h3 : D * y ≤ n ↔ y ≤ n / D := by rw [Int.le_ediv_iff_mul_le hD, Int.mul_comm]
  have h4 : n ≤ D * y ↔ -y ≤ (-n) / D := by rw [Int.le_ediv_iff_mul_le hD, Int.neg_mul, Int.mul_comm y]; omega
  omega
/-- what is below, rounded down, and above, rounded up -/
theorem fl_ce {D E n k : Int} (hD : 0 < D) (hE : 0 < E) (h : E * n < D * k) : n / D < -((-k) / E) ∧ -((-n) / D) ≤ k / E + 1 := by
  constructor
  · rcases Int.lt_or_le (n / D) (-((-k) / E)) with c | c
    · exact c
    · -- k ≤ E y and D y ≤ n at y = n / D
      have a := ((fl_lt (n := k) (y := n / D) hE).2.2.1).mpr c
      have b := ((fl_lt (n := n) (y := n / D) hD).2.2.2).mpr (Int.le_refl _)
      have c1 := Int.mul_le_mul_of_nonneg_left a (show 0 ≤ D by omega)
      have c2 := Int.mul_le_mul_of_nonneg_left b (show 0 ≤ E by omega)
      have : D * (E * (n / D)) = E * (D * (n / D)) := by grind
      omega
  · rcases Int.lt_or_le (k / E + 1) (-((-n) / D)) with c | c
    · have a := ((fl_lt (n := n) (y := k / E + 1) hD).2.1).mpr (by omega)
      have b := ((fl_lt (n := k) (y := k / E + 1) hE).1).mpr (Int.le_refl _)
      have c1 := Int.mul_lt_mul_of_pos_left a hE
      have c2 := Int.mul_lt_mul_of_pos_left b hD
      have : D * (E * (k / E + 1)) = E * (D * (k / E + 1)) := by grind
      omega
    · exact c
section
variable {s e : Pt} {ls us : List Pt}
end
end LW
/-! part MPick6 -/
namespace LW
def Aff.inv (t : Aff) : Aff := ⟨t.det * t.d, -(t.det * t.b), -(t.det * t.c), t.det * t.a, t.det * (t.b * t.f - t.d * t.e), t.det * (t.c * t.e - t.a * t.f)⟩
theorem inv_ap {t : Aff} (hd : t.det = 1 ∨ t.det = -1) (p : Pt) : t.inv.ap (t.ap p) = p ∧ t.ap (t.inv.ap p) = p := by
  have e : t.det * t.det = 1 := by rcases hd with h | h <;> rw [h] <;> rfl
  have e2 : t.det = t.a * t.d - t.b * t.c := rfl
  constructor
  · apply Prod.ext
    · simp only [Aff.ap, Aff.inv]
      have : t.det * t.d * (t.a * p.1 + t.b * p.2 + t.e) + -(t.det * t.b) * (t.c * p.1 + t.d * p.2 + t.f) + t.det * (t.b * t.f - t.d * t.e) = t.det * (t.a * t.d - t.b * t.c) * p.1 := by grind
      rw [this, ← e2, e, Int.one_mul]
    · simp only [Aff.ap, Aff.inv]
      have : -(t.det * t.c) * (t.a * p.1 + t.b * p.2 + t.e) + t.det * t.a * (t.c * p.1 + t.d * p.2 + t.f) + t.det * (t.c * t.e - t.a * t.f) = t.det * (t.a * t.d - t.b * t.c) * p.2 := by grind
      rw [this, ← e2, e, Int.one_mul]
  · apply Prod.ext
    · simp only [Aff.ap, Aff.inv]
      have : t.a * (t.det * t.d * p.1 + -(t.det * t.b) * p.2 + t.det * (t.b * t.f - t.d * t.e)) + t.b * (-(t.det * t.c) * p.1 + t.det * t.a * p.2 + t.det * (t.c * t.e - t.a * t.f)) + t.e = t.det * (t.a * t.d - t.b * t.c) * (p.1 - t.e) + t.e := by grind
      rw [this, ← e2, e, Int.one_mul]; omega
    · simp only [Aff.ap, Aff.inv]
      have : t.c * (t.det * t.d * p.1 + -(t.det * t.b) * p.2 + t.det * (t.b * t.f - t.d * t.e)) + t.d * (-(t.det * t.c) * p.1 + t.det * t.a * p.2 + t.det * (t.c * t.e - t.a * t.f)) + t.f = t.det * (t.a * t.d - t.b * t.c) * (p.2 - t.f) + t.f := by grind
      rw [this, ← e2, e, Int.one_mul]; omega
/-! ### outside of the box -/
/-! ### what is drawn, made greater -/
end LW
/-! part MPick7 -/
namespace LW
end LW
/-! part EF12 -/
namespace LW
open PySem (PyData Str)
open DL
open L2 (atI ixN kitB)
/-! ### going through points, counting -/
theorem forF_acc {α S : Type} {tg : TgF} {F : SFn} {enc : α → PyData} (asg : α → Asg) (st : S → Sto → Prop) (step : S → α → S) : ∀ (as : List α) (s : S) (ρ : Sto), (∀ a ∈ as, tg (enc a) = some (asg a)) →
    (∀ a ∈ as, ∀ s ρ, st s ρ → ∃ ρ', F (setSh ρ (asg a)) = .next ρ' ∧ st (step s a) ρ') → st s ρ → ∃ ρ', forF tg F (as.map enc) ρ = .next ρ' ∧ st (as.foldl step s) ρ'
  | [], s, ρ, _, _, h => ⟨ρ, rfl, h⟩
  | a :: as, s, ρ, ht, H, h => by
    obtain ⟨ρ1, e1, h1⟩ := H a List.mem_cons_self s ρ h
    obtain ⟨ρ2, e2, h2⟩ := forF_acc asg st step as (step s a) ρ1 (fun x hx => ht x (List.mem_cons_of_mem _ hx)) (fun x hx => H x (List.mem_cons_of_mem _ hx)) h1
    refine ⟨ρ2, ?_, h2⟩
    rw [List.map_cons]
    show (match tg (enc a) with | none => Res.fail | some asg => match F (setSh ρ asg) with | .next ρ' => forF tg F (as.map enc) ρ' | .ct ρ' => forF tg F (as.map enc) ρ' | .brk ρ' => .next ρ' | r => r) = _
    rw [ht a List.mem_cons_self]
    show (match F (setSh ρ (asg a)) with | .next ρ' => forF tg F (as.map enc) ρ' | .ct ρ' => forF tg F (as.map enc) ρ' | .brk ρ' => .next ρ' | r => r) = _
    rw [e1]; exact e2
theorem gIx_p0' (p : Pt) : gIx (pD p) (.int 0) = some (.int p.1) := rfl
theorem gIx_p1' (p : Pt) : gIx (pD p) (.int 1) = some (.int p.2) := rfl
end LW
/-! part MTri -/
namespace LW
/-! ### ears by number -/
def isEarB (l : List Pt) (k : Nat) : Bool :=
  decide (0 < cr (ptI l ((k : Nat) - 1 : Int)) (ptI l (k : Nat)) (ptI l (((k : Nat) + 1 : Int) % l.length))) &&
  l.all fun p => (decide (p = ptI l ((k : Nat) - 1 : Int)) || decide (p = ptI l (k : Nat)) || decide (p = ptI l (((k : Nat) + 1 : Int) % l.length))) ||
    !(decide (0 ≤ cr (ptI l ((k : Nat) - 1 : Int)) (ptI l (k : Nat)) p) && (decide (0 ≤ cr (ptI l (k : Nat)) (ptI l (((k : Nat) + 1 : Int) % l.length)) p) && decide (0 ≤ cr (ptI l (((k : Nat) + 1 : Int) % l.length)) (ptI l ((k : Nat) - 1 : Int)) p)))
theorem isEarB_iff {l : List Pt} {k : Nat} : isEarB l k = true ↔ Ear l (ptI l ((k : Nat) - 1 : Int)) (ptI l (k : Nat)) (ptI l (((k : Nat) + 1 : Int) % l.length)) := by
  unfold isEarB Ear
  rw [Bool.and_eq_true, decide_eq_true_eq, List.all_eq_true]
  refine and_congr Iff.rfl ⟨fun h p hp n1 n2 n3 k1 k2 k3 => ?_, fun h p hp => ?_⟩
  · have := h p hp
    rw [decide_eq_false n1, decide_eq_false n2, decide_eq_false n3, decide_eq_true k1, decide_eq_true k2, decide_eq_true k3] at this
    cases this
  · by_cases n1 : p = ptI l ((k : Nat) - 1 : Int)
    · rw [decide_eq_true n1]; rfl
    · by_cases n2 : p = ptI l (k : Nat)
      · rw [decide_eq_true n2]; simp
      · by_cases n3 : p = ptI l (((k : Nat) + 1 : Int) % l.length)
        · rw [decide_eq_true n3]; simp
        · rw [Bool.or_eq_true]; right
          rw [Bool.not_eq_true']
          rw [Bool.and_eq_false_iff, Bool.and_eq_false_iff, decide_eq_false_iff_not, decide_eq_false_iff_not, decide_eq_false_iff_not]
          by_cases k1 : 0 ≤ cr (ptI l ((k : Nat) - 1 : Int)) (ptI l (k : Nat)) p
          · by_cases k2 : 0 ≤ cr (ptI l (k : Nat)) (ptI l (((k : Nat) + 1 : Int) % l.length)) p
            · exact .inr (.inr fun k3 => h p hp n1 n2 n3 k1 k2 k3)
            · exact .inr (.inl k2)
          · exact .inl k1
theorem nb_at {l : List Pt} {k : Nat} (hk : k < l.length) (h2 : 2 ≤ l.length) : l.drop k ++ l.take k = ptI l (k : Nat) :: (l.drop (k + 1) ++ l.take k) ∧ (l.drop (k + 1) ++ l.take k).head? = some (ptI l (((k : Nat) + 1 : Int) % l.length)) ∧ (l.drop (k + 1) ++ l.take k).getLast? = some (ptI l ((k : Nat) - 1 : Int)) := by
  refine ⟨?_, ?_, ?_⟩
  · rw [List.drop_eq_getElem_cons hk, ptI_nat hk]; rfl
  · by_cases h : k + 1 < l.length
    · have e : ((k : Int) + 1) % l.length = ((k + 1 : Nat) : Int) := by rw [Int.emod_eq_of_lt (by omega) (by omega)]; omega
      rw [e, ptI_nat h, List.drop_eq_getElem_cons h]; rfl
    · have e0 : k + 1 = l.length := by omega
      have e : ((k : Int) + 1) % l.length = ((0 : Nat) : Int) := by
        have : ((k : Int) + 1) = l.length := by omega
        rw [this, Int.emod_self]; rfl
      rw [e, ptI_nat (by omega), List.drop_eq_nil_of_le (by omega), List.nil_append]
      cases l with
      | nil => simp at hk
      | cons p r =>
        cases k with
        | zero => simp at e0 h2; omega
        | succ k => rfl
  · by_cases h : k = 0
    · subst h
      have e : ((0 : Nat) : Int) - 1 = -1 := rfl
      rw [e, List.take_zero, List.append_nil]
      unfold ptI
      rw [atI_neg (by omega) (by omega)]
      rw [List.getLast?_drop, if_neg (by omega)]
      have e2 : ((-1 : Int) + l.length).toNat = l.length - 1 := by omega
      rw [e2, List.getLast?_eq_getElem?, List.getElem?_eq_getElem (by omega)]; rfl
    · have e : ((k : Nat) : Int) - 1 = ((k - 1 : Nat) : Int) := by omega
      have ht : (l.take k) = (l.take (k - 1)) ++ [l[k - 1]] := by
        have := List.take_succ_eq_append_getElem (l := l) (i := k - 1) (by omega)
        rwa [show k - 1 + 1 = k by omega] at this
      rw [e, ptI_nat (by omega), ht, ← List.append_assoc, List.getLast?_concat]
theorem isRot_at (l : List Pt) (k : Nat) : IsRot l (l.drop k ++ l.take k) := ⟨l.take k, l.drop k, (List.take_append_drop k l).symm, rfl⟩
theorem isRot_erase (l : List Pt) (k : Nat) : IsRot (l.eraseIdx k) (l.drop (k + 1) ++ l.take k) := ⟨l.take k, l.drop (k + 1), List.eraseIdx_eq_take_drop_succ _ _, rfl⟩
theorem hasEar_num {l : List Pt} (h : HasEar l) (h2 : 2 ≤ l.length) (hnd : True) : ∃ k, k < l.length ∧ isEarB l k = true := by
  obtain ⟨b, w, a, c, ⟨x, y, h1, h3⟩, hc, ha, he⟩ := h
  have key : ∀ k, k < l.length → l.drop k ++ l.take k = b :: w → isEarB l k = true := fun k hk e => by
    obtain ⟨n1, n2, n3⟩ := nb_at hk h2
    rw [n1] at e
    injection e with e1 e2
    rw [e2, hc] at n2
    rw [e2, ha] at n3
    rw [isEarB_iff, e1, ← Option.some.inj n2, ← Option.some.inj n3]
    refine he.mem fun p hp => ?_
    have : p ∈ l.drop k ++ l.take k := ((isRot_at l k).mem p).mp hp
    rw [n1, e1, e2] at this; exact this
  by_cases hy : y = []
  · subst hy
    simp at h1 h3
    refine ⟨0, by omega, key 0 (by omega) ?_⟩
    rw [List.drop_zero, List.take_zero, List.append_nil, h1, h3]
  · have hl : x.length < l.length := by
      rw [h1, List.length_append]
      have := List.length_pos_iff.mpr hy
      omega
    refine ⟨x.length, hl, key _ hl ?_⟩
    rw [h1, List.drop_left, List.take_left, h3]
abbrev Tri := Pt × Pt × Pt
def triAt (l : List Pt) (k : Nat) : Tri := (ptI l ((k : Nat) - 1 : Int), ptI l (k : Nat), ptI l (((k : Nat) + 1 : Int) % l.length))
/-- all ears are cut off, one by one, always the first one -/
inductive Cuts : List Pt → List Tri → Prop
  | three {l : List Pt} (h : l.length = 3) (hp : 0 < cr (ptI l 0) (ptI l 1) (ptI l 2)) : Cuts l [(ptI l 0, ptI l 1, ptI l 2)]
  | cut {l : List Pt} {k : Nat} {ts : List Tri} (h : 3 < l.length) (hk : k < l.length) (he : isEarB l k = true) (hf : ∀ j, j < k → isEarB l j = false) (r : Cuts (l.eraseIdx k) ts) : Cuts l (triAt l k :: ts)
theorem first_true (p : Nat → Bool) : ∀ n : Nat, p n = true → ∃ k, k ≤ n ∧ p k = true ∧ ∀ j, j < k → p j = false := by
  intro n
  induction n using Nat.strongRecOn with
  | ind n ih =>
    intro hn
    by_cases h : ∃ j, j < n ∧ p j = true
    · obtain ⟨j, hj, hp⟩ := h
      obtain ⟨k, k1, k2, k3⟩ := ih j hj hp
      exact ⟨k, by omega, k2, k3⟩
    · refine ⟨n, Nat.le_refl _, hn, fun j hj => ?_⟩
      cases hp : p j with
      | false => rfl
      | true => exact absurd ⟨j, hj, hp⟩ h
theorem MonoR.three {α β : Int} {l : List Pt} (h : MonoR α β l) (h3 : l.length = 3) : 0 < cr (ptI l 0) (ptI l 1) (ptI l 2) := by
  obtain ⟨s, ls, e, us, m, r⟩ := h
  have hl := r.length
  rw [h3] at hl
  -- three corners
  obtain ⟨p, q, t, el⟩ : ∃ p q t, l = [p, q, t] := by
    match l, h3 with
    | [p, q, t], _ => exact ⟨p, q, t, rfl⟩
  subst el
  show 0 < cr p q t
  have three : ∃ x y z, monoL s ls e us = [x, y, z] ∧ 0 < cr x y z := by
    unfold monoL at hl ⊢
    match ls, us, m, hl with
    | [], [], m, hl => simp at hl
    | [x], [], m, hl =>
      refine ⟨s, x, e, by simp, ?_⟩
      have := m.low (s, e) List.mem_cons_self x List.mem_cons_self (m.s_lt.1 x List.mem_cons_self).1 (m.s_lt.1 x List.mem_cons_self).2
      simp only [cr] at this ⊢
      grind
    | [], [x], m, hl =>
      refine ⟨s, e, x, by simp, ?_⟩
      exact m.high (s, e) List.mem_cons_self x List.mem_cons_self (m.s_lt.2 x List.mem_cons_self).1 (m.s_lt.2 x List.mem_cons_self).2
    | _ :: _ :: _, _, m, hl => exfalso; simp at hl; try omega
    | _, _ :: _ :: _, m, hl => exfalso; simp at hl; try omega
    | [_], [_], m, hl => simp at hl
  obtain ⟨x, y, z, e1, hp⟩ := three
  rw [e1] at r
  obtain ⟨u, v, h1, h2⟩ := r
  have c1 := cr_cyc x y z
  have c2 := cr_cyc y z x
  match u, v, h1, h2 with
  | [], v, h1, h2 =>
    simp at h1 h2
    subst h1
    simp at h2
    obtain ⟨rfl, rfl, rfl⟩ := h2; exact hp
  | [a], v, h1, h2 =>
    simp at h1
    obtain ⟨rfl, rfl⟩ := h1
    simp at h2
    obtain ⟨rfl, rfl, rfl⟩ := h2; omega
  | [a, b], v, h1, h2 =>
    simp at h1
    obtain ⟨rfl, rfl, rfl⟩ := h1
    simp at h2
    obtain ⟨rfl, rfl, rfl⟩ := h2; omega
  | [a, b, c], v, h1, h2 =>
    simp at h1
    obtain ⟨rfl, rfl, rfl, rfl⟩ := h1
    simp at h2
    obtain ⟨rfl, rfl, rfl⟩ := h2; exact hp
  | _ :: _ :: _ :: _ :: _, v, h1, h2 => simp at h1
theorem MonoR.cuts {α β : Int} : ∀ (n : Nat) {l : List Pt}, l.length = n + 3 → MonoR α β l → ∃ ts, Cuts l ts
  | 0, l, hn, h => ⟨_, .three hn (h.three hn)⟩
  | n + 1, l, hn, h => by
    obtain ⟨k, hk, he⟩ := hasEar_num h.ear (by omega) trivial
    obtain ⟨j, hj, he, hf⟩ := first_true (isEarB l) k he
    have hjl : j < l.length := by omega
    obtain ⟨ts, hts⟩ := MonoR.cuts (α := α) (β := β) n (l := l.eraseIdx j) (by rw [List.length_eraseIdx, if_pos hjl]; omega) (by
      obtain ⟨n1, n2, n3⟩ := nb_at hjl (by omega)
      have hm := h.rot (isRot_at l j).symm
      rw [n1] at hm
      have he' := (isEarB_iff.mp he).mem (m := ptI l (j : Nat) :: (l.drop (j + 1) ++ l.take j)) fun p hp => by
        rw [← n1] at hp
        exact ((isRot_at l j).mem p).mpr hp
      exact (hm.cut (by simp; omega) n2 n3 he').rot (isRot_erase l j))
    exact ⟨_, .cut (k := j) (by omega) hjl he hf hts⟩
end LW
/-! part MSame -/
namespace LW
/-! ### a fence stays one by any map that can be undone -/
end LW
/-! part MRow -/
namespace LW
/-! ### along a row -/
/-! ### the spots of a row -/
def rise (s : Sd) : Int := s.2.2 - s.1.2
end LW
/-! part MRow2 -/
namespace LW
/-! neighbours in a rising list -/
/-! counting -/
def btw (B t u : Int) : Int := (u - 1) / B - t / B
end LW
/-! part MRow3 -/
namespace LW
end LW
/-! part MWide -/
namespace LW
/-! ### made wide -/
def stW (w : Int) : Aff := ⟨w, 0, 0, 1, 0, 0⟩
theorem str_pt (w : Int) (p : Pt) : (stW w).ap p = (w * p.1, p.2) := by apply Prod.ext <;> simp only [Aff.ap, stW] <;> omega
def axisB (l : List Pt) : Bool := (sdsL l).all fun s => decide (s.1.1 = s.2.1) || decide (s.1.2 = s.2.2)
end LW
/-! part MTri2 -/
namespace LW
/-! ### sums along rings and triangles -/
structure AddF (χ : Pt → Pt → Int) : Prop where
  neg : ∀ a b, χ b a = - χ a b
  add : ∀ a b c, Btw a b c → χ a b + χ b c = χ a c
def triS (χ : Pt → Pt → Int) (t : Tri) : Int := χ t.1 t.2.1 + χ t.2.1 t.2.2 + χ t.2.2 t.1
def ringS (χ : Pt → Pt → Int) (l : List Pt) : Int := sumBy (fun s => χ s.1 s.2) (sdsL l)
def trisS (χ : Pt → Pt → Int) (ts : List Tri) : Int := (ts.map (triS χ)).sum
def crT (t : Tri) : Int := cr t.1 t.2.1 t.2.2
theorem ringS_rot (χ : Pt → Pt → Int) {l m : List Pt} (h : IsRot l m) : ringS χ l = ringS χ m := sumBy_perm h.sds
theorem ringS_cut {χ : Pt → Pt → Int} (hn : ∀ a b, χ b a = - χ a b) {b a c : Pt} {w : List Pt} (hc : w.head? = some c) (ha : w.getLast? = some a) : ringS χ (b :: w) = triS χ (a, b, c) + ringS χ w := by
  cases w with
  | nil => simp at hc
  | cons c' v =>
    simp at hc
    subst hc
    obtain ⟨w', a', hw⟩ := snoc_ex c' v
    rw [hw, List.getLast?_concat] at ha
    have := Option.some.inj ha
    subst this
    obtain ⟨F, f1, f2⟩ := chain_at b [] v c' hw
    show sumBy (fun s => χ s.1 s.2) ((b, c') :: chain c' (v ++ [b])) = _ + sumBy (fun s => χ s.1 s.2) (chain c' (v ++ [c']))
    rw [f1, f2 c' []]
    rw [sumBy_cons, sumBy_app, sumBy_app, sumBy_cons, sumBy_cons]
    show χ b c' + (sumBy _ F + (χ a' b + 0)) = triS χ (a', b, c') + (sumBy _ F + (χ a' c' + 0))
    unfold triS
    simp only
    rw [hn a' c']; omega
theorem Cuts.sum {χ : Pt → Pt → Int} (hn : ∀ a b, χ b a = - χ a b) {l : List Pt} {ts : List Tri} (h : Cuts l ts) : trisS χ ts = ringS χ l := by
  induction h with
  | @three l h hp =>
    match l, h with
    | [p, q, t], _ =>
      show trisS χ [(p, q, t)] = ringS χ [p, q, t]
      unfold trisS ringS triS sdsL
      simp [chain, sumBy]
      omega
  | @cut l k ts h hk he hf r ih =>
    obtain ⟨n1, n2, n3⟩ := nb_at hk (by omega)
    have e1 : ringS χ l = ringS χ (ptI l (k : Nat) :: (l.drop (k + 1) ++ l.take k)) := by rw [← n1]; exact ringS_rot χ (isRot_at l k)
    rw [e1, ringS_cut hn n2 n3, ← ringS_rot χ (isRot_erase l k), ← ih]
    unfold trisS
    rw [List.map_cons, List.sum_cons]; rfl
theorem Cuts.pos {l : List Pt} {ts : List Tri} (h : Cuts l ts) : (∀ t ∈ ts, 0 < crT t) ∧ ts ≠ [] ∧ ts.length + 2 = l.length := by
  induction h with
  | @three l h hp => exact ⟨fun t ht => by rw [List.mem_singleton.mp ht]; exact hp, by simp, by simp [h]⟩
  | @cut l k ts h hk he hf r ih =>
    refine ⟨fun t ht => ?_, by simp, ?_⟩
    · rcases List.mem_cons.mp ht with rfl | ht
      · exact (isEarB_iff.mp he).1
      · exact ih.1 t ht
    · have := ih.2.2
      rw [List.length_eraseIdx, if_pos hk] at this
      rw [List.length_cons]; omega
def areaF (a b : Pt) : Int := a.1 * b.2 - a.2 * b.1
theorem area_neg (a b : Pt) : areaF b a = - areaF a b := by unfold areaF; grind
theorem area_tri (t : Tri) : triS areaF t = crT t := by unfold triS areaF crT cr; grind
theorem Cuts.area {l : List Pt} {ts : List Tri} (h : Cuts l ts) : (ts.map crT).sum = A2 l := by
  have := h.sum area_neg
  unfold trisS at this
  rw [List.map_congr_left fun t _ => area_tri t] at this
  exact this
theorem sum_pos {α : Type} (f : α → Int) : ∀ {l : List α}, l ≠ [] → (∀ t ∈ l, 0 < f t) → 0 < (l.map f).sum
  | [], h, _ => absurd rfl h
  | [x], _, h => by simp; exact h x List.mem_cons_self
  | x :: y :: r, _, h => by
    have := sum_pos f (l := y :: r) (by simp) fun t ht => h t (List.mem_cons_of_mem _ ht)
    rw [List.map_cons, List.sum_cons]
    have := h x List.mem_cons_self; omega
theorem Cuts.A2_pos {l : List Pt} {ts : List Tri} (h : Cuts l ts) : 0 < A2 l := by
  rw [← h.area]; exact sum_pos crT h.pos.2.1 h.pos.1
theorem MonoR.len {α β : Int} {l : List Pt} (h : MonoR α β l) : 3 ≤ l.length := by
  obtain ⟨s, ls, e, us, m, r⟩ := h
  rw [r.length]
  unfold monoL
  rcases m.some with h | h
  · have := List.length_pos_iff.mpr h
    simp; omega
  · have := List.length_pos_iff.mpr h
    simp; omega
theorem MonoR.cutsR {α β : Int} {l : List Pt} (h : MonoR α β l) : ∃ ts, Cuts l ts := MonoR.cuts (α := α) (β := β) (l.length - 3) (by have := h.len; omega) h
/-! by reckoning -/
def cutsB : Nat → List Pt → Bool
  | 0, l => decide (l.length = 3) && decide (0 < cr (ptI l 0) (ptI l 1) (ptI l 2))
  | n + 1, l => match (List.range l.length).find? (isEarB l) with
    | some k => decide (3 < l.length) && cutsB n (l.eraseIdx k)
    | none => false
theorem cutsB_ok : ∀ (n : Nat) {l : List Pt}, cutsB n l = true → ∃ ts, Cuts l ts
  | 0, l, h => by
    unfold cutsB at h
    rw [Bool.and_eq_true, decide_eq_true_eq, decide_eq_true_eq] at h
    exact ⟨_, .three h.1 h.2⟩
  | n + 1, l, h => by
    unfold cutsB at h
    split at h
    · rename_i k hk
      rw [Bool.and_eq_true, decide_eq_true_eq] at h
      obtain ⟨ts, hts⟩ := cutsB_ok n h.2
      have h1 := List.find?_some hk
      have h2 := List.mem_of_find?_eq_some hk
      rw [List.mem_range] at h2
      refine ⟨_, .cut h.1 h2 h1 (fun j hj => ?_) hts⟩
      -- the first one
      rw [List.find?_eq_some_iff_append] at hk
      obtain ⟨_, as, bs, e, hno⟩ := hk
      have hlen : as.length = k := by
        have := congrArg (fun m => m[as.length]?) e
        simp at this
        rw [List.getElem?_range] at this
        · exact Option.some.inj this
        · have := congrArg List.length e
          simp at this; omega
      have hja : j ∈ as := by
        have : (List.range l.length)[j]? = some j := List.getElem?_range (by omega)
        rw [e, List.getElem?_append_left (by omega)] at this
        exact List.mem_of_getElem? this
      have := hno j hja
      simpa using this
    · cases h
def spiralsB (R : List Pt) : Bool := (List.range 12).all fun k => cutsB 9 (R.drop k ++ R.take k)
theorem spiral_cuts {w h : Int} (hw : w = 5 ∨ w = 6 ∨ w = 7) (hh : h = 6 ∨ h = 7 ∨ h = 8) : spiralsB (spiral w h) = true ∧ spiralsB ((spiral w h).map sw).reverse = true := by
  rcases hw with rfl | rfl | rfl <;> rcases hh with rfl | rfl | rfl <;> exact ⟨by decide +kernel, by decide +kernel⟩
theorem spirals_rot {R l : List Pt} (h : spiralsB R = true) (hl : R.length = 12) (r : IsRot l R) : ∃ ts, Cuts l ts := by
  obtain ⟨x, y, h1, h2⟩ := r
  have hc := List.all_eq_true.mp h
  by_cases hx : x = []
  · subst hx
    simp at h1 h2
    have := hc 0 (by simp)
    rw [List.drop_zero, List.take_zero, List.append_nil, h2, ← h1] at this
    exact cutsB_ok 9 this
  · have hxl := List.length_pos_iff.mpr hx
    have : y.length < 12 := by rw [← hl, h2, List.length_append]; omega
    have := hc y.length (by rw [List.mem_range]; exact this)
    rw [h2, List.drop_left, List.take_left, ← h1] at this
    exact cutsB_ok 9 this
end LW
/-! part MTri3 -/
namespace LW
theorem Drawn.cuts {l : List Pt} (d : Drawn l) (h : 0 < A2 l) : ∃ ts, Cuts l ts := by
  have notrev : ∀ {α β : Int}, ¬ MonoR α β l.reverse := fun {α β} m => by
    obtain ⟨ts, hts⟩ := m.cutsR
    have := hts.A2_pos
    rw [A2_rev] at this; omega
  rcases d.kind with (k | k) | ⟨w, h', hw, hh, r⟩
  · rcases k 100 (Int.le_refl _) with m | m
    · exact m.cutsR
    · exact absurd m notrev
  · rcases k 100 (Int.le_refl _) with m | m
    · exact m.cutsR
    · exact absurd m notrev
  · have p := spiral_A2 hw hh
    have ps : A2 ((spiral w h').map sw) = - A2 (spiral w h') := A2_swap _
    obtain ⟨c1, c2⟩ := spiral_cuts hw hh
    rcases r with r | r | r | r
    · exact spirals_rot c1 (by simp [spiral]) r
    · exfalso
      have : A2 l = A2 (spiral w h').reverse := sumBy_perm r.sds
      rw [A2_rev] at this; omega
    · exfalso
      have : A2 l = A2 ((spiral w h').map sw) := sumBy_perm r.sds
      omega
    · exact spirals_rot c2 (by simp [spiral]) r
/-! ### how often a point is gone round -/
def loW (α β : Int) (M : Pt) (p : Pt) : Bool := decide (2 * ph α β p ≤ ph α β M)
def kM (M a b : Pt) : Int := (b.1 - a.1) * (M.2 - 2 * a.2) - (b.2 - a.2) * (M.1 - 2 * a.1)
def abW (δ : Bool) (M a b : Pt) : Bool := if δ then decide (0 ≤ kM M a b) else decide (0 < kM M a b)
def upW (α β : Int) (δ : Bool) (M a b : Pt) : Int := if loW α β M a && (!loW α β M b && abW δ M a b) then 1 else 0
def chiW (α β : Int) (δ : Bool) (M a b : Pt) : Int := upW α β δ M a b - upW α β δ M b a
theorem chiW_neg (α β : Int) (δ : Bool) (M a b : Pt) : chiW α β δ M b a = - chiW α β δ M a b := by unfold chiW; omega
theorem abW_congr {δ : Bool} {M a b c d : Pt} {n k : Int} (hn : 0 < n) (hk : 0 < k) (h : n * kM M a b = k * kM M c d) : abW δ M a b = abW δ M c d := by
  have e1 : 0 ≤ kM M a b ↔ 0 ≤ kM M c d := by
    constructor
    · intro z
      refine Classical.byContradiction fun y => ?_
      have := Int.mul_nonneg (show 0 ≤ n by omega) z
      have := Int.mul_neg_of_pos_of_neg hk (show kM M c d < 0 by omega)
      omega
    · intro z
      refine Classical.byContradiction fun y => ?_
      have := Int.mul_nonneg (show 0 ≤ k by omega) z
      have := Int.mul_neg_of_pos_of_neg hn (show kM M a b < 0 by omega)
      omega
  have e2 : 0 < kM M a b ↔ 0 < kM M c d := by
    constructor
    · intro z
      refine Classical.byContradiction fun y => ?_
      have := Int.mul_pos hn z
      have := Int.mul_nonpos_of_nonneg_of_nonpos (show 0 ≤ k by omega) (show kM M c d ≤ 0 by omega)
      omega
    · intro z
      refine Classical.byContradiction fun y => ?_
      have := Int.mul_pos hk z
      have := Int.mul_nonpos_of_nonneg_of_nonpos (show 0 ≤ n by omega) (show kM M a b ≤ 0 by omega)
      omega
  unfold abW
  rw [decide_eq_decide.mpr e1, decide_eq_decide.mpr e2]
theorem chiW_add (α β : Int) (δ : Bool) (M : Pt) : AddF (chiW α β δ M) := by
  refine ⟨fun a b => chiW_neg α β δ M a b, ?_⟩
  -- rising first
  have up : ∀ a b c : Pt, Btw a b c → loW α β M a = true → loW α β M c = false → chiW α β δ M a b + chiW α β δ M b c = chiW α β δ M a c := fun a b c hb ha hc => by
    obtain ⟨n, k, k0, kn, e1, e2⟩ := hb
    have q1 : abW δ M a b = abW δ M a c := abW_congr (n := n) (k := k) (by omega) k0 (by simp only [kM]; grind)
    have q2 : abW δ M b c = abW δ M a c := abW_congr (n := n) (k := n - k) (by omega) (by omega) (by
      have s1 : n * (c.1 - b.1) = (n - k) * (c.1 - a.1) := by grind
      have s2 : n * (c.2 - b.2) = (n - k) * (c.2 - a.2) := by grind
      simp only [kM]
      have t1 : n * ((c.1 - b.1) * (M.2 - 2 * b.2) - (c.2 - b.2) * (M.1 - 2 * b.1)) = (n - k) * (c.1 - a.1) * (M.2 - 2 * b.2) - (n - k) * (c.2 - a.2) * (M.1 - 2 * b.1) := by grind
      have t2 : (c.1 - a.1) * (b.2 - a.2) = (c.2 - a.2) * (b.1 - a.1) := by
        have : n * ((c.1 - a.1) * (b.2 - a.2)) = n * ((c.2 - a.2) * (b.1 - a.1)) := by grind
        exact Int.eq_of_mul_eq_mul_left (by omega) this
      rw [t1]; grind)
    unfold chiW upW
    rw [ha, hc, q1, q2]
    cases loW α β M b <;> cases abW δ M a c <;> simp
  intro a b c hb
  cases ha : loW α β M a with
  | true =>
    cases hc : loW α β M c with
    | false => exact up a b c hb ha hc
    | true =>
      have hbb : loW α β M b = true := by
        unfold loW at ha hc ⊢
        rw [decide_eq_true_eq] at ha hc ⊢
        have := hb.sub (p := 2 * α) (q := 2 * β) (r := - ph α β M) (by simp only [ph] at ha ⊢; grind) (by simp only [ph] at hc ⊢; grind)
        simp only [ph] at this ⊢; grind
      unfold chiW upW
      rw [ha, hc, hbb]; simp
  | false =>
    cases hc : loW α β M c with
    | true =>
      have := up c b a hb.symm hc ha
      rw [chiW_neg α β δ M c b, chiW_neg α β δ M b a, chiW_neg α β δ M c a]
      rw [chiW_neg α β δ M a b] at *
      have t1 := chiW_neg α β δ M c b
      have t2 := chiW_neg α β δ M b a
      have t3 := chiW_neg α β δ M c a
      omega
    | false =>
      have hbb : loW α β M b = false := by
        unfold loW at ha hc ⊢
        rw [decide_eq_false_iff_not] at ha hc ⊢
        have := hb.sub (p := -2 * α) (q := -2 * β) (r := ph α β M + 1) (by simp only [ph] at ha ⊢; grind) (by simp only [ph] at hc ⊢; grind)
        simp only [ph] at this ⊢; grind
      unfold chiW upW
      rw [ha, hc, hbb]; simp
theorem upW_t {α β : Int} {δ : Bool} {M a b : Pt} (h1 : loW α β M a = true) (h2 : loW α β M b = false) : chiW α β δ M a b = if abW δ M a b then 1 else 0 := by
  unfold chiW upW; rw [h1, h2]; cases abW δ M a b <;> simp
theorem upW_f {α β : Int} {δ : Bool} {M a b : Pt} (h1 : loW α β M a = false) (h2 : loW α β M b = true) : chiW α β δ M a b = - if abW δ M b a then 1 else 0 := by
  unfold chiW upW; rw [h1, h2]; cases abW δ M b a <;> simp
theorem upW_0 {α β : Int} {δ : Bool} {M a b : Pt} (h : loW α β M a = loW α β M b) : chiW α β δ M a b = 0 := by
  unfold chiW upW; rw [h]; cases loW α β M b <;> simp
theorem ab_imp {δ : Bool} {M a b c d : Pt} (h1 : 0 ≤ kM M a b → 0 ≤ kM M c d) (h2 : 0 < kM M a b → 0 < kM M c d) : (if abW δ M a b then (1 : Int) else 0) ≤ if abW δ M c d then 1 else 0 := by
  unfold abW
  cases δ
  · simp only [Bool.false_eq_true, if_false]
    by_cases h : 0 < kM M a b
    · rw [decide_eq_true h, decide_eq_true (h2 h)]; exact Int.le_refl _
    · rw [decide_eq_false h]; simp only [Bool.false_eq_true, if_false]; split <;> omega
  · simp only [if_true]
    by_cases h : 0 ≤ kM M a b
    · rw [decide_eq_true h, decide_eq_true (h1 h)]; exact Int.le_refl _
    · rw [decide_eq_false h]; simp only [Bool.false_eq_true, if_false]; split <;> omega
/-- one corner below the line -/
theorem tri_one {α β : Int} {δ : Bool} {M a b c : Pt} (hD : 0 < cr a b c) (ha : loW α β M a = true) (hb : loW α β M b = false) (hc : loW α β M c = false) : 0 ≤ chiW α β δ M a b + chiW α β δ M b c + chiW α β δ M c a := by
  rw [upW_t ha hb, upW_0 (hb.trans hc.symm), upW_f hc ha]
  unfold loW at ha hb hc
  rw [decide_eq_true_eq] at ha
  rw [decide_eq_false_iff_not] at hb hc
  have id1 : (ph α β c - ph α β a) * kM M a b - (ph α β b - ph α β a) * kM M a c = (ph α β M - 2 * ph α β a) * cr a b c := by simp only [ph, kM, cr]; grind
  have r0 := Int.mul_nonneg (show 0 ≤ ph α β M - 2 * ph α β a by omega) (show 0 ≤ cr a b c by omega)
  have := ab_imp (δ := δ) (M := M) (a := a) (b := c) (c := a) (d := b) (fun h => by
    refine Classical.byContradiction fun hz => ?_
    have p1 := Int.mul_neg_of_pos_of_neg (show 0 < ph α β c - ph α β a by omega) (show kM M a b < 0 by omega)
    have p2 := Int.mul_nonneg (show 0 ≤ ph α β b - ph α β a by omega) h
    omega) (fun h => by
    refine Classical.byContradiction fun hz => ?_
    have p1 := Int.mul_nonpos_of_nonneg_of_nonpos (show 0 ≤ ph α β c - ph α β a by omega) (show kM M a b ≤ 0 by omega)
    have p2 := Int.mul_pos (show 0 < ph α β b - ph α β a by omega) h
    omega)
  omega
theorem tri_two {α β : Int} {δ : Bool} {M a b c : Pt} (hD : 0 < cr a b c) (ha : loW α β M a = true) (hb : loW α β M b = true) (hc : loW α β M c = false) : 0 ≤ chiW α β δ M a b + chiW α β δ M b c + chiW α β δ M c a := by
  rw [upW_0 (ha.trans hb.symm), upW_t hb hc, upW_f hc ha]
  unfold loW at ha hb hc
  rw [decide_eq_true_eq] at ha hb
  rw [decide_eq_false_iff_not] at hc
  have id1 : (ph α β c - ph α β a) * kM M b c = (2 * ph α β c - ph α β M) * cr a b c + (ph α β c - ph α β b) * kM M a c := by simp only [ph, kM, cr]; grind
  have r0 := Int.mul_pos (show 0 < 2 * ph α β c - ph α β M by omega) hD
  have k0 : 0 ≤ kM M a c → 0 < kM M b c := fun h => by
    refine Classical.byContradiction fun hz => ?_
    have p1 := Int.mul_nonpos_of_nonneg_of_nonpos (show 0 ≤ ph α β c - ph α β a by omega) (show kM M b c ≤ 0 by omega)
    have p2 := Int.mul_nonneg (show 0 ≤ ph α β c - ph α β b by omega) h
    omega
  have := ab_imp (δ := δ) (M := M) (a := a) (b := c) (c := b) (d := c) (fun h => by have := k0 h; omega) (fun h => k0 (by omega))
  omega
theorem triS_nn {α β : Int} {δ : Bool} {M : Pt} {t : Tri} (h : 0 < crT t) : 0 ≤ triS (chiW α β δ M) t := by
  obtain ⟨a, b, c⟩ := t
  have hD : 0 < cr a b c := h
  have c1 := cr_cyc a b c
  have c2 := cr_cyc b c a
  unfold triS
  simp only
  cases ha : loW α β M a <;> cases hb : loW α β M b <;> cases hc : loW α β M c
  · rw [upW_0 (ha.trans hb.symm), upW_0 (hb.trans hc.symm), upW_0 (hc.trans ha.symm)]; decide
  · have := tri_one (δ := δ) (show 0 < cr c a b by omega) hc ha hb; omega
  · have := tri_one (δ := δ) (show 0 < cr b c a by omega) hb hc ha; omega
  · have := tri_two (δ := δ) (show 0 < cr b c a by omega) hb hc ha; omega
  · exact tri_one hD ha hb hc
  · have := tri_two (δ := δ) (show 0 < cr c a b by omega) hc ha hb; omega
  · exact tri_two hD ha hb hc
  · rw [upW_0 (ha.trans hb.symm), upW_0 (hb.trans hc.symm), upW_0 (hc.trans ha.symm)]; decide
/-- a triangle on the left of a step goes round the step's middle, moved a little to the left -/
theorem tri_edge {α β : Int} {u v c : Pt} (hD : 0 < cr u v c) (hne : ph α β u ≠ ph α β v) : 1 ≤ chiW α β (decide (ph α β u < ph α β v)) (u.1 + v.1, u.2 + v.2) u v + chiW α β (decide (ph α β u < ph α β v)) (u.1 + v.1, u.2 + v.2) v c + chiW α β (decide (ph α β u < ph α β v)) (u.1 + v.1, u.2 + v.2) c u := by
  have hM : ph α β (u.1 + v.1, u.2 + v.2) = ph α β u + ph α β v := by simp only [ph]; grind
  have e0 : kM (u.1 + v.1, u.2 + v.2) u v = 0 := by simp only [kM]; grind
  have e1 : kM (u.1 + v.1, u.2 + v.2) u c = - cr u v c := by simp only [kM, cr]; grind
  have e2 : kM (u.1 + v.1, u.2 + v.2) c v = - cr u v c := by simp only [kM, cr]; grind
  have e3 : kM (u.1 + v.1, u.2 + v.2) c u = cr u v c := by simp only [kM, cr]; grind
  have e4 : kM (u.1 + v.1, u.2 + v.2) v c = cr u v c := by simp only [kM, cr]; grind
  have e5 : kM (u.1 + v.1, u.2 + v.2) v u = 0 := by simp only [kM]; grind
  have lou : loW α β (u.1 + v.1, u.2 + v.2) u = decide (ph α β u < ph α β v) := by unfold loW; rw [hM]; exact decide_eq_decide.mpr (by omega)
  have lov : loW α β (u.1 + v.1, u.2 + v.2) v = decide (ph α β v < ph α β u) := by unfold loW; rw [hM]; exact decide_eq_decide.mpr (by omega)
  generalize (u.1 + v.1, u.2 + v.2) = M at *
  by_cases h : ph α β u < ph α β v
  · rw [decide_eq_true h] at lou ⊢
    rw [decide_eq_false (by omega)] at lov
    have a0 : abW true M u v = true := by unfold abW; rw [if_pos rfl, e0]; rfl
    rw [upW_t lou lov, a0]
    cases hc : loW α β M c with
    | true =>
      rw [upW_f lov hc, upW_0 (hc.trans lou.symm)]
      have : abW true M c v = false := by unfold abW; rw [if_pos rfl, e2, decide_eq_false_iff_not]; omega
      rw [this]; decide
    | false =>
      rw [upW_0 (lov.trans hc.symm), upW_f hc lou]
      have : abW true M u c = false := by unfold abW; rw [if_pos rfl, e1, decide_eq_false_iff_not]; omega
      rw [this]; decide
  · rw [decide_eq_false h] at lou ⊢
    rw [decide_eq_true (by omega)] at lov
    have a0 : abW false M v u = false := by unfold abW; rw [if_neg (by decide), e5]; rfl
    rw [upW_f lou lov, a0]
    cases hc : loW α β M c with
    | true =>
      rw [upW_0 (lov.trans hc.symm), upW_t hc lou]
      have : abW false M c u = true := by unfold abW; rw [if_neg (by decide), e3, decide_eq_true hD]
      rw [this]; decide
    | false =>
      rw [upW_t lov hc, upW_0 (hc.trans lou.symm)]
      have : abW false M v c = true := by unfold abW; rw [if_neg (by decide), e4, decide_eq_true hD]
      rw [this]; decide
/-! a ring of two chains goes round no point twice -/
theorem chainW {α β : Int} {δ : Bool} {M : Pt} : ∀ (L : List Pt) (p : Pt), (p :: L).Pairwise (fun a b => ph α β a < ph α β b) → 0 ≤ sumBy (fun s => chiW α β δ M s.1 s.2) (chain p L) ∧ sumBy (fun s => chiW α β δ M s.1 s.2) (chain p L) ≤ 1 ∧ (loW α β M p = false → sumBy (fun s => chiW α β δ M s.1 s.2) (chain p L) = 0)
  | [], p, _ => ⟨Int.le_refl _, (by decide : (0 : Int) ≤ 1), fun _ => rfl⟩
  | q :: L, p, h => by
    have h1 := List.pairwise_cons.mp h
    obtain ⟨i1, i2, i3⟩ := chainW (δ := δ) (M := M) L q h1.2
    have hpq := h1.1 q List.mem_cons_self
    show 0 ≤ sumBy _ ((p, q) :: chain q L) ∧ sumBy _ ((p, q) :: chain q L) ≤ 1 ∧ (_ → sumBy _ ((p, q) :: chain q L) = 0)
    rw [sumBy_cons]
    simp only
    cases hp : loW α β M p with
    | false =>
      have hq : loW α β M q = false := by unfold loW at hp ⊢; rw [decide_eq_false_iff_not] at hp ⊢; omega
      rw [upW_0 (hp.trans hq.symm), i3 hq]
      exact ⟨by decide, by decide, fun _ => rfl⟩
    | true =>
      cases hq : loW α β M q with
      | true =>
        rw [upW_0 (hp.trans hq.symm)]
        exact ⟨by omega, by omega, fun z => by cases z⟩
      | false =>
        rw [upW_t hp hq, i3 hq]
        refine ⟨?_, ?_, fun z => by cases z⟩ <;> split <;> decide
theorem MonoR.wind {α β : Int} {l : List Pt} (h : MonoR α β l) (δ : Bool) (M : Pt) : ringS (chiW α β δ M) l ≤ 1 := by
  obtain ⟨s, ls, e, us, m, r⟩ := h
  rw [ringS_rot _ r]
  unfold ringS
  rw [sumBy_perm (sds_mono s ls e us), sumBy_app]
  have a := chainW (δ := δ) (M := M) (ls ++ [e]) s m.lo
  have b := chainW (δ := δ) (M := M) (us ++ [e]) s m.up
  have neg : ∀ L : List Sd, sumBy (fun s => chiW α β δ M s.1 s.2) (L.map flip) = - sumBy (fun s => chiW α β δ M s.1 s.2) L := fun L => by
    induction L with
    | nil => rfl
    | cons t L ih =>
      rw [List.map_cons, sumBy_cons, sumBy_cons, ih]
      have : chiW α β δ M (flip t).1 (flip t).2 = - chiW α β δ M t.1 t.2 := chiW_neg α β δ M t.1 t.2
      rw [this]; omega
  rw [neg]; omega
end LW
/-! part MTri4 -/
namespace LW
/-! ### the spirals go round no point twice -/
def windB (l : List Pt) (α : Int) (δ : Bool) : Bool := (List.range 17).all fun i => (List.range 17).all fun j => decide (ringS (chiW α 1 δ ((i : Nat), (j : Nat))) l ≤ 1)
theorem spiral_windB {w h : Int} (hw : w = 5 ∨ w = 6 ∨ w = 7) (hh : h = 6 ∨ h = 7 ∨ h = 8) {α : Int} (ha : α = 100 ∨ α = 101) (δ : Bool) : windB (spiral w h) α δ = true ∧ windB ((spiral w h).map sw).reverse α δ = true := by
  rcases hw with rfl | rfl | rfl <;> rcases hh with rfl | rfl | rfl <;> rcases ha with rfl | rfl <;> cases δ <;> exact ⟨by decide +kernel, by decide +kernel⟩
def boxAx (l : List Pt) : Bool := (l.all fun p => decide (0 ≤ p.1 ∧ p.1 ≤ 8 ∧ 0 ≤ p.2 ∧ p.2 ≤ 8)) && axisB l
theorem spiral_boxAx {w h : Int} (hw : w = 5 ∨ w = 6 ∨ w = 7) (hh : h = 6 ∨ h = 7 ∨ h = 8) : boxAx (spiral w h) = true ∧ boxAx ((spiral w h).map sw).reverse = true := by
  rcases hw with rfl | rfl | rfl <;> rcases hh with rfl | rfl | rfl <;> exact ⟨by decide +kernel, by decide +kernel⟩
theorem ring_mem {l : List Pt} {s : Sd} (h : s ∈ sdsL l) : s.1 ∈ l ∧ s.2 ∈ l := sds_mem h
theorem sumBy_zero {f : Sd → Int} : ∀ {l : List Sd}, (∀ s ∈ l, f s = 0) → sumBy f l = 0
  | [], _ => rfl
  | s :: l, h => by rw [sumBy_cons, h s List.mem_cons_self, sumBy_zero fun t ht => h t (List.mem_cons_of_mem _ ht)]; rfl
/-- a sum of differences round a ring -/
theorem ring_tele (f : Pt → Int) (l : List Pt) : sumBy (fun s => f s.1 - f s.2) (sdsL l) = 0 := by
  have ch : ∀ (L : List Pt) (p q : Pt), sumBy (fun s => f s.1 - f s.2) (chain p (L ++ [q])) = f p - f q := fun L => by
    induction L with
    | nil => intro p q; show (f p - f q) + 0 = f p - f q; omega
    | cons x L ih =>
      intro p q
      show sumBy _ ((p, x) :: chain x (L ++ [q])) = _
      rw [sumBy_cons, ih]
      simp only; omega
  cases l with
  | nil => rfl
  | cons p r => show sumBy _ (chain p (r ++ [p])) = 0; rw [ch]; omega
theorem wind_axis {l : List Pt} (hb : boxAx l = true) {α : Int} (ha : α = 100 ∨ α = 101) {δ : Bool} (hw : windB l α δ = true) (M : Pt) : ringS (chiW α 1 δ M) l ≤ 1 := by
  unfold boxAx at hb
  rw [Bool.and_eq_true, List.all_eq_true] at hb
  have bx : ∀ p ∈ l, 0 ≤ p.1 ∧ p.1 ≤ 8 ∧ 0 ≤ p.2 ∧ p.2 ≤ 8 := fun p hp => of_decide_eq_true (hb.1 p hp)
  have ax : ∀ s ∈ sdsL l, s.1.1 = s.2.1 ∨ s.1.2 = s.2.2 := fun s hs => by
    have := List.all_eq_true.mp hb.2 s hs
    rw [Bool.or_eq_true, decide_eq_true_eq, decide_eq_true_eq] at this
    exact this
  have zero : (∀ s ∈ sdsL l, chiW α 1 δ M s.1 s.2 = 0) → ringS (chiW α 1 δ M) l ≤ 1 := fun h => by
    unfold ringS
    rw [sumBy_zero (f := fun s => chiW α 1 δ M s.1 s.2) h]; decide
  have hph : ∀ p : Pt, ph α 1 p = α * p.1 + p.2 := fun p => by simp only [ph]; omega
  by_cases hy1 : M.2 < 0
  · refine zero fun s hs => ?_
    have m := ring_mem hs
    have b1 := bx _ m.1
    have b2 := bx _ m.2
    have no : ∀ a b : Pt, 0 ≤ a.1 ∧ a.1 ≤ 8 ∧ 0 ≤ a.2 ∧ a.2 ≤ 8 → 0 ≤ b.1 ∧ b.1 ≤ 8 ∧ 0 ≤ b.2 ∧ b.2 ≤ 8 → (a.1 = b.1 ∨ a.2 = b.2) → upW α 1 δ M a b = 0 := fun a b ha hb hab => by
      unfold upW
      cases h1 : loW α 1 M a with
      | false => rfl
      | true =>
        cases h2 : loW α 1 M b with
        | true => rfl
        | false =>
          unfold loW at h1 h2
          rw [decide_eq_true_eq, hph, hph] at h1
          rw [decide_eq_false_iff_not, hph, hph] at h2
          have hk : kM M a b < 0 := by
            unfold kM
            rcases hab with e | e
            · rw [e, Int.sub_self, Int.zero_mul]
              rw [e] at h1
              have d1 : 0 < b.2 - a.2 := by rcases ha with _; omega
              have d2 : 0 < M.1 - 2 * a.1 := by rw [e]; rcases ‹α = 100 ∨ α = 101› with rfl | rfl <;> omega
              rw [e] at d2
              have := Int.mul_pos d1 d2; omega
            · rw [e, Int.sub_self, Int.zero_mul]
              have d1 : 0 < b.1 - a.1 := by rcases ‹α = 100 ∨ α = 101› with rfl | rfl <;> omega
              have d2 : M.2 - 2 * b.2 < 0 := by omega
              have := Int.mul_neg_of_pos_of_neg d1 d2; omega
          have : abW δ M a b = false := by unfold abW; split <;> rw [decide_eq_false_iff_not] <;> omega
          rw [this]; rfl
    unfold chiW
    have e := ax s hs
    rw [no _ _ b1 b2 e, no _ _ b2 b1 (by omega)]; rfl
  · by_cases hy2 : 16 < M.2
    · have val : ∀ s ∈ sdsL l, chiW α 1 δ M s.1 s.2 = (if loW α 1 M s.1 then 1 else 0) - (if loW α 1 M s.2 then (1 : Int) else 0) := fun s hs => by
        have m := ring_mem hs
        have b1 := bx _ m.1
        have b2 := bx _ m.2
        have yes : ∀ a b : Pt, 0 ≤ a.1 ∧ a.1 ≤ 8 ∧ 0 ≤ a.2 ∧ a.2 ≤ 8 → 0 ≤ b.1 ∧ b.1 ≤ 8 ∧ 0 ≤ b.2 ∧ b.2 ≤ 8 → (a.1 = b.1 ∨ a.2 = b.2) → loW α 1 M a = true → loW α 1 M b = false → abW δ M a b = true := fun a b ha hb hab h1 h2 => by
          unfold loW at h1 h2
          rw [decide_eq_true_eq, hph, hph] at h1
          rw [decide_eq_false_iff_not, hph, hph] at h2
          have hk : 0 < kM M a b := by
            unfold kM
            rcases hab with e | e
            · rw [e, Int.sub_self, Int.zero_mul]
              rw [e] at h1
              have d1 : 0 < b.2 - a.2 := by omega
              have d2 : M.1 - 2 * b.1 < 0 := by rcases ‹α = 100 ∨ α = 101› with rfl | rfl <;> omega
              have := Int.mul_neg_of_pos_of_neg d1 d2; omega
            · rw [e, Int.sub_self, Int.zero_mul]
              have d1 : 0 < b.1 - a.1 := by rcases ‹α = 100 ∨ α = 101› with rfl | rfl <;> omega
              have d2 : 0 < M.2 - 2 * b.2 := by omega
              have := Int.mul_pos d1 d2; omega
          unfold abW; split <;> rw [decide_eq_true_eq] <;> omega
        have e := ax s hs
        cases h1 : loW α 1 M s.1 <;> cases h2 : loW α 1 M s.2
        · rw [upW_0 (h1.trans h2.symm)]; rfl
        · rw [upW_f h1 h2, yes _ _ b2 b1 (by omega) h2 h1]; rfl
        · rw [upW_t h1 h2, yes _ _ b1 b2 e h1 h2]; rfl
        · rw [upW_0 (h1.trans h2.symm)]; rfl
      unfold ringS
      rw [sumBy_congr (f := fun s => chiW α 1 δ M s.1 s.2) val]
      have := ring_tele (fun p => if loW α 1 M p then (1 : Int) else 0) l
      omega
    · by_cases hx1 : M.1 < 0
      · refine zero fun s hs => ?_
        have m := ring_mem hs
        have lo : ∀ p ∈ l, loW α 1 M p = false := fun p hp => by
          have := bx p hp
          unfold loW
          rw [decide_eq_false_iff_not, hph, hph]
          rcases ha with rfl | rfl <;> omega
        exact upW_0 ((lo _ m.1).trans (lo _ m.2).symm)
      · by_cases hx2 : 16 < M.1
        · refine zero fun s hs => ?_
          have m := ring_mem hs
          have lo : ∀ p ∈ l, loW α 1 M p = true := fun p hp => by
            have := bx p hp
            unfold loW
            rw [decide_eq_true_eq, hph, hph]
            rcases ha with rfl | rfl <;> omega
          exact upW_0 ((lo _ m.1).trans (lo _ m.2).symm)
        · unfold windB at hw
          have h1 := List.all_eq_true.mp hw M.1.toNat (by rw [List.mem_range]; omega)
          have h2 := List.all_eq_true.mp h1 M.2.toNat (by rw [List.mem_range]; omega)
          have e : (((M.1.toNat : Nat) : Int), ((M.2.toNat : Nat) : Int)) = M := Prod.ext (by simp only; omega) (by simp only; omega)
          have := of_decide_eq_true h2
          rwa [e] at this
/-- some direction in which u and v differ, and no point is gone round twice -/
def WOK (l : List Pt) : Prop := ∀ u v : Pt, u ≠ v → ∃ α β, ph α β u ≠ ph α β v ∧ ∀ δ M, ringS (chiW α β δ M) l ≤ 1
theorem Drawn.wok {l : List Pt} (d : Drawn l) (h : 0 < A2 l) : WOK l := by
  have notrev : ∀ {α β : Int}, ¬ MonoR α β l.reverse := fun {α β} m => by
    obtain ⟨ts, hts⟩ := m.cutsR
    have := hts.A2_pos
    rw [A2_rev] at this; omega
  intro u v huv
  have pick : (ph 100 1 u ≠ ph 100 1 v ∨ ph 101 1 u ≠ ph 101 1 v) ∧ (ph 1 100 u ≠ ph 1 100 v ∨ ph 1 101 u ≠ ph 1 101 v) := by
    have : u.1 ≠ v.1 ∨ u.2 ≠ v.2 := by
      by_cases e1 : u.1 = v.1
      · right; intro e2; exact huv (Prod.ext e1 e2)
      · exact .inl e1
    simp only [ph]; omega
  rcases d.kind with (k | k) | ⟨w, h', hw, hh, r⟩
  · rcases pick.1 with p | p
    · refine ⟨100, 1, p, fun δ M => ?_⟩
      rcases k 100 (by decide) with m | m
      · exact m.wind δ M
      · exact absurd m notrev
    · refine ⟨101, 1, p, fun δ M => ?_⟩
      rcases k 101 (by decide) with m | m
      · exact m.wind δ M
      · exact absurd m notrev
  · rcases pick.2 with p | p
    · refine ⟨1, 100, p, fun δ M => ?_⟩
      rcases k 100 (by decide) with m | m
      · exact m.wind δ M
      · exact absurd m notrev
    · refine ⟨1, 101, p, fun δ M => ?_⟩
      rcases k 101 (by decide) with m | m
      · exact m.wind δ M
      · exact absurd m notrev
  · have p := spiral_A2 hw hh
    have ps : A2 ((spiral w h').map sw) = - A2 (spiral w h') := A2_swap _
    obtain ⟨b1, b2⟩ := spiral_boxAx hw hh
    have fin : ∀ R : List Pt, IsRot l R → boxAx R = true → (∀ α δ, (α = 100 ∨ α = 101) → windB R α δ = true) → ∃ α β, ph α β u ≠ ph α β v ∧ ∀ δ M, ringS (chiW α β δ M) l ≤ 1 := fun R r hb hwd => by
      rcases pick.1 with p | p
      · exact ⟨100, 1, p, fun δ M => by rw [ringS_rot _ r]; exact wind_axis hb (.inl rfl) (hwd 100 δ (.inl rfl)) M⟩
      · exact ⟨101, 1, p, fun δ M => by rw [ringS_rot _ r]; exact wind_axis hb (.inr rfl) (hwd 101 δ (.inr rfl)) M⟩
    rcases r with r | r | r | r
    · exact fin _ r b1 fun α δ ha => (spiral_windB hw hh ha δ).1
    · exfalso
      have : A2 l = A2 (spiral w h').reverse := sumBy_perm r.sds
      rw [A2_rev] at this; omega
    · exfalso
      have : A2 l = A2 ((spiral w h').map sw) := sumBy_perm r.sds
      omega
    · exact fin _ r b2 fun α δ ha => (spiral_windB hw hh ha δ).2
end LW
/-! part MTri5 -/
namespace LW
/-! ### the steps of the triangles -/
abbrev Stp := Pt × Pt
def edgesT (t : Tri) : List Stp := [(t.2.2, t.1), (t.1, t.2.1), (t.2.1, t.2.2)]
def edgesL (ts : List Tri) : List Stp := ts.flatMap edgesT
theorem tri_ne {t : Tri} (h : 0 < crT t) : t.1 ≠ t.2.1 ∧ t.2.1 ≠ t.2.2 ∧ t.2.2 ≠ t.1 := by
  obtain ⟨a, b, c⟩ := t
  have h' : 0 < cr a b c := h
  refine ⟨fun z => ?_, fun z => ?_, fun z => ?_⟩ <;> simp only at z <;> subst z <;> simp only [cr] at h' <;> grind
theorem edges_one {t : Tri} (h : 0 < crT t) (e : Stp) : (edgesT t).count e ≤ 1 := by
  obtain ⟨n1, n2, n3⟩ := tri_ne h
  have : (edgesT t).Nodup := by
    unfold edgesT
    simp only [List.nodup_cons, List.mem_cons, List.not_mem_nil, or_false, not_or, Prod.mk.injEq, not_and, not_false_iff, and_true, List.nodup_nil]
    exact ⟨⟨fun z => absurd z.symm (fun q => n3 q.symm), fun z => absurd z.symm n2⟩, fun z => absurd z n1⟩
  exact List.nodup_iff_count.mp this e
theorem wind_edge {α β : Int} {t : Tri} {u v : Pt} (h : 0 < crT t) (hne : ph α β u ≠ ph α β v) (he : (u, v) ∈ edgesT t) : 1 ≤ triS (chiW α β (decide (ph α β u < ph α β v)) (u.1 + v.1, u.2 + v.2)) t := by
  obtain ⟨a, b, c⟩ := t
  have h' : 0 < cr a b c := h
  have c1 := cr_cyc a b c
  have c2 := cr_cyc b c a
  unfold edgesT at he
  simp only [List.mem_cons, List.not_mem_nil, or_false, Prod.mk.injEq] at he
  unfold triS
  simp only
  rcases he with ⟨rfl, rfl⟩ | ⟨rfl, rfl⟩ | ⟨rfl, rfl⟩
  · have := tri_edge (u := u) (v := v) (c := b) (by omega) hne; omega
  · have := tri_edge (u := u) (v := v) (c := c) (by omega) hne; omega
  · have := tri_edge (u := u) (v := v) (c := a) (by omega) hne; omega
theorem count_edges {α β : Int} {u v : Pt} (hne : ph α β u ≠ ph α β v) : ∀ {ts : List Tri}, (∀ t ∈ ts, 0 < crT t) → (((edgesL ts).count (u, v) : Nat) : Int) ≤ trisS (chiW α β (decide (ph α β u < ph α β v)) (u.1 + v.1, u.2 + v.2)) ts
  | [], _ => Int.le_refl _
  | t :: ts, h => by
    have ih := count_edges hne (ts := ts) fun x hx => h x (List.mem_cons_of_mem _ hx)
    have ht := h t List.mem_cons_self
    unfold edgesL trisS at *
    rw [List.flatMap_cons, List.count_append, List.map_cons, List.sum_cons]
    have : (((edgesT t).count (u, v) : Nat) : Int) ≤ triS (chiW α β (decide (ph α β u < ph α β v)) (u.1 + v.1, u.2 + v.2)) t := by
      by_cases he : (u, v) ∈ edgesT t
      · have := wind_edge ht hne he
        have := edges_one ht (u, v)
        omega
      · rw [List.count_eq_zero.mpr he]
        exact triS_nn ht
    omega
theorem edges_nodup {l : List Pt} {ts : List Tri} (hw : WOK l) (hp : ∀ t ∈ ts, 0 < crT t) (hs : ∀ χ, AddF χ → trisS χ ts = ringS χ l) : (edgesL ts).Nodup := by
  rw [List.nodup_iff_count]
  rintro ⟨u, v⟩
  by_cases huv : u = v
  · subst huv
    have : (u, u) ∉ edgesL ts := fun h => by
      obtain ⟨t, ht, he⟩ := List.mem_flatMap.mp h
      obtain ⟨n1, n2, n3⟩ := tri_ne (hp t ht)
      unfold edgesT at he
      simp only [List.mem_cons, List.not_mem_nil, or_false, Prod.mk.injEq] at he
      rcases he with ⟨h1, h2⟩ | ⟨h1, h2⟩ | ⟨h1, h2⟩
      · exact n3 (h1.symm.trans h2)
      · exact n1 (h1.symm.trans h2)
      · exact n2 (h1.symm.trans h2)
    rw [List.count_eq_zero.mpr this]; decide
  · obtain ⟨α, β, hne, hwd⟩ := hw u v huv
    have h1 := count_edges hne hp
    rw [hs _ (chiW_add _ _ _ _)] at h1
    have := hwd (decide (ph α β u < ph α β v)) (u.1 + v.1, u.2 + v.2)
    omega
/-! ### how often a step is gone along -/
structure Prim (u v : Pt) (g h : Int) : Prop where
  one : g * (v.1 - u.1) + h * (v.2 - u.2) = 1
def tauE (u : Pt) (g h : Int) (p : Pt) : Int := g * (p.1 - u.1) + h * (p.2 - u.2)
def fE (u : Pt) (g h : Int) (p : Pt) : Int := if tauE u g h p ≤ 0 then 1 else 0
def chiE (u v : Pt) (g h : Int) (a b : Pt) : Int := if cr u v a = 0 ∧ cr u v b = 0 then fE u g h a - fE u g h b else 0
theorem chiE_add (u v : Pt) (g h : Int) : AddF (chiE u v g h) := by
  refine ⟨fun a b => ?_, fun a b c hb => ?_⟩
  · unfold chiE
    by_cases k : cr u v a = 0 ∧ cr u v b = 0
    · rw [if_pos k, if_pos ⟨k.2, k.1⟩]; omega
    · rw [if_neg k, if_neg fun z => k ⟨z.2, z.1⟩]; rfl
  · obtain ⟨n, k, k0, kn, e1, e2⟩ := hb
    have id : n * (cr u v b - cr u v a) = k * (cr u v c - cr u v a) := by simp only [cr]; grind
    have ab : cr u v a = 0 → cr u v b = 0 → cr u v c = 0 := fun x y => by
      rw [x, y] at id
      have : k * cr u v c = 0 := by grind
      rcases Int.mul_eq_zero.mp this with z | z <;> omega
    have bc : cr u v b = 0 → cr u v c = 0 → cr u v a = 0 := fun x y => by
      rw [x, y] at id
      have : (n - k) * cr u v a = 0 := by grind
      rcases Int.mul_eq_zero.mp this with z | z <;> omega
    have ac : cr u v a = 0 → cr u v c = 0 → cr u v b = 0 := fun x y => by
      rw [x, y] at id
      have : n * cr u v b = 0 := by grind
      rcases Int.mul_eq_zero.mp this with z | z <;> omega
    unfold chiE
    by_cases x : cr u v a = 0 <;> by_cases y : cr u v b = 0 <;> by_cases z : cr u v c = 0
    · rw [if_pos ⟨x, y⟩, if_pos ⟨y, z⟩, if_pos ⟨x, z⟩]; omega
    · exact absurd (ab x y) z
    · exact absurd (ac x z) y
    · rw [if_neg fun w => y w.2, if_neg fun w => y w.1, if_neg fun w => z w.2]; rfl
    · exact absurd (bc y z) x
    · rw [if_neg fun w => x w.1, if_neg fun w => z w.2, if_neg fun w => x w.1]; rfl
    · rw [if_neg fun w => x w.1, if_neg fun w => y w.1, if_neg fun w => x w.1]; rfl
    · rw [if_neg fun w => x w.1, if_neg fun w => y w.1, if_neg fun w => x w.1]; rfl
theorem on_line {u v p : Pt} {g h : Int} (hp : Prim u v g h) (hc : cr u v p = 0) : p.1 = u.1 + tauE u g h p * (v.1 - u.1) ∧ p.2 = u.2 + tauE u g h p * (v.2 - u.2) := by
  have o := hp.one
  simp only [cr] at hc
  unfold tauE
  constructor
  · have : (g * (p.1 - u.1) + h * (p.2 - u.2)) * (v.1 - u.1) = (p.1 - u.1) * (g * (v.1 - u.1) + h * (v.2 - u.2)) - h * ((v.1 - u.1) * (p.2 - u.2) - (v.2 - u.2) * (p.1 - u.1)) * (-1) - 0 := by grind
    rw [o, hc] at this; omega
  · have : (g * (p.1 - u.1) + h * (p.2 - u.2)) * (v.2 - u.2) = (p.2 - u.2) * (g * (v.1 - u.1) + h * (v.2 - u.2)) - g * ((v.1 - u.1) * (p.2 - u.2) - (v.2 - u.2) * (p.1 - u.1)) := by grind
    rw [o, hc] at this; omega
end LW
/-! part MTri6 -/
namespace LW
theorem tau_u (u : Pt) (g h : Int) : tauE u g h u = 0 := by simp only [tauE]; grind
theorem tau_v {u v : Pt} {g h : Int} (hp : Prim u v g h) : tauE u g h v = 1 := hp.one
/-- a side of a least triangle -/
theorem chiE_edge {u v a b c : Pt} {g h : Int} (hp : Prim u v g h) (h1 : cr a b c = 1) : chiE u v g h a b = (if (a, b) = (u, v) then 1 else 0) - (if (a, b) = (v, u) then 1 else 0) := by
  have huv : u ≠ v := fun z => by have := hp.one; rw [z] at this; simp at this
  by_cases k : cr u v a = 0 ∧ cr u v b = 0
  · obtain ⟨ea1, ea2⟩ := on_line hp k.1
    obtain ⟨eb1, eb2⟩ := on_line hp k.2
    have hm : (tauE u g h b - tauE u g h a) * ((v.1 - u.1) * (c.2 - a.2) - (v.2 - u.2) * (c.1 - a.1)) = 1 := by
      rw [← h1]
      simp only [cr]
      rw [show b.1 - a.1 = (tauE u g h b - tauE u g h a) * (v.1 - u.1) by rw [ea1, eb1]; simp only [tauE]; grind, show b.2 - a.2 = (tauE u g h b - tauE u g h a) * (v.2 - u.2) by rw [ea2, eb2]; simp only [tauE]; grind]
      grind
    have hm' : tauE u g h b - tauE u g h a = 1 ∨ tauE u g h b - tauE u g h a = -1 := by
      have z := congrArg Int.natAbs hm
      rw [Int.natAbs_mul] at z
      have := Nat.dvd_one.mp ⟨_, z.symm⟩
      omega
    unfold chiE
    rw [if_pos k]
    unfold fE
    have au : a = u ↔ tauE u g h a = 0 := ⟨fun z => by rw [z]; exact tau_u u g h, fun z => Prod.ext (by rw [ea1, z]; omega) (by rw [ea2, z]; omega)⟩
    have av : a = v ↔ tauE u g h a = 1 := ⟨fun z => by rw [z]; exact tau_v hp, fun z => Prod.ext (by rw [ea1, z]; omega) (by rw [ea2, z]; omega)⟩
    have bu : b = u ↔ tauE u g h b = 0 := ⟨fun z => by rw [z]; exact tau_u u g h, fun z => Prod.ext (by rw [eb1, z]; omega) (by rw [eb2, z]; omega)⟩
    have bv : b = v ↔ tauE u g h b = 1 := ⟨fun z => by rw [z]; exact tau_v hp, fun z => Prod.ext (by rw [eb1, z]; omega) (by rw [eb2, z]; omega)⟩
    simp only [Prod.mk.injEq, au, av, bu, bv]
    generalize tauE u g h a = x at *
    generalize tauE u g h b = y at *
    split <;> split <;> split <;> split <;> omega
  · unfold chiE
    rw [if_neg k]
    have n1 : ¬ (a, b) = (u, v) := fun z => by
      rw [Prod.mk.injEq] at z
      refine k ?_
      rw [z.1, z.2]
      exact ⟨by simp only [cr]; grind, by simp only [cr]; grind⟩
    have n2 : ¬ (a, b) = (v, u) := fun z => by
      rw [Prod.mk.injEq] at z
      refine k ?_
      rw [z.1, z.2]
      exact ⟨by simp only [cr]; grind, by simp only [cr]; grind⟩
    rw [if_neg n1, if_neg n2]; rfl
theorem count3 (a b c x : Stp) : ((([a, b, c] : List Stp).count x : Nat) : Int) = (if a = x then 1 else 0) + (if b = x then 1 else 0) + (if c = x then (1 : Int) else 0) := by
  simp only [List.count_cons, List.count_nil, beq_iff_eq]
  split <;> split <;> split <;> rfl
theorem chiE_tris {u v : Pt} {g h : Int} (hp : Prim u v g h) : ∀ {ts : List Tri}, (∀ t ∈ ts, crT t = 1) → trisS (chiE u v g h) ts = (((edgesL ts).count (u, v) : Nat) : Int) - (((edgesL ts).count (v, u) : Nat) : Int)
  | [], _ => rfl
  | t :: ts, H => by
    have ih := chiE_tris hp (ts := ts) fun x hx => H x (List.mem_cons_of_mem _ hx)
    have ht := H t List.mem_cons_self
    obtain ⟨a, b, c⟩ := t
    have h1 : cr a b c = 1 := ht
    have c1 := cr_cyc a b c
    have c2 := cr_cyc b c a
    unfold edgesL trisS at *
    rw [List.flatMap_cons, List.count_append, List.count_append, List.map_cons, List.sum_cons, ih]
    have e : triS (chiE u v g h) (a, b, c) = (((edgesT (a, b, c)).count (u, v) : Nat) : Int) - (((edgesT (a, b, c)).count (v, u) : Nat) : Int) := by
      unfold triS edgesT
      rw [count3, count3]
      simp only
      rw [chiE_edge hp h1, chiE_edge hp (show cr b c a = 1 by omega), chiE_edge hp (show cr c a b = 1 by omega)]
      omega
    rw [e]; omega
/-- two sides do not pass over one step -/
theorem cover_rel {u v : Pt} {g h : Int} (hp : Prim u v g h) {s t : Sd} (hr : Rel s t) (h1 : chiE u v g h s.1 s.2 ≠ 0) (h2 : chiE u v g h t.1 t.2 ≠ 0) : False := by
  have cov : ∀ s : Sd, chiE u v g h s.1 s.2 ≠ 0 → cr u v s.1 = 0 ∧ cr u v s.2 = 0 ∧ ((tauE u g h s.1 ≤ 0 ∧ 1 ≤ tauE u g h s.2) ∨ (tauE u g h s.2 ≤ 0 ∧ 1 ≤ tauE u g h s.1)) := fun s hs => by
    unfold chiE at hs
    by_cases k : cr u v s.1 = 0 ∧ cr u v s.2 = 0
    · rw [if_pos k] at hs
      unfold fE at hs
      refine ⟨k.1, k.2, ?_⟩
      revert hs
      split <;> split <;> intro hs <;> omega
    · rw [if_neg k] at hs; exact absurd rfl hs
  obtain ⟨s1, s2, s3⟩ := cov s h1
  obtain ⟨t1, t2, t3⟩ := cov t h2
  obtain ⟨es1, es2⟩ := on_line hp s1
  obtain ⟨es3, es4⟩ := on_line hp s2
  obtain ⟨et1, et2⟩ := on_line hp t1
  obtain ⟨et3, et4⟩ := on_line hp t2
  have line : ∀ s t : Sd, (cr u v s.1 = 0 ∧ cr u v s.2 = 0 ∧ ((tauE u g h s.1 ≤ 0 ∧ 1 ≤ tauE u g h s.2) ∨ (tauE u g h s.2 ≤ 0 ∧ 1 ≤ tauE u g h s.1))) → (cr u v t.1 = 0 ∧ cr u v t.2 = 0 ∧ ((tauE u g h t.1 ≤ 0 ∧ 1 ≤ tauE u g h t.2) ∨ (tauE u g h t.2 ≤ 0 ∧ 1 ≤ tauE u g h t.1))) → Line s t → False := by
    rintro s t ⟨s1, s2, s3⟩ ⟨t1, t2, t3⟩ ⟨p, q, r, l1, l2, l3, l4⟩
    obtain ⟨es1, es2⟩ := on_line hp s1
    obtain ⟨es3, es4⟩ := on_line hp s2
    obtain ⟨et1, et2⟩ := on_line hp t1
    obtain ⟨et3, et4⟩ := on_line hp t2
    -- along the line
    have val : ∀ {z : Pt} {τ : Int}, z.1 = u.1 + τ * (v.1 - u.1) → z.2 = u.2 + τ * (v.2 - u.2) → p * z.1 + q * z.2 + r = (p * u.1 + q * u.2 + r) + τ * (p * (v.1 - u.1) + q * (v.2 - u.2)) := fun {z τ} e1 e2 => by rw [e1, e2]; grind
    rw [val es1 es2] at l1
    rw [val es3 es4] at l2
    rw [val et1 et2] at l3
    rw [val et3 et4] at l4
    generalize p * (v.1 - u.1) + q * (v.2 - u.2) = w at *
    generalize p * u.1 + q * u.2 + r = z at *
    generalize tauE u g h s.1 = a at *
    generalize tauE u g h s.2 = b at *
    generalize tauE u g h t.1 = c at *
    generalize tauE u g h t.2 = d at *
    -- z at nought: at most nought by s, above by t
    have sz : ∀ {a b : Int}, a ≤ 0 → 1 ≤ b → z + a * w ≤ 0 → z + b * w ≤ 0 → z ≤ 0 := fun {a b} ha hb k1 k2 => by
      refine Classical.byContradiction fun hz => ?_
      have e : (b - a) * z = b * (z + a * w) - a * (z + b * w) := by grind
      have p1 := Int.mul_pos (show 0 < b - a by omega) (show 0 < z by omega)
      have p2 := Int.mul_nonpos_of_nonneg_of_nonpos (show 0 ≤ b by omega) k1
      have p3 := Int.mul_nonneg_of_nonpos_of_nonpos ha k2
      omega
    have tz : ∀ {a b : Int}, a ≤ 0 → 1 ≤ b → 0 < z + a * w → 0 < z + b * w → 0 < z := fun {a b} ha hb k1 k2 => by
      refine Classical.byContradiction fun hz => ?_
      have e : (b - a) * z = b * (z + a * w) - a * (z + b * w) := by grind
      have p1 := Int.mul_nonpos_of_nonneg_of_nonpos (show 0 ≤ b - a by omega) (show z ≤ 0 by omega)
      have p2 := Int.mul_pos (show 0 < b by omega) k1
      have p3 := Int.mul_nonpos_of_nonpos_of_nonneg ha (show 0 ≤ z + b * w by omega)
      omega
    have z1 : z ≤ 0 := by
      rcases s3 with k | k
      · exact sz k.1 k.2 l1 l2
      · exact sz k.1 k.2 l2 l1
    have z2 : 0 < z := by
      rcases t3 with k | k
      · exact tz k.1 k.2 l3 l4
      · exact tz k.1 k.2 l4 l3
    omega
  have dd : 0 < (v.1 - u.1) * (v.1 - u.1) + (v.2 - u.2) * (v.2 - u.2) := by
    have o := hp.one
    have n1 := sq_nn (v.1 - u.1)
    have n2 := sq_nn (v.2 - u.2)
    refine Classical.byContradiction fun hz => ?_
    have z1 : (v.1 - u.1) * (v.1 - u.1) = 0 := by omega
    have z2 : (v.2 - u.2) * (v.2 - u.2) = 0 := by omega
    have w1 : v.1 - u.1 = 0 := by rcases Int.mul_eq_zero.mp z1 with k | k <;> exact k
    have w2 : v.2 - u.2 = 0 := by rcases Int.mul_eq_zero.mp z2 with k | k <;> exact k
    rw [w1, w2] at o; omega
  -- two on the same side of a corner
  have fold : ∀ {a m b : Pt}, cr u v a = 0 → cr u v m = 0 → cr u v b = 0 → NoFold a m b → ((tauE u g h m ≤ 0 ∧ 1 ≤ tauE u g h a ∧ 1 ≤ tauE u g h b) ∨ (1 ≤ tauE u g h m ∧ tauE u g h a ≤ 0 ∧ tauE u g h b ≤ 0)) → False := fun {a m b} ha hm hb nf k => by
    obtain ⟨a1, a2⟩ := on_line hp ha
    obtain ⟨m1, m2⟩ := on_line hp hm
    obtain ⟨b1, b2⟩ := on_line hp hb
    generalize tauE u g h a = x at *
    generalize tauE u g h m = y at *
    generalize tauE u g h b = z at *
    refine nf ⟨?_, ?_⟩
    · simp only [cr]; rw [a1, a2, m1, m2, b1, b2]; grind
    · have e : dt a m b = ((x - y) * (z - y)) * ((v.1 - u.1) * (v.1 - u.1) + (v.2 - u.2) * (v.2 - u.2)) := by simp only [dt]; rw [a1, a2, m1, m2, b1, b2]; grind
      rw [e]
      refine Int.mul_pos ?_ dd
      rcases k with k | k
      · exact Int.mul_pos (by omega) (by omega)
      · exact Int.mul_pos_of_neg_of_neg (by omega) (by omega)
  rcases hr with (hr | hr) | ⟨e, nf⟩ | ⟨e, nf⟩ | ⟨e, nf⟩ | ⟨e, nf⟩
  · exact line s t ⟨s1, s2, s3⟩ ⟨t1, t2, t3⟩ hr
  · exact line t s ⟨t1, t2, t3⟩ ⟨s1, s2, s3⟩ hr
  · refine fold s1 s2 t2 nf ?_
    rw [← e] at t3; omega
  · refine fold t1 s1 s2 nf ?_
    rw [← e] at t3; omega
  · refine fold s2 s1 t2 nf ?_
    rw [← e] at t3; omega
  · refine fold s1 s2 t1 nf ?_
    rw [← e] at t3; omega
/-- a ring passes over a step once, or back once, or not at all -/
theorem ring_one {u v : Pt} {g h : Int} (hp : Prim u v g h) : ∀ {L : List Sd}, L.Pairwise Rel → (∀ s ∈ L, chiE u v g h s.1 s.2 ≠ 0 → sumBy (fun s => chiE u v g h s.1 s.2) L = chiE u v g h s.1 s.2) ∧ ((∀ s ∈ L, chiE u v g h s.1 s.2 = 0) → sumBy (fun s => chiE u v g h s.1 s.2) L = 0)
  | [], _ => ⟨fun s hs => (by cases hs), fun _ => rfl⟩
  | s :: L, H => by
    have H1 := List.pairwise_cons.mp H
    obtain ⟨i1, i2⟩ := ring_one hp H1.2
    constructor
    · intro t ht hc
      rw [sumBy_cons]
      rcases List.mem_cons.mp ht with rfl | ht
      · rw [i2 fun x hx => Classical.byContradiction fun hz => cover_rel hp (H1.1 x hx) hc hz]; omega
      · have : chiE u v g h s.1 s.2 = 0 := Classical.byContradiction fun hz => cover_rel hp (H1.1 t ht) hz hc
        rw [i1 t ht hc, this]; omega
    · intro hz
      exact sumBy_zero hz
end LW
/-! part MTri7 -/
namespace LW
theorem bez_nat (m n : Nat) : ∃ a b : Int, a * m + b * n = (Nat.gcd m n : Nat) := by
  induction m, n using Nat.gcd.induction with
  | H0 n => exact ⟨0, 1, by rw [Nat.gcd_zero_left]; omega⟩
  | H1 m n hm ih =>
    obtain ⟨a, b, e⟩ := ih
    refine ⟨b - a * ((n / m : Nat) : Int), a, ?_⟩
    rw [Nat.gcd_rec, ← e]
    have h : (n : Int) = m * ((n / m : Nat) : Int) + ((n % m : Nat) : Int) := by
      have := Nat.div_add_mod n m
      rw [← Int.natCast_mul, ← Int.natCast_add, this]
    rw [h]; grind
theorem bez (x y : Int) : ∃ a b : Int, a * x + b * y = (Int.gcd x y : Nat) := by
  obtain ⟨a, b, e⟩ := bez_nat x.natAbs y.natAbs
  have sx : ∃ s : Int, (x.natAbs : Int) = s * x := by
    rcases Int.natAbs_eq x with h | h
    · exact ⟨1, by omega⟩
    · exact ⟨-1, by omega⟩
  have sy : ∃ s : Int, (y.natAbs : Int) = s * y := by
    rcases Int.natAbs_eq y with h | h
    · exact ⟨1, by omega⟩
    · exact ⟨-1, by omega⟩
  obtain ⟨s, hs⟩ := sx
  obtain ⟨t, ht⟩ := sy
  refine ⟨a * s, b * t, ?_⟩
  show _ = ((Nat.gcd x.natAbs y.natAbs : Nat) : Int)
  rw [← e, hs, ht]; grind
/-! ### the whole steps of a ring -/
def gS (s : Sd) : Nat := Int.gcd (s.2.1 - s.1.1) (s.2.2 - s.1.2)
def stepJ (s : Sd) (j : Int) : Stp := ((s.1.1 + (s.2.1 - s.1.1) / (gS s : Nat) * j, s.1.2 + (s.2.2 - s.1.2) / (gS s : Nat) * j), (s.1.1 + (s.2.1 - s.1.1) / (gS s : Nat) * j + (s.2.1 - s.1.1) / (gS s : Nat), s.1.2 + (s.2.2 - s.1.2) / (gS s : Nat) * j + (s.2.2 - s.1.2) / (gS s : Nat)))
def stepsOf (s : Sd) : List Stp := (List.range' 0 (gS s)).map fun j => stepJ s (j : Nat)
def backL (l : List Pt) : List Sd := (List.range' 0 l.length).map fun k => (ptI l ((k : Nat) - 1 : Int), ptI l (k : Nat))
def stepsL (l : List Pt) : List Stp := (backL l).flatMap stepsOf
theorem back_perm {l : List Pt} (h : l ≠ []) : (sdsL l).Perm (backL l) := (sds_back h).symm
theorem gS_pos {s : Sd} {j : Nat} (h : j ∈ List.range' 0 (gS s)) : 0 < gS s := by rw [List.mem_range'_1] at h; omega
theorem gS_dvd (s : Sd) : ((gS s : Nat) : Int) ∣ s.2.1 - s.1.1 ∧ ((gS s : Nat) : Int) ∣ s.2.2 - s.1.2 := ⟨Int.gcd_dvd_left .., Int.gcd_dvd_right ..⟩
theorem step_prim {s : Sd} {e : Stp} (h : e ∈ stepsOf s) : ∃ g k, Prim e.1 e.2 g k := by
  obtain ⟨j, hj, rfl⟩ := List.mem_map.mp h
  have hp := gS_pos hj
  obtain ⟨a, b, e⟩ := bez (s.2.1 - s.1.1) (s.2.2 - s.1.2)
  obtain ⟨d1, d2⟩ := gS_dvd s
  refine ⟨a, b, ⟨?_⟩⟩
  have q1 := Int.mul_ediv_cancel' d1
  have q2 := Int.mul_ediv_cancel' d2
  unfold stepJ
  simp only
  have e' : a * (s.2.1 - s.1.1) + b * (s.2.2 - s.1.2) = (gS s : Nat) := e
  generalize (gS s : Nat) = G at *
  generalize (s.2.1 - s.1.1) / (G : Int) = x at *
  generalize (s.2.2 - s.1.2) / (G : Int) = y at *
  rw [← q1, ← q2] at e'
  have : (G : Int) * (a * x + b * y) = G * 1 := by grind
  have := Int.eq_of_mul_eq_mul_left (by omega) this
  grind
theorem step_chi {s : Sd} {u v : Pt} {g h : Int} (hp : Prim u v g h) (hm : (u, v) ∈ stepsOf s) : chiE u v g h s.1 s.2 = 1 := by
  obtain ⟨j, hj, e⟩ := List.mem_map.mp hm
  have hg := gS_pos hj
  rw [List.mem_range'_1] at hj
  obtain ⟨d1, d2⟩ := gS_dvd s
  have q1 := Int.mul_ediv_cancel' d1
  have q2 := Int.mul_ediv_cancel' d2
  unfold stepJ at e
  rw [Prod.mk.injEq] at e
  obtain ⟨e1, e2⟩ := e
  have u1 := congrArg Prod.fst e1
  have u2 := congrArg Prod.snd e1
  have v1 := congrArg Prod.fst e2
  have v2 := congrArg Prod.snd e2
  simp only at u1 u2 v1 v2
  generalize hG : ((gS s : Nat) : Int) = G at *
  generalize hx : (s.2.1 - s.1.1) / G = x at *
  generalize hy : (s.2.2 - s.1.2) / G = y at *
  have o := hp.one
  have x1 : v.1 - u.1 = x := by omega
  have y1 : v.2 - u.2 = y := by omega
  rw [x1, y1] at o
  have t1 : tauE u g h s.1 = -(j : Int) := by
    unfold tauE
    have a1 : s.1.1 - u.1 = -(x * j) := by omega
    have a2 : s.1.2 - u.2 = -(y * j) := by omega
    rw [a1, a2]
    have : g * -(x * (j : Int)) + h * -(y * j) = -(j * (g * x + h * y)) := by grind
    rw [this, o]; omega
  have t2 : tauE u g h s.2 = G - j := by
    unfold tauE
    have a1 : s.2.1 - u.1 = G * x - x * j := by omega
    have a2 : s.2.2 - u.2 = G * y - y * j := by omega
    rw [a1, a2]
    have : g * (G * x - x * (j : Int)) + h * (G * y - y * j) = (G - j) * (g * x + h * y) := by grind
    rw [this, o]; omega
  have c1 : cr u v s.1 = 0 := by
    simp only [cr]
    rw [x1, y1, show s.1.1 - u.1 = -(x * j) by omega, show s.1.2 - u.2 = -(y * j) by omega]; grind
  have c2 : cr u v s.2 = 0 := by
    simp only [cr]
    rw [x1, y1, show s.2.1 - u.1 = G * x - x * j by omega, show s.2.2 - u.2 = G * y - y * j by omega]; grind
  unfold chiE fE
  rw [if_pos ⟨c1, c2⟩, t1, t2, if_pos (by omega), if_neg (by omega)]; rfl
theorem chi_step {s : Sd} {u v : Pt} {g h : Int} (hp : Prim u v g h) (hc : chiE u v g h s.1 s.2 = 1) : (u, v) ∈ stepsOf s := by
  unfold chiE at hc
  by_cases k : cr u v s.1 = 0 ∧ cr u v s.2 = 0
  · rw [if_pos k] at hc
    obtain ⟨a1, a2⟩ := on_line hp k.1
    obtain ⟨b1, b2⟩ := on_line hp k.2
    unfold fE at hc
    have ht : tauE u g h s.1 ≤ 0 ∧ 1 ≤ tauE u g h s.2 := by
      revert hc; split <;> split <;> intro hc <;> omega
    have o := hp.one
    generalize tauE u g h s.1 = τ1 at *
    generalize tauE u g h s.2 = τ2 at *
    have dx : s.2.1 - s.1.1 = (τ2 - τ1) * (v.1 - u.1) := by rw [a1, b1]; grind
    have dy : s.2.2 - s.1.2 = (τ2 - τ1) * (v.2 - u.2) := by rw [a2, b2]; grind
    have g1 : Int.gcd (v.1 - u.1) (v.2 - u.2) = 1 := by
      have d1 : ((Int.gcd (v.1 - u.1) (v.2 - u.2) : Nat) : Int) ∣ g * (v.1 - u.1) + h * (v.2 - u.2) := Int.dvd_add (Int.dvd_mul_of_dvd_right (Int.gcd_dvd_left ..)) (Int.dvd_mul_of_dvd_right (Int.gcd_dvd_right ..))
      rw [o] at d1
      have : Int.gcd (v.1 - u.1) (v.2 - u.2) ∣ 1 := Int.natCast_dvd_natCast.mp (by exact_mod_cast d1)
      exact Nat.dvd_one.mp this
    have hG : ((gS s : Nat) : Int) = τ2 - τ1 := by
      unfold gS
      rw [dx, dy, Int.gcd_mul_left, g1]; omega
    refine List.mem_map.mpr ⟨(-τ1).toNat, List.mem_range'_1.mpr ⟨by omega, by omega⟩, ?_⟩
    unfold stepJ
    rw [hG, dx, dy, Int.mul_ediv_cancel_left _ (by omega), Int.mul_ediv_cancel_left _ (by omega)]
    have hj : (((-τ1).toNat : Nat) : Int) = -τ1 := by omega
    rw [hj]
    refine Prod.ext (Prod.ext ?_ ?_) (Prod.ext ?_ ?_) <;> simp only
    · rw [a1]; grind
    · rw [a2]; grind
    · rw [a1]; grind
    · rw [a2]; grind
  · rw [if_neg k] at hc; exact absurd hc (by decide)
theorem edge_prim {t : Tri} (h : crT t = 1) {e : Stp} (he : e ∈ edgesT t) : ∃ g k, Prim e.1 e.2 g k := by
  obtain ⟨a, b, c⟩ := t
  have h1 : cr a b c = 1 := h
  have c1 := cr_cyc a b c
  have c2 := cr_cyc b c a
  unfold edgesT at he
  simp only [List.mem_cons, List.not_mem_nil, or_false] at he
  have key : ∀ {a b c : Pt}, cr a b c = 1 → Prim a b (c.2 - a.2) (-(c.1 - a.1)) := fun {a b c} h => ⟨by simp only [cr] at h; grind⟩
  rcases he with rfl | rfl | rfl
  · exact ⟨_, _, key (c := b) (by show cr c a b = 1; omega)⟩
  · exact ⟨_, _, key (c := c) h1⟩
  · exact ⟨_, _, key (c := a) (by show cr b c a = 1; omega)⟩
theorem fillsN {l : List Pt} {ts : List Tri} (g : Good l) (nd : (edgesL ts).Nodup) (hp : ∀ t ∈ ts, crT t = 1) (hs : ∀ χ, AddF χ → trisS χ ts = ringS χ l) :
    (edgesL ts).Nodup ∧ (∀ e ∈ edgesL ts, ((e.2, e.1) ∈ edgesL ts ↔ ¬ e ∈ stepsL l)) ∧ ∀ e ∈ stepsL l, e ∈ edgesL ts := by
  have ne : l ≠ [] := fun z => by have := g.lo; rw [z] at this; simp at this
  have memB : ∀ s, s ∈ backL l ↔ s ∈ sdsL l := fun s => (back_perm ne).mem_iff.symm
  have one : ∀ e, (edgesL ts).count e ≤ 1 := List.nodup_iff_count.mp nd
  have val : ∀ {u v : Pt} {a b : Int}, Prim u v a b → (((edgesL ts).count (u, v) : Nat) : Int) - (((edgesL ts).count (v, u) : Nat) : Int) = ringS (chiE u v a b) l := fun {u v a b} h => by
    rw [← chiE_tris h hp, hs _ (chiE_add u v a b)]
  have inS : ∀ {u v : Pt} {a b : Int}, Prim u v a b → (u, v) ∈ stepsL l → ringS (chiE u v a b) l = 1 := fun {u v a b} h he => by
    obtain ⟨s, hsb, hst⟩ := List.mem_flatMap.mp he
    have c := step_chi h hst
    have := (ring_one h g.rel).1 s ((memB s).mp hsb) (by rw [c]; decide)
    unfold ringS
    rw [this, c]
  have outS : ∀ {u v : Pt} {a b : Int}, Prim u v a b → ¬ (u, v) ∈ stepsL l → ringS (chiE u v a b) l ≤ 0 := fun {u v a b} h he => by
    unfold ringS
    by_cases hz : ∀ s ∈ sdsL l, chiE u v a b s.1 s.2 = 0
    · rw [(ring_one h g.rel).2 hz]; decide
    · obtain ⟨s, hs1, hs2⟩ : ∃ s, s ∈ sdsL l ∧ chiE u v a b s.1 s.2 ≠ 0 := Classical.byContradiction fun q => hz fun s h1 => Classical.byContradiction fun h2 => q ⟨s, h1, h2⟩
      rw [(ring_one h g.rel).1 s hs1 hs2]
      have n1 : chiE u v a b s.1 s.2 ≠ 1 := fun z => he (List.mem_flatMap.mpr ⟨s, (memB s).mpr hs1, chi_step h z⟩)
      revert n1
      unfold chiE fE
      split
      · split <;> split <;> intro n1 <;> omega
      · intro _; decide
  refine ⟨nd, ?_, ?_⟩
  · rintro ⟨u, v⟩ he
    obtain ⟨t, ht, het⟩ := List.mem_flatMap.mp he
    obtain ⟨a, b, hab⟩ := edge_prim (hp t ht) het
    have hab : Prim u v a b := hab
    have c1 : (edgesL ts).count (u, v) = 1 := by
      have := one (u, v)
      have := List.count_pos_iff.mpr he
      omega
    have v1 := val hab
    simp only
    constructor
    · intro hr hst
      rw [inS hab hst, c1] at v1
      have := List.count_pos_iff.mpr hr
      omega
    · intro hst
      have := outS hab hst
      refine List.count_pos_iff.mp ?_
      omega
  · rintro ⟨u, v⟩ he
    obtain ⟨s, hsb, hst⟩ := List.mem_flatMap.mp he
    obtain ⟨a, b, hab⟩ := step_prim hst
    have hab : Prim u v a b := hab
    have v1 := val hab
    rw [inS hab he] at v1
    refine List.count_pos_iff.mp ?_
    have : (((edgesL ts).count (u, v) : Nat) : Int) ≥ 1 := by omega
    omega
end LW
/-! part MTri8 -/
namespace LW
/-! ### a triangle cut at a point -/
structure InT (t : Tri) (P : Pt) : Prop where
  c1 : 0 ≤ cr t.1 t.2.1 P
  c2 : 0 ≤ cr t.2.1 t.2.2 P
  c3 : 0 ≤ cr t.2.2 t.1 P
  z1 : cr t.1 t.2.1 P = 0 → Btw t.1 P t.2.1
  z2 : cr t.2.1 t.2.2 P = 0 → Btw t.2.1 P t.2.2
  z3 : cr t.2.2 t.1 P = 0 → Btw t.2.2 P t.1
theorem InT.cyc {a b c P : Pt} (h : InT (a, b, c) P) : InT (b, c, a) P := ⟨h.c2, h.c3, h.c1, h.z2, h.z3, h.z1⟩
def splitT (t : Tri) (P : Pt) : List Tri := [(t.1, t.2.1, P), (t.2.1, t.2.2, P), (t.2.2, t.1, P)].filter fun s => decide (0 < crT s)
theorem split_pos {t : Tri} {P : Pt} : ∀ s ∈ splitT t P, 0 < crT s := fun s hs => by
  unfold splitT at hs
  rw [List.mem_filter, decide_eq_true_eq] at hs; exact hs.2
theorem flat_zero {χ : Pt → Pt → Int} (h : AddF χ) {a b P : Pt} (hb : Btw a P b) : triS χ (a, b, P) = 0 := by
  have := h.add a P b hb
  unfold triS
  simp only
  have h1 := h.neg P b
  have h2 := h.neg a P
  omega
theorem split_sum {χ : Pt → Pt → Int} (h : AddF χ) {t : Tri} {P : Pt} (i : InT t P) : trisS χ (splitT t P) = triS χ t := by
  obtain ⟨a, b, c⟩ := t
  have whole : triS χ (a, b, P) + triS χ (b, c, P) + triS χ (c, a, P) = triS χ (a, b, c) := by
    unfold triS
    simp only
    have h1 := h.neg a P
    have h2 := h.neg b P
    have h3 := h.neg c P
    omega
  have part : ∀ (s : Tri) (r : List Tri), (crT s ≤ 0 → triS χ s = 0) → trisS χ ((s :: r).filter fun s => decide (0 < crT s)) = triS χ s + trisS χ (r.filter fun s => decide (0 < crT s)) := fun s r hz => by
    rw [List.filter_cons]
    by_cases k : 0 < crT s
    · rw [if_pos (decide_eq_true k)]
      unfold trisS
      rw [List.map_cons, List.sum_cons]
    · rw [if_neg (by rw [decide_eq_true_eq]; exact k), hz (by omega)]; omega
  unfold splitT
  simp only
  rw [part _ _ fun k => flat_zero h (i.z1 (by have := i.c1; show cr a b P = 0; have k' : cr a b P ≤ 0 := k; have : 0 ≤ cr a b P := i.c1; omega)), part _ _ fun k => flat_zero h (i.z2 (by have k' : cr b c P ≤ 0 := k; have : 0 ≤ cr b c P := i.c2; show cr b c P = 0; omega)), part _ _ fun k => flat_zero h (i.z3 (by have k' : cr c a P ≤ 0 := k; have : 0 ≤ cr c a P := i.c3; show cr c a P = 0; omega))]
  show triS χ (a, b, P) + (triS χ (b, c, P) + (triS χ (c, a, P) + 0)) = triS χ (a, b, c)
  omega
def muT (ts : List Tri) : Int := (ts.map fun t => 2 * crT t - 1).sum
theorem muT_cons (t : Tri) (ts : List Tri) : muT (t :: ts) = 2 * crT t - 1 + muT ts := by unfold muT; rw [List.map_cons, List.sum_cons]
theorem muT_app (a b : List Tri) : muT (a ++ b) = muT a + muT b := by unfold muT; rw [List.map_append, List.sum_append]
theorem muT_nn {ts : List Tri} (h : ∀ t ∈ ts, 0 < crT t) : (ts.length : Int) ≤ muT ts := by
  induction ts with
  | nil => exact Int.le_refl _
  | cons t ts ih =>
    rw [muT_cons, List.length_cons]
    have := h t List.mem_cons_self
    have := ih fun x hx => h x (List.mem_cons_of_mem _ hx)
    omega
theorem split_mu {t : Tri} {P : Pt} (hD : 0 < crT t) (i : InT t P) : muT (splitT t P) < 2 * crT t - 1 := by
  obtain ⟨a, b, c⟩ := t
  have hD' : 0 < cr a b c := hD
  have c1 : 0 ≤ cr a b P := i.c1
  have c2 : 0 ≤ cr b c P := i.c2
  have c3 : 0 ≤ cr c a P := i.c3
  have sum := bary1 a b c P
  -- not two of them are nought
  have two : ∀ {a b c : Pt}, 0 < cr a b c → (cr a b P = 0 → Btw a P b) → cr a b P = 0 → cr b c P = 0 ∨ cr c a P = 0 → False := fun {a b c} hD z1 e k => by
    obtain ⟨n, m, m0, mn, e1, e2⟩ := z1 e
    have i1 : n * cr b c P = (n - m) * cr a b c := by
      have : n * cr b c P = n * cr b c a + (n * (P.2 - a.2)) * (c.1 - b.1) - (n * (P.1 - a.1)) * (c.2 - b.2) := by simp only [cr]; grind
      rw [this, e1, e2]; simp only [cr]; grind
    have i2 : n * cr c a P = m * cr a b c := by
      have : n * cr c a P = n * cr c a a + (n * (P.2 - a.2)) * (a.1 - c.1) - (n * (P.1 - a.1)) * (a.2 - c.2) := by simp only [cr]; grind
      rw [this, e1, e2]; simp only [cr]; grind
    rcases k with k | k
    · rw [k, Int.mul_zero] at i1
      have := Int.mul_pos (show 0 < n - m by omega) hD
      omega
    · rw [k, Int.mul_zero] at i2
      have := Int.mul_pos m0 hD
      omega
  have q1 := cr_cyc a b c
  have q2 := cr_cyc b c a
  have t1 : cr a b P = 0 → cr b c P = 0 ∨ cr c a P = 0 → False := fun e k => two hD' i.z1 e k
  have t2 : cr b c P = 0 → cr c a P = 0 ∨ cr a b P = 0 → False := fun e k => two (show 0 < cr b c a by omega) i.z2 e k
  unfold splitT muT
  simp only [List.filter_cons, List.filter_nil]
  show (List.map _ (if decide (0 < cr a b P) = true then (a, b, P) :: (if decide (0 < cr b c P) = true then (b, c, P) :: (if decide (0 < cr c a P) = true then [(c, a, P)] else []) else (if decide (0 < cr c a P) = true then [(c, a, P)] else [])) else (if decide (0 < cr b c P) = true then (b, c, P) :: (if decide (0 < cr c a P) = true then [(c, a, P)] else []) else (if decide (0 < cr c a P) = true then [(c, a, P)] else [])))).sum < 2 * cr a b c - 1
  simp only [decide_eq_true_eq]
  have v1 : crT (a, b, P) = cr a b P := rfl
  have v2 : crT (b, c, P) = cr b c P := rfl
  have v3 : crT (c, a, P) = cr c a P := rfl
  by_cases h1 : 0 < cr a b P <;> by_cases h2 : 0 < cr b c P <;> by_cases h3 : 0 < cr c a P <;> simp only [h1, h2, h3, if_true, if_false, List.map_cons, List.map_nil, List.sum_cons, List.sum_nil, v1, v2, v3]
  · omega
  · omega
  · omega
  · exact (t2 (by omega) (.inl (by omega))).elim
  · omega
  · exact (t1 (by omega) (.inr (by omega))).elim
  · exact (t1 (by omega) (.inl (by omega))).elim
  · exact (t1 (by omega) (.inl (by omega))).elim
/-- a point within a side -/
theorem inT_side {a b c P : Pt} (hD : 0 < cr a b c) (h : Btw a P b) : InT (a, b, c) P := by
  have hb := h
  obtain ⟨n, m, m0, mn, e1, e2⟩ := h
  have i0 : n * cr a b P = 0 := by
    have : n * cr a b P = (n * (P.2 - a.2)) * (b.1 - a.1) - (n * (P.1 - a.1)) * (b.2 - a.2) := by simp only [cr]; grind
    rw [this, e1, e2]; grind
  have i1 : n * cr b c P = (n - m) * cr a b c := by
    have : n * cr b c P = n * cr b c a + (n * (P.2 - a.2)) * (c.1 - b.1) - (n * (P.1 - a.1)) * (c.2 - b.2) := by simp only [cr]; grind
    rw [this, e1, e2]; simp only [cr]; grind
  have i2 : n * cr c a P = m * cr a b c := by
    have : n * cr c a P = n * cr c a a + (n * (P.2 - a.2)) * (a.1 - c.1) - (n * (P.1 - a.1)) * (a.2 - c.2) := by simp only [cr]; grind
    rw [this, e1, e2]; simp only [cr]; grind
  have z : cr a b P = 0 := by rcases Int.mul_eq_zero.mp i0 with k | k <;> omega
  have p1 : 0 < cr b c P := Int.pos_of_mul_pos_right (a := n) (by rw [i1]; exact Int.mul_pos (by omega) hD) (by omega)
  have p2 : 0 < cr c a P := Int.pos_of_mul_pos_right (a := n) (by rw [i2]; exact Int.mul_pos m0 hD) (by omega)
  refine ⟨by show 0 ≤ cr a b P; omega, by show 0 ≤ cr b c P; omega, by show 0 ≤ cr c a P; omega, fun _ => hb, fun k => ?_, fun k => ?_⟩
  · have k : cr b c P = 0 := k
    omega
  · have k : cr c a P = 0 := k
    omega
/-- the point one row above the first side -/
theorem inT_row {a b c : Pt} {p q along : Int} (hD : 2 ≤ cr a b c) (hs : p * (b.1 - a.1) + q * (b.2 - a.2) = 1)
    (h1 : (c.1 - a.1) * p + (c.2 - a.2) * q ≤ along * cr a b c) (h2 : along * cr a b c < (c.1 - a.1) * p + (c.2 - a.2) * q + cr a b c) : InT (a, b, c) (a.1 + along * (b.1 - a.1) - q, a.2 + along * (b.2 - a.2) + p) := by
  generalize hP : ((a.1 + along * (b.1 - a.1) - q, a.2 + along * (b.2 - a.2) + p) : Pt) = P
  have P1 : P.1 - a.1 = along * (b.1 - a.1) - q := by rw [← hP]; simp only; omega
  have P2 : P.2 - a.2 = along * (b.2 - a.2) + p := by rw [← hP]; simp only; omega
  have e1 : cr a b P = 1 := by
    simp only [cr]; rw [P1, P2]; grind
  -- the third corner by the first side and the step upward
  have cx : c.1 - a.1 = ((c.1 - a.1) * p + (c.2 - a.2) * q) * (b.1 - a.1) - cr a b c * q := by
    have : ((c.1 - a.1) * p + (c.2 - a.2) * q) * (b.1 - a.1) - cr a b c * q = (c.1 - a.1) * (p * (b.1 - a.1) + q * (b.2 - a.2)) := by simp only [cr]; grind
    rw [this, hs]; omega
  have cy : c.2 - a.2 = ((c.1 - a.1) * p + (c.2 - a.2) * q) * (b.2 - a.2) + cr a b c * p := by
    have : ((c.1 - a.1) * p + (c.2 - a.2) * q) * (b.2 - a.2) + cr a b c * p = (c.2 - a.2) * (p * (b.1 - a.1) + q * (b.2 - a.2)) := by simp only [cr]; grind
    rw [this, hs]; omega
  generalize hO : (c.1 - a.1) * p + (c.2 - a.2) * q = O at *
  generalize hC : cr a b c = D at *
  have e3 : cr c a P = along * D - O := by
    have : cr c a P = (c.2 - a.2) * (P.1 - a.1) - (c.1 - a.1) * (P.2 - a.2) := by simp only [cr]; grind
    rw [this, P1, P2, cx, cy]
    have : (O * (b.2 - a.2) + D * p) * (along * (b.1 - a.1) - q) - (O * (b.1 - a.1) - D * q) * (along * (b.2 - a.2) + p) = (along * D - O) * (p * (b.1 - a.1) + q * (b.2 - a.2)) := by grind
    rw [this, hs]; omega
  have sum := bary1 a b c P
  rw [hC, e1, e3] at sum
  have e2 : cr b c P = D - 1 - (along * D - O) := by omega
  have hn : 0 < D := by omega
  -- within a side, at height 1 of D
  have btw : ∀ x y : Pt, D * (P.1 - x.1) = 1 * (y.1 - x.1) → D * (P.2 - x.2) = 1 * (y.2 - x.2) → Btw x P y := fun x y k1 k2 => ⟨D, 1, by decide, by omega, k1, k2⟩
  refine ⟨by show 0 ≤ cr a b P; omega, by show 0 ≤ cr b c P; omega, by show 0 ≤ cr c a P; omega, fun k => ?_, fun k => ?_, fun k => ?_⟩
  · have k : cr a b P = 0 := k
    omega
  · have k : cr b c P = 0 := k
    -- on the side b c: D (P - b) = c - b
    have hz : along * D = D - 1 + O := by omega
    refine btw b c ?_ ?_
    · have : D * (P.1 - b.1) = (along * D) * (b.1 - a.1) - D * q - D * (b.1 - a.1) := by
        have : P.1 - b.1 = (along * (b.1 - a.1) - q) - (b.1 - a.1) := by omega
        rw [this]; grind
      rw [this, hz]
      have : c.1 - b.1 = (O * (b.1 - a.1) - D * q) - (b.1 - a.1) := by omega
      rw [this]; grind
    · have : D * (P.2 - b.2) = (along * D) * (b.2 - a.2) + D * p - D * (b.2 - a.2) := by
        have : P.2 - b.2 = (along * (b.2 - a.2) + p) - (b.2 - a.2) := by omega
        rw [this]; grind
      rw [this, hz]
      have : c.2 - b.2 = (O * (b.2 - a.2) + D * p) - (b.2 - a.2) := by omega
      rw [this]; grind
  · have k : cr c a P = 0 := k
    have hz : along * D = O := by omega
    have hb : Btw a P c := by
      refine btw a c ?_ ?_
      · rw [P1, cx, ← hz]; grind
      · rw [P2, cy, ← hz]; grind
    exact hb.symm
end LW
/-! part EF15 -/
namespace LW
open PySem (PyData Str)
open DL
open L2 (atI ixN kitB)
/-! ### is_ear, ears -/
def triD (t : Tri) : PyData := .tuple [pD t.1, pD t.2.1, pD t.2.2]
theorem shaped_triD (t : Tri) : PySem.SeqAt.shaped (triD t) = true := by
  unfold triD pD
  simp [PySem.SeqAt.shaped, PyData.canLay0, PyData.canLayAll0, PyData.depth, PyData.depthAll]
theorem gNotInT_tri (p : Pt) (t : Tri) : gNotInT (pD p) (triD t) = some (.bool (!(decide (p = t.1) || decide (p = t.2.1) || decide (p = t.2.2)))) := by
  have h := shaped_triD t
  unfold triD at h
  unfold gNotInT triD
  simp only
  rw [h, shaped_pD]
  simp only [Bool.and_self, if_true, List.any_cons, List.any_nil, pD_eqv, Bool.or_false]
  congr 3
  have e : ∀ a : Pt, decide (a = p) = decide (p = a) := fun a => decide_eq_decide.mpr eq_comm
  rw [e, e, e, Bool.or_assoc]
theorem e_is_ear {n : Nat} (hn : n ≤ 4000) {l : List Pt} (hb : ∀ p ∈ l, PB n p) (hl : l.length < 100000) {k : Nat} (hk : k < l.length) : g_is_ear [psD l, .int (k : Nat)] = some (.bool (isEarB l k)) := by
  have m0 := Int.emod_nonneg ((k : Int) + 1) (show (l.length : Int) ≠ 0 by omega)
  have m1 := Int.emod_lt_of_pos ((k : Int) + 1) (show (0 : Int) < (l.length : Int) by omega)
  have x1 := gIx_ok (l := l) (i := (k : Int) - 1) (by omega) (by omega)
  have x2 := gIx_ok (l := l) (i := (k : Int)) (by omega) (by omega)
  have x3 := gIx_ok (l := l) (i := ((k : Int) + 1) % l.length) (by omega) (by omega)
  have b1 := hb _ (ptI_mem (l := l) (i := (k : Int) - 1) (by omega) (by omega))
  have b2 := hb _ (ptI_mem (l := l) (i := (k : Int)) (by omega) (by omega))
  have b3 := hb _ (ptI_mem (l := l) (i := ((k : Int) + 1) % l.length) (by omega) (by omega))
  unfold isEarB
  generalize ptI l ((k : Int) - 1) = a at *
  generalize ptI l (k : Int) = b at *
  generalize ptI l (((k : Int) + 1) % l.length) = c at *
  unfold g_is_ear fb_is_ear
  refine runD_ret ?_
  refine dSeq_step (dSet_of (d := pD a) (f2_of rfl (f2_of rfl rfl rfl) x1)) ?_
  refine dSeq_step (dSet_of (d := pD b) (f2_of rfl rfl x2)) ?_
  refine dSeq_step (dSet_of (d := pD c) (f2_of rfl (f2_of (f2_of rfl rfl rfl) (fCall_of (fCons_of rfl rfl) (gLen_psD l)) (gMod_pos (by omega))) x3)) ?_
  show dSeq _ _ [some (.sh (psD l)), some (.sh (.int (k : Nat))), some (.sh (pD a)), some (.sh (pD b)), some (.sh (pD c)), none] = _
  have t1 : fTst (f2 gLe (fCallF 3 g_cross (fCons (fVar 2) (fCons (fVar 3) (fCons (fVar 4) fNil)))) (fC (.int 0))) (vO [some (.sh (psD l)), some (.sh (.int (k : Nat))), some (.sh (pD a)), some (.sh (pD b)), some (.sh (pD c)), none]) = some (decide (cr a b c ≤ 0)) :=
    fTst_of (f2_of (fCallF_of (fCons_of rfl (fCons_of rfl (fCons_of rfl rfl))) rfl (e_cross hn b1 b2 b3)) rfl rfl)
  by_cases h : 0 < cr a b c
  · refine dSeq_step ((dIf_f (t1.trans (by rw [decide_eq_false (by omega)]))).trans rfl) ?_
    rw [decide_eq_true h, Bool.true_and]
    let bad (p : Pt) : Bool := !(decide (p = a) || decide (p = b) || decide (p = c)) && (decide (0 ≤ cr a b p) && (decide (0 ≤ cr b c p) && decide (0 ≤ cr c a p)))
    have L := forF_find (F := (dIf (fAnd (fTst (f2 gNotInT (fVar 5) (fTup (fCons (fVar 2) (fCons (fVar 3) (fCons (fVar 4) fNil)))))) (fTst (f2 gGe (fCallF 3 g_cross (fCons (fVar 2) (fCons (fVar 3) (fCons (fVar 5) fNil)))) (fC (.int 0))))) (dIf (fAnd (fTst (f2 gGe (fCallF 3 g_cross (fCons (fVar 3) (fCons (fVar 4) (fCons (fVar 5) fNil)))) (fC (.int 0)))) (fTst (f2 gGe (fCallF 3 g_cross (fCons (fVar 4) (fCons (fVar 2) (fCons (fVar 5) fNil)))) (fC (.int 0))))) (dRet (fC (.bool false))) dNext) dNext)) (j := 5)
      (Inv := fun ρ => ∃ c5, ρ = [some (.sh (psD l)), some (.sh (.int (k : Nat))), some (.sh (pD a)), some (.sh (pD b)), some (.sh (pD c)), c5]) pD (fun p => if bad p then some (.bool false) else none) l (by
      rintro p hp ρ ⟨c5, rfl⟩
      have bp := hb p hp
      refine ⟨[some (.sh (psD l)), some (.sh (.int (k : Nat))), some (.sh (pD a)), some (.sh (pD b)), some (.sh (pD c)), some (.sh (pD p))], ⟨_, rfl⟩, ?_⟩
      show dIf _ _ _ [some (.sh (psD l)), some (.sh (.int (k : Nat))), some (.sh (pD a)), some (.sh (pD b)), some (.sh (pD c)), some (.sh (pD p))] = _
      have et : fTup (fCons (fVar 2) (fCons (fVar 3) (fCons (fVar 4) fNil))) (vO [some (.sh (psD l)), some (.sh (.int (k : Nat))), some (.sh (pD a)), some (.sh (pD b)), some (.sh (pD c)), some (.sh (pD p))]) = some (triD (a, b, c)) := fTup_of (ds := [pD a, pD b, pD c]) rfl (show 3 ≤ 1000 from Nat.le_of_ble_eq_true rfl)
      have g1 : fAnd (fTst (f2 gNotInT (fVar 5) (fTup (fCons (fVar 2) (fCons (fVar 3) (fCons (fVar 4) fNil)))))) (fTst (f2 gGe (fCallF 3 g_cross (fCons (fVar 2) (fCons (fVar 3) (fCons (fVar 5) fNil)))) (fC (.int 0)))) (vO [some (.sh (psD l)), some (.sh (.int (k : Nat))), some (.sh (pD a)), some (.sh (pD b)), some (.sh (pD c)), some (.sh (pD p))]) = some (!(decide (p = a) || decide (p = b) || decide (p = c)) && decide (0 ≤ cr a b p)) :=
        fAnd_all (fTst_of (f2_of rfl et (gNotInT_tri p (a, b, c)))) (fTst_of (f2_of (fCallF_of (fCons_of rfl (fCons_of rfl (fCons_of rfl rfl))) rfl (e_cross hn b1 b2 bp)) rfl rfl))
      have g2 : fAnd (fTst (f2 gGe (fCallF 3 g_cross (fCons (fVar 3) (fCons (fVar 4) (fCons (fVar 5) fNil)))) (fC (.int 0)))) (fTst (f2 gGe (fCallF 3 g_cross (fCons (fVar 4) (fCons (fVar 2) (fCons (fVar 5) fNil)))) (fC (.int 0)))) (vO [some (.sh (psD l)), some (.sh (.int (k : Nat))), some (.sh (pD a)), some (.sh (pD b)), some (.sh (pD c)), some (.sh (pD p))]) = some (decide (0 ≤ cr b c p) && decide (0 ≤ cr c a p)) :=
        fAnd_all (fTst_of (f2_of (fCallF_of (fCons_of rfl (fCons_of rfl (fCons_of rfl rfl))) rfl (e_cross hn b2 b3 bp)) rfl rfl)) (fTst_of (f2_of (fCallF_of (fCons_of rfl (fCons_of rfl (fCons_of rfl rfl))) rfl (e_cross hn b3 b1 bp)) rfl rfl))
      cases h1 : (!(decide (p = a) || decide (p = b) || decide (p = c)) && decide (0 ≤ cr a b p)) with
      | false =>
        have hbad : bad p = false := by
          show (!(decide (p = a) || decide (p = b) || decide (p = c)) && (decide (0 ≤ cr a b p) && (decide (0 ≤ cr b c p) && decide (0 ≤ cr c a p)))) = false
          rw [← Bool.and_assoc, h1]; rfl
        rw [dIf_f (g1.trans (by rw [h1])), hbad]; rfl
      | true =>
        rw [dIf_t (g1.trans (by rw [h1]))]
        have hbad : bad p = (decide (0 ≤ cr b c p) && decide (0 ≤ cr c a p)) := by
          show (!(decide (p = a) || decide (p = b) || decide (p = c)) && (decide (0 ≤ cr a b p) && (decide (0 ≤ cr b c p) && decide (0 ≤ cr c a p)))) = _
          rw [← Bool.and_assoc, h1]; rfl
        rw [hbad]
        cases h2 : (decide (0 ≤ cr b c p) && decide (0 ≤ cr c a p)) with
        | true => rw [dIf_t (g2.trans (by rw [h2]))]; rfl
        | false => rw [dIf_f (g2.trans (by rw [h2]))]; rfl) [some (.sh (psD l)), some (.sh (.int (k : Nat))), some (.sh (pD a)), some (.sh (pD b)), some (.sh (pD c)), none] ⟨none, rfl⟩
    obtain ⟨ρ', ⟨c5, rfl⟩, e⟩ := L
    have all_bad : ∀ m : List Pt, (m.all fun p => (decide (p = a) || decide (p = b) || decide (p = c)) || !(decide (0 ≤ cr a b p) && (decide (0 ≤ cr b c p) && decide (0 ≤ cr c a p)))) = (m.findSome? fun p => if bad p then some (PyData.bool false) else none).isNone ∧ ∀ r, (m.findSome? fun p => if bad p then some (PyData.bool false) else none) = some r → r = .bool false := fun m => by
      induction m with
      | nil => exact ⟨rfl, fun r h => by cases h⟩
      | cons p m ih =>
        rw [List.all_cons, List.findSome?_cons]
        have hbad : ((decide (p = a) || decide (p = b) || decide (p = c)) || !(decide (0 ≤ cr a b p) && (decide (0 ≤ cr b c p) && decide (0 ≤ cr c a p)))) = !bad p := by
          show _ = !(!(decide (p = a) || decide (p = b) || decide (p = c)) && (decide (0 ≤ cr a b p) && (decide (0 ≤ cr b c p) && decide (0 ≤ cr c a p))))
          cases (decide (p = a) || decide (p = b) || decide (p = c)) <;> simp
        rw [hbad]
        cases bad p with
        | true => exact ⟨rfl, fun r h => (Option.some.inj h).symm⟩
        | false => simpa using ih
    obtain ⟨f1', f2'⟩ := all_bad l
    rw [f1']
    cases hf : (l.findSome? fun p => if bad p then some (PyData.bool false) else none) with
    | some r =>
      rw [hf] at e
      have := f2' r hf
      subst this
      exact dSeq_ret ((dFor_of (ds := l.map pD) (fIL_of rfl)).trans e)
    | none =>
      rw [hf] at e
      exact dSeq_step ((dFor_of (ds := l.map pD) (fIL_of rfl)).trans e) rfl
  · rw [decide_eq_false h, Bool.false_and]
    exact dSeq_ret ((dIf_t (t1.trans (by rw [decide_eq_true (by omega)]))).trans rfl)
theorem whileF_stop {c : DL.Env → Option Bool} {F : SFn} {n : Nat} {ρ : Sto} (h : c (vO ρ) = some false) : whileF c F (n + 1) ρ = .next ρ := by unfold whileF; rw [h]
theorem whileF_go {c : DL.Env → Option Bool} {F : SFn} {n : Nat} {ρ ρ' : Sto} {r : Res} (h : c (vO ρ) = some true) (h2 : F ρ = .next ρ') (h3 : whileF c F n ρ' = r) : whileF c F (n + 1) ρ = r := by
  unfold whileF; simp only [h, h2, h3]
noncomputable def earC : DL.Env → Option Bool := fNot (fTst (fCallF 2 g_is_ear (fCons (fVar 1) (fCons (fVar 3) fNil))))
noncomputable def earI : SFn := dSet 3 (f2 gAdd (fVar 3) (fC (.int 1)))
def earSt (l0 l : List Pt) (ts : List Tri) (c3 : Option Cell) : Sto := [some (.sh (psD l0)), some (.ow (l.map pD)), some (.ow (ts.map triD)), c3]
theorem ear_find {m : Nat} (hn : m ≤ 4000) {l0 l : List Pt} {ts : List Tri} (hb : ∀ p ∈ l, PB m p) (hl : l.length < 100000) {k : Nat} (hk : k < l.length) (he : isEarB l k = true) (hf : ∀ j, j < k → isEarB l j = false) : ∀ (d j n : Nat), j + d = k → d < n →
    whileF earC earI n (earSt l0 l ts (some (.sh (.int (j : Nat))))) = .next (earSt l0 l ts (some (.sh (.int (k : Nat)))))
  | 0, j, n, hj, hd => by
    obtain ⟨n, rfl⟩ : ∃ n', n = n' + 1 := ⟨n - 1, by omega⟩
    have : j = k := by omega
    subst this
    exact whileF_stop ((fNot_of (fTst_of (fCallF_of (fCons_of (x := psD l) rfl (fCons_of rfl rfl)) rfl (e_is_ear hn hb hl hk)))).trans (by rw [he]; rfl))
  | d + 1, j, n, hj, hd => by
    obtain ⟨n, rfl⟩ : ∃ n', n = n' + 1 := ⟨n - 1, by omega⟩
    refine whileF_go (ρ' := earSt l0 l ts (some (.sh (.int ((j + 1 : Nat) : Int))))) ((fNot_of (fTst_of (fCallF_of (fCons_of (x := psD l) rfl (fCons_of rfl rfl)) rfl (e_is_ear hn hb hl (by omega))))).trans (by rw [hf j (by omega)]; rfl)) ?_ (ear_find hn hb hl hk he hf d (j + 1) n (by omega) (by omega))
    exact dSet_of (d := .int ((j + 1 : Nat) : Int)) (f2_of rfl rfl rfl)
noncomputable def earO : DL.Env → Option Bool := fTst (f2 gGt (fCall gLen (fCons (fVar 1) fNil)) (fC (.int 3)))
noncomputable def earB : SFn := dSeq (dSet 3 (fC (.int 0))) (dSeq (dWhile fuD earC earI) (dSeq (dAppO 2 (fTup (fCons (f2 gIx (fVar 1) (f2 gSub (fVar 3) (fC (.int 1)))) (fCons (f2 gIx (fVar 1) (fVar 3)) (fCons (f2 gIx (fVar 1) (f2 gMod (f2 gAdd (fVar 3) (fC (.int 1))) (fCall gLen (fCons (fVar 1) fNil)))) fNil))))) (dPopAt 1 (fVar 3))))
theorem dAppO_of {i : Nat} {f : DF} {ρ : Sto} {ds : List PyData} {d : PyData} (h0 : ρ[i]? = some (some (.ow ds))) (h1 : f (vO ρ) = some d) (h2 : ds.length < 1000000) (h3 : noL d = true) : dAppO i f ρ = .next (ρ.set i (some (.ow (ds ++ [d])))) := by
  unfold dAppO; rw [h0]; simp only [h1, h2, h3, if_true]
theorem dPopAt_of {i : Nat} {f : DF} {ρ : Sto} {ds : List PyData} {k : Nat} (h0 : ρ[i]? = some (some (.ow ds))) (h1 : f (vO ρ) = some (.int (k : Nat))) (h2 : k < ds.length) (h3 : ds.length < 1000000) : dPopAt i f ρ = .next (ρ.set i (some (.ow (ds.eraseIdx k)))) := by
  unfold dPopAt; rw [h0]; simp only [h1]
  rw [if_pos ⟨by omega, by omega, by omega⟩, Int.toNat_natCast]
theorem whileF_mono {c : DL.Env → Option Bool} {F : SFn} {ρ ρ' : Sto} : ∀ {n m : Nat}, n ≤ m → whileF c F n ρ = .next ρ' → whileF c F m ρ = .next ρ'
  | 0, m, _, h => by cases h
  | n + 1, 0, hm, h => by omega
  | n + 1, m + 1, hm, h => by
    unfold whileF at h ⊢
    cases hc : c (vO ρ) with
    | none => rw [hc] at h; cases h
    | some b =>
      rw [hc] at h
      cases b with
      | false => exact h
      | true =>
        simp only at h ⊢
        cases hF : F ρ <;> rw [hF] at h <;> simp only at h ⊢
        all_goals first
          | exact h
          | exact whileF_mono (by omega) h
theorem map_erase {α β : Type} (f : α → β) : ∀ (l : List α) (k : Nat), (l.map f).eraseIdx k = (l.eraseIdx k).map f
  | [], k => rfl
  | x :: l, 0 => rfl
  | x :: l, k + 1 => by
    rw [List.map_cons, List.eraseIdx_cons_succ, List.eraseIdx_cons_succ, List.map_cons, map_erase f l k]
theorem ears_loop {m : Nat} (hm : m ≤ 4000) {l0 : List Pt} {l : List Pt} {ts : List Tri} (h : Cuts l ts) : ∀ (us : List Tri) (c3 : Option Cell), (∀ p ∈ l, PB m p) → l.length < 1000 → us.length + ts.length < 1000 →
    ∃ l' t c3', whileF earO earB l.length (earSt l0 l us c3) = .next (earSt l0 l' (us ++ ts.dropLast) c3') ∧ l'.length = 3 ∧ ts.getLast? = some t ∧ t = (ptI l' 0, ptI l' 1, ptI l' 2) := by
  induction h with
  | @three l h hp =>
    intro us c3 hb hl hu
    refine ⟨l, _, c3, ?_, h, rfl, rfl⟩
    have e : l.length = 2 + 1 := h
    rw [e]
    refine (whileF_stop (fTst_of (f2_of (fCall_of (xs := [psD l]) rfl (gLen_psD l)) rfl (show gGt _ _ = some (.bool false) by rw [h]; rfl)))).trans ?_
    simp
  | @cut l k ts h hk he hf r ih =>
    intro us c3 hb hl hu
    rw [List.length_cons] at hu
    have m0 := Int.emod_nonneg ((k : Int) + 1) (show (l.length : Int) ≠ 0 by omega)
    have m1 := Int.emod_lt_of_pos ((k : Int) + 1) (show (0 : Int) < (l.length : Int) by omega)
    have x1 := gIx_ok (l := l) (i := (k : Int) - 1) (by omega) (by omega)
    have x2 := gIx_ok (l := l) (i := (k : Int)) (by omega) (by omega)
    have x3 := gIx_ok (l := l) (i := ((k : Int) + 1) % l.length) (by omega) (by omega)
    obtain ⟨l', t, c3', e, h3, ht, et⟩ := ih (us ++ [triAt l k]) (some (.sh (.int (k : Nat)))) (fun p hp => hb p (List.mem_of_mem_eraseIdx hp)) (by rw [List.length_eraseIdx, if_pos hk]; omega) (by rw [List.length_append]; simp only [List.length_cons, List.length_nil]; omega)
    have hne : ts ≠ [] := fun z => by rw [z] at ht; cases ht
    refine ⟨l', t, c3', ?_, h3, by rw [List.getLast?_cons_of_ne_nil hne]; exact ht, et⟩
    have el : l.length = (l.eraseIdx k).length + 1 := by rw [List.length_eraseIdx, if_pos hk]; omega
    rw [el]
    have edl : us ++ (triAt l k :: ts).dropLast = (us ++ [triAt l k]) ++ ts.dropLast := by
      rw [List.dropLast_cons_of_ne_nil hne]; simp
    rw [edl]
    refine whileF_go (ρ' := earSt l0 (l.eraseIdx k) (us ++ [triAt l k]) (some (.sh (.int (k : Nat))))) (fTst_of (f2_of (fCall_of (xs := [psD l]) rfl (gLen_psD l)) rfl (show gGt _ _ = some (.bool true) by
      show some (PyData.bool (decide (((l.length : Nat) : Int) > 3))) = _
      rw [decide_eq_true (by omega)]))) ?_ e
    unfold earB
    refine dSeq_step (dSet_of (d := .int ((0 : Nat) : Int)) rfl) ?_
    show dSeq _ _ (earSt l0 l us (some (.sh (.int ((0 : Nat) : Int))))) = _
    refine dSeq_step (show dWhile fuD earC earI _ = .next (earSt l0 l us (some (.sh (.int (k : Nat))))) from ear_find hm hb (by omega) hk he hf k 0 _ (by omega) (by unfold fuD; omega)) ?_
    have et : fTup (fCons (f2 gIx (fVar 1) (f2 gSub (fVar 3) (fC (.int 1)))) (fCons (f2 gIx (fVar 1) (fVar 3)) (fCons (f2 gIx (fVar 1) (f2 gMod (f2 gAdd (fVar 3) (fC (.int 1))) (fCall gLen (fCons (fVar 1) fNil)))) fNil))) (vO (earSt l0 l us (some (.sh (.int (k : Nat)))))) = some (triD (triAt l k)) := by
      refine fTup_of (ds := [pD (ptI l ((k : Int) - 1)), pD (ptI l (k : Int)), pD (ptI l (((k : Int) + 1) % l.length))]) (fCons_of (f2_of (x := psD l) rfl (f2_of rfl rfl rfl) x1) (fCons_of (f2_of (x := psD l) rfl rfl x2) (fCons_of (f2_of (x := psD l) rfl (f2_of (f2_of rfl rfl rfl) (fCall_of (xs := [psD l]) rfl (gLen_psD l)) (gMod_pos (by omega))) x3) rfl))) (show 3 ≤ 1000 from Nat.le_of_ble_eq_true rfl)
    refine dSeq_step (dAppO_of (ds := us.map triD) rfl et (by rw [List.length_map]; omega) rfl) ?_
    refine (dPopAt_of (ds := l.map pD) (k := k) rfl rfl (by rw [List.length_map]; exact hk) (by rw [List.length_map]; omega)).trans ?_
    unfold earSt
    rw [List.map_append]
    have : (l.map pD).eraseIdx k = (l.eraseIdx k).map pD := map_erase pD l k
    rw [← this]; rfl
theorem runN_ret' {n : Nat} {F : SFn} {ds es : List PyData} (h : F (sto0 n ds) = .retN es) : DL.runN n F ds = some es := by unfold DL.runN; rw [h]
theorem e_ears {m : Nat} (hm : m ≤ 4000) {l : List Pt} {ts : List Tri} (h : Cuts l ts) (hb : ∀ p ∈ l, PB m p) (hl : l.length < 500) : g_ears [psD l] = some (ts.map triD) := by
  have hlen := h.pos.2.2
  obtain ⟨l', t, c3', e, h3, ht, et⟩ := ears_loop hm (l0 := l) h [] none hb (by omega) (by simp; omega)
  rw [List.nil_append] at e
  unfold g_ears
  refine runN_ret' ?_
  show dSeq (dSetN 1 (fCallN gListC (fCons (fVar 0) fNil))) (dSeq (dSetN 2 (fLst fNil)) (dSeq (dWhile fuD earO earB) (dSeq (dAppO 2 (fTup (fCons (f2 gIx (fVar 1) (fC (.int 0))) (fCons (f2 gIx (fVar 1) (fC (.int 1))) (fCons (f2 gIx (fVar 1) (fC (.int 2))) fNil))))) (dRetOw 2)))) (sto0 4 [psD l]) = _
  refine dSeq_step (dSetN_of (ds := l.map pD) rfl) ?_
  refine dSeq_step (dSetN_of (ds := []) rfl) ?_
  show dSeq _ _ (earSt l l [] none) = _
  refine dSeq_step (show dWhile fuD earO earB _ = .next (earSt l l' ts.dropLast c3') from whileF_mono (by unfold fuD; omega) e) ?_
  have x0 := gIx_ok (l := l') (i := 0) (by omega) (by omega)
  have x1 := gIx_ok (l := l') (i := 1) (by omega) (by omega)
  have x2 := gIx_ok (l := l') (i := 2) (by omega) (by omega)
  have etu : fTup (fCons (f2 gIx (fVar 1) (fC (.int 0))) (fCons (f2 gIx (fVar 1) (fC (.int 1))) (fCons (f2 gIx (fVar 1) (fC (.int 2))) fNil))) (vO (earSt l l' ts.dropLast c3')) = some (triD t) := by
    rw [et]
    exact fTup_of (ds := [pD (ptI l' 0), pD (ptI l' 1), pD (ptI l' 2)]) (fCons_of (f2_of (x := psD l') rfl rfl x0) (fCons_of (f2_of (x := psD l') rfl rfl x1) (fCons_of (f2_of (x := psD l') rfl rfl x2) rfl))) (show 3 ≤ 1000 from Nat.le_of_ble_eq_true rfl)
  refine dSeq_step (dAppO_of (ds := ts.dropLast.map triD) rfl etu (by rw [List.length_map, List.length_dropLast]; omega) rfl) ?_
  have : ts.dropLast.map triD ++ [triD t] = ts.map triD := by
    obtain ⟨ys, hys⟩ := List.getLast?_eq_some_iff.mp ht
    rw [hys]; simp
  show dRetOw 2 [some (.sh (psD l)), some (.ow (l'.map pD)), some (.ow (ts.dropLast.map triD ++ [triD t])), c3'] = _
  rw [this]; rfl
end LW
/-! part EF16 -/
namespace LW
open PySem (PyData Str)
open DL
open L2 (atI ixN kitB)
/-! ### shares_of, point_of -/
theorem fdiv_facts {a b : Int} (hb : b ≠ 0) : ∃ t r : Int, a.fdiv b = t ∧ r = a - t * b ∧ r.natAbs < b.natAbs ∧ ((0 ≤ r ∧ 0 < b) ∨ (r ≤ 0 ∧ b < 0)) := by
  rcases Int.lt_or_lt_of_ne hb with h | h
  · refine ⟨(-a) / (-b), -((-a) % (-b)), ?_, ?_, ?_, ?_⟩
    · rw [← Int.neg_fdiv_neg, Int.fdiv_eq_ediv_of_nonneg _ (by omega)]
    · have := Int.mul_ediv_add_emod (-a) (-b)
      generalize (-a) / (-b) = t at *
      generalize (-a) % (-b) = r at *
      have e : -b * t = -(t * b) := by grind
      omega
    · have h1 := Int.emod_nonneg (-a) (show -b ≠ 0 by omega)
      have h2 := Int.emod_lt_of_pos (-a) (show 0 < -b by omega)
      omega
    · right
      have h1 := Int.emod_nonneg (-a) (show -b ≠ 0 by omega)
      omega
  · refine ⟨a / b, a % b, Int.fdiv_eq_ediv_of_nonneg _ (by omega), ?_, ?_, ?_⟩
    · have := Int.mul_ediv_add_emod a b
      have e : b * (a / b) = (a / b) * b := Int.mul_comm _ _
      omega
    · have h1 := Int.emod_nonneg a (show b ≠ 0 by omega)
      have h2 := Int.emod_lt_of_pos a h
      omega
    · left
      have h1 := Int.emod_nonneg a (show b ≠ 0 by omega)
      omega
/-- the invariant of shares_of's loop, from its first turn on -/
structure ShI (x y : Int) (W : Nat) (r0 r1 r2 l0 l1 l2 : Int) : Prop where
  e1 : r0 = r1 * x + r2 * y
  e2 : l0 = l1 * x + l2 * y
  co : ∃ u v, u * r0 + v * l0 = 1
  sg : (0 ≤ r0 ∧ 0 ≤ l0) ∨ (r0 ≤ 0 ∧ l0 ≤ 0)
  nz : r0 ≠ 0
  b0 : r0.natAbs ≤ W ∧ l0.natAbs ≤ W
  b1 : r1.natAbs ≤ W ∧ l1.natAbs ≤ W
  b2 : r2.natAbs ≤ W ∧ l2.natAbs ≤ W
  v1 : r1.natAbs * l0.natAbs + l1.natAbs * r0.natAbs ≤ W
  v2 : r2.natAbs * l0.natAbs + l2.natAbs * r0.natAbs ≤ W
theorem ShI.step {x y r0 r1 r2 l0 l1 l2 : Int} {W : Nat} (h : ShI x y W r0 r1 r2 l0 l1 l2) (hl : l0 ≠ 0) : ShI x y W l0 l1 l2 (r0 - r0.fdiv l0 * l0) (r1 - r0.fdiv l0 * l1) (r2 - r0.fdiv l0 * l2) ∧ (r0 - r0.fdiv l0 * l0).natAbs < l0.natAbs ∧ (r0.fdiv l0).natAbs ≤ W := by
  obtain ⟨t, r, ht, hr, hlt, hs⟩ := fdiv_facts (a := r0) hl
  rw [ht]
  have hr' : r0 - t * l0 = r := hr.symm
  have key : t.natAbs * l0.natAbs + r.natAbs = r0.natAbs := by
    rw [← Int.natAbs_mul]
    have e : r0 = t * l0 + r := by omega
    have sg := h.sg
    -- t * l0 has r0's sign
    have : (0 ≤ t * l0 ∧ 0 ≤ r ∧ 0 ≤ r0) ∨ (t * l0 ≤ 0 ∧ r ≤ 0 ∧ r0 ≤ 0) := by
      have tn : 0 ≤ t := by
        refine Classical.byContradiction fun hz => ?_
        rcases hs with ⟨k1, k2⟩ | ⟨k1, k2⟩
        · have := Int.mul_le_mul_of_nonneg_right (show t ≤ -1 by omega) (show 0 ≤ l0 by omega)
          omega
        · have := Int.mul_le_mul_of_nonpos_right (show t ≤ -1 by omega) (show l0 ≤ 0 by omega)
          omega
      rcases hs with ⟨k1, k2⟩ | ⟨k1, k2⟩
      · left; exact ⟨Int.mul_nonneg tn (by omega), k1, by omega⟩
      · right; exact ⟨Int.mul_nonpos_of_nonneg_of_nonpos tn (by omega), k1, by omega⟩
    omega
  have lp : 0 < l0.natAbs := by omega
  have nb : ∀ a b : Int, (a - t * b).natAbs ≤ a.natAbs + t.natAbs * b.natAbs := fun a b => by
    rw [← Int.natAbs_mul]; omega
  have pot : ∀ a b : Int, a.natAbs * l0.natAbs + b.natAbs * r0.natAbs ≤ W → b.natAbs * r.natAbs + (a - t * b).natAbs * l0.natAbs ≤ W := fun a b hW => by
    have h1 := Nat.mul_le_mul_right l0.natAbs (nb a b)
    have h2 : (a.natAbs + t.natAbs * b.natAbs) * l0.natAbs + b.natAbs * r.natAbs = a.natAbs * l0.natAbs + b.natAbs * r0.natAbs := by rw [← key]; grind
    omega
  have p1 := pot r1 l1 h.v1
  have p2 := pot r2 l2 h.v2
  have le1 : ∀ a : Nat, a ≤ a * l0.natAbs := fun a => Nat.le_mul_of_pos_right a lp
  refine ⟨⟨h.e2, ?_, ?_, ?_, hl, ?_, ?_, ?_, ?_, ?_⟩, by rw [hr']; exact hlt, ?_⟩
  · rw [h.e1, h.e2]; grind
  · obtain ⟨u, v, e⟩ := h.co
    refine ⟨u * t + v, u, ?_⟩
    rw [← e]; grind
  · rw [hr']; omega
  · rw [hr']; have := h.b0; omega
  · have := le1 (r1 - t * l1).natAbs
    have := h.b1; omega
  · have := le1 (r2 - t * l2).natAbs
    have := h.b2; omega
  · rw [hr']; exact p1
  · rw [hr']; exact p2
  · have := le1 t.natAbs
    have := h.b0; omega
theorem ShI.first {x y : Int} {W : Nat} (hy : y ≠ 0) (hc : ∃ u v, u * x + v * y = 1) (hW : x.natAbs + 2 * y.natAbs ≤ W) (h1 : 1 ≤ W) : ShI x y W y 0 1 (x - x.fdiv y * y) (1 - x.fdiv y * 0) (0 - x.fdiv y * 1) ∧ (x.fdiv y).natAbs ≤ W := by
  obtain ⟨t, r, ht, hr, hlt, hs⟩ := fdiv_facts (a := x) hy
  rw [ht]
  have hr' : x - t * y = r := hr.symm
  have tb : t.natAbs * y.natAbs ≤ x.natAbs + r.natAbs := by rw [← Int.natAbs_mul]; omega
  have le1 : t.natAbs ≤ t.natAbs * y.natAbs := Nat.le_mul_of_pos_right _ (by omega)
  refine ⟨⟨by omega, ?_, ?_, ?_, hy, ?_, ?_, ?_, ?_, ?_⟩, by omega⟩
  · grind
  · obtain ⟨u, v, e⟩ := hc
    exact ⟨u * t + v, u, by rw [← e]; grind⟩
  · rw [hr']; omega
  · rw [hr']; omega
  · rw [Int.mul_zero]; simp; omega
  · rw [Int.mul_one]; simp; omega
  · rw [Int.mul_zero]; simp; omega
  · rw [Int.mul_one, hr', show (0 - t).natAbs = t.natAbs by omega, show (1 : Int).natAbs = 1 from rfl, Nat.one_mul]; omega
def t3D (a b c : Int) : PyData := .tuple [.int a, .int b, .int c]
noncomputable def shC : DL.Env → Option Bool := fTst (f2 gNe (f2 gIx (fVar 3) (fC (.int 0))) (fC (.int 0)))
noncomputable def shB : SFn := (dSeq (dSet 4 (f2 gDiv (f2 gIx (fVar 2) (fC (.int 0))) (f2 gIx (fVar 3) (fC (.int 0))))) (dSeq (dSet 5 (fTup (fCons (f2 gSub (f2 gIx (fVar 2) (fC (.int 0))) (f2 gMul (fVar 4) (f2 gIx (fVar 3) (fC (.int 0))))) (fCons (f2 gSub (f2 gIx (fVar 2) (fC (.int 1))) (f2 gMul (fVar 4) (f2 gIx (fVar 3) (fC (.int 1))))) (fCons (f2 gSub (f2 gIx (fVar 2) (fC (.int 2))) (f2 gMul (fVar 4) (f2 gIx (fVar 3) (fC (.int 2))))) fNil))))) (dSeq (dSet 2 (fVar 3)) (dSet 3 (fVar 5)))))
def shSt (x y r0 r1 r2 l0 l1 l2 : Int) (c4 c5 : Option Cell) : Sto := [some (.sh (.int x)), some (.sh (.int y)), some (.sh (t3D r0 r1 r2)), some (.sh (t3D l0 l1 l2)), c4, c5]
theorem bd_abs_le {n : Nat} {x : Int} (h : x.natAbs ≤ 2 ^ n) : Bd (n + 1) x := by unfold Bd; rw [Nat.pow_succ]; have := Nat.two_pow_pos n; omega
theorem sh_step {x y r0 r1 r2 l0 l1 l2 : Int} {c4 c5 : Option Cell} (hl : l0 ≠ 0) (bt : Bd 5000 (r0.fdiv l0)) (b0 : Bd 5000 l0) (b1 : Bd 5000 l1) (b2 : Bd 5000 l2) : ∃ c4' c5', shB (shSt x y r0 r1 r2 l0 l1 l2 c4 c5) = .next (shSt x y l0 l1 l2 (r0 - r0.fdiv l0 * l0) (r1 - r0.fdiv l0 * l1) (r2 - r0.fdiv l0 * l2) c4' c5') := by
  have w : ∀ {x : Int}, Bd 5000 x → Bd 100000 x := fun h => bd_mono h (by decide)
  refine ⟨some (.sh (.int (r0.fdiv l0))), some (.sh (t3D (r0 - r0.fdiv l0 * l0) (r1 - r0.fdiv l0 * l1) (r2 - r0.fdiv l0 * l2))), ?_⟩
  unfold shB
  refine dSeq_step (dSet_of (d := .int (r0.fdiv l0)) (f2_of (f2_of rfl rfl rfl) (f2_of rfl rfl rfl) (gDiv_ii hl (bd_mono b0 (by decide))))) ?_
  refine dSeq_step (dSet_of (d := t3D (r0 - r0.fdiv l0 * l0) (r1 - r0.fdiv l0 * l1) (r2 - r0.fdiv l0 * l2)) (fTup_of (ds := [.int (r0 - r0.fdiv l0 * l0), .int (r1 - r0.fdiv l0 * l1), .int (r2 - r0.fdiv l0 * l2)]) (fCons_of (f2_of (f2_of rfl rfl rfl) (f2_of rfl (f2_of rfl rfl rfl) (gMul_ii (w bt) (w b0))) rfl) (fCons_of (f2_of (f2_of rfl rfl rfl) (f2_of rfl (f2_of rfl rfl rfl) (gMul_ii (w bt) (w b1))) rfl) (fCons_of (f2_of (f2_of rfl rfl rfl) (f2_of rfl (f2_of rfl rfl rfl) (gMul_ii (w bt) (w b2))) rfl) rfl))) (show 3 ≤ 1000 from Nat.le_of_ble_eq_true rfl))) ?_
  refine dSeq_step (dSet_of (d := t3D l0 l1 l2) rfl) ?_
  exact dSet_of (d := t3D (r0 - r0.fdiv l0 * l0) (r1 - r0.fdiv l0 * l1) (r2 - r0.fdiv l0 * l2)) rfl
theorem sh_loop {x y : Int} {w : Nat} (hw : w ≤ 4000) : ∀ (n : Nat) {r0 r1 r2 l0 l1 l2 : Int} {c4 c5 : Option Cell}, ShI x y (2 ^ w) r0 r1 r2 l0 l1 l2 → l0.natAbs < n → ∃ r0' r1' r2' l1' l2' c4' c5', whileF shC shB n (shSt x y r0 r1 r2 l0 l1 l2 c4 c5) = .next (shSt x y r0' r1' r2' 0 l1' l2' c4' c5') ∧ ShI x y (2 ^ w) r0' r1' r2' 0 l1' l2'
  | 0, _, _, _, _, _, _, _, _, _, h => by omega
  | n + 1, r0, r1, r2, l0, l1, l2, c4, c5, hi, hn => by
    have tt : shC (vO (shSt x y r0 r1 r2 l0 l1 l2 c4 c5)) = some (!decide (l0 = 0)) := fTst_of (f2_of (f2_of rfl rfl rfl) rfl gNe_int)
    by_cases h : l0 = 0
    · subst h
      exact ⟨r0, r1, r2, l1, l2, c4, c5, whileF_stop (tt.trans (by rw [decide_eq_true rfl]; rfl)), hi⟩
    · obtain ⟨h1, h2, h3⟩ := hi.step h
      have bb : ∀ {z : Int}, z.natAbs ≤ 2 ^ w → Bd 5000 z := fun hz => bd_mono (bd_abs_le hz) (by omega)
      obtain ⟨d4, d5, e⟩ := sh_step (x := x) (y := y) (r0 := r0) (r1 := r1) (r2 := r2) (l1 := l1) (l2 := l2) (c4 := c4) (c5 := c5) h (bb h3) (bb hi.b0.2) (bb hi.b1.2) (bb hi.b2.2)
      obtain ⟨r0', r1', r2', l1', l2', c4', c5', e2, h4⟩ := sh_loop hw n (c4 := d4) (c5 := d5) h1 (by omega)
      exact ⟨r0', r1', r2', l1', l2', c4', c5', whileF_go (tt.trans (by rw [decide_eq_false h]; rfl)) e e2, h4⟩
theorem e_shares_of {n : Nat} (hn : n ≤ 3000) {x y : Int} (bx : Bd n x) (by' : Bd n y) (hc : ∃ u v, u * x + v * y = 1) : ∃ p q : Int, g_shares_of [.int x, .int y] = some (.tuple [.int p, .int q]) ∧ p * x + q * y = 1 ∧ Bd 5000 p ∧ Bd 5000 q := by
  have e0 : g_shares_of [.int x, .int y] = runD 6 (dSeq (dSet 2 (fTup (fCons (fVar 0) (fCons (fC (.int 1)) (fCons (fC (.int 0)) fNil))))) (dSeq (dSet 3 (fTup (fCons (fVar 1) (fCons (fC (.int 0)) (fCons (fC (.int 1)) fNil))))) (dSeq (dWhile fuD shC shB) (dRet (fTup (fCons (f2 gMul (f2 gIx (fVar 2) (fC (.int 1))) (f2 gIx (fVar 2) (fC (.int 0)))) (fCons (f2 gMul (f2 gIx (fVar 2) (fC (.int 2))) (f2 gIx (fVar 2) (fC (.int 0)))) fNil))))))) [.int x, .int y] := rfl
  have bn : ∀ {z : Int}, Bd n z → z.natAbs ≤ 2 ^ n := fun h => by unfold Bd at h; omega
  have p2 : 2 ^ (n + 3) = 8 * 2 ^ n := by rw [Nat.pow_add]; omega
  have p0 := Nat.two_pow_pos n
  have hW : x.natAbs + 2 * y.natAbs ≤ 2 ^ (n + 3) := by have := bn bx; have := bn by'; omega
  -- the end of the loop
  have fin : ∃ r0 r1 r2 l1 l2 c4 c5, dWhile fuD shC shB (shSt x y x 1 0 y 0 1 none none) = .next (shSt x y r0 r1 r2 0 l1 l2 c4 c5) ∧ r0 = r1 * x + r2 * y ∧ r0 * r0 = 1 ∧ r0.natAbs ≤ 2 ^ (n + 3) ∧ r1.natAbs ≤ 2 ^ (n + 3) ∧ r2.natAbs ≤ 2 ^ (n + 3) := by
    have unit : ∀ {a : Int}, (∃ u v : Int, u * a + v * 0 = 1) → a * a = 1 := fun {a} ⟨u, v, e⟩ => by
      rw [Int.mul_zero, Int.add_zero] at e
      have z := congrArg Int.natAbs e
      rw [Int.natAbs_mul] at z
      have : a.natAbs = 1 := Nat.dvd_one.mp ⟨_, by rw [Nat.mul_comm]; exact z.symm⟩
      rcases Int.natAbs_eq a with h | h <;> rw [h, this] <;> rfl
    by_cases hy : y = 0
    · subst hy
      refine ⟨x, 1, 0, 0, 1, none, none, ?_, by omega, unit hc, by omega, by simp; omega, by simp⟩
      have tt : shC (vO (shSt x 0 x 1 0 0 0 1 none none)) = some false := fTst_of (f2_of (f2_of rfl rfl rfl) rfl (gNe_int.trans (by rw [decide_eq_true rfl]; rfl)))
      show whileF shC shB (10000 + _) _ = _
      rw [Nat.add_comm]
      exact whileF_stop tt
    · obtain ⟨h1, h2⟩ := ShI.first hy hc hW (by omega)
      have bb : ∀ {z : Int}, z.natAbs ≤ 2 ^ (n + 3) → Bd 5000 z := fun hz => bd_mono (bd_abs_le hz) (by omega)
      obtain ⟨d4, d5, e⟩ := sh_step (x := x) (y := y) (r0 := x) (r1 := 1) (r2 := 0) (l0 := y) (l1 := 0) (l2 := 1) (c4 := none) (c5 := none) hy (bb h2) (bd_mono by' (by omega)) (bd_lit (by decide)) (bd_lit (by decide))
      have hsz := sumsz_mem' (l := (shSt x y x 1 0 y 0 1 none none).map szC) (x := y.natAbs) (by simp [shSt, szC, szD])
      have hfu : fuD (shSt x y x 1 0 y 0 1 none none) = (9999 + ((shSt x y x 1 0 y 0 1 none none).map szC).sum) + 1 := by unfold fuD; omega
      obtain ⟨r0', r1', r2', l1', l2', c4', c5', e2, h4⟩ := sh_loop (show n + 3 ≤ 4000 by omega) (9999 + ((shSt x y x 1 0 y 0 1 none none).map szC).sum) (c4 := d4) (c5 := d5) h1 (by
        obtain ⟨t, r, ht, hr, hlt, hs⟩ := fdiv_facts (a := x) hy
        rw [ht, ← hr]; omega)
      refine ⟨r0', r1', r2', l1', l2', c4', c5', ?_, h4.e1, unit h4.co, h4.b0.1, h4.b1.1, h4.b2.1⟩
      show whileF shC shB (fuD _) _ = _
      rw [hfu]
      exact whileF_go ((fTst_of (f2_of (f2_of rfl rfl rfl) rfl gNe_int)).trans (by rw [decide_eq_false hy]; rfl)) e e2
  obtain ⟨r0, r1, r2, l1, l2, c4, c5, e, h1, h2, k0, k1, k2⟩ := fin
  have bb : ∀ {z : Int}, z.natAbs ≤ 2 ^ (n + 3) → Bd 100000 z := fun hz => bd_mono (bd_abs_le hz) (by omega)
  have r01 : r0 = 1 ∨ r0 = -1 := by
    have z := congrArg Int.natAbs h2
    rw [Int.natAbs_mul] at z
    have : r0.natAbs = 1 := Nat.dvd_one.mp ⟨_, z.symm⟩
    omega
  refine ⟨r1 * r0, r2 * r0, ?_, ?_, ?_, ?_⟩
  · rw [e0]
    refine runD_ret ?_
    refine dSeq_step (dSet_of (d := t3D x 1 0) (fTup_of (ds := [.int x, .int 1, .int 0]) rfl (show 3 ≤ 1000 from Nat.le_of_ble_eq_true rfl))) ?_
    refine dSeq_step (dSet_of (d := t3D y 0 1) (fTup_of (ds := [.int y, .int 0, .int 1]) rfl (show 3 ≤ 1000 from Nat.le_of_ble_eq_true rfl))) ?_
    refine dSeq_step (ρ' := shSt x y r0 r1 r2 0 l1 l2 c4 c5) e ?_
    exact dRet_of (fTup_of (ds := [.int (r1 * r0), .int (r2 * r0)]) (fCons_of (f2_of (f2_of rfl rfl rfl) (f2_of rfl rfl rfl) (gMul_ii (bb k1) (bb k0))) (fCons_of (f2_of (f2_of rfl rfl rfl) (f2_of rfl rfl rfl) (gMul_ii (bb k2) (bb k0))) rfl)) (show 2 ≤ 1000 from Nat.le_of_ble_eq_true rfl))
  · have : r1 * r0 * x + r2 * r0 * y = r0 * (r1 * x + r2 * y) := by grind
    rw [this, ← h1, h2]
  · rcases r01 with h | h <;> rw [h]
    · rw [Int.mul_one]; exact bd_mono (bd_abs_le k1) (by omega)
    · rw [show r1 * -1 = -r1 by omega]; exact bd_neg (bd_mono (bd_abs_le k1) (by omega))
  · rcases r01 with h | h <;> rw [h]
    · rw [Int.mul_one]; exact bd_mono (bd_abs_le k2) (by omega)
    · rw [show r2 * -1 = -r2 by omega]; exact bd_neg (bd_mono (bd_abs_le k2) (by omega))
end LW
/-! part EF13 -/
namespace LW
open PySem (PyData Str)
open DL
open L2 (atI ixN kitB)
/-! ### spots, row_counts -/
theorem forF_cons {tg : TgF} {F : SFn} {d : PyData} {ds : List PyData} {ρ ρ1 : Sto} {asg : Asg} {r : Res} (h1 : tg d = some asg) (h2 : F (setSh ρ asg) = .next ρ1) (h3 : forF tg F ds ρ1 = r) : forF tg F (d :: ds) ρ = r := by
  show (match tg d with | none => Res.fail | some asg => match F (setSh ρ asg) with | .next ρ' => forF tg F ds ρ' | .ct ρ' => forF tg F ds ρ' | .brk ρ' => .next ρ' | r => r) = _
  rw [h1]
  show (match F (setSh ρ asg) with | .next ρ' => forF tg F ds ρ' | .ct ρ' => forF tg F ds ρ' | .brk ρ' => .next ρ' | r => r) = _
  rw [h2]; exact h3
end LW
/-! part EF17 -/
namespace LW
open PySem (PyData Str)
open DL
open L2 (atI ixN kitB)
theorem inT_pb {n : Nat} {a b c P : Pt} (hD : 0 < cr a b c) (i : InT (a, b, c) P) (ha : PB n a) (hb : PB n b) (hc : PB n c) : PB n P := by
  have k1 : 0 ≤ cr a b P := i.c1
  have k2 : 0 ≤ cr b c P := i.c2
  have k3 : 0 ≤ cr c a P := i.c3
  have p0 := Nat.two_pow_pos n
  have px : ∀ p : Pt, ph 1 0 p = p.1 := fun p => by simp only [ph]; omega
  have py : ∀ p : Pt, ph 0 1 p = p.2 := fun p => by simp only [ph]; omega
  have hX := tri_ph (α := 1) (β := 0) (X := -((2 ^ n : Nat) : Int) + 1) (Y := ((2 ^ n : Nat) : Int) - 1) hD k1 k2 k3 (by rw [px]; have := ha.1; unfold Bd at this; omega) (by rw [px]; have := hb.1; unfold Bd at this; omega) (by rw [px]; have := hc.1; unfold Bd at this; omega)
  have hY := tri_ph (α := 0) (β := 1) (X := -((2 ^ n : Nat) : Int) + 1) (Y := ((2 ^ n : Nat) : Int) - 1) hD k1 k2 k3 (by rw [py]; have := ha.2; unfold Bd at this; omega) (by rw [py]; have := hb.2; unfold Bd at this; omega) (by rw [py]; have := hc.2; unfold Bd at this; omega)
  rw [px] at hX
  rw [py] at hY
  exact ⟨by unfold Bd; omega, by unfold Bd; omega⟩
noncomputable def poB : SFn := (dSeq (dSet 2 (f2 gIx (fVar 0) (fVar 1))) (dSeq (dSet 3 (f2 gSub (f2 gIx (f2 gIx (fVar 0) (f2 gMod (f2 gAdd (fVar 1) (fC (.int 1))) (fC (.int 3)))) (fC (.int 0))) (f2 gIx (fVar 2) (fC (.int 0))))) (dSeq (dSet 4 (f2 gSub (f2 gIx (f2 gIx (fVar 0) (f2 gMod (f2 gAdd (fVar 1) (fC (.int 1))) (fC (.int 3)))) (fC (.int 1))) (f2 gIx (fVar 2) (fC (.int 1))))) (dSeq (dSet 5 (fCallF 2 g_common (fCons (fVar 3) (fCons (fVar 4) fNil)))) (dIf (fTst (f2 gGt (fVar 5) (fC (.int 1)))) (dRet (fTup (fCons (f2 gAdd (f2 gIx (fVar 2) (fC (.int 0))) (f2 gDiv (fVar 3) (fVar 5))) (fCons (f2 gAdd (f2 gIx (fVar 2) (fC (.int 1))) (f2 gDiv (fVar 4) (fVar 5))) fNil)))) dNext)))))
def poSt (t : Tri) (c1 c2 c3 c4 c5 : Option Cell) : Sto := [some (.sh (triD t)), c1, c2, c3, c4, c5, none, none, none, none, none]
def sideP (a b : Pt) : Pt := (a.1 + (b.1 - a.1) / (Int.gcd (b.1 - a.1) (b.2 - a.2) : Nat), a.2 + (b.2 - a.2) / (Int.gcd (b.1 - a.1) (b.2 - a.2) : Nat))
theorem sideP_btw {a b : Pt} (h : 1 < Int.gcd (b.1 - a.1) (b.2 - a.2)) : Btw a (sideP a b) b := by
  refine ⟨(Int.gcd (b.1 - a.1) (b.2 - a.2) : Nat), 1, by decide, by omega, ?_, ?_⟩
  · have := Int.mul_ediv_cancel' (Int.gcd_dvd_left (b.1 - a.1) (b.2 - a.2))
    show ((Int.gcd (b.1 - a.1) (b.2 - a.2) : Nat) : Int) * (a.1 + (b.1 - a.1) / (Int.gcd (b.1 - a.1) (b.2 - a.2) : Nat) - a.1) = _
    rw [show a.1 + (b.1 - a.1) / (Int.gcd (b.1 - a.1) (b.2 - a.2) : Nat) - a.1 = (b.1 - a.1) / (Int.gcd (b.1 - a.1) (b.2 - a.2) : Nat) by omega, this]; omega
  · have := Int.mul_ediv_cancel' (Int.gcd_dvd_right (b.1 - a.1) (b.2 - a.2))
    show ((Int.gcd (b.1 - a.1) (b.2 - a.2) : Nat) : Int) * (a.2 + (b.2 - a.2) / (Int.gcd (b.1 - a.1) (b.2 - a.2) : Nat) - a.2) = _
    rw [show a.2 + (b.2 - a.2) / (Int.gcd (b.1 - a.1) (b.2 - a.2) : Nat) - a.2 = (b.2 - a.2) / (Int.gcd (b.1 - a.1) (b.2 - a.2) : Nat) by omega, this]; omega
theorem po_step {n : Nat} (hn : n ≤ 3000) {t : Tri} {k : Int} {a b : Pt} (ha : PB n a) (hb : PB n b) (h1 : gIx (triD t) (.int k) = some (pD a)) (h2 : gIx (triD t) (.int ((k + 1) % 3)) = some (pD b)) (c2 c3 c4 c5 : Option Cell) :
    poB (poSt t (some (.sh (.int k))) c2 c3 c4 c5) = if 1 < Int.gcd (b.1 - a.1) (b.2 - a.2) then .ret (pD (sideP a b)) else .next (poSt t (some (.sh (.int k))) (some (.sh (pD a))) (some (.sh (.int (b.1 - a.1)))) (some (.sh (.int (b.2 - a.2)))) (some (.sh (.int (Int.gcd (b.1 - a.1) (b.2 - a.2) : Nat))))) := by
  unfold poB
  refine dSeq_step (dSet_of (d := pD a) (f2_of rfl rfl h1)) ?_
  refine dSeq_step (dSet_of (d := .int (b.1 - a.1)) (f2_of (f2_of (f2_of rfl (f2_of (f2_of rfl rfl rfl) rfl (gMod_pos (by decide))) h2) rfl (gIx_p0' b)) (f2_of rfl rfl (gIx_p0' a)) rfl)) ?_
  refine dSeq_step (dSet_of (d := .int (b.2 - a.2)) (f2_of (f2_of (f2_of rfl (f2_of (f2_of rfl rfl rfl) rfl (gMod_pos (by decide))) h2) rfl (gIx_p1' b)) (f2_of rfl rfl (gIx_p1' a)) rfl)) ?_
  refine dSeq_step (dSet_of (fCallF_of (fCons_of rfl (fCons_of rfl rfl)) rfl (e_common _ _))) ?_
  show dIf _ _ _ (poSt t (some (.sh (.int k))) (some (.sh (pD a))) (some (.sh (.int (b.1 - a.1)))) (some (.sh (.int (b.2 - a.2)))) (some (.sh (.int (Int.gcd (b.1 - a.1) (b.2 - a.2) : Nat))))) = _
  have bg := bd_gcd (bd_mono (bd_sub hb.1 ha.1) (show max n n + 1 ≤ n + 1 by omega)) (bd_mono (bd_sub hb.2 ha.2) (show max n n + 1 ≤ n + 1 by omega))
  unfold sideP
  generalize Int.gcd (b.1 - a.1) (b.2 - a.2) = G at *
  have tt : fTst (f2 gGt (fVar 5) (fC (.int 1))) (vO (poSt t (some (.sh (.int k))) (some (.sh (pD a))) (some (.sh (.int (b.1 - a.1)))) (some (.sh (.int (b.2 - a.2)))) (some (.sh (.int (G : Nat)))))) = some (decide (((G : Nat) : Int) > 1)) := fTst_of (f2_of rfl rfl rfl)
  by_cases h : 1 < G
  · rw [if_pos h, dIf_t (tt.trans (by rw [decide_eq_true (by omega)]))]
    have dg : Bd 8999 ((G : Nat) : Int) := bd_mono bg (by omega)
    exact dRet_of (fTup_of (ds := [.int (a.1 + (b.1 - a.1) / (G : Nat)), .int (a.2 + (b.2 - a.2) / (G : Nat))]) (fCons_of (f2_of (f2_of rfl rfl (gIx_p0' a)) (f2_of rfl rfl (gDiv_pos (by omega) dg)) rfl) (fCons_of (f2_of (f2_of rfl rfl (gIx_p1' a)) (f2_of rfl rfl (gDiv_pos (by omega) dg)) rfl) rfl)) (show 2 ≤ 1000 from Nat.le_of_ble_eq_true rfl))
  · rw [if_neg h, dIf_f (tt.trans (by rw [decide_eq_false (by omega)]))]; rfl
theorem e_point_of {n : Nat} (hn : n ≤ 2000) {a b c : Pt} (ha : PB n a) (hb : PB n b) (hc : PB n c) (hD : 2 ≤ cr a b c) : ∃ P, g_point_of [triD (a, b, c)] = some (pD P) ∧ InT (a, b, c) P := by
  have D0 : 0 < cr a b c := by omega
  have q1 := cr_cyc a b c
  have q2 := cr_cyc b c a
  let rest : SFn := (dSeq (dAsg (tgT [2, 6, 7]) (fVar 0)) (dSeq (dSet 3 (f2 gSub (f2 gIx (fVar 6) (fC (.int 0))) (f2 gIx (fVar 2) (fC (.int 0))))) (dSeq (dSet 4 (f2 gSub (f2 gIx (fVar 6) (fC (.int 1))) (f2 gIx (fVar 2) (fC (.int 1))))) (dSeq (dSet 8 (fCallF 2 g_shares_of (fCons (fVar 3) (fCons (fVar 4) fNil)))) (dSeq (dSet 9 (f2 gAdd (f2 gMul (f2 gSub (f2 gIx (fVar 7) (fC (.int 0))) (f2 gIx (fVar 2) (fC (.int 0)))) (f2 gIx (fVar 8) (fC (.int 0)))) (f2 gMul (f2 gSub (f2 gIx (fVar 7) (fC (.int 1))) (f2 gIx (fVar 2) (fC (.int 1)))) (f2 gIx (fVar 8) (fC (.int 1)))))) (dSeq (dSet 10 (f2 gSub (fC (.int 0)) (f2 gDiv (f2 gSub (fC (.int 0)) (fVar 9)) (fCallF 3 g_cross (fCons (fVar 2) (fCons (fVar 6) (fCons (fVar 7) fNil))))))) (dRet (fTup (fCons (f2 gSub (f2 gAdd (f2 gIx (fVar 2) (fC (.int 0))) (f2 gMul (fVar 10) (fVar 3))) (f2 gIx (fVar 8) (fC (.int 1)))) (fCons (f2 gAdd (f2 gAdd (f2 gIx (fVar 2) (fC (.int 1))) (f2 gMul (fVar 10) (fVar 4))) (f2 gIx (fVar 8) (fC (.int 0)))) fNil))))))))))
  have e0 : g_point_of [triD (a, b, c)] = runD 11 (dSeq (dForO (fIR rng1 (fCons (fC (.int 3)) fNil)) (tgN 1) poB) rest) [triD (a, b, c)] := rfl
  rw [e0]
  have s0 := fun c2 c3 c4 c5 => po_step (n := n) (by omega) (t := (a, b, c)) (k := 0) ha hb rfl rfl c2 c3 c4 c5
  have s1 := fun c2 c3 c4 c5 => po_step (n := n) (by omega) (t := (a, b, c)) (k := 1) hb hc rfl rfl c2 c3 c4 c5
  have s2 := fun c2 c3 c4 c5 => po_step (n := n) (by omega) (t := (a, b, c)) (k := 2) hc ha rfl rfl c2 c3 c4 c5
  have df : ∀ {r : Res}, forF (tgN 1) poB [.int 0, .int 1, .int 2] (poSt (a, b, c) none none none none none) = r → dForO (fIR rng1 (fCons (fC (.int 3)) fNil)) (tgN 1) poB (poSt (a, b, c) none none none none none) = r := fun {r} h => (dForO_of (ds := [.int 0, .int 1, .int 2]) rfl rfl).trans h
  have stop : ∀ {d : PyData} {ds : List PyData} {ρ : Sto} {r : PyData}, poB (ρ.set 1 (some (.sh d))) = .ret r → forF (tgN 1) poB (d :: ds) ρ = .ret r := fun {d ds ρ r} h => by
    show (match poB (ρ.set 1 (some (.sh d))) with | .next ρ' => forF (tgN 1) poB ds ρ' | .ct ρ' => forF (tgN 1) poB ds ρ' | .brk ρ' => .next ρ' | r => r) = _
    rw [h]
  by_cases g0 : 1 < Int.gcd (b.1 - a.1) (b.2 - a.2)
  · refine ⟨sideP a b, runD_ret (dSeq_ret (df (stop ?_))), inT_side D0 (sideP_btw g0)⟩
    exact (s0 none none none none).trans (by rw [if_pos g0])
  · have n0 := (s0 none none none none).trans (by rw [if_neg g0])
    by_cases g1 : 1 < Int.gcd (c.1 - b.1) (c.2 - b.2)
    · refine ⟨sideP b c, runD_ret (dSeq_ret (df (forF_cons (asg := [(1, .int 0)]) rfl n0 (stop ?_)))), ((inT_side (a := b) (b := c) (c := a) (by omega) (sideP_btw g1)).cyc).cyc⟩
      exact (s1 _ _ _ _).trans (by rw [if_pos g1])
    · have n1 := fun c2 c3 c4 c5 => (s1 c2 c3 c4 c5).trans (by rw [if_neg g1])
      by_cases g2 : 1 < Int.gcd (a.1 - c.1) (a.2 - c.2)
      · refine ⟨sideP c a, runD_ret (dSeq_ret (df (forF_cons (asg := [(1, .int 0)]) rfl n0 (forF_cons (asg := [(1, .int 1)]) rfl (n1 _ _ _ _) (stop ?_))))), (inT_side (a := c) (b := a) (c := b) (by omega) (sideP_btw g2)).cyc⟩
        exact (s2 _ _ _ _).trans (by rw [if_pos g2])
      · have n2 := fun c2 c3 c4 c5 => (s2 c2 c3 c4 c5).trans (by rw [if_neg g2])
        have eloop := df (forF_cons (asg := [(1, .int 0)]) rfl n0 (forF_cons (asg := [(1, .int 1)]) rfl (n1 _ _ _ _) (forF_cons (asg := [(1, .int 2)]) rfl (n2 _ _ _ _) rfl)))
        -- the first side has no whole point within
        have gg : Int.gcd (b.1 - a.1) (b.2 - a.2) = 1 := by
          have : Int.gcd (b.1 - a.1) (b.2 - a.2) ≠ 0 := fun z => by
            rw [Int.gcd_eq_zero_iff] at z
            have : cr a b c = 0 := by simp only [cr]; rw [z.1, z.2]; omega
            omega
          omega
        obtain ⟨u, v, huv⟩ := bez (b.1 - a.1) (b.2 - a.2)
        rw [gg] at huv
        have bx : Bd (n + 1) (b.1 - a.1) := bd_mono (bd_sub hb.1 ha.1) (by omega)
        have by' : Bd (n + 1) (b.2 - a.2) := bd_mono (bd_sub hb.2 ha.2) (by omega)
        have bcx : Bd (n + 1) (c.1 - a.1) := bd_mono (bd_sub hc.1 ha.1) (by omega)
        have bcy : Bd (n + 1) (c.2 - a.2) := bd_mono (bd_sub hc.2 ha.2) (by omega)
        obtain ⟨p, q, es, hs, bp, bq⟩ := e_shares_of (n := n + 1) (by omega) bx by' ⟨u, v, huv⟩
        have bO : Bd 8000 ((c.1 - a.1) * p + (c.2 - a.2) * q) := bd_mono (bd_add (bd_mul bcx bp) (bd_mul bcy bq)) (by omega)
        generalize hO : (c.1 - a.1) * p + (c.2 - a.2) * q = O at *
        have m1 := Int.mul_ediv_add_emod (0 - O) (cr a b c)
        have m2 := Int.emod_nonneg (0 - O) (show cr a b c ≠ 0 by omega)
        have m3 := Int.emod_lt_of_pos (0 - O) D0
        have bA : Bd 8010 (0 - (0 - O) / cr a b c) := bd_mono (bd_sub (bd_lit (n := 10) (by decide)) (bd_ediv (bd_sub (bd_lit (n := 10) (by decide)) bO))) (by decide)
        have i := inT_row (a := a) (b := b) (c := c) (p := p) (q := q) (along := 0 - (0 - O) / cr a b c) hD hs (by
          rw [hO]
          have e : (0 - (0 - O) / cr a b c) * cr a b c = -(cr a b c * ((0 - O) / cr a b c)) := by grind
          rw [e]; omega) (by
          rw [hO]
          have e : (0 - (0 - O) / cr a b c) * cr a b c = -(cr a b c * ((0 - O) / cr a b c)) := by grind
          rw [e]; omega)
        refine ⟨_, ?_, i⟩
        refine runD_ret (dSeq_step eloop ?_)
        have bD : Bd 8999 (cr a b c) := by
          have := bd_sub (bd_mul bx bcy) (bd_mul by' bcx)
          exact bd_mono (show Bd _ (cr a b c) from this) (by omega)
        refine dSeq_step (show dAsg (tgT [2, 6, 7]) (fVar 0) _ = .next [some (.sh (triD (a, b, c))), some (.sh (.int 2)), some (.sh (pD a)), some (.sh (.int (a.1 - c.1))), some (.sh (.int (a.2 - c.2))), some (.sh (.int (Int.gcd (a.1 - c.1) (a.2 - c.2) : Nat))), some (.sh (pD b)), some (.sh (pD c)), none, none, none] from rfl) ?_
        refine dSeq_step (dSet_of (d := .int (b.1 - a.1)) (f2_of (f2_of rfl rfl (gIx_p0' b)) (f2_of rfl rfl (gIx_p0' a)) rfl)) ?_
        refine dSeq_step (dSet_of (d := .int (b.2 - a.2)) (f2_of (f2_of rfl rfl (gIx_p1' b)) (f2_of rfl rfl (gIx_p1' a)) rfl)) ?_
        refine dSeq_step (dSet_of (d := pD (p, q)) (fCallF_of (fCons_of rfl (fCons_of rfl rfl)) rfl es)) ?_
        have w : ∀ {m : Nat} {z : Int}, Bd m z → m ≤ 100000 → Bd 100000 z := fun h k => bd_mono h k
        refine dSeq_step (dSet_of (d := .int O) ((f2_of (f2_of (f2_of (f2_of rfl rfl (gIx_p0' c)) (f2_of rfl rfl (gIx_p0' a)) rfl) (f2_of rfl rfl (gIx_p0' (p, q))) (gMul_ii (w bcx (by omega)) (w bp (by decide)))) (f2_of (f2_of (f2_of rfl rfl (gIx_p1' c)) (f2_of rfl rfl (gIx_p1' a)) rfl) (f2_of rfl rfl (gIx_p1' (p, q))) (gMul_ii (w bcy (by omega)) (w bq (by decide)))) rfl).trans (congrArg (fun z => some (PyData.int z)) hO))) ?_
        refine dSeq_step (dSet_of (d := .int (0 - (0 - O) / cr a b c)) (f2_of rfl (f2_of (f2_of rfl rfl rfl) (fCallF_of (fCons_of rfl (fCons_of rfl (fCons_of rfl rfl))) rfl (e_cross (n := n) (by omega) ha hb hc)) (gDiv_pos D0 bD)) rfl)) ?_
        exact dRet_of (fTup_of (ds := [.int (a.1 + (0 - (0 - O) / cr a b c) * (b.1 - a.1) - q), .int (a.2 + (0 - (0 - O) / cr a b c) * (b.2 - a.2) + p)]) (fCons_of (f2_of (f2_of (f2_of rfl rfl (gIx_p0' a)) (f2_of rfl rfl (gMul_ii (w bA (by decide)) (w bx (by omega)))) rfl) (f2_of rfl rfl (gIx_p1' (p, q))) rfl) (fCons_of (f2_of (f2_of (f2_of rfl rfl (gIx_p1' a)) (f2_of rfl rfl (gMul_ii (w bA (by decide)) (w by' (by omega)))) rfl) (f2_of rfl rfl (gIx_p0' (p, q))) rfl) rfl)) (show 2 ≤ 1000 from Nat.le_of_ble_eq_true rfl))
end LW
/-! part EF18 -/
namespace LW
open PySem (PyData Str)
open DL
open L2 (atI ixN kitB)
/-! ### least_triangles -/
def triLD (t : Tri) : PyData := psD [t.1, t.2.1, t.2.2]
noncomputable def ltC : DL.Env → Option Bool := fTst (f2 gGt (fCall gLen (fCons (fVar 3) fNil)) (fC (.int 0)))
noncomputable def ltF : SFn := (dSeq (dSet 8 (f2 gIx (fVar 5) (fVar 7))) (dSeq (dSet 9 (f2 gIx (fVar 5) (f2 gMod (f2 gAdd (fVar 7) (fC (.int 1))) (fC (.int 3))))) (dIf (fTst (f2 gGt (fCallF 3 g_cross (fCons (fVar 8) (fCons (fVar 9) (fCons (fVar 6) fNil)))) (fC (.int 0)))) (dApp 3 (fTup (fCons (fVar 8) (fCons (fVar 9) (fCons (fVar 6) fNil))))) dNext)))
noncomputable def ltB : SFn := (dSeq (dPopTo 5 3) (dIf (fTst (f2 gEq (fCallF 3 g_cross (fCons (f2 gIx (fVar 5) (fC (.int 0))) (fCons (f2 gIx (fVar 5) (fC (.int 1))) (fCons (f2 gIx (fVar 5) (fC (.int 2))) fNil)))) (fC (.int 1)))) (dApp 4 (fL (fCallN gListC (fCons (fVar 5) fNil)))) (dSeq (dSet 6 (fCallF 1 g_point_of (fCons (fVar 5) fNil))) (dForO (fIR rng1 (fCons (fC (.int 3)) fNil)) (tgN 7) ltF))))
def ltSt (l : List Pt) (A : Int) (row : List Pt) (W F : List Tri) (c5 c6 c7 c8 c9 : Option Cell) : Sto := [some (.sh (psD l)), some (.sh (.int A)), some (.sh (psD row)), some (.ow (W.map triD)), some (.ow (F.map triLD)), c5, c6, c7, c8, c9]
theorem lt_one {n : Nat} (hn : n ≤ 2000) {l row : List Pt} {A : Int} {W F : List Tri} {t : Tri} {P p q : Pt} {k : Int} (hp : PB n p) (hq : PB n q) (hP : PB n P) (h1 : gIx (triD t) (.int k) = some (pD p)) (h2 : gIx (triD t) (.int ((k + 1) % 3)) = some (pD q)) (hW : W.length < 900) (c8 c9 : Option Cell) :
    ltF (ltSt l A row W F (some (.sh (triD t))) (some (.sh (pD P))) (some (.sh (.int k))) c8 c9) = .next (ltSt l A row (W ++ [(p, q, P)].filter fun s => decide (0 < crT s)) F (some (.sh (triD t))) (some (.sh (pD P))) (some (.sh (.int k))) (some (.sh (pD p))) (some (.sh (pD q)))) := by
  unfold ltF
  refine dSeq_step (dSet_of (d := pD p) (f2_of rfl rfl h1)) ?_
  refine dSeq_step (dSet_of (d := pD q) (f2_of rfl (f2_of (f2_of rfl rfl rfl) rfl (gMod_pos (by decide))) h2)) ?_
  show dIf _ _ _ (ltSt l A row W F (some (.sh (triD t))) (some (.sh (pD P))) (some (.sh (.int k))) (some (.sh (pD p))) (some (.sh (pD q)))) = _
  have tt : fTst (f2 gGt (fCallF 3 g_cross (fCons (fVar 8) (fCons (fVar 9) (fCons (fVar 6) fNil)))) (fC (.int 0))) (vO (ltSt l A row W F (some (.sh (triD t))) (some (.sh (pD P))) (some (.sh (.int k))) (some (.sh (pD p))) (some (.sh (pD q))))) = some (decide (cr p q P > 0)) :=
    fTst_of (f2_of (fCallF_of (fCons_of rfl (fCons_of rfl (fCons_of rfl rfl))) rfl (e_cross (n := n) (by omega) hp hq hP)) rfl rfl)
  have ef : [(p, q, P)].filter (fun s => decide (0 < crT s)) = if 0 < cr p q P then [(p, q, P)] else [] := by
    rw [List.filter_cons, List.filter_nil]
    show (if decide (0 < cr p q P) = true then _ else _) = _
    by_cases h : 0 < cr p q P
    · rw [if_pos h, if_pos (decide_eq_true h)]
    · rw [if_neg h, if_neg (by rw [decide_eq_true_eq]; exact h)]
  rw [ef]
  by_cases h : 0 < cr p q P
  · rw [if_pos h, dIf_t (tt.trans (by rw [decide_eq_true h]))]
    refine (dApp_of (ds := W.map triD) (d := triD (p, q, P)) rfl (fTup_of (ds := [pD p, pD q, pD P]) rfl (show 3 ≤ 1000 from Nat.le_of_ble_eq_true rfl)) (by rw [List.length_map]; omega)).trans ?_
    unfold ltSt
    rw [List.map_append]; rfl
  · rw [if_neg h, List.append_nil, dIf_f (tt.trans (by rw [decide_eq_false h]))]; rfl
structure LtI (n : Nat) (row : List Pt) (W F : List Tri) : Prop where
  pos : ∀ t ∈ W, 0 < crT t
  pb : ∀ t ∈ W, PB n t.1 ∧ PB n t.2.1 ∧ PB n t.2.2
  one : ∀ t ∈ F, crT t = 1
  pbf : ∀ t ∈ F, PB n t.1 ∧ PB n t.2.1 ∧ PB n t.2.2
  sum : ∀ χ, AddF χ → trisS χ W + trisS χ F = ringS χ row
theorem trisS_app (χ : Pt → Pt → Int) (a b : List Tri) : trisS χ (a ++ b) = trisS χ a + trisS χ b := by unfold trisS; rw [List.map_append, List.sum_append]
theorem trisS_one (χ : Pt → Pt → Int) (t : Tri) : trisS χ [t] = triS χ t := by unfold trisS; simp
theorem lt_step {n : Nat} (hn : n ≤ 2000) {l row : List Pt} {A : Int} {W F : List Tri} {t : Tri} (hi : LtI n row (W ++ [t]) F) (hW : W.length < 800) (hF : F.length < 800) (c5 c6 c7 c8 c9 : Option Cell) :
    ∃ W' F' d5 d6 d7 d8 d9, ltB (ltSt l A row (W ++ [t]) F c5 c6 c7 c8 c9) = .next (ltSt l A row W' F' d5 d6 d7 d8 d9) ∧ LtI n row W' F' ∧ muT W' < muT (W ++ [t]) ∧ muT W' + F'.length ≤ muT (W ++ [t]) + F.length := by
  have tm : t ∈ W ++ [t] := List.mem_append_right _ List.mem_cons_self
  have hD := hi.pos t tm
  obtain ⟨pa, pb, pc⟩ := hi.pb t tm
  obtain ⟨a, b, c⟩ := t
  have hD' : 0 < cr a b c := hD
  have mu : muT (W ++ [(a, b, c)]) = muT W + (2 * cr a b c - 1) := by
    rw [muT_app]
    show muT W + (2 * cr a b c - 1 + 0) = _
    omega
  have epop : dPopTo 5 3 (ltSt l A row (W ++ [(a, b, c)]) F c5 c6 c7 c8 c9) = .next (ltSt l A row W F (some (.sh (triD (a, b, c)))) c6 c7 c8 c9) := by
    unfold dPopTo ltSt
    have e1 : ((W ++ [(a, b, c)]).map triD)[((W ++ [(a, b, c)]).map triD).length - 1]? = some (triD (a, b, c)) := by simp
    have e2 : ((W ++ [(a, b, c)]).map triD).dropLast = W.map triD := by simp
    simp only [List.getElem?_cons_succ, List.getElem?_cons_zero]
    rw [e1]
    simp only
    rw [if_neg (by decide), e2]; rfl
  have tt : fTst (f2 gEq (fCallF 3 g_cross (fCons (f2 gIx (fVar 5) (fC (.int 0))) (fCons (f2 gIx (fVar 5) (fC (.int 1))) (fCons (f2 gIx (fVar 5) (fC (.int 2))) fNil)))) (fC (.int 1))) (vO (ltSt l A row W F (some (.sh (triD (a, b, c)))) c6 c7 c8 c9)) = some (decide (cr a b c = 1)) :=
    fTst_of (f2_of (fCallF_of (xs := [pD a, pD b, pD c]) (fCons_of (f2_of rfl rfl rfl) (fCons_of (f2_of rfl rfl rfl) (fCons_of (f2_of rfl rfl rfl) rfl))) rfl (e_cross (n := n) (by omega) pa pb pc)) rfl gEq_int)
  have memW : ∀ s, s ∈ W → s ∈ W ++ [(a, b, c)] := fun s h => List.mem_append_left _ h
  by_cases h : cr a b c = 1
  · refine ⟨W, F ++ [(a, b, c)], some (.sh (triD (a, b, c))), c6, c7, c8, c9, dSeq_step epop ?_, ⟨fun s hs => hi.pos s (memW s hs), fun s hs => hi.pb s (memW s hs), fun s hs => ?_, fun s hs => ?_, fun χ hχ => ?_⟩, by rw [mu]; omega, by rw [mu, List.length_append]; simp only [List.length_cons, List.length_nil]; omega⟩
    · rw [dIf_t (tt.trans (by rw [decide_eq_true h]))]
      refine (dApp_of (ds := F.map triLD) (d := triLD (a, b, c)) rfl (fL_of rfl) (by rw [List.length_map]; omega)).trans ?_
      unfold ltSt
      rw [List.map_append]; rfl
    · rcases List.mem_append.mp hs with hs | hs
      · exact hi.one s hs
      · rw [List.mem_singleton.mp hs]; exact h
    · rcases List.mem_append.mp hs with hs | hs
      · exact hi.pbf s hs
      · rw [List.mem_singleton.mp hs]; exact ⟨pa, pb, pc⟩
    · have := hi.sum χ hχ
      rw [trisS_app] at this ⊢; omega
  · obtain ⟨P, eP, iP⟩ := e_point_of hn pa pb pc (show 2 ≤ cr a b c by omega)
    have hP := inT_pb hD' iP pa pb pc
    have hsp := split_mu hD iP
    have hsp' : muT (splitT (a, b, c) P) < 2 * cr a b c - 1 := hsp
    refine ⟨W ++ splitT (a, b, c) P, F, some (.sh (triD (a, b, c))), some (.sh (pD P)), some (.sh (.int 2)), some (.sh (pD c)), some (.sh (pD a)), dSeq_step epop ?_, ⟨fun s hs => ?_, fun s hs => ?_, hi.one, hi.pbf, fun χ hχ => ?_⟩, by rw [mu, muT_app]; omega, by rw [mu, muT_app]; omega⟩
    · rw [dIf_f (tt.trans (by rw [decide_eq_false h]))]
      refine dSeq_step (dSet_of (fCallF_of (fCons_of rfl rfl) rfl eP)) ?_
      show dForO _ _ _ (ltSt l A row W F (some (.sh (triD (a, b, c)))) (some (.sh (pD P))) c7 c8 c9) = _
      refine (dForO_of (ds := [.int 0, .int 1, .int 2]) rfl rfl).trans ?_
      have f3 : splitT (a, b, c) P = ([(a, b, P)].filter fun s => decide (0 < crT s)) ++ (([(b, c, P)].filter fun s => decide (0 < crT s)) ++ ([(c, a, P)].filter fun s => decide (0 < crT s))) := by
        unfold splitT
        rw [← List.filter_append, ← List.filter_append]; rfl
      have fl : ∀ s : Tri, ([s].filter fun s => decide (0 < crT s)).length ≤ 1 := fun s => List.length_filter_le _ _
      rw [f3, ← List.append_assoc, ← List.append_assoc]
      refine forF_cons (asg := [(7, .int 0)]) rfl (lt_one hn pa pb hP rfl rfl (by omega) _ _) ?_
      refine forF_cons (asg := [(7, .int 1)]) rfl (lt_one hn pb pc hP rfl rfl (by rw [List.length_append]; have x1 := fl ((a, b, c).fst, (a, b, c).snd.fst, P); omega) _ _) ?_
      refine forF_cons (asg := [(7, .int 2)]) rfl (lt_one hn pc pa hP rfl rfl (by rw [List.length_append, List.length_append]; have x1 := fl ((a, b, c).fst, (a, b, c).snd.fst, P); have x2 := fl ((a, b, c).snd.fst, (a, b, c).snd.snd, P); omega) _ _) ?_
      rfl
    · rcases List.mem_append.mp hs with hs | hs
      · exact hi.pos s (memW s hs)
      · exact split_pos s hs
    · rcases List.mem_append.mp hs with hs | hs
      · exact hi.pb s (memW s hs)
      · unfold splitT at hs
        have := (List.mem_filter.mp hs).1
        simp only [List.mem_cons, List.not_mem_nil, or_false] at this
        rcases this with rfl | rfl | rfl
        · exact ⟨pa, pb, hP⟩
        · exact ⟨pb, pc, hP⟩
        · exact ⟨pc, pa, hP⟩
    · have := hi.sum χ hχ
      rw [trisS_app, trisS_one] at this
      rw [trisS_app, split_sum hχ iP]; omega
theorem lt_loop {n : Nat} (hn : n ≤ 2000) {l row : List Pt} {A : Int} : ∀ (k : Nat) {W F : List Tri} {c5 c6 c7 c8 c9 : Option Cell}, LtI n row W F → muT W < k → muT W + F.length < 400 →
    ∃ F' d5 d6 d7 d8 d9, whileF ltC ltB k (ltSt l A row W F c5 c6 c7 c8 c9) = .next (ltSt l A row [] F' d5 d6 d7 d8 d9) ∧ LtI n row [] F'
  | 0, W, F, _, _, _, _, _, hi, hk, _ => by have := muT_nn hi.pos; omega
  | k + 1, W, F, c5, c6, c7, c8, c9, hi, hk, hs => by
    have hnn := muT_nn hi.pos
    have tt : ltC (vO (ltSt l A row W F c5 c6 c7 c8 c9)) = some (decide (((W.length : Nat) : Int) > 0)) := by
      refine fTst_of (f2_of (fCall_of (xs := [.list (W.map triD)]) rfl (show gLen [.list (W.map triD)] = some (.int (W.length : Nat)) by
        show some (PyData.int ((W.map triD).length : Nat)) = _
        rw [List.length_map])) rfl rfl)
    by_cases h : W = []
    · subst h
      exact ⟨F, c5, c6, c7, c8, c9, whileF_stop (tt.trans rfl), hi⟩
    · obtain ⟨W0, t, rfl⟩ : ∃ w a, W = w ++ [a] := ⟨W.dropLast, W.getLast h, (List.dropLast_concat_getLast h).symm⟩
      have hl : ((W0 ++ [t]).length : Int) = W0.length + 1 := by rw [List.length_append]; simp
      obtain ⟨W', F', d5, d6, d7, d8, d9, e, hi', hm, hm2⟩ := lt_step hn (l := l) (A := A) hi (by omega) (by omega) c5 c6 c7 c8 c9
      obtain ⟨F2, e5, e6, e7, e8, e9, e2, h2⟩ := lt_loop hn k (l := l) (A := A) (c5 := d5) (c6 := d6) (c7 := d7) (c8 := d8) (c9 := d9) hi' (by omega) (by omega)
      exact ⟨F2, e5, e6, e7, e8, e9, whileF_go (tt.trans (by rw [decide_eq_true (by omega)])) e e2, h2⟩
/-- the fence, told left round -/
def leftR (l : List Pt) : List Pt := if A2 l < 0 then l.reverse else l
theorem muT_le {ts : List Tri} : muT ts ≤ 2 * (ts.map crT).sum := by
  induction ts with
  | nil => exact Int.le_refl _
  | cons t ts ih => rw [muT_cons, List.map_cons, List.sum_cons]; omega
theorem e_least {n : Nat} (hn : n ≤ 1000) {l : List Pt} {ts : List Tri} (hb : ∀ p ∈ l, PB n p) (h12 : l.length ≤ 12) (hf : isFB l = true) (hA : absI (A2 l) ≤ 60) (hc : Cuts (leftR l) ts) (hv : ∀ t ∈ ts, t.1 ∈ leftR l ∧ t.2.1 ∈ leftR l ∧ t.2.2 ∈ leftR l) :
    ∃ F : List Tri, g_least_triangles [psD l] = some (.list (F.map triLD)) ∧ (∀ t ∈ F, crT t = 1) ∧ (∀ t ∈ F, PB n t.1 ∧ PB n t.2.1 ∧ PB n t.2.2) ∧ ∀ χ, AddF χ → trisS χ F = ringS χ (leftR l) := by
  have hbr : ∀ p ∈ leftR l, PB n p := fun p hp => by
    unfold leftR at hp
    split at hp
    · exact hb p (List.mem_reverse.mp hp)
    · exact hb p hp
  have hlr : (leftR l).length = l.length := by unfold leftR; split <;> simp
  have har : A2 (leftR l) = absI (A2 l) := by
    unfold leftR absI
    split
    · rw [A2_rev]
    · rfl
  have ee := e_ears (m := n) (by omega) hc hbr (by omega)
  have i0 : LtI n (leftR l) ts [] := ⟨hc.pos.1, fun t ht => ⟨hbr _ (hv t ht).1, hbr _ (hv t ht).2.1, hbr _ (hv t ht).2.2⟩, fun t ht => (by cases ht), fun t ht => (by cases ht), fun χ hχ => by
    rw [hc.sum hχ.neg]
    show _ + 0 = _
    omega⟩
  have hmu : muT ts ≤ 120 := by
    have := muT_le (ts := ts)
    rw [hc.area, har] at this; omega
  obtain ⟨F, d5, d6, d7, d8, d9, e, hF⟩ := lt_loop (by omega) (l := l) (A := A2 l) 10000 (c5 := none) (c6 := none) (c7 := none) (c8 := none) (c9 := none) i0 (by omega) (by simp; omega)
  refine ⟨F, ?_, hF.one, hF.pbf, fun χ hχ => ?_⟩
  · have e0 : g_least_triangles [psD l] = runD 10 (dSeq (dDrop (fCallF 1 g_asked (fCons (fVar 0) fNil))) (dSeq (dSet 1 (fCallF 1 g_turn_sum (fCons (fVar 0) fNil))) (dSeq (dIf (fTst (f2 gGt (fCall gAbs (fCons (fVar 1) fNil)) (fC (.int 60)))) dNever dNext) (dSeq (dSet 2 (fL (fCallN gListC (fCons (fVar 0) fNil)))) (dSeq (dIf (fTst (f2 gLt (fVar 1) (fC (.int 0)))) (dSet 2 (fL (fRev (fVar 2)))) dNext) (dSeq (dSetN 3 (fCallFN 1 g_ears (fCons (fVar 2) fNil))) (dSeq (dSetN 4 (fLst fNil)) (dSeq (dWhile fuD ltC ltB) (dRet (fVar 4)))))))))) [psD l] := rfl
    rw [e0]
    refine runD_ret ?_
    refine dSeq_step (dDrop_of (fCallF_of (fCons_of rfl rfl) rfl (e_asked (n := n) (by omega) hb (by omega) hf))) ?_
    refine dSeq_step (dSet_of (fCallF_of (fCons_of rfl rfl) rfl (e_turn_sum (n := n) (by omega) hb (by omega)))) ?_
    have t1 : fTst (f2 gGt (fCall gAbs (fCons (fVar 1) fNil)) (fC (.int 60))) (vO [some (.sh (psD l)), some (.sh (.int (A2 l))), none, none, none, none, none, none, none, none]) = some (decide (absI (A2 l) > 60)) := fTst_of (f2_of (fCall_of (fCons_of rfl rfl) (gAbs_int _)) rfl rfl)
    refine dSeq_step ((dIf_f (t1.trans (by rw [decide_eq_false (by omega)]))).trans rfl) ?_
    refine dSeq_step (dSet_of (d := psD l) (fL_of rfl)) ?_
    have e2 : dIf (fTst (f2 gLt (fVar 1) (fC (.int 0)))) (dSet 2 (fL (fRev (fVar 2)))) dNext [some (.sh (psD l)), some (.sh (.int (A2 l))), some (.sh (psD l)), none, none, none, none, none, none, none] = .next [some (.sh (psD l)), some (.sh (.int (A2 l))), some (.sh (psD (leftR l))), none, none, none, none, none, none, none] := by
      have t2 : fTst (f2 gLt (fVar 1) (fC (.int 0))) (vO [some (.sh (psD l)), some (.sh (.int (A2 l))), some (.sh (psD l)), none, none, none, none, none, none, none]) = some (decide (A2 l < 0)) := fTst_of (f2_of rfl rfl rfl)
      unfold leftR
      by_cases h : A2 l < 0
      · rw [if_pos h, dIf_t (t2.trans (by rw [decide_eq_true h]))]
        exact dSet_of (fRev_ps rfl)
      · rw [if_neg h, dIf_f (t2.trans (by rw [decide_eq_false h]))]; rfl
    refine dSeq_step e2 ?_
    refine dSeq_step (dSetN_of (ds := ts.map triD) (by unfold fCallFN; rw [fCons_of (x := psD (leftR l)) (xs := []) rfl rfl, bind_some', if_pos (show [psD (leftR l)].length = 1 from rfl), ee])) ?_
    refine dSeq_step (dSetN_of (ds := []) rfl) ?_
    show dSeq _ _ (ltSt l (A2 l) (leftR l) ts [] none none none none none) = _
    refine dSeq_step (show dWhile fuD ltC ltB _ = .next (ltSt l (A2 l) (leftR l) [] F d5 d6 d7 d8 d9) from whileF_mono (by unfold fuD; omega) e) ?_
    exact dRet_of rfl
  · have := hF.sum χ hχ
    rw [← this]
    show _ = 0 + _
    omega
end LW
/-! part MTri9 -/
namespace LW
theorem Cuts.mem {l : List Pt} {ts : List Tri} (h : Cuts l ts) : ∀ t ∈ ts, t.1 ∈ l ∧ t.2.1 ∈ l ∧ t.2.2 ∈ l := by
  induction h with
  | @three l h hp =>
    intro t ht
    rw [List.mem_singleton.mp ht]
    exact ⟨ptI_mem (i := 0) (by omega) (by omega), ptI_mem (i := 1) (by omega) (by omega), ptI_mem (i := 2) (by omega) (by omega)⟩
  | @cut l k ts h hk he hf r ih =>
    intro t ht
    rcases List.mem_cons.mp ht with rfl | ht
    · have m0 := Int.emod_nonneg ((k : Int) + 1) (show (l.length : Int) ≠ 0 by omega)
      have m1 := Int.emod_lt_of_pos ((k : Int) + 1) (show (0 : Int) < (l.length : Int) by omega)
      exact ⟨ptI_mem (by omega) (by omega), ptI_mem (by omega) (by omega), ptI_mem (by omega) (by omega)⟩
    · obtain ⟨h1, h2, h3⟩ := ih t ht
      exact ⟨List.mem_of_mem_eraseIdx h1, List.mem_of_mem_eraseIdx h2, List.mem_of_mem_eraseIdx h3⟩
def mapT (t : Aff) (s : Tri) : Tri := (t.ap s.1, t.ap s.2.1, t.ap s.2.2)
theorem Ear.aff {l : List Pt} {a b c : Pt} {t : Aff} (hd : t.det = 1) : Ear (l.map t.ap) (t.ap a) (t.ap b) (t.ap c) ↔ Ear l a b c := by
  have h0 : t.det ≠ 0 := by omega
  have e : ∀ a b c, cr (t.ap a) (t.ap b) (t.ap c) = cr a b c := fun a b c => by rw [cr_aff, hd, Int.one_mul]
  have inj : ∀ {p q : Pt}, t.ap p = t.ap q → p = q := fun h => Aff.inj h0 h
  unfold Ear
  rw [e]
  refine and_congr Iff.rfl ⟨fun h p hp n1 n2 n3 k1 k2 k3 => ?_, fun h p hp n1 n2 n3 k1 k2 k3 => ?_⟩
  · exact h (t.ap p) (List.mem_map_of_mem hp) (fun z => n1 (inj z)) (fun z => n2 (inj z)) (fun z => n3 (inj z)) (by rw [e]; exact k1) (by rw [e]; exact k2) (by rw [e]; exact k3)
  · obtain ⟨q, hq, rfl⟩ := List.mem_map.mp hp
    rw [e] at k1 k2 k3
    exact h q hq (fun z => n1 (by rw [z])) (fun z => n2 (by rw [z])) (fun z => n3 (by rw [z])) k1 k2 k3
theorem isEarB_aff {l : List Pt} {t : Aff} (hd : t.det = 1) {k : Nat} (hk : k < l.length) : isEarB (l.map t.ap) k = isEarB l k := by
  have m0 := Int.emod_nonneg ((k : Int) + 1) (show (l.length : Int) ≠ 0 by omega)
  have m1 := Int.emod_lt_of_pos ((k : Int) + 1) (show (0 : Int) < (l.length : Int) by omega)
  apply Bool.eq_iff_iff.mpr
  rw [isEarB_iff, isEarB_iff, List.length_map, ptI_map (by omega) (by omega), ptI_map (by omega) (by omega), ptI_map (by omega) (by omega)]
  exact Ear.aff hd
theorem Cuts.aff {t : Aff} (hd : t.det = 1) {l : List Pt} {ts : List Tri} (h : Cuts l ts) : Cuts (l.map t.ap) (ts.map (mapT t)) := by
  induction h with
  | @three l h hp =>
    have e : [(ptI l 0, ptI l 1, ptI l 2)].map (mapT t) = [(ptI (l.map t.ap) 0, ptI (l.map t.ap) 1, ptI (l.map t.ap) 2)] := by
      rw [ptI_map (by omega) (by omega), ptI_map (by omega) (by omega), ptI_map (by omega) (by omega)]; rfl
    rw [e]
    refine .three (by rw [List.length_map]; exact h) ?_
    rw [ptI_map (by omega) (by omega), ptI_map (by omega) (by omega), ptI_map (by omega) (by omega), cr_aff, hd, Int.one_mul]; exact hp
  | @cut l k ts h hk he hf r ih =>
    have m0 := Int.emod_nonneg ((k : Int) + 1) (show (l.length : Int) ≠ 0 by omega)
    have m1 := Int.emod_lt_of_pos ((k : Int) + 1) (show (0 : Int) < (l.length : Int) by omega)
    have e : mapT t (triAt l k) = triAt (l.map t.ap) k := by
      unfold triAt mapT
      rw [List.length_map, ptI_map (by omega) (by omega), ptI_map (by omega) (by omega), ptI_map (by omega) (by omega)]
    rw [List.map_cons, e]
    refine .cut (by rw [List.length_map]; exact h) (by rw [List.length_map]; exact hk) (by rw [isEarB_aff hd hk]; exact he) (fun j hj => by rw [isEarB_aff hd (by omega)]; exact hf j hj) ?_
    rw [map_erase]; exact ih
/-- a fence of the law's, left round: a drawn one (or the like) led by a turning that keeps the sense -/
structure Base (R : List Pt) : Prop where
  good : Good R
  wok : WOK R
  cuts : ∃ ts, Cuts R ts
theorem Drawn.base {l : List Pt} (d : Drawn l) (h : 0 < A2 l) : Base l := ⟨d.good, d.wok h, d.cuts h⟩
theorem leftR_led {l : List Pt} {t : Aff} (hd : t.det = 1 ∨ t.det = -1) (ha : A2 l ≠ 0) (hB : ∀ m, (m = l ∨ m = l.reverse ∨ m = l.map sw ∨ m = (l.map sw).reverse) → 0 < A2 m → Base m) : ∃ (R : List Pt) (t' : Aff), t'.det = 1 ∧ Base R ∧ leftR (l.map t.ap) = R.map t'.ap := by
  have hA := A2_aff t l
  have sA : A2 (l.map sw) = - A2 l := A2_swap l
  let t' : Aff := ⟨t.b, t.a, t.d, t.c, t.e, t.f⟩
  have td : t'.det = - t.det := by simp only [Aff.det, t']; grind
  have ts : ∀ p, t'.ap (sw p) = t.ap p := fun p => by apply Prod.ext <;> simp only [Aff.ap, sw, t'] <;> omega
  have ms : ∀ m : List Pt, (m.map sw).map t'.ap = m.map t.ap := fun m => by
    rw [List.map_map]; exact List.map_congr_left fun p _ => ts p
  unfold leftR
  rcases hd with h | h
  · rw [h, Int.one_mul] at hA
    by_cases k : A2 l < 0
    · rw [if_pos (by rw [hA]; exact k)]
      exact ⟨l.reverse, t, h, hB _ (.inr (.inl rfl)) (by rw [A2_rev]; omega), by rw [List.map_reverse]⟩
    · rw [if_neg (by rw [hA]; exact k)]
      exact ⟨l, t, h, hB _ (.inl rfl) (by omega), rfl⟩
  · rw [h] at hA td
    by_cases k : A2 (l.map t.ap) < 0
    · rw [if_pos k]
      exact ⟨(l.map sw).reverse, t', by omega, hB _ (.inr (.inr (.inr rfl))) (by rw [A2_rev, sA]; omega), by rw [List.map_reverse, ms]⟩
    · rw [if_neg k]
      exact ⟨l.map sw, t', by omega, hB _ (.inr (.inr (.inl rfl))) (by rw [sA]; omega), (ms l).symm⟩
theorem btw_aff {t : Aff} {a b c : Pt} (h : Btw a b c) : Btw (t.ap a) (t.ap b) (t.ap c) := by
  obtain ⟨n, k, k0, kn, e1, e2⟩ := h
  refine ⟨n, k, k0, kn, ?_, ?_⟩ <;> simp only [Aff.ap]
  · have : n * (t.a * b.1 + t.b * b.2 + t.e - (t.a * a.1 + t.b * a.2 + t.e)) = t.a * (n * (b.1 - a.1)) + t.b * (n * (b.2 - a.2)) := by grind
    rw [this, e1, e2]; grind
  · have : n * (t.c * b.1 + t.d * b.2 + t.f - (t.c * a.1 + t.d * a.2 + t.f)) = t.c * (n * (b.1 - a.1)) + t.d * (n * (b.2 - a.2)) := by grind
    rw [this, e1, e2]; grind
theorem AddF.led {χ : Pt → Pt → Int} (h : AddF χ) (t : Aff) : AddF fun a b => χ (t.ap a) (t.ap b) := ⟨fun a b => h.neg _ _, fun a b c hb => h.add _ _ _ (btw_aff hb)⟩
theorem trisS_map (χ : Pt → Pt → Int) (t : Aff) (F : List Tri) : trisS χ (F.map (mapT t)) = trisS (fun a b => χ (t.ap a) (t.ap b)) F := by
  unfold trisS
  rw [List.map_map]; rfl
theorem ringS_map (χ : Pt → Pt → Int) (t : Aff) (l : List Pt) : ringS χ (l.map t.ap) = ringS (fun a b => χ (t.ap a) (t.ap b)) l := by
  unfold ringS
  rw [sds_map]
  unfold sumBy
  rw [List.map_map]; rfl
theorem fills_led {R : List Pt} (b : Base R) {t : Aff} (hd : t.det = 1) {F : List Tri} (hp : ∀ s ∈ F, crT s = 1) (hs : ∀ χ, AddF χ → trisS χ F = ringS χ (R.map t.ap)) :
    (edgesL F).Nodup ∧ (∀ e ∈ edgesL F, ((e.2, e.1) ∈ edgesL F ↔ ¬ e ∈ stepsL (R.map t.ap))) ∧ ∀ e ∈ stepsL (R.map t.ap), e ∈ edgesL F := by
  refine fillsN (b.good.aff (.inl hd)) ?_ hp hs
  have di : t.inv.det = 1 := by
    have : t.inv.det = t.det * t.det * t.det := by simp only [Aff.inv, Aff.det]; grind
    rw [this, hd]; rfl
  have nd := edges_nodup (l := R) (ts := F.map (mapT t.inv)) b.wok (fun s hs' => by
    obtain ⟨q, hq, rfl⟩ := List.mem_map.mp hs'
    have e : crT (mapT t.inv q) = crT q := by
      show cr (t.inv.ap q.1) (t.inv.ap q.2.1) (t.inv.ap q.2.2) = _
      rw [cr_aff, di, Int.one_mul]; rfl
    rw [e, hp q hq]; decide) (fun χ hχ => by
    rw [trisS_map, hs _ (hχ.led t.inv), ringS_map]
    have : (fun a b => χ (t.inv.ap (t.ap a)) (t.inv.ap (t.ap b))) = χ := by
      funext a b
      rw [(inv_ap (.inl hd) a).1, (inv_ap (.inl hd) b).1]
    rw [this])
  have em : edgesL (F.map (mapT t.inv)) = (edgesL F).map fun e => (t.inv.ap e.1, t.inv.ap e.2) := by
    unfold edgesL
    rw [List.flatMap_map, List.map_flatMap]; rfl
  rw [em] at nd
  exact (List.pairwise_map.mp nd).imp fun h z => h (by rw [z])
end LW
/-! part MTri10 -/
namespace LW
/-! ### the triangle of legs -/
theorem tri_good {a b c : Pt} (h : cr a b c ≠ 0) : Good [a, b, c] := by
  have c1 := cr_cyc a b c
  have c2 := cr_cyc b c a
  have nab : a ≠ b := fun z => h (by rw [z]; simp only [cr]; grind)
  have nbc : b ≠ c := fun z => h (by rw [z]; simp only [cr]; grind)
  have nca : a ≠ c := fun z => h (by rw [z]; simp only [cr]; grind)
  refine ⟨by simp, by simp, by simp [nab, nbc, nca], ?_⟩
  show List.Pairwise Rel [(a, b), (b, c), (c, a)]
  refine List.pairwise_cons.mpr ⟨fun t ht => ?_, List.pairwise_cons.mpr ⟨fun t ht => ?_, List.pairwise_cons.mpr ⟨fun t ht => (by cases ht), List.Pairwise.nil⟩⟩⟩
  · simp only [List.mem_cons, List.not_mem_nil, or_false] at ht
    rcases ht with rfl | rfl
    · exact .inr (.inl ⟨rfl, fun z => h z.1⟩)
    · exact .inr (.inr (.inl ⟨rfl, fun z => by have z1 : cr c a b = 0 := z.1; omega⟩))
  · simp only [List.mem_cons, List.not_mem_nil, or_false] at ht
    subst ht
    exact .inr (.inl ⟨rfl, fun z => by have z1 : cr b c a = 0 := z.1; omega⟩)
theorem base_mono {R : List Pt} (g : Good R) (h : ∀ M, 100 ≤ M → MonoR M 1 R) : Base R := by
  refine ⟨g, fun u v huv => ?_, (h 100 (Int.le_refl _)).cutsR⟩
  have pick : ph 100 1 u ≠ ph 100 1 v ∨ ph 101 1 u ≠ ph 101 1 v := by
    have : u.1 ≠ v.1 ∨ u.2 ≠ v.2 := by
      by_cases e1 : u.1 = v.1
      · right; intro e2; exact huv (Prod.ext e1 e2)
      · exact .inl e1
    simp only [ph]; omega
  rcases pick with p | p
  · exact ⟨100, 1, p, (h 100 (by decide)).wind⟩
  · exact ⟨101, 1, p, (h 101 (by decide)).wind⟩
theorem legs_mono {p q : Int} (hp : 0 < p) (hq : 0 < q) (hq2 : q < 100) {M : Int} (hM : 100 ≤ M) : Mono M 1 (0, 0) [] (p, 0) [(0, q)] := by
  have hMp : M ≤ M * p := by
    have := Int.mul_le_mul_of_nonneg_left (show 1 ≤ p by omega) (show 0 ≤ M by omega)
    omega
  have e0 : ph M 1 (0, 0) = 0 := by simp only [ph]; omega
  have e1 : ph M 1 (p, 0) = M * p := by simp only [ph]; omega
  have e2 : ph M 1 (0, q) = q := by simp only [ph]; omega
  refine ⟨?_, ?_, fun x hx => (by cases hx), fun t ht x hx => (by cases hx), fun t ht x hx k1 k2 => ?_, .inr (by simp)⟩
  · simp [e0, e1]; omega
  · simp [e0, e1, e2]; omega
  · rw [List.mem_singleton.mp hx]
    have : t = ((0, 0), (p, 0)) := by
      rcases List.mem_cons.mp ht with h | h
      · exact h
      · cases h
    subst this
    have := Int.mul_pos hp hq
    simp only [cr]; grind
theorem legs_base {p q : Int} (hp : 0 < p) (hq : 0 < q) (hp2 : p < 100) (hq2 : q < 100) : Good [((0, 0) : Pt), (p, 0), (0, q)] ∧ A2 [((0, 0) : Pt), (p, 0), (0, q)] = p * q ∧ ∀ m, (m = [((0, 0) : Pt), (p, 0), (0, q)] ∨ m = [((0, 0) : Pt), (p, 0), (0, q)].reverse ∨ m = [((0, 0) : Pt), (p, 0), (0, q)].map sw ∨ m = ([((0, 0) : Pt), (p, 0), (0, q)].map sw).reverse) → 0 < A2 m → Base m := by
  have pq := Int.mul_pos hp hq
  have area : ∀ p q : Int, A2 [((0, 0) : Pt), (p, 0), (0, q)] = p * q := fun p q => by
    show (0 * 0 - 0 * p) + ((p * q - 0 * 0) + ((0 * 0 - q * 0) + 0)) = p * q
    omega
  have good : ∀ {p q : Int}, 0 < p → 0 < q → Good [((0, 0) : Pt), (p, 0), (0, q)] := fun {p q} hp hq => tri_good (by
    have := Int.mul_pos hp hq
    simp only [cr]; grind)
  have mono : ∀ {p q : Int}, 0 < p → 0 < q → q < 100 → ∀ M, 100 ≤ M → MonoR M 1 [((0, 0) : Pt), (p, 0), (0, q)] := fun {p q} hp hq hq2 M hM => ⟨_, _, _, _, legs_mono hp hq hq2 hM, by unfold monoL; exact IsRot.refl _⟩
  refine ⟨good hp hq, area p q, fun m hm h => ?_⟩
  rcases hm with rfl | rfl | rfl | rfl
  · exact base_mono (good hp hq) (mono hp hq hq2)
  · exfalso; rw [A2_rev, area] at h; omega
  · exfalso
    have : A2 ([((0, 0) : Pt), (p, 0), (0, q)].map sw) = - A2 [((0, 0) : Pt), (p, 0), (0, q)] := A2_swap _
    rw [this, area] at h; omega
  · have r : IsRot ([((0, 0) : Pt), (p, 0), (0, q)].map sw).reverse [((0, 0) : Pt), (q, 0), (0, p)] := ⟨[(q, 0), (0, p)], [(0, 0)], rfl, rfl⟩
    refine base_mono ?_ fun M hM => (mono hq hp hp2 M hM).rot r
    have g : Good ([((0, 0) : Pt)] ++ [(q, 0), (0, p)]) := good hq hp
    exact g.rot
end LW
/-! part EF19 -/
namespace LW
open PySem (PyData Str)
open DL
open L2 (atI ixN kitB)
/-! ### the law's steps -/
theorem e_law_common (x y : Int) : g__law_common [.int x, .int y] = some (.int (Int.gcd x y : Nat)) := e_common x y
theorem dKPut_of {i : Nat} {fk : DF} {ρ : Sto} {ks : List SK} {k : SK} (h0 : ρ[i]? = some (some (.ob (.sk ks)))) (h1 : fk (vO ρ) = some (skD k)) (h2 : ks.length < 1000000) : dKPut i fk ρ = .next (ρ.set i (some (.ob (.sk (putSk ks k))))) := by
  unfold dKPut
  rw [h0]
  simp only [h1, asSk_skD, h2, if_true]
theorem gKin_of {g : Bool → Bool} (k : SK) (ks : List SK) : gKin g (skD k) (kdD ks) = some (.bool (g (decide (k ∈ ks)))) := by
  unfold gKin
  rw [asSk_skD, asKd_kdD]; rfl
theorem fIK_of {f : DF} {ρ : DL.Env} {ks : List SK} (h : f ρ = some (kdD ks)) : fIK f ρ = some (ks.map skD) := by
  unfold fIK
  rw [h, bind_some', asKd_kdD]; rfl
theorem putSk_mem {ks : List SK} {k e : SK} : e ∈ putSk ks k ↔ e ∈ ks ∨ e = k := by
  unfold putSk
  split
  · rename_i h
    exact ⟨.inl, fun z => z.elim id fun z => z ▸ h⟩
  · simp
theorem putSk_nodup {ks : List SK} {k : SK} (h : ks.Nodup) : (putSk ks k).Nodup := by
  unfold putSk
  split
  · exact h
  · rename_i hn
    rw [List.nodup_append]
    refine ⟨h, by simp, fun a ha b hb => ?_⟩
    rw [List.mem_singleton.mp hb]
    exact fun z => hn (z ▸ ha)
theorem len_of_sub {α : Type} [DecidableEq α] : ∀ {as bs : List α}, as.Nodup → (∀ a ∈ as, a ∈ bs) → as.length ≤ bs.length
  | [], bs, _, _ => Nat.zero_le _
  | a :: as, bs, nd, h => by
    obtain ⟨n1, n2⟩ := List.nodup_cons.mp nd
    have hb := h a List.mem_cons_self
    have := len_of_sub (as := as) (bs := bs.erase a) n2 fun x hx => (List.mem_erase_of_ne (fun z : x = a => n1 (by rw [← z]; exact hx))).mpr (h x (List.mem_cons_of_mem _ hx))
    rw [List.length_erase_of_mem hb] at this
    have := List.length_pos_of_mem hb
    rw [List.length_cons]; omega
/-- keys within B, each once -/
def KOk (B : List SK) (ks : List SK) : Prop := ks.Nodup ∧ ∀ e ∈ ks, e ∈ B
theorem KOk.put {B ks : List SK} {k : SK} (h : KOk B ks) (hk : k ∈ B) : KOk B (putSk ks k) := ⟨putSk_nodup h.1, fun e he => (putSk_mem.mp he).elim (h.2 e) fun z => z ▸ hk⟩
theorem KOk.len {B ks : List SK} (h : KOk B ks) : ks.length ≤ B.length := len_of_sub h.1 h.2
noncomputable def sjF : SFn := (dSeq (dSet 8 (fTup (fCons (f2 gAdd (f2 gIx (fVar 3) (fC (.int 0))) (f2 gMul (f2 gDiv (fVar 4) (fVar 6)) (fVar 7))) (fCons (f2 gAdd (f2 gIx (fVar 3) (fC (.int 1))) (f2 gMul (f2 gDiv (fVar 5) (fVar 6)) (fVar 7))) fNil)))) (dKPut 1 (fTup (fCons (fVar 8) (fCons (fTup (fCons (f2 gAdd (f2 gIx (fVar 8) (fC (.int 0))) (f2 gDiv (fVar 4) (fVar 6))) (fCons (f2 gAdd (f2 gIx (fVar 8) (fC (.int 1))) (f2 gDiv (fVar 5) (fVar 6))) fNil))) fNil)))))
noncomputable def slF : SFn := (dSeq (dSet 3 (f2 gIx (fVar 0) (f2 gSub (fVar 2) (fC (.int 1))))) (dSeq (dSet 4 (f2 gSub (f2 gIx (f2 gIx (fVar 0) (fVar 2)) (fC (.int 0))) (f2 gIx (fVar 3) (fC (.int 0))))) (dSeq (dSet 5 (f2 gSub (f2 gIx (f2 gIx (fVar 0) (fVar 2)) (fC (.int 1))) (f2 gIx (fVar 3) (fC (.int 1))))) (dSeq (dSet 6 (fCallF 2 g__law_common (fCons (fVar 4) (fCons (fVar 5) fNil)))) (dForO (fIR rng1 (fCons (fVar 6) fNil)) (tgN 7) sjF)))))
def slSt (l : List Pt) (ks : List SK) (c2 c3 c4 c5 c6 c7 c8 : Option Cell) : Sto := [some (.sh (psD l)), some (.ob (.sk ks)), c2, c3, c4, c5, c6, c7, c8]
theorem sj_one {n : Nat} (hn : n ≤ 4000) {l : List Pt} {ks : List SK} {s : Sd} (h1 : PB n s.1) (h2 : PB n s.2) {j : Nat} (hg : gS s ≤ 1000) (hj : j < gS s) (hk : ks.length < 1000000) (c2 c8 : Option Cell) :
    sjF (slSt l ks c2 (some (.sh (pD s.1))) (some (.sh (.int (s.2.1 - s.1.1)))) (some (.sh (.int (s.2.2 - s.1.2)))) (some (.sh (.int (gS s : Nat)))) (some (.sh (.int (j : Nat)))) c8) =
      .next (slSt l (putSk ks (stepJ s (j : Nat))) c2 (some (.sh (pD s.1))) (some (.sh (.int (s.2.1 - s.1.1)))) (some (.sh (.int (s.2.2 - s.1.2)))) (some (.sh (.int (gS s : Nat)))) (some (.sh (.int (j : Nat)))) (some (.sh (pD (stepJ s (j : Nat)).1)))) := by
  have g0 : (0 : Int) < (gS s : Nat) := by omega
  have bg : Bd 8999 ((gS s : Nat) : Int) := bd_mono (show Bd 10 ((gS s : Nat) : Int) by unfold Bd; omega) (by decide)
  have bx : Bd 100000 ((s.2.1 - s.1.1) / ((gS s : Nat) : Int)) := bd_mono (bd_ediv (bd_sub h2.1 h1.1)) (by omega)
  have by' : Bd 100000 ((s.2.2 - s.1.2) / ((gS s : Nat) : Int)) := bd_mono (bd_ediv (bd_sub h2.2 h1.2)) (by omega)
  have bj : Bd 100000 (j : Int) := bd_mono (show Bd 10 (j : Int) by unfold Bd; omega) (by decide)
  unfold sjF
  refine dSeq_step (dSet_of (d := pD (stepJ s (j : Nat)).1) (fTup_of (fCons_of (f2_of (f2_of rfl rfl (gIx_p0 _)) (f2_of (f2_of rfl rfl (gDiv_pos g0 bg)) rfl (gMul_ii bx bj)) rfl) (fCons_of (f2_of (f2_of rfl rfl (gIx_p1 _)) (f2_of (f2_of rfl rfl (gDiv_pos g0 bg)) rfl (gMul_ii by' bj)) rfl) rfl)) (show 2 ≤ 1000 from Nat.le_of_ble_eq_true rfl))) ?_
  refine (dKPut_of (ks := ks) (k := stepJ s (j : Nat)) rfl ?_ hk).trans rfl
  exact fTup_of (fCons_of rfl (fCons_of (fTup_of (fCons_of (f2_of (f2_of rfl rfl (gIx_p0 _)) (f2_of rfl rfl (gDiv_pos g0 bg)) rfl) (fCons_of (f2_of (f2_of rfl rfl (gIx_p1 _)) (f2_of rfl rfl (gDiv_pos g0 bg)) rfl) rfl)) (show 2 ≤ 1000 from Nat.le_of_ble_eq_true rfl)) rfl)) (show 2 ≤ 1000 from Nat.le_of_ble_eq_true rfl)
theorem rngD_zero (n : Nat) : rngD 0 n = (List.range' 0 n).map fun i => .int (i : Nat) := by
  rw [rngD_eq]
  exact List.map_congr_left fun i _ => by rw [Int.zero_add]
theorem steps_inj {s : Sd} {i j : Nat} (hg : 0 < gS s) (h : stepJ s (i : Nat) = stepJ s (j : Nat)) : i = j := by
  have d := gS_dvd s
  have g0 : ((gS s : Nat) : Int) ≠ 0 := by omega
  have e1 := congrArg (fun e => e.1.1) h
  have e2 := congrArg (fun e => e.1.2) h
  simp only [stepJ] at e1 e2
  have x : (s.2.1 - s.1.1) / (gS s : Nat) ≠ 0 ∨ (s.2.2 - s.1.2) / (gS s : Nat) ≠ 0 := by
    by_cases k1 : (s.2.1 - s.1.1) / ((gS s : Nat) : Int) = 0
    · by_cases k2 : (s.2.2 - s.1.2) / ((gS s : Nat) : Int) = 0
      · exfalso
        have a1 : s.2.1 - s.1.1 = 0 := by rw [← Int.ediv_mul_cancel d.1, k1, Int.zero_mul]
        have a2 : s.2.2 - s.1.2 = 0 := by rw [← Int.ediv_mul_cancel d.2, k2, Int.zero_mul]
        have : gS s = 0 := by unfold gS; rw [a1, a2]; rfl
        omega
      · exact .inr k2
    · exact .inl k1
  rcases x with x | x
  · have : (i : Int) = j := Int.eq_of_mul_eq_mul_left x (by omega)
    omega
  · have : (i : Int) = j := Int.eq_of_mul_eq_mul_left x (by omega)
    omega
theorem gS_le {s : Sd} {B : List SK} (h : ∀ e ∈ stepsOf s, e ∈ B) : gS s ≤ B.length := by
  have nd : (stepsOf s).Nodup := by
    unfold stepsOf
    rw [List.nodup_iff_pairwise_ne, List.pairwise_map]
    exact (List.nodup_iff_pairwise_ne.mp (List.nodup_range')).imp_of_mem fun {a b} ha _ hne z => hne (steps_inj (gS_pos ha) z)
  have := len_of_sub nd h
  unfold stepsOf at this
  rwa [List.length_map, List.length_range'] at this
theorem sl_one {n : Nat} (hn : n ≤ 4000) {l : List Pt} {B : List SK} (hB : B.length ≤ 1000) (hb : ∀ p ∈ l, PB n p) (hl : l.length < 1000) {k : Nat} (hk : k < l.length) (hs : ∀ e ∈ stepsOf (ptI l ((k : Nat) - 1 : Int), ptI l (k : Nat)), e ∈ B) {ks : List SK} (ho : KOk B ks) (c3 c4 c5 c6 c7 c8 : Option Cell) :
    ∃ d3 d4 d5 d6 d7 d8, slF (slSt l ks (some (.sh (.int (k : Nat)))) c3 c4 c5 c6 c7 c8) = .next (slSt l ((stepsOf (ptI l ((k : Nat) - 1 : Int), ptI l (k : Nat))).foldl putSk ks) (some (.sh (.int (k : Nat)))) d3 d4 d5 d6 d7 d8) ∧ KOk B ((stepsOf (ptI l ((k : Nat) - 1 : Int), ptI l (k : Nat))).foldl putSk ks) := by
  have hg := gS_le hs
  have i1 : gIx (psD l) (.int ((k : Int) - 1)) = some (pD (ptI l ((k : Int) - 1))) := gIx_ok (by omega) (by omega)
  have i2 : gIx (psD l) (.int (k : Int)) = some (pD (ptI l (k : Int))) := gIx_ok (by omega) (by omega)
  have p1 : PB n (ptI l ((k : Int) - 1)) := hb _ (ptI_mem (by omega) (by omega))
  have p2 : PB n (ptI l (k : Int)) := hb _ (ptI_mem (by omega) (by omega))
  generalize hP : ptI l ((k : Int) - 1) = P at *
  generalize hQ : ptI l (k : Int) = Q at *
  unfold slF
  have L := forF_acc (tg := tgN 7) (F := sjF) (enc := fun j : Nat => PyData.int (j : Nat)) (fun j => [(7, .int (j : Nat))])
    (fun ks ρ => KOk B ks ∧ ∃ c7 c8, ρ = slSt l ks (some (.sh (.int (k : Nat)))) (some (.sh (pD P))) (some (.sh (.int (Q.1 - P.1)))) (some (.sh (.int (Q.2 - P.2)))) (some (.sh (.int (gS (P, Q) : Nat)))) c7 c8)
    (fun ks j => putSk ks (stepJ (P, Q) (j : Nat))) (List.range' 0 (gS (P, Q))) ks (slSt l ks (some (.sh (.int (k : Nat)))) (some (.sh (pD P))) (some (.sh (.int (Q.1 - P.1)))) (some (.sh (.int (Q.2 - P.2)))) (some (.sh (.int (gS (P, Q) : Nat)))) c7 c8)
    (fun j _ => rfl) (fun j hj ks ρ ⟨ok, c7, c8, e⟩ => by
      subst e
      have hj' : j < gS (P, Q) := by rw [List.mem_range'_1] at hj; omega
      exact ⟨_, sj_one (n := n) hn (s := (P, Q)) p1 p2 (by omega) hj' (by have := ok.len; omega) _ c8, ok.put (hs _ (List.mem_map_of_mem hj)), _, _, rfl⟩) ⟨ho, _, _, rfl⟩
  obtain ⟨ρ', e, ok, c7', c8', rfl⟩ := L
  have fe : (List.range' 0 (gS (P, Q))).foldl (fun ks j => putSk ks (stepJ (P, Q) (j : Nat))) ks = (stepsOf (P, Q)).foldl putSk ks := by
    unfold stepsOf; rw [List.foldl_map]
  rw [fe] at e ok
  refine ⟨some (.sh (pD P)), some (.sh (.int (Q.1 - P.1))), some (.sh (.int (Q.2 - P.2))), some (.sh (.int (gS (P, Q) : Nat))), c7', c8', ?_, ok⟩
  refine dSeq_step (dSet_of (d := pD P) (f2_of (x := psD l) rfl (f2_of rfl rfl rfl) i1)) ?_
  refine dSeq_step (dSet_of (d := .int (Q.1 - P.1)) (f2_of (f2_of (f2_of (x := psD l) rfl rfl i2) rfl (gIx_p0 _)) (f2_of rfl rfl (gIx_p0 _)) rfl)) ?_
  refine dSeq_step (dSet_of (d := .int (Q.2 - P.2)) (f2_of (f2_of (f2_of (x := psD l) rfl rfl i2) rfl (gIx_p1 _)) (f2_of rfl rfl (gIx_p1 _)) rfl)) ?_
  refine dSeq_step (dSet_of (d := .int (gS (P, Q) : Nat)) (fCallF_of (fCons_of rfl (fCons_of rfl rfl)) rfl (e_law_common _ _))) ?_
  refine (dForO_of (ds := rngD 0 (gS (P, Q))) (dIR1_of rfl (by omega)) (noLs_rng _ _)).trans ?_
  rw [rngD_zero]
  exact e
theorem foldl_flat {α β γ : Type} (f : γ → β → γ) (g : α → List β) : ∀ (as : List α) (c : γ), as.foldl (fun c a => (g a).foldl f c) c = (as.flatMap g).foldl f c
  | [], c => rfl
  | a :: as, c => by rw [List.foldl_cons, foldl_flat f g as, List.flatMap_cons, List.foldl_append]
theorem fold_mem : ∀ {L ks : List SK} {e : SK}, e ∈ L.foldl putSk ks ↔ e ∈ ks ∨ e ∈ L
  | [], ks, e => by simp
  | k :: L, ks, e => by
    rw [List.foldl_cons, fold_mem, putSk_mem, List.mem_cons, or_assoc]
/-- the steps of a rim: a dict with just these keys -/
theorem e_law_steps {n : Nat} (hn : n ≤ 4000) {l : List Pt} {B : List SK} (hB : B.length ≤ 1000) (hb : ∀ p ∈ l, PB n p) (hl : l.length < 1000) (hs : ∀ e ∈ stepsL l, e ∈ B) :
    ∃ ks : List SK, g__law_steps [psD l] = some (kdD ks) ∧ ∀ e, e ∈ ks ↔ e ∈ stepsL l := by
  have L := forF_acc (tg := tgN 2) (F := slF) (enc := fun j : Nat => PyData.int (j : Nat)) (fun j => [(2, .int (j : Nat))])
    (fun ks ρ => KOk B ks ∧ ∃ c2 c3 c4 c5 c6 c7 c8, ρ = slSt l ks c2 c3 c4 c5 c6 c7 c8)
    (fun ks (k : Nat) => (stepsOf (ptI l ((k : Nat) - 1 : Int), ptI l (k : Nat))).foldl putSk ks) (List.range' 0 l.length) [] (slSt l [] none none none none none none none)
    (fun j _ => rfl) (fun k hk ks ρ ⟨ok, c2, c3, c4, c5, c6, c7, c8, e⟩ => by
      subst e
      have hk' : k < l.length := by rw [List.mem_range'_1] at hk; omega
      obtain ⟨d3, d4, d5, d6, d7, d8, e, o⟩ := sl_one hn hB hb hl hk' (fun e he => hs e (List.mem_flatMap.mpr ⟨_, List.mem_map_of_mem hk, he⟩)) ok c3 c4 c5 c6 c7 c8
      exact ⟨_, e, o, _, _, _, _, _, _, _, rfl⟩) ⟨⟨List.nodup_nil, fun e he => nomatch he⟩, _, _, _, _, _, _, _, rfl⟩
  obtain ⟨ρ', e, ok, c2, c3, c4, c5, c6, c7, c8, rfl⟩ := L
  have fe : (List.range' 0 l.length).foldl (fun ks (k : Nat) => (stepsOf (ptI l ((k : Nat) - 1 : Int), ptI l (k : Nat))).foldl putSk ks) [] = (stepsL l).foldl putSk [] := by
    unfold stepsL backL
    rw [← foldl_flat, List.foldl_map]
  rw [fe] at e
  refine ⟨_, ?_, fun e => (fold_mem (L := stepsL l) (ks := [])).trans (by simp)⟩
  have e0 : g__law_steps [psD l] = runD 9 (dSeq (dKNew 1) (dSeq (dForO (fIR rng1 (fCons (fCall gLen (fCons (fVar 0) fNil)) fNil)) (tgN 2) slF) (dRet (fVar 1)))) [psD l] := rfl
  rw [e0]
  refine runD_ret ?_
  refine dSeq_step (ρ' := slSt l [] none none none none none none none) rfl ?_
  refine dSeq_step ((dForO_of (ds := rngD 0 l.length) (dIR1_of (fCall_of (fCons_of rfl rfl) (gLen_psD l)) (by omega)) (noLs_rng _ _)).trans (by rw [rngD_zero]; exact e)) ?_
  exact dRet_of rfl
/-! ### the steps gone -/
noncomputable def gkF : SFn := (dSeq (dSet 5 (fTup (fCons (f2 gIx (fVar 3) (f2 gSub (fVar 4) (fC (.int 1)))) (fCons (f2 gIx (fVar 3) (fVar 4)) fNil)))) (dSeq (dIf (fTst (f2 (gKin id) (fVar 5) (fVar 1))) (dRet (fC .none)) dNext) (dKPut 1 (fVar 5))))
noncomputable def goF : SFn := (dSeq (dSet 3 (fL (fCallN gListC (fCons (fVar 2) fNil)))) (dSeq (dIf (fTst (f2 gLt (fCallF 3 g__law_cross (fCons (f2 gIx (fVar 3) (fC (.int 0))) (fCons (f2 gIx (fVar 3) (fC (.int 1))) (fCons (f2 gIx (fVar 3) (fC (.int 2))) fNil)))) (fC (.int 0)))) (dSet 3 (fL (fRev (fVar 3)))) dNext) (dForO (fIR rng1 (fCons (fC (.int 3)) fNil)) (tgN 4) gkF)))
def goSt (F : List Tri) (ks : List SK) (c2 c3 c4 c5 : Option Cell) : Sto := [some (.sh (.list (F.map triLD))), some (.ob (.sk ks)), c2, c3, c4, c5]
theorem gk_one {F : List Tri} {ks : List SK} {row : List Pt} {k : Int} {p q : Pt} (h1 : gIx (psD row) (.int (k - 1)) = some (pD p)) (h2 : gIx (psD row) (.int k) = some (pD q)) (hn : (p, q) ∉ ks) (hl : ks.length < 1000000) (c2 c5 : Option Cell) :
    gkF (goSt F ks c2 (some (.sh (psD row))) (some (.sh (.int k))) c5) = .next (goSt F (ks ++ [(p, q)]) c2 (some (.sh (psD row))) (some (.sh (.int k))) (some (.sh (skD (p, q))))) := by
  unfold gkF
  refine dSeq_step (dSet_of (d := skD (p, q)) (fTup_of (fCons_of (f2_of (x := psD row) rfl (f2_of rfl rfl rfl) h1) (fCons_of (f2_of (x := psD row) rfl rfl h2) rfl)) (show 2 ≤ 1000 from Nat.le_of_ble_eq_true rfl))) ?_
  have tt : fTst (f2 (gKin id) (fVar 5) (fVar 1)) (vO (goSt F ks c2 (some (.sh (psD row))) (some (.sh (.int k))) (some (.sh (skD (p, q)))))) = some (decide ((p, q) ∈ ks)) := fTst_of (f2_of rfl rfl (gKin_of _ _))
  refine dSeq_step ((dIf_f (tt.trans (by rw [decide_eq_false hn]))).trans rfl) ?_
  refine (dKPut_of (ks := ks) (k := (p, q)) rfl rfl hl).trans ?_
  unfold putSk
  rw [if_neg hn]; rfl
theorem go_one {n : Nat} (hn : n ≤ 4000) {F : List Tri} {ks : List SK} {t : Tri} (h1 : crT t = 1) (hb : PB n t.1 ∧ PB n t.2.1 ∧ PB n t.2.2) (nd : (ks ++ edgesT t).Nodup) (hl : ks.length < 1000) (c3 c4 c5 : Option Cell) :
    ∃ d3 d4 d5, goF (goSt F ks (some (.sh (triLD t))) c3 c4 c5) = .next (goSt F (ks ++ edgesT t) (some (.sh (triLD t))) d3 d4 d5) := by
  obtain ⟨a, b, c⟩ := t
  obtain ⟨b1, b2, b3⟩ := hb
  have h1 : cr a b c = 1 := h1
  refine ⟨some (.sh (psD [a, b, c])), some (.sh (.int 2)), some (.sh (skD (b, c))), ?_⟩
  unfold goF
  refine dSeq_step (dSet_of (d := psD [a, b, c]) (fL_of rfl)) ?_
  have tt : fTst (f2 gLt (fCallF 3 g__law_cross (fCons (f2 gIx (fVar 3) (fC (.int 0))) (fCons (f2 gIx (fVar 3) (fC (.int 1))) (fCons (f2 gIx (fVar 3) (fC (.int 2))) fNil)))) (fC (.int 0))) (vO (goSt F ks (some (.sh (triLD (a, b, c)))) (some (.sh (psD [a, b, c]))) c4 c5)) = some (decide (cr a b c < 0)) :=
    fTst_of (f2_of (fCallF_of (fCons_of (f2_of rfl rfl rfl) (fCons_of (f2_of rfl rfl rfl) (fCons_of (f2_of rfl rfl rfl) rfl))) rfl (e_law_cross hn b1 b2 b3)) rfl rfl)
  refine dSeq_step ((dIf_f (tt.trans (by rw [h1]; rfl))).trans rfl) ?_
  refine (dForO_of (ds := [.int 0, .int 1, .int 2]) rfl rfl).trans ?_
  have hn' := nd
  unfold edgesT at nd
  rw [List.nodup_append] at nd
  obtain ⟨_, n2, n3⟩ := nd
  simp only [List.nodup_cons, List.mem_cons, List.not_mem_nil, or_false, not_or] at n2
  obtain ⟨⟨m1, m2⟩, m3, _⟩ := n2
  have x1 : (c, a) ∉ ks := fun z => n3 _ z _ List.mem_cons_self rfl
  have x2 : (a, b) ∉ ks ++ [(c, a)] := fun z => by
    rcases List.mem_append.mp z with z | z
    · exact n3 _ z _ (List.mem_cons_of_mem _ List.mem_cons_self) rfl
    · exact m1 (List.mem_singleton.mp z).symm
  have x3 : (b, c) ∉ (ks ++ [(c, a)]) ++ [(a, b)] := fun z => by
    rcases List.mem_append.mp z with z | z
    · rcases List.mem_append.mp z with z | z
      · exact n3 _ z _ (List.mem_cons_of_mem _ (List.mem_cons_of_mem _ List.mem_cons_self)) rfl
      · exact m2 (List.mem_singleton.mp z).symm
    · exact m3 (List.mem_singleton.mp z).symm
  refine forF_cons (asg := [(4, .int 0)]) rfl (gk_one (row := [a, b, c]) (k := 0) (p := c) (q := a) rfl rfl x1 (by omega) _ _) ?_
  refine forF_cons (asg := [(4, .int 1)]) rfl (gk_one (row := [a, b, c]) (k := 1) (p := a) (q := b) rfl rfl x2 (by rw [List.length_append]; simp only [List.length_cons, List.length_nil]; omega) _ _) ?_
  refine forF_cons (asg := [(4, .int 2)]) rfl (gk_one (row := [a, b, c]) (k := 2) (p := b) (q := c) rfl rfl x3 (by rw [List.length_append, List.length_append]; simp only [List.length_cons, List.length_nil]; omega) _ _) ?_
  rw [List.append_assoc, List.append_assoc]; rfl
theorem go_loop {n : Nat} (hn : n ≤ 4000) {F : List Tri} : ∀ (ts : List Tri) {ks : List SK} {c2 c3 c4 c5 : Option Cell}, (∀ t ∈ ts, crT t = 1) → (∀ t ∈ ts, PB n t.1 ∧ PB n t.2.1 ∧ PB n t.2.2) → (ks ++ edgesL ts).Nodup → ks.length + 3 * ts.length < 1000 →
    ∃ d2 d3 d4 d5, forF (tgN 2) goF (ts.map triLD) (goSt F ks c2 c3 c4 c5) = .next (goSt F (ks ++ edgesL ts) d2 d3 d4 d5)
  | [], ks, c2, c3, c4, c5, _, _, _, _ => ⟨c2, c3, c4, c5, by unfold edgesL; rw [List.flatMap_nil, List.append_nil]; rfl⟩
  | t :: ts, ks, c2, c3, c4, c5, h1, hb, nd, hl => by
    have ee : ks ++ edgesL (t :: ts) = (ks ++ edgesT t) ++ edgesL ts := by unfold edgesL; rw [List.flatMap_cons, List.append_assoc]
    rw [ee] at nd ⊢
    rw [List.length_cons] at hl
    obtain ⟨d3, d4, d5, e⟩ := go_one hn (F := F) (h1 t List.mem_cons_self) (hb t List.mem_cons_self) (List.nodup_append.mp nd).1 (by omega) c3 c4 c5
    obtain ⟨g2, g3, g4, g5, e2⟩ := go_loop hn (F := F) ts (c2 := some (.sh (triLD t))) (c3 := d3) (c4 := d4) (c5 := d5) (fun s hs => h1 s (List.mem_cons_of_mem _ hs)) (fun s hs => hb s (List.mem_cons_of_mem _ hs)) nd (by
      rw [List.length_append]; show _ + 3 + _ < _; omega)
    exact ⟨g2, g3, g4, g5, forF_cons (asg := [(2, triLD t)]) rfl e e2⟩
theorem e_law_gone {n : Nat} (hn : n ≤ 4000) {F : List Tri} (h1 : ∀ t ∈ F, crT t = 1) (hb : ∀ t ∈ F, PB n t.1 ∧ PB n t.2.1 ∧ PB n t.2.2) (nd : (edgesL F).Nodup) (hl : F.length ≤ 100) : g__law_gone [.list (F.map triLD)] = some (kdD (edgesL F)) := by
  have e0 : g__law_gone [.list (F.map triLD)] = runD 6 (dSeq (dKNew 1) (dSeq (dFor (fIL (fVar 0)) (tgN 2) goF) (dRet (fVar 1)))) [.list (F.map triLD)] := rfl
  rw [e0]
  obtain ⟨d2, d3, d4, d5, e⟩ := go_loop hn (F := F) F (ks := []) (c2 := none) (c3 := none) (c4 := none) (c5 := none) h1 hb (by rw [List.nil_append]; exact nd) (by simp only [List.length_nil]; omega)
  refine runD_ret ?_
  refine dSeq_step (ρ' := goSt F [] none none none none) rfl ?_
  refine dSeq_step (dFor_of' (ds := F.map triLD) (fIL_of rfl) e) ?_
  exact dRet_of rfl
/-! ### they fill the fence -/
theorem edges_len (F : List Tri) : (edgesL F).length = 3 * F.length := by
  induction F with
  | nil => rfl
  | cons t F ih =>
    unfold edgesL at ih ⊢
    rw [List.flatMap_cons, List.length_append, ih, List.length_cons]
    show 3 + _ = _
    omega
def fiSt (T l g s : PyData) (c4 : Option Cell) : Sto := [some (.sh T), some (.sh l), some (.sh s), some (.sh g), c4]
theorem e_law_fills {n : Nat} (hn : n ≤ 4000) {F : List Tri} {l : List Pt} (hb : ∀ p ∈ l, PB n p) (hl : l.length < 1000) (h1 : ∀ t ∈ F, crT t = 1) (hbF : ∀ t ∈ F, PB n t.1 ∧ PB n t.2.1 ∧ PB n t.2.2) (hF : F.length ≤ 100) (nd : (edgesL F).Nodup)
    (hx : ∀ e ∈ edgesL F, ((e.2, e.1) ∈ edgesL F ↔ ¬ e ∈ stepsL l)) (hs : ∀ e ∈ stepsL l, e ∈ edgesL F) : g__law_fills [.list (F.map triLD), psD l] = some (.bool true) := by
  have hlen := edges_len F
  obtain ⟨ks, ek, hk⟩ := e_law_steps hn (B := edgesL F) (by omega) hb hl hs
  have eg := e_law_gone hn h1 hbF nd hF
  unfold g__law_fills fb__law_fills
  refine runD_ret ?_
  refine dSeq_step (dSet_of (fCallF_of (fCons_of rfl rfl) rfl ek)) ?_
  refine dSeq_step (dSet_of (fCallF_of (fCons_of rfl rfl) rfl eg)) ?_
  show dSeq _ _ (fiSt (.list (F.map triLD)) (psD l) (kdD (edgesL F)) (kdD ks) none) = _
  refine dSeq_step ((dIf_f (fTst_of (b := false) rfl)).trans rfl) ?_
  obtain ⟨ρ1, e1, c4, rfl⟩ := forF_all (F := dIf (fTst (f2 gEq (f2 (gKin id) (fTup (fCons (f2 gIx (fVar 4) (fC (.int 1))) (fCons (f2 gIx (fVar 4) (fC (.int 0))) fNil))) (fVar 3)) (f2 (gKin id) (fVar 4) (fVar 2)))) (dRet (fC (.bool false))) dNext) (j := 4)
    (Inv := fun ρ => ∃ c4, ρ = fiSt (.list (F.map triLD)) (psD l) (kdD (edgesL F)) (kdD ks) c4) ((edgesL F).map skD) (fun d hd ρ ⟨c4, e⟩ => by
      subst e
      obtain ⟨e, he, rfl⟩ := List.mem_map.mp hd
      refine ⟨_, (dIf_f ((fTst_of (f2_of (f2_of (fTup_of (ds := [pD e.2, pD e.1]) (fCons_of (f2_of rfl rfl (show gIx (skD e) (.int 1) = some (pD e.2) from rfl)) (fCons_of (f2_of rfl rfl (show gIx (skD e) (.int 0) = some (pD e.1) from rfl)) rfl)) (show 2 ≤ 1000 from Nat.le_of_ble_eq_true rfl)) rfl (gKin_of (e.2, e.1) _)) (f2_of rfl rfl (gKin_of e _)) (gEq_bool _ _))).trans ?_)).trans rfl, _, rfl⟩
      have h := hx e he
      show some (decide ((e.2, e.1) ∈ edgesL F) == decide (e ∈ ks)) = some false
      by_cases k : e ∈ stepsL l
      · rw [decide_eq_true ((hk e).mpr k), decide_eq_false (fun z => (h.mp z) k)]; rfl
      · rw [decide_eq_false (fun z => k ((hk e).mp z)), decide_eq_true (h.mpr k)]; rfl) (fiSt (.list (F.map triLD)) (psD l) (kdD (edgesL F)) (kdD ks) none) ⟨_, rfl⟩
  refine dSeq_step (dFor_of' (ds := (edgesL F).map skD) (fIK_of rfl) e1) ?_
  obtain ⟨ρ2, e2, c4', rfl⟩ := forF_all (F := dIf (fTst (f2 (gKin not) (fVar 4) (fVar 3))) (dRet (fC (.bool false))) dNext) (j := 4)
    (Inv := fun ρ => ∃ c4, ρ = fiSt (.list (F.map triLD)) (psD l) (kdD (edgesL F)) (kdD ks) c4) (ks.map skD) (fun d hd ρ ⟨c4, e⟩ => by
      subst e
      obtain ⟨e, he, rfl⟩ := List.mem_map.mp hd
      refine ⟨_, (dIf_f ((fTst_of (f2_of rfl rfl (gKin_of e _))).trans ?_)).trans rfl, _, rfl⟩
      rw [decide_eq_true (hs e ((hk e).mp he))]; rfl) (fiSt (.list (F.map triLD)) (psD l) (kdD (edgesL F)) (kdD ks) c4) ⟨_, rfl⟩
  refine dSeq_step (dFor_of' (ds := ks.map skD) (fIK_of rfl) e2) ?_
  exact dRet_of rfl
/-! ### their number -/
theorem area_addF : AddF areaF := ⟨area_neg, fun a b c ⟨n, k, k0, kn, e1, e2⟩ => by
  have : n * (areaF a b + areaF b c - areaF a c) = 0 := by
    have x1 : n * b.1 = n * a.1 + k * (c.1 - a.1) := by rw [Int.mul_sub] at e1; omega
    have x2 : n * b.2 = n * a.2 + k * (c.2 - a.2) := by rw [Int.mul_sub] at e2; omega
    have y : n * (areaF a b + areaF b c - areaF a c) = a.1 * (n * b.2) - a.2 * (n * b.1) + ((n * b.1) * c.2 - (n * b.2) * c.1) - n * (a.1 * c.2 - a.2 * c.1) := by unfold areaF; grind
    rw [y, x1, x2]; grind
  rcases Int.mul_eq_zero.mp this with h | h
  · omega
  · omega⟩
theorem tris_len {F : List Tri} (h : ∀ t ∈ F, crT t = 1) : trisS areaF F = (F.length : Int) := by
  induction F with
  | nil => rfl
  | cons t F ih =>
    have := ih fun s hs => h s (List.mem_cons_of_mem _ hs)
    unfold trisS at this ⊢
    rw [List.map_cons, List.sum_cons, this, area_tri, h t List.mem_cons_self, List.length_cons]
    omega
end LW
/-! part DL17 -/
namespace DL
open PySem PySem.Spec PyProof.Rows L2
/-! ### a statement that is passed ahead of one that raises -/
def rSkip (F : SFn) (R : RFn) : RFn := fun ρ => match F ρ with
  | .next ρ' => R ρ'
  | _ => none
theorem rSkip_of {F : SFn} {R : RFn} {ρ ρ1 : Sto} {r : Option Sto} (h : F ρ = .next ρ1) (h2 : R ρ1 = r) : rSkip F R ρ = r := by
  unfold rSkip; rw [h]; exact h2
theorem rIf_of {c : Env → Option Bool} {R : RFn} {ρ : Sto} {r : Option Sto} (h : c (vO ρ) = some true) (h2 : R ρ = r) : rIf c R ρ = r := by
  unfold rIf; rw [h]; exact h2
theorem runR_of {m : Nat} {R : RFn} {ds : List PyData} {ρ : Sto} (h : R (sto0 m ds) = some ρ) : runR m R ds = true := by
  unfold runR; rw [h]; rfl
section
variable {X : Cx} {K : PySem.W.Frag} {W : WX} {C : Addr} {st : Stmt} {sts : List Stmt} {F : SFn} {R : RFn}
theorem drs_skp (h : DS X K st F) (h2 : DRs X K W C sts R) : DRs X K W C (st :: sts) (rSkip F R) := drs_skip h h2
end
end DL
/-! part law -/
namespace LW
open PySem (PyData)
open DL
open L2 (atI ixN kitB)
local macro_rules | `(tactic| walk_at "bd") => `(tactic| (apply bd_mono; (focus (repeat' (first | assumption | apply bd_sub | apply bd_add | apply bd_mul | apply bd_neg | apply bd_ediv | (apply bd_emod <;> first | assumption | decide | omega | exact bd_lit (n := 200) (by decide)) | exact bd_lit (n := 200) (by decide)))); decide))
local macro_rules | `(tactic| walk_at "dis") => `(tactic| first | assumption | omega | decide | walk_at "bd")
local macro_rules | `(tactic| walk_at "dl") => `(tactic| simp (disch := walk_at "dis") only [runD, DL.runN, sto0, dSeq, dSet, dSetO, dRet, dRetN, dNext, dIf, dDrop, vS, vO, cS, cO, fVar, f2, f1, fC, fTst, asBool, fCallF, fCallFN, fCall, fCallN, fCons, fNil, fAnd, fOr, fNot, fB, fTup, fL,
  List.map_cons, List.map_nil, List.length_cons, List.length_nil, List.replicate_succ, List.replicate_zero, List.cons_append, List.nil_append, List.getElem?_cons_zero, List.getElem?_cons_succ, Option.join_some, bind_some', Option.map_some,
  List.set_cons_zero, List.set_cons_succ, gI0_ii, gMul_ii, gDiv_pos, gMod_pos, gPow10, e_cell, e_whole, gAbs_int, Bool.not_true, Bool.not_false, Int.reduceToNat, gIx_list, gIx_tup, gIx_scr, gLen_scr, pair0, pair1, gEq_int, gNe_int, Nat.reduceSub, Nat.reduceAdd, Nat.reduceEqDiff, Nat.reduceLeDiff, if_true, if_false, ite_true, ite_false, Bool.true_eq_false, Bool.false_eq_true, reduceIte])
/-- least_triangles(corners): 0 corners 1 wide 2 row 3 waiting 4 found 5 triangle 6 point 7 k 8 one 9 other -/
noncomputable def rb_least_triangles : RFn := (rSkip (dDrop (fCallF 1 g_asked (fCons (fVar 0) fNil))) (rSkip (dSet 1 (fCallF 1 g_turn_sum (fCons (fVar 0) fNil))) (rIf (fTst (f2 gGt (fCall gAbs (fCons (fVar 1) fNil)) (fC (.int 60)))) some)))
noncomputable def r_least_triangles : List PyData → Bool := runR 10 rb_least_triangles
/-- _law_refused(corners): 0 corners 1 name 2 e -/
noncomputable def fb__law_refused : SFn := (dSeq (dSet 1 (fC (.str ""))) (dSeq (dTryR 2 (rEx (rCall 1 r_least_triangles (fCons (fVar 0) fNil))) (dIf (fAnd (fK true) (fAnd (fK true) (fNot (fK (false || false))))) (dSet 1 (fC (.str "wide"))) dNext)) (dRet (f2 gEq (fVar 1) (fC (.str "wide"))))))
noncomputable def g__law_refused : List PyData → Option PyData := runD 3 fb__law_refused
/-- law(script): 0 script 1 corners 2 legs 3 turning 4 area 5 handed 6 found 7 triangle 8 point -/
noncomputable def fb_law : SFn := (dSeq (dSet 1 (fCallF 2 g__law_fence_by (fCons (fVar 0) (fCons (fC (.int 0)) fNil)))) (dSeq (dIf (fTst (f2 gEq (f2 gMod (f2 gDiv (fCallF 2 g__law_cell_at (fCons (fVar 0) (fCons (fC (.int 4)) fNil))) (fC (.int 2))) (fC (.int 9))) (fC (.int 1)))) (dSeq (dSet 2 (f2 gIx (fL (fLst (fCons (fTup (fCons (fC (.int 5)) (fCons (fC (.int 12)) fNil))) (fCons (fTup (fCons (fC (.int 1)) (fCons (fC (.int 61)) fNil))) (fCons (fTup (fCons (fC (.int 60)) (fCons (fC (.int 1)) fNil))) (fCons (fTup (fCons (fC (.int 3)) (fCons (fC (.int 20)) fNil))) (fCons (fTup (fCons (fC (.int 61)) (fCons (fC (.int 1)) fNil))) (fCons (fTup (fCons (fC (.int 1)) (fCons (fC (.int 1)) fNil))) (fCons (fTup (fCons (fC (.int 4)) (fCons (fC (.int 15)) fNil))) (fCons (fTup (fCons (fC (.int 2)) (fCons (fC (.int 30)) fNil))) fNil)))))))))) (f2 gMod (fCallF 2 g__law_cell_at (fCons (fVar 0) (fCons (fC (.int 1)) fNil))) (fC (.int 8))))) (dSet 1 (fL (fLst (fCons (fTup (fCons (fC (.int 0)) (fCons (fC (.int 0)) fNil))) (fCons (fTup (fCons (f2 gIx (fVar 2) (fC (.int 0))) (fCons (fC (.int 0)) fNil))) (fCons (fTup (fCons (fC (.int 0)) (fCons (f2 gIx (fVar 2) (fC (.int 1))) fNil))) fNil))))))) dNext) (dSeq (dIf (fTst (f2 gEq (f2 gMod (fCallF 2 g__law_cell_at (fCons (fVar 0) (fCons (fC (.int 4)) fNil))) (fC (.int 2))) (fC (.int 1)))) (dSeq (dSet 3 (fCallF 3 g__law_turning_by (fCons (fVar 0) (fCons (fC (.int 5)) (fCons (f2 gPow (fC (.int 10)) (fC (.int 12))) fNil))))) (dSet 1 (fL (fLc [8] (fIL (fVar 1)) (tgN 8) fYes (fCallF 2 g__law_led (fCons (fVar 3) (fCons (fVar 8) fNil))))))) dNext) (dSeq (dSet 4 (fCallF 1 g__law_sum (fCons (fVar 1) fNil))) (dSeq (dSet 5 (fL (fCallN gListC (fCons (fVar 1) fNil)))) (dSeq (dIf (fTst (f2 gGt (fCall gAbs (fCons (fVar 4) fNil)) (fC (.int 60)))) (dRet (fB (fAnd (fTst (fCallF 1 g__law_refused (fCons (fVar 5) fNil))) (fTst (f2 gEq (fVar 5) (fVar 1)))))) dNext) (dSeq (dSet 6 (fCallF 1 g_least_triangles (fCons (fVar 5) fNil))) (dSeq (dIf (fOr (fNot (fTst (fIsi' "list" (fVar 6)))) (fOr (fTst (f2 gNe (fCall gLen (fCons (fVar 6) fNil)) (fCall gAbs (fCons (fVar 4) fNil)))) (fTst (f2 gNe (fVar 5) (fVar 1))))) (dRet (fC (.bool false))) dNext) (dSeq (dFor (fIL (fVar 6)) (tgN 7) (dSeq (dIf (fOr (fNot (fTst (fIsi' "list" (fVar 7)))) (fOr (fTst (f2 gNe (fCall gLen (fCons (fVar 7) fNil)) (fC (.int 3)))) (fNot (fTst (fCallF 2 g__law_points_are (fCons (fVar 7) (fCons (fVar 7) fNil))))))) (dRet (fC (.bool false))) dNext) (dIf (fTst (f2 gNe (fCall gAbs (fCons (fCallF 3 g__law_cross (fCons (f2 gIx (fVar 7) (fC (.int 0))) (fCons (f2 gIx (fVar 7) (fC (.int 1))) (fCons (f2 gIx (fVar 7) (fC (.int 2))) fNil)))) fNil)) (fC (.int 1)))) (dRet (fC (.bool false))) dNext))) (dSeq (dIf (fTst (f2 gLt (fVar 4) (fC (.int 0)))) (dSet 1 (fL (fRev (fVar 1)))) dNext) (dRet (fCallF 2 g__law_fills (fCons (fVar 6) (fCons (fVar 1) fNil))))))))))))))
noncomputable def g_law : List PyData → Option PyData := runD 9 fb_law
structure D15 (l : List Pt) : Prop where
  good : Good l
  area : A2 l ≠ 0
  pb : ∀ p ∈ l, PB 10 p
  base : ∀ m, (m = l ∨ m = l.reverse ∨ m = l.map sw ∨ m = (l.map sw).reverse) → 0 < A2 m → Base m
theorem Drawn.d15 {l : List Pt} (d : Drawn l) : D15 l := ⟨d.good, d.area, d.pb, fun m hm h => by
  rcases hm with rfl | rfl | rfl | rfl
  · exact d.base h
  · exact d.rev.base h
  · exact Drawn.base (Drawn.swap d) h
  · exact Drawn.base (Drawn.rev (Drawn.swap d)) h⟩
theorem legs_d15 {p q : Int} (hp : 0 < p) (hq : 0 < q) (hp2 : p < 100) (hq2 : q < 100) : D15 [((0, 0) : Pt), (p, 0), (0, q)] := by
  obtain ⟨g, a, b⟩ := legs_base hp hq hp2 hq2
  have pq := Int.mul_pos hp hq
  refine ⟨g, by omega, fun x hx => ?_, b⟩
  simp only [List.mem_cons, List.not_mem_nil, or_false] at hx
  rcases hx with rfl | rfl | rfl
  · exact ⟨bd_lit (by decide), bd_lit (by decide)⟩
  · exact ⟨show Bd 10 p by unfold Bd; omega, show Bd 10 (0 : Int) from bd_lit (by decide)⟩
  · exact ⟨show Bd 10 (0 : Int) from bd_lit (by decide), show Bd 10 q by unfold Bd; omega⟩
/-- as the law hands it in -/
structure T15 (l : List Pt) : Prop where
  fen : Fenced l
  base : ∃ (R : List Pt) (t : Aff), t.det = 1 ∧ Base R ∧ leftR l = R.map t.ap
theorem D15.led {l : List Pt} (d : D15 l) {t : Aff} (hd : t.det = 1 ∨ t.det = -1) (ht : AB 500 t) : T15 (l.map t.ap) := by
  refine ⟨⟨d.good.aff hd, ?_, fun p hp => ?_⟩, leftR_led hd d.area d.base⟩
  · rw [A2_aff]
    have := d.area
    rcases hd with h | h <;> rw [h] <;> omega
  · obtain ⟨q, hq, rfl⟩ := List.mem_map.mp hp
    have := pb_ap ht (d.pb q hq)
    exact ⟨bd_mono this.1 (by decide), bd_mono this.2 (by decide)⟩
def idA : Aff := ⟨1, 0, 0, 1, 0, 0⟩
theorem idA_map (l : List Pt) : l.map idA.ap = l := by
  have : ∀ p : Pt, idA.ap p = p := fun p => by apply Prod.ext <;> simp only [Aff.ap, idA] <;> omega
  rw [show idA.ap = id from funext this, List.map_id]
theorem D15.here {l : List Pt} (d : D15 l) : T15 l := by
  have h1 : Bd 500 (1 : Int) := bd_mono (bd_lit (n := 10) (by decide)) (by decide)
  have h0 : Bd 500 (0 : Int) := bd_mono (bd_lit (n := 10) (by decide)) (by decide)
  have h := d.led (t := idA) (.inl rfl) ⟨h1, h0, h0, h1, h0, h0⟩
  rwa [idA_map] at h
theorem gEq_wide : gEq (.str "wide") (.str "wide") = some (.bool true) := by
  have h : PyData.strOk (PySem.Str.ofString "wide") = true := by decide +kernel
  simp [gEq, PySem.SeqAt.shaped, PyData.canLay0, PyData.depth, PyData.eqv, h]
theorem e_r_least {m : Nat} (hm : m ≤ 4000) {l : List Pt} (hl : ∀ p ∈ l, PB m p) (h12 : l.length ≤ 12) (hf : isFB l = true) (hA : absI (A2 l) > 60) : r_least_triangles [psD l] = true := by
  refine runR_of (ρ := [some (.sh (psD l)), some (.sh (.int (A2 l))), none, none, none, none, none, none, none, none]) ?_
  unfold rb_least_triangles
  refine rSkip_of (dDrop_of (fCallF_of (fCons_of rfl rfl) rfl (e_asked hm hl (by omega) hf))) ?_
  refine rSkip_of (dSet_of (fCallF_of (fCons_of rfl rfl) rfl (e_turn_sum hm hl (by omega)))) ?_
  exact rIf_of ((fTst_of (f2_of (fCall_of (fCons_of rfl rfl) (gAbs_int _)) rfl (show gGt (.int (absI (A2 l))) (.int 60) = some (.bool (decide (absI (A2 l) > 60))) from rfl))).trans (by rw [decide_eq_true hA])) rfl
theorem e_refused {m : Nat} (hm : m ≤ 4000) {l : List Pt} (hl : ∀ p ∈ l, PB m p) (h12 : l.length ≤ 12) (hf : isFB l = true) (hA : absI (A2 l) > 60) : g__law_refused [psD l] = some (.bool true) := by
  unfold g__law_refused fb__law_refused
  refine runD_ret (dSeq_step (dSet_of rfl) ?_)
  show dSeq _ _ [some (.sh (psD l)), some (.sh (.str "")), none] = _
  have e0 : rEx (rCall 1 r_least_triangles (fCons (fVar 0) fNil)) [some (.sh (psD l)), some (.sh (.str "")), none] = some [some (.sh (psD l)), some (.sh (.str "")), none] := by
    unfold rEx
    have : rCall 1 r_least_triangles (fCons (fVar 0) fNil) (vO [some (.sh (psD l)), some (.sh (.str "")), none]) = true := by
      show (decide (1 = 1) && r_least_triangles [psD l]) = true
      rw [e_r_least hm hl h12 hf hA]; rfl
    rw [if_pos this]
  have e1 : dTryR 2 (rEx (rCall 1 r_least_triangles (fCons (fVar 0) fNil))) (dIf (fAnd (fK true) (fAnd (fK true) (fNot (fK (false || false))))) (dSet 1 (fC (.str "wide"))) dNext) [some (.sh (psD l)), some (.sh (.str "")), none] = .next [some (.sh (psD l)), some (.sh (.str "wide")), none] := by
    unfold dTryR
    rw [e0]
    rfl
  exact dSeq_step e1 (dRet_of (f2_of rfl rfl gEq_wide))
def legsL : List Pt := [(5, 12), (1, 61), (60, 1), (3, 20), (61, 1), (1, 1), (4, 15), (2, 30)]
theorem legs_ok : ∀ x ∈ legsL, 0 < x.1 ∧ 0 < x.2 ∧ x.1 < 100 ∧ x.2 < 100 := by decide
theorem law_true (ns : List Int) (hl : ns.length ≤ 63) : g_law [scrD ns] = some (.bool true) := by
  obtain ⟨l0, ef, d0⟩ := e_fence_by ns 0
  have w600 : 600 ≤ 4000 := by decide
  refine runD_ret ?_
  unfold fb_law
  refine dSeq_step (dSet_of (fCallF_of (fCons_of rfl (fCons_of rfl rfl)) rfl ef)) ?_
  show dSeq _ _ [some (.sh (scrD ns)), some (.sh (psD l0)), none, none, none, none, none, none, none] = _
  -- the triangle of legs
  obtain ⟨l1, c2, e2, d1⟩ : ∃ l1 c2, dIf (fTst (f2 gEq (f2 gMod (f2 gDiv (fCallF 2 g__law_cell_at (fCons (fVar 0) (fCons (fC (.int 4)) fNil))) (fC (.int 2))) (fC (.int 9))) (fC (.int 1)))) (dSeq (dSet 2 (f2 gIx (fL (fLst (fCons (fTup (fCons (fC (.int 5)) (fCons (fC (.int 12)) fNil))) (fCons (fTup (fCons (fC (.int 1)) (fCons (fC (.int 61)) fNil))) (fCons (fTup (fCons (fC (.int 60)) (fCons (fC (.int 1)) fNil))) (fCons (fTup (fCons (fC (.int 3)) (fCons (fC (.int 20)) fNil))) (fCons (fTup (fCons (fC (.int 61)) (fCons (fC (.int 1)) fNil))) (fCons (fTup (fCons (fC (.int 1)) (fCons (fC (.int 1)) fNil))) (fCons (fTup (fCons (fC (.int 4)) (fCons (fC (.int 15)) fNil))) (fCons (fTup (fCons (fC (.int 2)) (fCons (fC (.int 30)) fNil))) fNil)))))))))) (f2 gMod (fCallF 2 g__law_cell_at (fCons (fVar 0) (fCons (fC (.int 1)) fNil))) (fC (.int 8))))) (dSet 1 (fL (fLst (fCons (fTup (fCons (fC (.int 0)) (fCons (fC (.int 0)) fNil))) (fCons (fTup (fCons (f2 gIx (fVar 2) (fC (.int 0))) (fCons (fC (.int 0)) fNil))) (fCons (fTup (fCons (fC (.int 0)) (fCons (f2 gIx (fVar 2) (fC (.int 1))) fNil))) fNil))))))) dNext
      [some (.sh (scrD ns)), some (.sh (psD l0)), none, none, none, none, none, none, none] = .next [some (.sh (scrD ns)), some (.sh (psD l1)), c2, none, none, none, none, none, none] ∧ D15 l1 := by
    have ht : fTst (f2 gEq (f2 gMod (f2 gDiv (fCallF 2 g__law_cell_at (fCons (fVar 0) (fCons (fC (.int 4)) fNil))) (fC (.int 2))) (fC (.int 9))) (fC (.int 1))) (vO [some (.sh (scrD ns)), some (.sh (psD l0)), none, none, none, none, none, none, none]) = some (decide (cell ns 4 / 2 % 9 = 1)) :=
      fTst_of (f2_of (f2_of (f2_of (cell_of (k := 4) rfl rfl) rfl (gDiv_pos (by decide) (bd_mono (bd_lit (n := 10) (by decide)) (by decide)))) rfl (gMod_pos (by decide))) rfl gEq_int)
    by_cases h : cell ns 4 / 2 % 9 = 1
    · obtain ⟨i, hi⟩ : ∃ i, cell ns 1 % 8 = i := ⟨_, rfl⟩
      have i0 := Int.emod_nonneg (cell ns 1) (show (8 : Int) ≠ 0 by decide)
      have i1 := Int.emod_lt_of_pos (cell ns 1) (show (0 : Int) < 8 by decide)
      rw [hi] at i0 i1
      have hlen : (legsL.length : Int) = 8 := rfl
      obtain ⟨a1, a2, a3, a4⟩ := legs_ok _ (ptI_mem (l := legsL) (i := i) (by omega) (by omega))
      have ei : gIx (psD legsL) (.int i) = some (pD (ptI legsL i)) := gIx_ok (by omega) (by omega)
      refine ⟨[(0, 0), ((ptI legsL i).1, 0), (0, (ptI legsL i).2)], some (.sh (pD (ptI legsL i))), ?_, legs_d15 a1 a2 a3 a4⟩
      rw [dIf_t (ht.trans (by rw [decide_eq_true h]))]
      have tp : ∀ {ρ : DL.Env} (a b : Int), fTup (fCons (fC (.int a)) (fCons (fC (.int b)) fNil)) ρ = some (pD (a, b)) := fun a b => fTup_of (fCons_of rfl (fCons_of rfl rfl)) (show 2 ≤ 1000 from Nat.le_of_ble_eq_true rfl)
      refine dSeq_step (dSet_of (d := pD (ptI legsL i)) (f2_of (x := psD legsL) (fL_of (fLst_of (fCons_of (tp _ _) (fCons_of (tp _ _) (fCons_of (tp _ _) (fCons_of (tp _ _) (fCons_of (tp _ _) (fCons_of (tp _ _) (fCons_of (tp _ _) (fCons_of (tp _ _) rfl)))))))) (show 8 ≤ 1000 from Nat.le_of_ble_eq_true rfl))) (f2_of (cell_of (k := 1) rfl rfl) rfl ((gMod_pos (by decide)).trans (by rw [hi]))) ei)) ?_
      exact dSet_of (d := psD [(0, 0), ((ptI legsL i).1, 0), (0, (ptI legsL i).2)]) (fL_of (fLst_of (fCons_of (tp _ _) (fCons_of (fTup_of (fCons_of (f2_of rfl rfl (gIx_p0 _)) (fCons_of rfl rfl)) (show 2 ≤ 1000 from Nat.le_of_ble_eq_true rfl)) (fCons_of (fTup_of (fCons_of rfl (fCons_of (f2_of rfl rfl (gIx_p1 _)) rfl)) (show 2 ≤ 1000 from Nat.le_of_ble_eq_true rfl)) rfl))) (show 3 ≤ 1000 from Nat.le_of_ble_eq_true rfl)))
    · refine ⟨l0, none, ?_, d0.d15⟩
      rw [dIf_f (ht.trans (by rw [decide_eq_false h]))]; rfl
  refine dSeq_step e2 ?_
  clear ef e2 d0
  -- led
  obtain ⟨l, c3, e3, T⟩ : ∃ l c3, dIf (fTst (f2 gEq (f2 gMod (fCallF 2 g__law_cell_at (fCons (fVar 0) (fCons (fC (.int 4)) fNil))) (fC (.int 2))) (fC (.int 1)))) (dSeq (dSet 3 (fCallF 3 g__law_turning_by (fCons (fVar 0) (fCons (fC (.int 5)) (fCons (f2 gPow (fC (.int 10)) (fC (.int 12))) fNil))))) (dSet 1 (fL (fLc [8] (fIL (fVar 1)) (tgN 8) fYes (fCallF 2 g__law_led (fCons (fVar 3) (fCons (fVar 8) fNil))))))) dNext
      [some (.sh (scrD ns)), some (.sh (psD l1)), c2, none, none, none, none, none, none] = .next [some (.sh (scrD ns)), some (.sh (psD l)), c2, c3, none, none, none, none, none] ∧ T15 l := by
    have ht : fTst (f2 gEq (f2 gMod (fCallF 2 g__law_cell_at (fCons (fVar 0) (fCons (fC (.int 4)) fNil))) (fC (.int 2))) (fC (.int 1))) (vO [some (.sh (scrD ns)), some (.sh (psD l1)), c2, none, none, none, none, none, none]) = some (decide (cell ns 4 % 2 = 1)) :=
      fTst_of (f2_of (f2_of (cell_of (k := 4) rfl rfl) rfl (gMod_pos (by decide))) rfl gEq_int)
    by_cases h : cell ns 4 % 2 = 1
    · obtain ⟨t, et, hd, hb⟩ := e_turning_by ns 5 (far := 10 ^ (12 : Int).toNat) (by decide) (bd_lit (by decide))
      refine ⟨l1.map t.ap, some (.sh (affD t)), ?_, d1.led hd hb⟩
      rw [dIf_t (ht.trans (by rw [decide_eq_true h]))]
      have h12 := d1.good.hi
      exact dSeq_step (dSet_of (fCallF_of (fCons_of rfl (fCons_of rfl (fCons_of (f2_of rfl rfl (gPow10 (by decide) (by decide))) rfl))) rfl et)) (dSet_of (fL_of (fLc_of (fIL_of rfl) (by rw [List.length_map]; omega) (led_lc (n := 500) (m := 10) (by decide) (by decide) hb d1.pb rfl (show 8 < 9 by decide) (by decide)))))
    · refine ⟨l1, none, ?_, d1.here⟩
      rw [dIf_f (ht.trans (by rw [decide_eq_false h]))]; rfl
  refine dSeq_step e3 ?_
  clear e3
  have F := T.fen
  have h3 := F.good.lo
  have h12 := F.good.hi
  have gi := F.good.is
  have ne : l ≠ [] := fun z => by rw [z] at h3; simp at h3
  refine dSeq_step (dSet_of (d := .int (A2 l)) (fCallF_of (fCons_of rfl rfl) rfl (e_law_sum w600 F.pb F.len ne))) ?_
  refine dSeq_step (dSet_of (d := psD l) (fL_of rfl)) ?_
  show dSeq _ _ [some (.sh (scrD ns)), some (.sh (psD l)), c2, c3, some (.sh (.int (A2 l))), some (.sh (psD l)), none, none, none] = _
  have ta : fTst (f2 gGt (fCall gAbs (fCons (fVar 4) fNil)) (fC (.int 60))) (vO [some (.sh (scrD ns)), some (.sh (psD l)), c2, c3, some (.sh (.int (A2 l))), some (.sh (psD l)), none, none, none]) = some (decide (absI (A2 l) > 60)) := fTst_of (f2_of (fCall_of (fCons_of rfl rfl) (gAbs_int _)) rfl rfl)
  by_cases hA : absI (A2 l) > 60
  · refine dSeq_ret ((dIf_t (ta.trans (by rw [decide_eq_true hA]))).trans ?_)
    exact dRet_of (fB_of ((fAnd_all (fTst_of (fCallF_of (fCons_of rfl rfl) rfl (e_refused w600 F.pb h12 gi hA))) (fTst_of (f2_of rfl rfl (gEq_psD l l)))).trans (by simp)))
  refine dSeq_step ((dIf_f (ta.trans (by rw [decide_eq_false hA]))).trans rfl) ?_
  obtain ⟨R, t, ht, bR, eR⟩ := T.base
  obtain ⟨ts0, hc0⟩ := bR.cuts
  have hc : Cuts (leftR l) (ts0.map (mapT t)) := by rw [eR]; exact hc0.aff ht
  obtain ⟨G, eG, g1, gb, gs⟩ := e_least (n := 600) (by decide) F.pb h12 gi (by omega) hc hc.mem
  have fl := fills_led bR ht g1 (fun χ hχ => by rw [gs χ hχ, eR])
  rw [← eR] at fl
  obtain ⟨nd, fx, fs⟩ := fl
  have har : A2 (leftR l) = absI (A2 l) := by
    unfold leftR absI
    split
    · rw [A2_rev]
    · rfl
  have gl : (G.length : Int) = absI (A2 l) := by
    have := gs areaF area_addF
    rw [tris_len g1] at this
    rw [this, ← har]; rfl
  refine dSeq_step (dSet_of (fCallF_of (fCons_of rfl rfl) rfl eG)) ?_
  show dSeq _ _ [some (.sh (scrD ns)), some (.sh (psD l)), c2, c3, some (.sh (.int (A2 l))), some (.sh (psD l)), some (.sh (.list (G.map triLD))), none, none] = _
  have t1 : fOr (fNot (fTst (fIsi' "list" (fVar 6)))) (fOr (fTst (f2 gNe (fCall gLen (fCons (fVar 6) fNil)) (fCall gAbs (fCons (fVar 4) fNil)))) (fTst (f2 gNe (fVar 5) (fVar 1)))) (vO [some (.sh (scrD ns)), some (.sh (psD l)), c2, c3, some (.sh (.int (A2 l))), some (.sh (psD l)), some (.sh (.list (G.map triLD))), none, none]) = some false := by
    refine (fOr_of (fNot_of (fTst_of (fIsi_list rfl))) (fOr_of (fTst_of (f2_of (fCall_of (xs := [.list (G.map triLD)]) (fCons_of rfl rfl) (show gLen [.list (G.map triLD)] = some (.int ((G.map triLD).length : Nat)) from rfl)) (fCall_of (fCons_of rfl rfl) (gAbs_int _)) gNe_int)) (fTst_of (f2_of rfl rfl (gNe_psD l l))))).trans ?_
    rw [List.length_map, decide_eq_true (show ((G.length : Nat) : Int) = if A2 l < 0 then -A2 l else A2 l from gl), decide_eq_true rfl]; rfl
  refine dSeq_step ((dIf_f t1).trans rfl) ?_
  obtain ⟨ρ1, e1, c7, rfl⟩ := forF_all (F := dSeq (dIf (fOr (fNot (fTst (fIsi' "list" (fVar 7)))) (fOr (fTst (f2 gNe (fCall gLen (fCons (fVar 7) fNil)) (fC (.int 3)))) (fNot (fTst (fCallF 2 g__law_points_are (fCons (fVar 7) (fCons (fVar 7) fNil))))))) (dRet (fC (.bool false))) dNext) (dIf (fTst (f2 gNe (fCall gAbs (fCons (fCallF 3 g__law_cross (fCons (f2 gIx (fVar 7) (fC (.int 0))) (fCons (f2 gIx (fVar 7) (fC (.int 1))) (fCons (f2 gIx (fVar 7) (fC (.int 2))) fNil)))) fNil)) (fC (.int 1)))) (dRet (fC (.bool false))) dNext)) (j := 7)
    (Inv := fun ρ => ∃ c7, ρ = [some (.sh (scrD ns)), some (.sh (psD l)), c2, c3, some (.sh (.int (A2 l))), some (.sh (psD l)), some (.sh (.list (G.map triLD))), c7, none]) (G.map triLD) (fun d hd ρ ⟨c7, e⟩ => by
      subst e
      obtain ⟨⟨a, b, c⟩, hs, rfl⟩ := List.mem_map.mp hd
      obtain ⟨pa, pb, pc⟩ := gb _ hs
      have one : cr a b c = 1 := g1 _ hs
      refine ⟨_, dSeq_step ((dIf_f ((fOr_of (fNot_of (fTst_of (fIsi_list (ds := [pD a, pD b, pD c]) rfl))) (fOr_of (fTst_of (f2_of (fCall_of (xs := [psD [a, b, c]]) (fCons_of rfl rfl) (gLen_psD _)) rfl gNe_int)) (fNot_of (fTst_of (fCallF_of (xs := [psD [a, b, c], psD [a, b, c]]) (fCons_of rfl (fCons_of rfl rfl)) rfl (e_points_are _ _)))))).trans (by rw [decide_eq_true rfl]; rfl))).trans rfl) ((dIf_f ((fTst_of (f2_of (fCall_of (fCons_of (fCallF_of (fCons_of (f2_of rfl rfl rfl) (fCons_of (f2_of rfl rfl rfl) (fCons_of (f2_of rfl rfl rfl) rfl))) rfl (e_law_cross w600 pa pb pc)) rfl) (gAbs_int _)) rfl gNe_int)).trans (by rw [one]; rfl))).trans rfl), _, rfl⟩) [some (.sh (scrD ns)), some (.sh (psD l)), c2, c3, some (.sh (.int (A2 l))), some (.sh (psD l)), some (.sh (.list (G.map triLD))), none, none] ⟨_, rfl⟩
  refine dSeq_step (dFor_of' (ds := G.map triLD) (fIL_of rfl) e1) ?_
  have tl : fTst (f2 gLt (fVar 4) (fC (.int 0))) (vO [some (.sh (scrD ns)), some (.sh (psD l)), c2, c3, some (.sh (.int (A2 l))), some (.sh (psD l)), some (.sh (.list (G.map triLD))), c7, none]) = some (decide (A2 l < 0)) := fTst_of (f2_of rfl rfl rfl)
  have e4 : dIf (fTst (f2 gLt (fVar 4) (fC (.int 0)))) (dSet 1 (fL (fRev (fVar 1)))) dNext [some (.sh (scrD ns)), some (.sh (psD l)), c2, c3, some (.sh (.int (A2 l))), some (.sh (psD l)), some (.sh (.list (G.map triLD))), c7, none] = .next [some (.sh (scrD ns)), some (.sh (psD (leftR l))), c2, c3, some (.sh (.int (A2 l))), some (.sh (psD l)), some (.sh (.list (G.map triLD))), c7, none] := by
    unfold leftR
    by_cases h : A2 l < 0
    · rw [if_pos h, dIf_t (tl.trans (by rw [decide_eq_true h]))]
      exact dSet_of (fRev_ps rfl)
    · rw [if_neg h, dIf_f (tl.trans (by rw [decide_eq_false h]))]; rfl
  refine dSeq_step e4 ?_
  have lb : ∀ p ∈ leftR l, PB 600 p := fun p hp => by
    unfold leftR at hp
    split at hp
    · exact F.pb p (List.mem_reverse.mp hp)
    · exact F.pb p hp
  have ll : (leftR l).length = l.length := by unfold leftR; split <;> simp
  exact dRet_of (fCallF_of (fCons_of rfl (fCons_of rfl rfl)) rfl (e_law_fills w600 lb (by omega) g1 gb (by have : absI (A2 l) ≤ 60 := by omega
                                                                                                           omega) nd fx fs))

end LW

/-! part walk -/
namespace LW
open PySem PySem.Spec PyProof.Rows L2 DL
def topS (i : Nat) : Stmt := PySem.Challenge.pw_fencefield_k15_whole_least_triangles.main.body.getD i (.Pass ⟨0, 0, 0, 0⟩)
abbrev s_cross : Stmt := topS 7
abbrev nm_cross : List Str := ["origin", "one", "other", "left"]
theorem sc_cross : FnScope nm_cross ["origin", "one", "other"] (defScope s_cross) := ⟨rfl, rfl, rfl, by decide +kernel, rfl, by decide +kernel, by decide +kernel⟩
abbrev s_side_of : Stmt := topS 8
abbrev nm_side_of : List Str := ["origin", "one", "other", "turn"]
theorem sc_side_of : FnScope nm_side_of ["origin", "one", "other"] (defScope s_side_of) := ⟨rfl, rfl, rfl, by decide +kernel, rfl, by decide +kernel, by decide +kernel⟩
abbrev s_on_side : Stmt := topS 9
abbrev nm_on_side : List Str := ["one", "other", "point"]
theorem sc_on_side : FnScope nm_on_side ["one", "other", "point"] (defScope s_on_side) := ⟨rfl, rfl, rfl, by decide +kernel, rfl, by decide +kernel, by decide +kernel⟩
abbrev s_meet : Stmt := topS 10
abbrev nm_meet : List Str := ["one", "other", "third", "fourth", "point"]
theorem sc_meet : FnScope nm_meet ["one", "other", "third", "fourth"] (defScope s_meet) := ⟨rfl, rfl, rfl, by decide +kernel, rfl, by decide +kernel, by decide +kernel⟩
abbrev s_sides : Stmt := topS 11
abbrev nm_sides : List Str := ["corners", "k"]
theorem sc_sides : FnScope nm_sides ["corners"] (defScope s_sides) := ⟨rfl, rfl, rfl, by decide +kernel, rfl, by decide +kernel, by decide +kernel⟩
abbrev s_folds_back : Stmt := topS 12
abbrev nm_folds_back : List Str := ["one", "middle", "other", "along"]
theorem sc_folds_back : FnScope nm_folds_back ["one", "middle", "other"] (defScope s_folds_back) := ⟨rfl, rfl, rfl, by decide +kernel, rfl, by decide +kernel, by decide +kernel⟩
abbrev s_is_fence : Stmt := topS 13
abbrev nm_is_fence : List Str := ["corners", "many", "k", "row", "j"]
theorem sc_is_fence : FnScope nm_is_fence ["corners"] (defScope s_is_fence) := ⟨rfl, rfl, rfl, by decide +kernel, rfl, by decide +kernel, by decide +kernel⟩
abbrev s_asked : Stmt := topS 14
abbrev nm_asked : List Str := ["corners"]
theorem sc_asked : FnScope nm_asked ["corners"] (defScope s_asked) := ⟨rfl, rfl, rfl, by decide +kernel, rfl, by decide +kernel, by decide +kernel⟩
abbrev s_turn_sum : Stmt := topS 15
abbrev nm_turn_sum : List Str := ["corners", "one", "other"]
theorem sc_turn_sum : FnScope nm_turn_sum ["corners"] (defScope s_turn_sum) := ⟨rfl, rfl, rfl, by decide +kernel, rfl, by decide +kernel, by decide +kernel⟩
abbrev s_common : Stmt := topS 17
abbrev nm_common : List Str := ["one", "other", "rest"]
theorem sc_common : FnScope nm_common ["one", "other"] (defScope s_common) := ⟨rfl, rfl, rfl, by decide +kernel, rfl, by decide +kernel, by decide +kernel⟩
abbrev s_is_ear : Stmt := topS 20
abbrev nm_is_ear : List Str := ["left", "k", "one", "middle", "other", "point"]
theorem sc_is_ear : FnScope nm_is_ear ["left", "k"] (defScope s_is_ear) := ⟨rfl, rfl, rfl, by decide +kernel, rfl, by decide +kernel, by decide +kernel⟩
abbrev s_ears : Stmt := topS 21
abbrev nm_ears : List Str := ["corners", "left", "found", "k"]
theorem sc_ears : FnScope nm_ears ["corners"] (defScope s_ears) := ⟨rfl, rfl, rfl, by decide +kernel, rfl, by decide +kernel, by decide +kernel⟩
abbrev s_shares_of : Stmt := topS 22
abbrev nm_shares_of : List Str := ["one", "other", "rest", "later", "times", "after"]
theorem sc_shares_of : FnScope nm_shares_of ["one", "other"] (defScope s_shares_of) := ⟨rfl, rfl, rfl, by decide +kernel, rfl, by decide +kernel, by decide +kernel⟩
abbrev s_point_of : Stmt := topS 23
abbrev nm_point_of : List Str := ["triangle", "k", "one", "x", "y", "parts", "other", "third", "shares", "over", "along"]
theorem sc_point_of : FnScope nm_point_of ["triangle"] (defScope s_point_of) := ⟨rfl, rfl, rfl, by decide +kernel, rfl, by decide +kernel, by decide +kernel⟩
abbrev s_least_triangles : Stmt := topS 24
abbrev nm_least_triangles : List Str := ["corners", "wide", "row", "waiting", "found", "triangle", "point", "k", "one", "other"]
theorem sc_least_triangles : FnScope nm_least_triangles ["corners"] (defScope s_least_triangles) := ⟨rfl, rfl, rfl, by decide +kernel, rfl, by decide +kernel, by decide +kernel⟩
abbrev s__law_cell_at : Stmt := topS 26
abbrev nm__law_cell_at : List Str := ["script", "k"]
theorem sc__law_cell_at : FnScope nm__law_cell_at ["script", "k"] (defScope s__law_cell_at) := ⟨rfl, rfl, rfl, by decide +kernel, rfl, by decide +kernel, by decide +kernel⟩
abbrev s__law_draw : Stmt := topS 27
abbrev nm__law_draw : List Str := ["cell", "k", "bound", "stir"]
theorem sc__law_draw : FnScope nm__law_draw ["cell", "k", "bound"] (defScope s__law_draw) := ⟨rfl, rfl, rfl, by decide +kernel, rfl, by decide +kernel, by decide +kernel⟩
abbrev s__law_cross : Stmt := topS 28
abbrev nm__law_cross : List Str := ["one", "other", "third", "left"]
theorem sc__law_cross : FnScope nm__law_cross ["one", "other", "third"] (defScope s__law_cross) := ⟨rfl, rfl, rfl, by decide +kernel, rfl, by decide +kernel, by decide +kernel⟩
abbrev s__law_rows_by : Stmt := topS 29
abbrev nm__law_rows_by : List Str := ["script", "first", "cell", "many", "x", "lows", "highs", "k", "low"]
theorem sc__law_rows_by : FnScope nm__law_rows_by ["script", "first"] (defScope s__law_rows_by) := ⟨rfl, rfl, rfl, by decide +kernel, rfl, by decide +kernel, by decide +kernel⟩
abbrev s__law_joined : Stmt := topS 30
abbrev nm__law_joined : List Str := ["lows", "highs", "tips", "top"]
theorem sc__law_joined : FnScope nm__law_joined ["lows", "highs", "tips"] (defScope s__law_joined) := ⟨rfl, rfl, rfl, by decide +kernel, rfl, by decide +kernel, by decide +kernel⟩
abbrev s__law_spiral : Stmt := topS 31
abbrev nm__law_spiral : List Str := ["cell", "w", "h", "outer"]
theorem sc__law_spiral : FnScope nm__law_spiral ["cell"] (defScope s__law_spiral) := ⟨rfl, rfl, rfl, by decide +kernel, rfl, by decide +kernel, by decide +kernel⟩
abbrev s__law_flat : Stmt := topS 32
abbrev nm__law_flat : List Str := ["corners", "cell", "at", "one", "x", "y", "parts", "k"]
theorem sc__law_flat : FnScope nm__law_flat ["corners", "cell"] (defScope s__law_flat) := ⟨rfl, rfl, rfl, by decide +kernel, rfl, by decide +kernel, by decide +kernel⟩
abbrev s__law_fence_by : Stmt := topS 33
abbrev nm__law_fence_by : List Str := ["script", "first", "rows", "corners", "cell", "turn", "x", "y"]
theorem sc__law_fence_by : FnScope nm__law_fence_by ["script", "first"] (defScope s__law_fence_by) := ⟨rfl, rfl, rfl, by decide +kernel, rfl, by decide +kernel, by decide +kernel⟩
abbrev s__law_turning_by : Stmt := topS 34
abbrev nm__law_turning_by : List Str := ["script", "first", "far", "s", "t", "sign", "e", "f"]
theorem sc__law_turning_by : FnScope nm__law_turning_by ["script", "first", "far"] (defScope s__law_turning_by) := ⟨rfl, rfl, rfl, by decide +kernel, rfl, by decide +kernel, by decide +kernel⟩
abbrev s__law_led : Stmt := topS 35
abbrev nm__law_led : List Str := ["turning", "point", "a", "b", "c", "d", "e", "f"]
theorem sc__law_led : FnScope nm__law_led ["turning", "point"] (defScope s__law_led) := ⟨rfl, rfl, rfl, by decide +kernel, rfl, by decide +kernel, by decide +kernel⟩
abbrev s__law_sum : Stmt := topS 36
abbrev nm__law_sum : List Str := ["corners", "total", "k", "one", "other"]
theorem sc__law_sum : FnScope nm__law_sum ["corners"] (defScope s__law_sum) := ⟨rfl, rfl, rfl, by decide +kernel, rfl, by decide +kernel, by decide +kernel⟩
abbrev s__law_whole : Stmt := topS 37
abbrev nm__law_whole : List Str := ["found"]
theorem sc__law_whole : FnScope nm__law_whole ["found"] (defScope s__law_whole) := ⟨rfl, rfl, rfl, by decide +kernel, rfl, by decide +kernel, by decide +kernel⟩
abbrev s__law_points_are : Stmt := topS 38
abbrev nm__law_points_are : List Str := ["found", "due", "point"]
theorem sc__law_points_are : FnScope nm__law_points_are ["found", "due"] (defScope s__law_points_are) := ⟨rfl, rfl, rfl, by decide +kernel, rfl, by decide +kernel, by decide +kernel⟩
abbrev s__law_common : Stmt := topS 39
abbrev nm__law_common : List Str := ["one", "other", "rest"]
theorem sc__law_common : FnScope nm__law_common ["one", "other"] (defScope s__law_common) := ⟨rfl, rfl, rfl, by decide +kernel, rfl, by decide +kernel, by decide +kernel⟩
abbrev s__law_steps : Stmt := topS 40
abbrev nm__law_steps : List Str := ["corners", "steps", "k", "one", "x", "y", "parts", "j", "start"]
theorem sc__law_steps : FnScope nm__law_steps ["corners"] (defScope s__law_steps) := ⟨rfl, rfl, rfl, by decide +kernel, rfl, by decide +kernel, by decide +kernel⟩
abbrev s__law_gone : Stmt := topS 41
abbrev nm__law_gone : List Str := ["triangles", "gone", "triangle", "row", "k", "step"]
theorem sc__law_gone : FnScope nm__law_gone ["triangles"] (defScope s__law_gone) := ⟨rfl, rfl, rfl, by decide +kernel, rfl, by decide +kernel, by decide +kernel⟩
abbrev s__law_fills : Stmt := topS 42
abbrev nm__law_fills : List Str := ["triangles", "corners", "steps", "gone", "step"]
theorem sc__law_fills : FnScope nm__law_fills ["triangles", "corners"] (defScope s__law_fills) := ⟨rfl, rfl, rfl, by decide +kernel, rfl, by decide +kernel, by decide +kernel⟩
abbrev s__law_refused : Stmt := topS 43
abbrev nm__law_refused : List Str := ["corners", "name", "e"]
theorem sc__law_refused : FnScope nm__law_refused ["corners"] (defScope s__law_refused) := ⟨rfl, rfl, rfl, by decide +kernel, rfl, by decide +kernel, by decide +kernel⟩
abbrev s_law : Stmt := topS 44
abbrev nm_law : List Str := ["script", "corners", "legs", "turning", "area", "handed", "found", "triangle", "point"]
theorem sc_law : FnScope nm_law ["script"] (defScope s_law) := ⟨rfl, rfl, rfl, by decide +kernel, rfl, by decide +kernel, by decide +kernel⟩
section
variable {P : Program} {w : World} {K : PySem.W.Frag} {mg : Str → Option Value} {base : Heap}
theorem ok_cross {f : Addr} {fd : FuncData} (Fn : Fun K "cross" "cross" s_cross f fd) (B : Blts mg) : FnOk P w K mg base CX0 1 f fd ["origin", "one", "other"] (spD K 3 g_cross) :=
  def_D (k := 0) (n := 3) (m := 4) (F := fb_cross) Fn sc_cross rfl rfl fun cdv A outer s H E hr =>
  (dss_cons (ds_set (i := 3) sc_cross.nd (de_mul (de_sub (de_ix rfl (de_var 1) de_int) (de_ix rfl (de_var 0) de_int)) (de_sub (de_ix rfl (de_var 2) de_int) (de_ix rfl (de_var 0) de_int))))
 (dss_one (ds_ret (de_sub (de_var 3) (de_mul (de_sub (de_ix rfl (de_var 1) de_int) (de_ix rfl (de_var 0) de_int)) (de_sub (de_ix rfl (de_var 2) de_int) (de_ix rfl (de_var 0) de_int)))))))
theorem ok_side_of {f : Addr} {fd : FuncData} (Fn : Fun K "side_of" "side_of" s_side_of f fd) (B : Blts mg) (h_cross : Has P w K mg base "cross" 1 ["origin", "one", "other"] (spD K 3 g_cross)) : FnOk P w K mg base CX0 2 f fd ["origin", "one", "other"] (spD K 3 g_side_of) :=
  def_D (k := 1) (n := 3) (m := 4) (F := fb_side_of) Fn sc_side_of rfl rfl fun cdv A outer s H E hr =>
  (dss_cons (ds_set (i := 3) sc_side_of.nd (de_user h_cross hr (da_cons (de_var 0) (da_cons (de_var 1) (da_cons (de_var 2) da_nil)))))
 (dss_one (ds_ret (de_sub (de_intC B.int (ha := (da_cons (de_gt (de_var 3) de_int) da_nil))) (de_intC B.int (ha := (da_cons (de_lt (de_var 3) de_int) da_nil)))))))
theorem ok_on_side {f : Addr} {fd : FuncData} (Fn : Fun K "on_side" "on_side" s_on_side f fd) (B : Blts mg) (h_cross : Has P w K mg base "cross" 1 ["origin", "one", "other"] (spD K 3 g_cross)) : FnOk P w K mg base CX0 2 f fd ["one", "other", "point"] (spD K 3 g_on_side) :=
  def_D (k := 1) (n := 3) (m := 3) (F := fb_on_side) Fn sc_on_side rfl rfl fun cdv A outer s H E hr =>
  (dss_cons (ds_if (dt_ne hr rfl (de_user h_cross hr (da_cons (de_var 0) (da_cons (de_var 1) (da_cons (de_var 2) da_nil)))) de_int)
 (dss_one (ds_ret de_bl))
 dss_nil)
 (dss_cons (ds_if (dt_not (dt_chain op_le op_le rr_le rr_le (de_min2 B.min (ha := (da_cons (de_ix rfl (de_var 0) de_int) (da_cons (de_ix rfl (de_var 1) de_int) da_nil)))) (de_ix rfl (de_var 2) de_int) (de_max2 B.max (ha := (da_cons (de_ix rfl (de_var 0) de_int) (da_cons (de_ix rfl (de_var 1) de_int) da_nil))))))
 (dss_one (ds_ret de_bl))
 dss_nil)
 (dss_one (ds_ret (de_chain op_le op_le rr_le rr_le (de_min2 B.min (ha := (da_cons (de_ix rfl (de_var 0) de_int) (da_cons (de_ix rfl (de_var 1) de_int) da_nil)))) (de_ix rfl (de_var 2) de_int) (de_max2 B.max (ha := (da_cons (de_ix rfl (de_var 0) de_int) (da_cons (de_ix rfl (de_var 1) de_int) da_nil)))))))))
theorem ok_meet {f : Addr} {fd : FuncData} (Fn : Fun K "meet" "meet" s_meet f fd) (B : Blts mg) (h_on_side : Has P w K mg base "on_side" 2 ["one", "other", "point"] (spD K 3 g_on_side)) (h_side_of : Has P w K mg base "side_of" 2 ["origin", "one", "other"] (spD K 3 g_side_of)) : FnOk P w K mg base CX0 3 f fd ["one", "other", "third", "fourth"] (spD K 4 g_meet) :=
  def_D (k := 2) (n := 4) (m := 5) (F := fb_meet) Fn sc_meet rfl rfl fun cdv A outer s H E hr =>
  (dss_cons (ds_for PassesOwn.never (di_tup rfl (de_tup (da_cons (de_var 2) (da_cons (de_var 3) da_nil)))) (dg_name (i := 4) sc_meet.nd)
 (dss_one (ds_if (dt_val (de_user h_on_side hr (da_cons (de_var 0) (da_cons (de_var 1) (da_cons (de_var 4) da_nil)))))
 (dss_one (ds_ret de_bl))
 dss_nil)))
 (dss_cons (ds_for PassesOwn.never (di_tup rfl (de_tup (da_cons (de_var 0) (da_cons (de_var 1) da_nil)))) (dg_name (i := 4) sc_meet.nd)
 (dss_one (ds_if (dt_val (de_user h_on_side hr (da_cons (de_var 2) (da_cons (de_var 3) (da_cons (de_var 4) da_nil)))))
 (dss_one (ds_ret de_bl))
 dss_nil)))
 (dss_cons (ds_if (dt_ge (de_mul (de_user h_side_of hr (da_cons (de_var 0) (da_cons (de_var 1) (da_cons (de_var 2) da_nil)))) (de_user h_side_of hr (da_cons (de_var 0) (da_cons (de_var 1) (da_cons (de_var 3) da_nil))))) de_int)
 (dss_one (ds_ret de_bl))
 dss_nil)
 (dss_one (ds_ret (de_lt (de_mul (de_user h_side_of hr (da_cons (de_var 2) (da_cons (de_var 3) (da_cons (de_var 0) da_nil)))) (de_user h_side_of hr (da_cons (de_var 2) (da_cons (de_var 3) (da_cons (de_var 1) da_nil))))) de_int))))))
theorem ok_sides {f : Addr} {fd : FuncData} (Fn : Fun K "sides" "sides" s_sides f fd) (B : Blts mg) : FnOk P w K mg base CX0 1 f fd ["corners"] (spD K 1 g_sides) :=
  def_D (k := 0) (n := 1) (m := 2) (F := fb_sides) Fn sc_sides rfl rfl fun cdv A outer s H E hr =>
  (dss_one (ds_ret (dn_de (dn_lc [("k", 1)] sc_sides.nd (di_range1 B.range (ha := (da_cons (de_len B.len (ha := (da_cons (de_var 0) da_nil))) da_nil))) (blkOk_by (N := nm_sides) (sc := (defScope s_sides)) (by decide +kernel)) (tgIn_name (by decide)) (fun _ _ _ _ _ => (dg_name (i := 1) sc_sides.nd)) (fun _ _ _ _ _ => dts_nil) (fun _ _ _ _ _ => (de_tup (da_cons (de_ix rfl (de_var 0) (de_var 1)) (da_cons (de_ix rfl (de_var 0) (de_mod (de_add (de_var 1) de_int) (de_len B.len (ha := (da_cons (de_var 0) da_nil))))) da_nil))))))))
theorem ok_folds_back {f : Addr} {fd : FuncData} (Fn : Fun K "folds_back" "folds_back" s_folds_back f fd) (B : Blts mg) (h_cross : Has P w K mg base "cross" 1 ["origin", "one", "other"] (spD K 3 g_cross)) : FnOk P w K mg base CX0 2 f fd ["one", "middle", "other"] (spD K 3 g_folds_back) :=
  def_D (k := 1) (n := 3) (m := 4) (F := fb_folds_back) Fn sc_folds_back rfl rfl fun cdv A outer s H E hr =>
  (dss_cons (ds_if (dt_ne hr rfl (de_user h_cross hr (da_cons (de_var 0) (da_cons (de_var 1) (da_cons (de_var 2) da_nil)))) de_int)
 (dss_one (ds_ret de_bl))
 dss_nil)
 (dss_cons (ds_set (i := 3) sc_folds_back.nd (de_mul (de_sub (de_ix rfl (de_var 0) de_int) (de_ix rfl (de_var 1) de_int)) (de_sub (de_ix rfl (de_var 2) de_int) (de_ix rfl (de_var 1) de_int))))
 (dss_one (ds_ret (de_gt (de_add (de_var 3) (de_mul (de_sub (de_ix rfl (de_var 0) de_int) (de_ix rfl (de_var 1) de_int)) (de_sub (de_ix rfl (de_var 2) de_int) (de_ix rfl (de_var 1) de_int)))) de_int)))))
theorem ok_is_fence {f : Addr} {fd : FuncData} (Fn : Fun K "is_fence" "is_fence" s_is_fence f fd) (B : Blts mg) (h_folds_back : Has P w K mg base "folds_back" 2 ["one", "middle", "other"] (spD K 3 g_folds_back)) (h_sides : Has P w K mg base "sides" 1 ["corners"] (spD K 1 g_sides)) (h_meet : Has P w K mg base "meet" 3 ["one", "other", "third", "fourth"] (spD K 4 g_meet)) {tk_MOST_CORNERS : Tok} (c_MOST_CORNERS : mg "MOST_CORNERS" = some (.int 12 tk_MOST_CORNERS)) : FnOk P w K mg base CX0 4 f fd ["corners"] (spD K 1 g_is_fence) :=
  def_D (k := 3) (n := 1) (m := 5) (F := fb_is_fence) Fn sc_is_fence rfl rfl fun cdv A outer s H E hr =>
  (dss_cons (ds_set (i := 1) sc_is_fence.nd (de_len B.len (ha := (da_cons (de_var 0) da_nil))))
 (dss_cons (ds_if (dt_not (dt_chain op_le op_le rr_le rr_le de_int (de_var 1) (de_globI (by rfl) c_MOST_CORNERS)))
 (dss_one (ds_ret de_bl))
 dss_nil)
 (dss_cons (ds_forR PassesOwn.never B.range (da_cons (de_var 1) da_nil) (dg_name (i := 2) sc_is_fence.nd)
 (dss_one (ds_if (dw_dt (dw_or (dt_in hr rfl (de_ix rfl (de_var 0) (de_var 2)) (dn_de (dn_slice rfl (de_var 0) do_none (do_some (de_var 2))))) (dw_or1 (dt_val (de_user h_folds_back hr (da_cons (de_ix rfl (de_var 0) (de_sub (de_var 2) de_int)) (da_cons (de_ix rfl (de_var 0) (de_sub (de_var 2) de_int)) (da_cons (de_ix rfl (de_var 0) (de_var 2)) da_nil))))))))
 (dss_one (ds_ret de_bl))
 dss_nil)))
 (dss_cons (ds_set (i := 3) sc_is_fence.nd (de_user h_sides hr (da_cons (de_var 0) da_nil)))
 (dss_cons (ds_forR PassesOwn.never B.range (da_cons (de_var 1) da_nil) (dg_name (i := 2) sc_is_fence.nd)
 (dss_one (ds_forR2 PassesOwn.never B.range (da_cons (de_add (de_var 2) de_int) (da_cons (de_var 1) da_nil)) (dg_name (i := 4) sc_is_fence.nd)
 (dss_one (ds_if (dw_dt (dw_and (dt_ne hr rfl (de_mod (de_add (de_var 4) de_int) (de_var 1)) (de_var 2)) (dw_and1 (dt_val (de_user h_meet hr (da_cons (de_ix rfl (de_ix rfl (de_var 3) (de_var 2)) de_int) (da_cons (de_ix rfl (de_ix rfl (de_var 3) (de_var 2)) de_int) (da_cons (de_ix rfl (de_ix rfl (de_var 3) (de_var 4)) de_int) (da_cons (de_ix rfl (de_ix rfl (de_var 3) (de_var 4)) de_int) da_nil)))))))))
 (dss_one (ds_ret de_bl))
 dss_nil)))))
 (dss_one (ds_ret de_bl)))))))
theorem ok_asked {f : Addr} {fd : FuncData} (Fn : Fun K "asked" "asked" s_asked f fd) (B : Blts mg) (h_is_fence : Has P w K mg base "is_fence" 4 ["corners"] (spD K 1 g_is_fence)) : FnOk P w K mg base CX0 5 f fd ["corners"] (spD K 1 g_asked) :=
  def_D (k := 4) (n := 1) (m := 1) (F := fb_asked) Fn sc_asked rfl rfl fun cdv A outer s H E hr =>
  (dss_one (ds_if (dt_not (dt_val (de_user h_is_fence hr (da_cons (de_var 0) da_nil))))
 (dss_one ds_never)
 dss_nil))
theorem ok_turn_sum {f : Addr} {fd : FuncData} (Fn : Fun K "turn_sum" "turn_sum" s_turn_sum f fd) (B : Blts mg) (h_sides : Has P w K mg base "sides" 1 ["corners"] (spD K 1 g_sides)) : FnOk P w K mg base CX0 2 f fd ["corners"] (spD K 1 g_turn_sum) :=
  def_D (k := 1) (n := 1) (m := 3) (F := fb_turn_sum) Fn sc_turn_sum rfl rfl fun cdv A outer s H E hr =>
  (dss_one (ds_ret (de_sum B.sum (ha := (da_cons (dn_de (dn_lc [("one", 1), ("other", 2)] sc_turn_sum.nd (di_list rfl (de_user h_sides hr (da_cons (de_var 0) da_nil))) (blkOk_by (N := nm_turn_sum) (sc := (defScope s_turn_sum)) (by decide +kernel)) (tgIn_tup (by decide)) (fun _ _ _ _ _ => (dg_tup (h := (dgs_cons (i := 1) sc_turn_sum.nd (dgs_cons (i := 2) sc_turn_sum.nd dgs_nil))))) (fun _ _ _ _ _ => dts_nil) (fun _ _ _ _ _ => (de_sub (de_mul (de_ix rfl (de_var 1) de_int) (de_ix rfl (de_var 2) de_int)) (de_mul (de_ix rfl (de_var 1) de_int) (de_ix rfl (de_var 2) de_int)))))) da_nil)))))
theorem ok_common {f : Addr} {fd : FuncData} (Fn : Fun K "common" "common" s_common f fd) (B : Blts mg) : FnOk P w K mg base CX0 1 f fd ["one", "other"] (spD K 2 g_common) :=
  def_D (k := 0) (n := 2) (m := 3) (F := fb_common) Fn sc_common rfl rfl fun cdv A outer s H E hr =>
  (dss_cons (ds_set (i := 0) sc_common.nd (de_abs B.abs (ha := (da_cons (de_var 0) da_nil))))
 (dss_cons (ds_set (i := 1) sc_common.nd (de_abs B.abs (ha := (da_cons (de_var 1) da_nil))))
 (dss_cons (ds_while fuD PassesOwn.never (dt_gt (de_var 1) de_int)
 (dss_cons (ds_set (i := 2) sc_common.nd (de_mod (de_var 0) (de_var 1)))
 (dss_cons (ds_set (i := 0) sc_common.nd (de_var 1))
 (dss_one (ds_set (i := 1) sc_common.nd (de_var 2))))))
 (dss_one (ds_ret (de_var 0))))))
theorem ok_is_ear {f : Addr} {fd : FuncData} (Fn : Fun K "is_ear" "is_ear" s_is_ear f fd) (B : Blts mg) (h_cross : Has P w K mg base "cross" 1 ["origin", "one", "other"] (spD K 3 g_cross)) : FnOk P w K mg base CX0 2 f fd ["left", "k"] (spD K 2 g_is_ear) :=
  def_D (k := 1) (n := 2) (m := 6) (F := fb_is_ear) Fn sc_is_ear rfl rfl fun cdv A outer s H E hr =>
  (dss_cons (ds_set (i := 2) sc_is_ear.nd (de_ix rfl (de_var 0) (de_sub (de_var 1) de_int)))
 (dss_cons (ds_set (i := 3) sc_is_ear.nd (de_ix rfl (de_var 0) (de_var 1)))
 (dss_cons (ds_set (i := 4) sc_is_ear.nd (de_ix rfl (de_var 0) (de_mod (de_add (de_var 1) de_int) (de_len B.len (ha := (da_cons (de_var 0) da_nil))))))
 (dss_cons (ds_if (dt_le (de_user h_cross hr (da_cons (de_var 2) (da_cons (de_var 3) (da_cons (de_var 4) da_nil)))) de_int)
 (dss_one (ds_ret de_bl))
 dss_nil)
 (dss_cons (ds_for PassesOwn.never (di_list rfl (de_var 0)) (dg_name (i := 5) sc_is_ear.nd)
 (dss_one (ds_if (dw_dt (dw_and (dt_notInT hr rfl (de_var 5) (de_tup (da_cons (de_var 2) (da_cons (de_var 3) (da_cons (de_var 4) da_nil))))) (dw_and1 (dt_ge (de_user h_cross hr (da_cons (de_var 2) (da_cons (de_var 3) (da_cons (de_var 5) da_nil)))) de_int))))
 (dss_one (ds_if (dw_dt (dw_and (dt_ge (de_user h_cross hr (da_cons (de_var 3) (da_cons (de_var 4) (da_cons (de_var 5) da_nil)))) de_int) (dw_and1 (dt_ge (de_user h_cross hr (da_cons (de_var 4) (da_cons (de_var 2) (da_cons (de_var 5) da_nil)))) de_int))))
 (dss_one (ds_ret de_bl))
 dss_nil))
 dss_nil)))
 (dss_one (ds_ret de_bl)))))))
theorem ok_ears {f : Addr} {fd : FuncData} (Fn : Fun K "ears" "ears" s_ears f fd) (B : Blts mg) (h_is_ear : Has P w K mg base "is_ear" 2 ["left", "k"] (spD K 2 g_is_ear)) : FnOk P w K mg base CX0 3 f fd ["corners"] (spN K 1 g_ears) :=
  def_N (k := 2) (n := 1) (m := 4) (F := fb_ears) Fn sc_ears rfl rfl fun cdv A outer s H E hr =>
  (dss_cons (ds_setN (i := 1) sc_ears.nd (dn_listC B.list (ha := (da_cons (de_var 0) da_nil))))
 (dss_cons (ds_setN (i := 2) sc_ears.nd (dn_lst da_nil))
 (dss_cons (ds_while fuD PassesOwn.never (dt_gt (de_len B.len (ha := (da_cons (de_var 1) da_nil))) de_int)
 (dss_cons (ds_set (i := 3) sc_ears.nd de_int)
 (dss_cons (ds_while fuD PassesOwn.never (dt_not (dt_val (de_user h_is_ear hr (da_cons (de_var 1) (da_cons (de_var 3) da_nil)))))
 (dss_one (ds_set (i := 3) sc_ears.nd (de_add (de_var 3) de_int))))
 (dss_cons (ds_appO 2 (de_tup (da_cons (de_ix rfl (de_var 1) (de_sub (de_var 3) de_int)) (da_cons (de_ix rfl (de_var 1) (de_var 3)) (da_cons (de_ix rfl (de_var 1) (de_mod (de_add (de_var 3) de_int) (de_len B.len (ha := (da_cons (de_var 1) da_nil))))) da_nil)))))
 (dss_one (ds_popAt 1 (de_var 3)))))))
 (dss_cons (ds_appO 2 (de_tup (da_cons (de_ix rfl (de_var 1) de_int) (da_cons (de_ix rfl (de_var 1) de_int) (da_cons (de_ix rfl (de_var 1) de_int) da_nil)))))
 (dss_one (ds_retOw (i := 2)))))))
theorem ok_shares_of {f : Addr} {fd : FuncData} (Fn : Fun K "shares_of" "shares_of" s_shares_of f fd) (B : Blts mg) : FnOk P w K mg base CX0 1 f fd ["one", "other"] (spD K 2 g_shares_of) :=
  def_D (k := 0) (n := 2) (m := 6) (F := fb_shares_of) Fn sc_shares_of rfl rfl fun cdv A outer s H E hr =>
  (dss_cons (ds_set (i := 2) sc_shares_of.nd (de_tup (da_cons (de_var 0) (da_cons de_int (da_cons de_int da_nil)))))
 (dss_cons (ds_set (i := 3) sc_shares_of.nd (de_tup (da_cons (de_var 1) (da_cons de_int (da_cons de_int da_nil)))))
 (dss_cons (ds_while fuD PassesOwn.never (dt_ne hr rfl (de_ix rfl (de_var 3) de_int) de_int)
 (dss_cons (ds_set (i := 4) sc_shares_of.nd (de_div (de_ix rfl (de_var 2) de_int) (de_ix rfl (de_var 3) de_int)))
 (dss_cons (ds_set (i := 5) sc_shares_of.nd (de_tup (da_cons (de_sub (de_ix rfl (de_var 2) de_int) (de_mul (de_var 4) (de_ix rfl (de_var 3) de_int))) (da_cons (de_sub (de_ix rfl (de_var 2) de_int) (de_mul (de_var 4) (de_ix rfl (de_var 3) de_int))) (da_cons (de_sub (de_ix rfl (de_var 2) de_int) (de_mul (de_var 4) (de_ix rfl (de_var 3) de_int))) da_nil)))))
 (dss_cons (ds_set (i := 2) sc_shares_of.nd (de_var 3))
 (dss_one (ds_set (i := 3) sc_shares_of.nd (de_var 5)))))))
 (dss_one (ds_ret (de_tup (da_cons (de_mul (de_ix rfl (de_var 2) de_int) (de_ix rfl (de_var 2) de_int)) (da_cons (de_mul (de_ix rfl (de_var 2) de_int) (de_ix rfl (de_var 2) de_int)) da_nil))))))))
theorem ok_point_of {f : Addr} {fd : FuncData} (Fn : Fun K "point_of" "point_of" s_point_of f fd) (B : Blts mg) (h_common : Has P w K mg base "common" 1 ["one", "other"] (spD K 2 g_common)) (h_shares_of : Has P w K mg base "shares_of" 1 ["one", "other"] (spD K 2 g_shares_of)) (h_cross : Has P w K mg base "cross" 1 ["origin", "one", "other"] (spD K 3 g_cross)) : FnOk P w K mg base CX0 2 f fd ["triangle"] (spD K 1 g_point_of) :=
  def_D (k := 1) (n := 1) (m := 11) (F := fb_point_of) Fn sc_point_of rfl rfl fun cdv A outer s H E hr =>
  (dss_cons (ds_forR PassesOwn.never B.range (da_cons de_int da_nil) (dg_name (i := 1) sc_point_of.nd)
 (dss_cons (ds_set (i := 2) sc_point_of.nd (de_ix rfl (de_var 0) (de_var 1)))
 (dss_cons (ds_set (i := 3) sc_point_of.nd (de_sub (de_ix rfl (de_ix rfl (de_var 0) (de_mod (de_add (de_var 1) de_int) de_int)) de_int) (de_ix rfl (de_var 2) de_int)))
 (dss_cons (ds_set (i := 4) sc_point_of.nd (de_sub (de_ix rfl (de_ix rfl (de_var 0) (de_mod (de_add (de_var 1) de_int) de_int)) de_int) (de_ix rfl (de_var 2) de_int)))
 (dss_cons (ds_set (i := 5) sc_point_of.nd (de_user h_common hr (da_cons (de_var 3) (da_cons (de_var 4) da_nil))))
 (dss_one (ds_if (dt_gt (de_var 5) de_int)
 (dss_one (ds_ret (de_tup (da_cons (de_add (de_ix rfl (de_var 2) de_int) (de_div (de_var 3) (de_var 5))) (da_cons (de_add (de_ix rfl (de_var 2) de_int) (de_div (de_var 4) (de_var 5))) da_nil)))))
 dss_nil)))))))
 (dss_cons (ds_asg (de_var 0) (dg_tup (h := (dgs_cons (i := 2) sc_point_of.nd (dgs_cons (i := 6) sc_point_of.nd (dgs_cons (i := 7) sc_point_of.nd dgs_nil))))))
 (dss_cons (ds_set (i := 3) sc_point_of.nd (de_sub (de_ix rfl (de_var 6) de_int) (de_ix rfl (de_var 2) de_int)))
 (dss_cons (ds_set (i := 4) sc_point_of.nd (de_sub (de_ix rfl (de_var 6) de_int) (de_ix rfl (de_var 2) de_int)))
 (dss_cons (ds_set (i := 8) sc_point_of.nd (de_user h_shares_of hr (da_cons (de_var 3) (da_cons (de_var 4) da_nil))))
 (dss_cons (ds_set (i := 9) sc_point_of.nd (de_add (de_mul (de_sub (de_ix rfl (de_var 7) de_int) (de_ix rfl (de_var 2) de_int)) (de_ix rfl (de_var 8) de_int)) (de_mul (de_sub (de_ix rfl (de_var 7) de_int) (de_ix rfl (de_var 2) de_int)) (de_ix rfl (de_var 8) de_int))))
 (dss_cons (ds_set (i := 10) sc_point_of.nd (de_sub de_int (de_div (de_sub de_int (de_var 9)) (de_user h_cross hr (da_cons (de_var 2) (da_cons (de_var 6) (da_cons (de_var 7) da_nil)))))))
 (dss_one (ds_ret (de_tup (da_cons (de_sub (de_add (de_ix rfl (de_var 2) de_int) (de_mul (de_var 10) (de_var 3))) (de_ix rfl (de_var 8) de_int)) (da_cons (de_add (de_add (de_ix rfl (de_var 2) de_int) (de_mul (de_var 10) (de_var 4))) (de_ix rfl (de_var 8) de_int)) da_nil))))))))))))
theorem ok_least_triangles {f : Addr} {fd : FuncData} (Fn : Fun K "least_triangles" "least_triangles" s_least_triangles f fd) (B : Blts mg) (h_asked : Has P w K mg base "asked" 5 ["corners"] (spD K 1 g_asked)) (h_turn_sum : Has P w K mg base "turn_sum" 2 ["corners"] (spD K 1 g_turn_sum)) (h_ears : Has P w K mg base "ears" 3 ["corners"] (spN K 1 g_ears)) (h_cross : Has P w K mg base "cross" 1 ["origin", "one", "other"] (spD K 3 g_cross)) (h_point_of : Has P w K mg base "point_of" 2 ["triangle"] (spD K 1 g_point_of)) {tk_MOST : Tok} (c_MOST : mg "MOST" = some (.int 60 tk_MOST)) {CF CN CT CW : Addr} (XE : ErrT K mg CF CN CT CW) : FnOk P w K mg base CX0 6 f fd ["corners"] (spD K 1 g_least_triangles) :=
  def_D (k := 5) (n := 1) (m := 10) (F := fb_least_triangles) Fn sc_least_triangles rfl rfl fun cdv A outer s H E hr =>
  (dss_cons (ds_expr (de_user h_asked hr (da_cons (de_var 0) da_nil)))
 (dss_cons (ds_set (i := 1) sc_least_triangles.nd (de_user h_turn_sum hr (da_cons (de_var 0) da_nil)))
 (dss_cons (ds_if (dt_gt (de_abs B.abs (ha := (da_cons (de_var 1) da_nil))) (de_globI (by rfl) c_MOST))
 (dss_one ds_never)
 dss_nil)
 (dss_cons (ds_set (i := 2) sc_least_triangles.nd (dn_de (dn_listC B.list (ha := (da_cons (de_var 0) da_nil)))))
 (dss_cons (ds_if (dt_lt (de_var 1) de_int)
 (dss_one (ds_set (i := 2) sc_least_triangles.nd (dn_de (dn_listRev B.list B.reversed (de_var 2)))))
 dss_nil)
 (dss_cons (ds_setN (i := 3) sc_least_triangles.nd (dn_user h_ears hr (da_cons (de_var 2) da_nil)))
 (dss_cons (ds_setN (i := 4) sc_least_triangles.nd (dn_lst da_nil))
 (dss_cons (ds_while fuD PassesOwn.never (dt_gt (de_len B.len (ha := (da_cons (de_var 3) da_nil))) de_int)
 (dss_cons (ds_popTo 5 3 sc_least_triangles.nd)
 (dss_one (ds_if (dt_eq hr rfl (de_user h_cross hr (da_cons (de_ix rfl (de_var 5) de_int) (da_cons (de_ix rfl (de_var 5) de_int) (da_cons (de_ix rfl (de_var 5) de_int) da_nil)))) de_int)
 (dss_one (ds_app 4 (dn_de (dn_listC B.list (ha := (da_cons (de_var 5) da_nil))))))
 (dss_cons (ds_set (i := 6) sc_least_triangles.nd (de_user h_point_of hr (da_cons (de_var 5) da_nil)))
 (dss_one (ds_forR PassesOwn.never B.range (da_cons de_int da_nil) (dg_name (i := 7) sc_least_triangles.nd)
 (dss_cons (ds_set (i := 8) sc_least_triangles.nd (de_ix rfl (de_var 5) (de_var 7)))
 (dss_cons (ds_set (i := 9) sc_least_triangles.nd (de_ix rfl (de_var 5) (de_mod (de_add (de_var 7) de_int) de_int)))
 (dss_one (ds_if (dt_gt (de_user h_cross hr (da_cons (de_var 8) (da_cons (de_var 9) (da_cons (de_var 6) da_nil)))) de_int)
 (dss_one (ds_app 3 (de_tup (da_cons (de_var 8) (da_cons (de_var 9) (da_cons (de_var 6) da_nil))))))
 dss_nil)))))))))))
 (dss_one (ds_ret (de_var 4)))))))))))
theorem okR_least_triangles {f : Addr} {fd : FuncData} (Fn : Fun K "least_triangles" "least_triangles" s_least_triangles f fd) (B : Blts mg) (h_asked : Has P w K mg base "asked" 5 ["corners"] (spD K 1 g_asked)) (h_turn_sum : Has P w K mg base "turn_sum" 2 ["corners"] (spD K 1 g_turn_sum)) (h_ears : Has P w K mg base "ears" 3 ["corners"] (spN K 1 g_ears)) (h_cross : Has P w K mg base "cross" 1 ["origin", "one", "other"] (spD K 3 g_cross)) (h_point_of : Has P w K mg base "point_of" 2 ["triangle"] (spD K 1 g_point_of)) {tk_MOST : Tok} (c_MOST : mg "MOST" = some (.int 60 tk_MOST)) {CF CN CT CW : Addr} (XE : ErrT K mg CF CN CT CW) : FnOk P w K mg base (CX P w) 6 f fd ["corners"] (spR K 1 r_least_triangles CW) :=
  def_R (k := 5) (n := 1) (m := 10) (R := rb_least_triangles) Fn sc_least_triangles rfl rfl fun cdv A outer s H E hr =>
  have tk := takes_of rfl rfl rfl rfl
  (drs_skp (ds_expr (de_user h_asked hr (da_cons (de_var 0) da_nil)))
 (drs_skp (ds_set (i := 1) sc_least_triangles.nd (de_user h_turn_sum hr (da_cons (de_var 0) da_nil)))
 (drs_head (dr_if (dt_gt (de_abs B.abs (ha := (da_cons (de_var 1) da_nil))) (de_globI (by rfl) c_MOST)) (drs_head (dr_raise XE.xW tk))))))
theorem ok__law_cell_at {f : Addr} {fd : FuncData} (Fn : Fun K "_law_cell_at" "_law_cell_at" s__law_cell_at f fd) (B : Blts mg) : FnOk P w K mg base CX0 1 f fd ["script", "k"] (spD K 2 g__law_cell_at) :=
  def_D (k := 0) (n := 2) (m := 2) (F := fb__law_cell_at) Fn sc__law_cell_at rfl rfl fun cdv A outer s H E hr =>
  (dss_cons (ds_if (dt_lt (de_var 1) (de_len B.len (ha := (da_cons (de_var 0) da_nil))))
 (dss_one (ds_ret (de_ix rfl (de_var 0) (de_var 1))))
 dss_nil)
 (dss_one (ds_ret de_int)))
theorem ok__law_draw {f : Addr} {fd : FuncData} (Fn : Fun K "_law_draw" "_law_draw" s__law_draw f fd) (B : Blts mg) : FnOk P w K mg base CX0 1 f fd ["cell", "k", "bound"] (spD K 3 g__law_draw) :=
  def_D (k := 0) (n := 3) (m := 4) (F := fb__law_draw) Fn sc__law_draw rfl rfl fun cdv A outer s H E hr =>
  (dss_cons (ds_set (i := 3) sc__law_draw.nd (de_mod (de_mul (de_add (de_add (de_mod (de_var 0) de_int) (de_mul de_int (de_var 1))) de_int) de_int) de_int))
 (dss_cons (ds_set (i := 3) sc__law_draw.nd (de_mod (de_mul (de_add (de_var 3) (de_mul de_int (de_add (de_var 1) de_int))) de_int) de_int))
 (dss_one (ds_ret (de_mod (de_div (de_var 3) de_int) (de_var 2))))))
theorem ok__law_cross {f : Addr} {fd : FuncData} (Fn : Fun K "_law_cross" "_law_cross" s__law_cross f fd) (B : Blts mg) : FnOk P w K mg base CX0 1 f fd ["one", "other", "third"] (spD K 3 g__law_cross) :=
  def_D (k := 0) (n := 3) (m := 4) (F := fb__law_cross) Fn sc__law_cross rfl rfl fun cdv A outer s H E hr =>
  (dss_cons (ds_set (i := 3) sc__law_cross.nd (de_mul (de_sub (de_ix rfl (de_var 1) de_int) (de_ix rfl (de_var 0) de_int)) (de_sub (de_ix rfl (de_var 2) de_int) (de_ix rfl (de_var 0) de_int))))
 (dss_one (ds_ret (de_sub (de_var 3) (de_mul (de_sub (de_ix rfl (de_var 1) de_int) (de_ix rfl (de_var 0) de_int)) (de_sub (de_ix rfl (de_var 2) de_int) (de_ix rfl (de_var 0) de_int)))))))
theorem ok__law_rows_by {f : Addr} {fd : FuncData} (Fn : Fun K "_law_rows_by" "_law_rows_by" s__law_rows_by f fd) (B : Blts mg) (h__law_cell_at : Has P w K mg base "_law_cell_at" 1 ["script", "k"] (spD K 2 g__law_cell_at)) (h__law_draw : Has P w K mg base "_law_draw" 1 ["cell", "k", "bound"] (spD K 3 g__law_draw)) : FnOk P w K mg base CX0 2 f fd ["script", "first"] (spD K 2 g__law_rows_by) :=
  def_D (k := 1) (n := 2) (m := 9) (F := fb__law_rows_by) Fn sc__law_rows_by rfl rfl fun cdv A outer s H E hr =>
  (dss_cons (ds_set (i := 2) sc__law_rows_by.nd (de_user h__law_cell_at hr (da_cons (de_var 0) (da_cons (de_var 1) da_nil))))
 (dss_cons (ds_set (i := 3) sc__law_rows_by.nd (de_add de_int (de_mod (de_var 2) de_int)))
 (dss_cons (ds_set (i := 4) sc__law_rows_by.nd de_int)
 (dss_cons (ds_setN (i := 5) sc__law_rows_by.nd (dn_lst da_nil))
 (dss_cons (ds_setN (i := 6) sc__law_rows_by.nd (dn_lst da_nil))
 (dss_cons (ds_forR PassesOwn.never B.range (da_cons (de_var 3) da_nil) (dg_name (i := 7) sc__law_rows_by.nd)
 (dss_cons (ds_set (i := 8) sc__law_rows_by.nd (de_sub (de_user h__law_draw hr (da_cons (de_user h__law_cell_at hr (da_cons (de_var 0) (da_cons (de_add (de_var 1) de_int) da_nil))) (da_cons (de_var 7) (da_cons de_int da_nil)))) de_int))
 (dss_cons (ds_app 5 (de_tup (da_cons (de_var 4) (da_cons (de_var 8) da_nil))))
 (dss_cons (ds_app 6 (de_tup (da_cons (de_var 4) (da_cons (de_add (de_add (de_var 8) de_int) (de_user h__law_draw hr (da_cons (de_user h__law_cell_at hr (da_cons (de_var 0) (da_cons (de_add (de_var 1) de_int) da_nil))) (da_cons (de_var 7) (da_cons de_int da_nil))))) da_nil))))
 (dss_one (ds_set (i := 4) sc__law_rows_by.nd (de_add (de_add (de_var 4) de_int) (de_user h__law_draw hr (da_cons (de_user h__law_cell_at hr (da_cons (de_var 0) (da_cons (de_add (de_var 1) de_int) da_nil))) (da_cons (de_var 7) (da_cons de_int da_nil)))))))))))
 (dss_one (ds_ret (dn_de (dn_lst (da_cons (de_var 5) (da_cons (de_var 6) (da_cons (de_mod (de_div (de_var 2) de_int) de_int) da_nil)))))))))))))
theorem ok__law_joined {f : Addr} {fd : FuncData} (Fn : Fun K "_law_joined" "_law_joined" s__law_joined f fd) (B : Blts mg) : FnOk P w K mg base CX0 1 f fd ["lows", "highs", "tips"] (spD K 3 g__law_joined) :=
  def_D (k := 0) (n := 3) (m := 4) (F := fb__law_joined) Fn sc__law_joined rfl rfl fun cdv A outer s H E hr =>
  (dss_cons (ds_setN (i := 3) sc__law_joined.nd (dn_listC B.list (ha := (da_cons (de_var 1) da_nil))))
 (dss_cons (ds_if (dt_eq hr rfl (de_mod (de_var 2) de_int) de_int)
 (dss_one (ds_popAt 3 de_int))
 dss_nil)
 (dss_cons (ds_if (dw_dt (dw_and (dt_gt (de_var 2) de_int) (dw_and1 (dt_gt (de_add (de_len B.len (ha := (da_cons (de_var 0) da_nil))) (de_len B.len (ha := (da_cons (de_var 3) da_nil)))) de_int))))
 (dss_one (ds_pop 3))
 dss_nil)
 (dss_one (ds_ret (dn_de (dn_cat (de_var 0) (dn_de (dn_listRev B.list B.reversed (de_var 3))))))))))
theorem ok__law_spiral {f : Addr} {fd : FuncData} (Fn : Fun K "_law_spiral" "_law_spiral" s__law_spiral f fd) (B : Blts mg) : FnOk P w K mg base CX0 1 f fd ["cell"] (spD K 1 g__law_spiral) :=
  def_D (k := 0) (n := 1) (m := 4) (F := fb__law_spiral) Fn sc__law_spiral rfl rfl fun cdv A outer s H E hr =>
  (dss_cons (ds_set (i := 1) sc__law_spiral.nd (de_add de_int (de_mod (de_var 0) de_int)))
 (dss_cons (ds_set (i := 2) sc__law_spiral.nd (de_add de_int (de_mod (de_div (de_var 0) de_int) de_int)))
 (dss_cons (ds_set (i := 3) sc__law_spiral.nd (dn_de (dn_lst (da_cons (de_tup (da_cons de_int (da_cons de_int da_nil))) (da_cons (de_tup (da_cons (de_var 1) (da_cons de_int da_nil))) (da_cons (de_tup (da_cons (de_var 1) (da_cons (de_var 2) da_nil))) (da_cons (de_tup (da_cons de_int (da_cons (de_var 2) da_nil))) (da_cons (de_tup (da_cons de_int (da_cons de_int da_nil))) (da_cons (de_tup (da_cons (de_sub (de_var 1) de_int) (da_cons de_int da_nil))) da_nil)))))))))
 (dss_one (ds_ret (dn_de (dn_cat (de_var 3) (dn_de (dn_lst (da_cons (de_tup (da_cons (de_sub (de_var 1) de_int) (da_cons de_int da_nil))) (da_cons (de_tup (da_cons de_int (da_cons de_int da_nil))) (da_cons (de_tup (da_cons de_int (da_cons (de_sub (de_var 2) de_int) da_nil))) (da_cons (de_tup (da_cons (de_sub (de_var 1) de_int) (da_cons (de_sub (de_var 2) de_int) da_nil))) (da_cons (de_tup (da_cons (de_sub (de_var 1) de_int) (da_cons de_int da_nil))) (da_cons (de_tup (da_cons de_int (da_cons de_int da_nil))) da_nil)))))))))))))))
theorem ok__law_flat {f : Addr} {fd : FuncData} (Fn : Fun K "_law_flat" "_law_flat" s__law_flat f fd) (B : Blts mg) : FnOk P w K mg base CX0 1 f fd ["corners", "cell"] (spD K 2 g__law_flat) :=
  def_D (k := 0) (n := 2) (m := 8) (F := fb__law_flat) Fn sc__law_flat rfl rfl fun cdv A outer s H E hr =>
  (dss_cons (ds_set (i := 2) sc__law_flat.nd (de_mod (de_var 1) (de_len B.len (ha := (da_cons (de_var 0) da_nil)))))
 (dss_cons (ds_set (i := 3) sc__law_flat.nd (de_ix rfl (de_var 0) (de_sub (de_var 2) de_int)))
 (dss_cons (ds_set (i := 4) sc__law_flat.nd (de_sub (de_ix rfl (de_ix rfl (de_var 0) (de_var 2)) de_int) (de_ix rfl (de_var 3) de_int)))
 (dss_cons (ds_set (i := 5) sc__law_flat.nd (de_sub (de_ix rfl (de_ix rfl (de_var 0) (de_var 2)) de_int) (de_ix rfl (de_var 3) de_int)))
 (dss_cons (ds_setLc (i := 6) [("k", 7)] sc__law_flat.nd (di_range2 B.range (ha := (da_cons de_int (da_cons de_int da_nil)))) (blkOk_by (N := nm__law_flat) (sc := (defScope s__law_flat)) (by decide +kernel)) (tgIn_name (by decide)) (fun _ _ _ _ _ => (dg_name (i := 7) sc__law_flat.nd)) (fun _ _ _ _ _ => (dts_one (dw_dt (dw_and (dt_eq hr rfl (de_mod (de_var 4) (de_var 7)) de_int) (dw_and1 (dt_eq hr rfl (de_mod (de_var 5) (de_var 7)) de_int)))))) (fun _ _ _ _ _ => (de_var 7)))
 (dss_cons (ds_if (dw_dt (dw_or (dt_eq hr rfl (de_var 6) (dn_de (dn_lst da_nil))) (dw_or1 (dt_gt (de_len B.len (ha := (da_cons (de_var 0) da_nil))) de_int))))
 (dss_one (ds_ret (de_var 0)))
 dss_nil)
 (dss_cons (ds_set (i := 7) sc__law_flat.nd (de_add de_int (de_mod (de_div (de_var 1) de_int) (de_sub (de_ix rfl (de_var 6) (de_neg de_int)) de_int))))
 (dss_one (ds_ret (dn_de (dn_cat (dn_de (dn_cat (dn_de (dn_slice rfl (de_var 0) do_none (do_some (de_var 2)))) (dn_de (dn_lst (da_cons (de_tup (da_cons (de_add (de_ix rfl (de_var 3) de_int) (de_mul (de_div (de_var 4) (de_ix rfl (de_var 6) (de_neg de_int))) (de_var 7))) (da_cons (de_add (de_ix rfl (de_var 3) de_int) (de_mul (de_div (de_var 5) (de_ix rfl (de_var 6) (de_neg de_int))) (de_var 7))) da_nil))) da_nil))))) (dn_de (dn_slice rfl (de_var 0) (do_some (de_var 2)) do_none)))))))))))))
theorem ok__law_fence_by {f : Addr} {fd : FuncData} (Fn : Fun K "_law_fence_by" "_law_fence_by" s__law_fence_by f fd) (B : Blts mg) (h__law_rows_by : Has P w K mg base "_law_rows_by" 2 ["script", "first"] (spD K 2 g__law_rows_by)) (h__law_joined : Has P w K mg base "_law_joined" 1 ["lows", "highs", "tips"] (spD K 3 g__law_joined)) (h__law_cell_at : Has P w K mg base "_law_cell_at" 1 ["script", "k"] (spD K 2 g__law_cell_at)) (h__law_spiral : Has P w K mg base "_law_spiral" 1 ["cell"] (spD K 1 g__law_spiral)) (h__law_flat : Has P w K mg base "_law_flat" 1 ["corners", "cell"] (spD K 2 g__law_flat)) : FnOk P w K mg base CX0 3 f fd ["script", "first"] (spD K 2 g__law_fence_by) :=
  def_D (k := 2) (n := 2) (m := 8) (F := fb__law_fence_by) Fn sc__law_fence_by rfl rfl fun cdv A outer s H E hr =>
  (dss_cons (ds_set (i := 2) sc__law_fence_by.nd (de_user h__law_rows_by hr (da_cons (de_var 0) (da_cons (de_var 1) da_nil))))
 (dss_cons (ds_set (i := 3) sc__law_fence_by.nd (de_user h__law_joined hr (da_cons (de_ix rfl (de_var 2) de_int) (da_cons (de_ix rfl (de_var 2) de_int) (da_cons (de_ix rfl (de_var 2) de_int) da_nil)))))
 (dss_cons (ds_set (i := 4) sc__law_fence_by.nd (de_div (de_user h__law_cell_at hr (da_cons (de_var 0) (da_cons (de_var 1) da_nil))) de_int))
 (dss_cons (ds_if (dt_eq hr rfl (de_mod (de_div (de_var 4) de_int) de_int) de_int)
 (dss_one (ds_set (i := 3) sc__law_fence_by.nd (de_user h__law_spiral hr (da_cons (de_user h__law_cell_at hr (da_cons (de_var 0) (da_cons (de_add (de_var 1) de_int) da_nil))) da_nil))))
 dss_nil)
 (dss_cons (ds_if (dt_eq hr rfl (de_mod (de_div (de_var 4) de_int) de_int) de_int)
 (dss_one (ds_set (i := 3) sc__law_fence_by.nd (de_user h__law_flat hr (da_cons (de_var 3) (da_cons (de_user h__law_cell_at hr (da_cons (de_var 0) (da_cons (de_add (de_var 1) de_int) da_nil))) da_nil)))))
 dss_nil)
 (dss_cons (ds_set (i := 5) sc__law_fence_by.nd (de_mod (de_var 4) (de_len B.len (ha := (da_cons (de_var 3) da_nil)))))
 (dss_cons (ds_set (i := 3) sc__law_fence_by.nd (dn_de (dn_cat (dn_de (dn_slice rfl (de_var 3) (do_some (de_var 5)) do_none)) (dn_de (dn_slice rfl (de_var 3) do_none (do_some (de_var 5)))))))
 (dss_cons (ds_if (dt_eq hr rfl (de_mod (de_div (de_var 4) de_int) de_int) de_int)
 (dss_one (ds_set (i := 3) sc__law_fence_by.nd (dn_de (dn_listRev B.list B.reversed (de_var 3)))))
 dss_nil)
 (dss_cons (ds_if (dt_eq hr rfl (de_mod (de_div (de_var 4) de_int) de_int) de_int)
 (dss_one (ds_setLc (i := 3) [("x", 6), ("y", 7)] sc__law_fence_by.nd (di_list rfl (de_var 3)) (blkOk_by (N := nm__law_fence_by) (sc := (defScope s__law_fence_by)) (by decide +kernel)) (tgIn_tup (by decide)) (fun _ _ _ _ _ => (dg_tup (h := (dgs_cons (i := 6) sc__law_fence_by.nd (dgs_cons (i := 7) sc__law_fence_by.nd dgs_nil))))) (fun _ _ _ _ _ => dts_nil) (fun _ _ _ _ _ => (de_tup (da_cons (de_var 7) (da_cons (de_var 6) da_nil))))))
 dss_nil)
 (dss_one (ds_ret (de_var 3))))))))))))
theorem ok__law_turning_by {f : Addr} {fd : FuncData} (Fn : Fun K "_law_turning_by" "_law_turning_by" s__law_turning_by f fd) (B : Blts mg) (h__law_cell_at : Has P w K mg base "_law_cell_at" 1 ["script", "k"] (spD K 2 g__law_cell_at)) : FnOk P w K mg base CX0 2 f fd ["script", "first", "far"] (spD K 3 g__law_turning_by) :=
  def_D (k := 1) (n := 3) (m := 8) (F := fb__law_turning_by) Fn sc__law_turning_by rfl rfl fun cdv A outer s H E hr =>
  (dss_cons (ds_set (i := 3) sc__law_turning_by.nd (de_sub (de_mod (de_user h__law_cell_at hr (da_cons (de_var 0) (da_cons (de_var 1) da_nil))) (de_var 2)) (de_div (de_var 2) de_int)))
 (dss_cons (ds_set (i := 4) sc__law_turning_by.nd (de_sub (de_mod (de_user h__law_cell_at hr (da_cons (de_var 0) (da_cons (de_add (de_var 1) de_int) da_nil))) (de_var 2)) (de_div (de_var 2) de_int)))
 (dss_cons (ds_set (i := 5) sc__law_turning_by.nd (de_sub de_int (de_mul de_int (de_mod (de_user h__law_cell_at hr (da_cons (de_var 0) (da_cons (de_add (de_var 1) de_int) da_nil))) de_int))))
 (dss_cons (ds_set (i := 6) sc__law_turning_by.nd (de_sub (de_mod (de_user h__law_cell_at hr (da_cons (de_var 0) (da_cons (de_add (de_var 1) de_int) da_nil))) (de_pow de_int de_int)) (de_pow de_int de_int)))
 (dss_cons (ds_set (i := 7) sc__law_turning_by.nd (de_sub (de_mod (de_div (de_user h__law_cell_at hr (da_cons (de_var 0) (da_cons (de_add (de_var 1) de_int) da_nil))) de_int) (de_pow de_int de_int)) (de_pow de_int de_int)))
 (dss_one (ds_ret (de_tup (da_cons (de_add de_int (de_mul (de_var 3) (de_var 4))) (da_cons (de_var 3) (da_cons (de_mul (de_var 5) (de_var 4)) (da_cons (de_var 5) (da_cons (de_var 6) (da_cons (de_var 7) da_nil))))))))))))))
theorem ok__law_led {f : Addr} {fd : FuncData} (Fn : Fun K "_law_led" "_law_led" s__law_led f fd) (B : Blts mg) : FnOk P w K mg base CX0 1 f fd ["turning", "point"] (spD K 2 g__law_led) :=
  def_D (k := 0) (n := 2) (m := 8) (F := fb__law_led) Fn sc__law_led rfl rfl fun cdv A outer s H E hr =>
  (dss_cons (ds_asg (de_var 0) (dg_eith (h := (dgs_cons (i := 2) sc__law_led.nd (dgs_cons (i := 3) sc__law_led.nd (dgs_cons (i := 4) sc__law_led.nd (dgs_cons (i := 5) sc__law_led.nd (dgs_cons (i := 6) sc__law_led.nd (dgs_cons (i := 7) sc__law_led.nd dgs_nil)))))))))
 (dss_one (ds_ret (de_tup (da_cons (de_add (de_add (de_mul (de_var 2) (de_ix rfl (de_var 1) de_int)) (de_mul (de_var 3) (de_ix rfl (de_var 1) de_int))) (de_var 6)) (da_cons (de_add (de_add (de_mul (de_var 4) (de_ix rfl (de_var 1) de_int)) (de_mul (de_var 5) (de_ix rfl (de_var 1) de_int))) (de_var 7)) da_nil))))))
theorem ok__law_sum {f : Addr} {fd : FuncData} (Fn : Fun K "_law_sum" "_law_sum" s__law_sum f fd) (B : Blts mg) : FnOk P w K mg base CX0 1 f fd ["corners"] (spD K 1 g__law_sum) :=
  def_D (k := 0) (n := 1) (m := 5) (F := fb__law_sum) Fn sc__law_sum rfl rfl fun cdv A outer s H E hr =>
  (dss_cons (ds_set (i := 1) sc__law_sum.nd de_int)
 (dss_cons (ds_forR PassesOwn.never B.range (da_cons (de_len B.len (ha := (da_cons (de_var 0) da_nil))) da_nil) (dg_name (i := 2) sc__law_sum.nd)
 (dss_cons (ds_set (i := 3) sc__law_sum.nd (de_ix rfl (de_var 0) (de_sub (de_var 2) de_int)))
 (dss_cons (ds_set (i := 4) sc__law_sum.nd (de_ix rfl (de_var 0) (de_var 2)))
 (dss_one (ds_set (i := 1) sc__law_sum.nd (de_add (de_var 1) (de_mul (de_sub (de_ix rfl (de_var 3) de_int) (de_ix rfl (de_var 4) de_int)) (de_add (de_ix rfl (de_var 3) de_int) (de_ix rfl (de_var 4) de_int)))))))))
 (dss_one (ds_ret (de_var 1)))))
theorem ok__law_whole {f : Addr} {fd : FuncData} (Fn : Fun K "_law_whole" "_law_whole" s__law_whole f fd) (B : Blts mg) : FnOk P w K mg base CX0 1 f fd ["found"] (spD K 1 g__law_whole) :=
  def_D (k := 0) (n := 1) (m := 1) (F := fb__law_whole) Fn sc__law_whole rfl rfl fun cdv A outer s H E hr =>
  (dss_one (ds_ret (de_and (de_fB (de_isi (T := "int") B.isinstance B.int rfl (ha := (de_var 0)))) (de_one (de_not (de_fB (de_isi (T := "bool") B.isinstance B.bool rfl (ha := (de_var 0)))))))))
theorem ok__law_points_are {f : Addr} {fd : FuncData} (Fn : Fun K "_law_points_are" "_law_points_are" s__law_points_are f fd) (B : Blts mg) (h__law_whole : Has P w K mg base "_law_whole" 1 ["found"] (spD K 1 g__law_whole)) : FnOk P w K mg base CX0 2 f fd ["found", "due"] (spD K 2 g__law_points_are) :=
  def_D (k := 1) (n := 2) (m := 3) (F := fb__law_points_are) Fn sc__law_points_are rfl rfl fun cdv A outer s H E hr =>
  (dss_cons (ds_if (dw_dt (dw_or (dt_not (dt_val (de_isi (T := "list") B.isinstance B.list rfl (ha := (de_var 0))))) (dw_or1 (dt_ne hr rfl (de_len B.len (ha := (da_cons (de_var 0) da_nil))) (de_len B.len (ha := (da_cons (de_var 1) da_nil)))))))
 (dss_one (ds_ret de_bl))
 dss_nil)
 (dss_cons (ds_for PassesOwn.never (di_list rfl (de_var 0)) (dg_name (i := 2) sc__law_points_are.nd)
 (dss_one (ds_if (dw_dt (dw_or (dt_not (dt_val (de_isi (T := "tuple") B.isinstance B.tuple rfl (ha := (de_var 2))))) (dw_or (dt_ne hr rfl (de_len B.len (ha := (da_cons (de_var 2) da_nil))) de_int) (dw_or (dt_not (dt_val (de_user h__law_whole hr (da_cons (de_ix rfl (de_var 2) de_int) da_nil)))) (dw_or1 (dt_not (dt_val (de_user h__law_whole hr (da_cons (de_ix rfl (de_var 2) de_int) da_nil)))))))))
 (dss_one (ds_ret de_bl))
 dss_nil)))
 (dss_one (ds_ret (de_eq hr rfl (de_var 0) (de_var 1))))))
theorem ok__law_common {f : Addr} {fd : FuncData} (Fn : Fun K "_law_common" "_law_common" s__law_common f fd) (B : Blts mg) : FnOk P w K mg base CX0 1 f fd ["one", "other"] (spD K 2 g__law_common) :=
  def_D (k := 0) (n := 2) (m := 3) (F := fb__law_common) Fn sc__law_common rfl rfl fun cdv A outer s H E hr =>
  (dss_cons (ds_set (i := 0) sc__law_common.nd (de_abs B.abs (ha := (da_cons (de_var 0) da_nil))))
 (dss_cons (ds_set (i := 1) sc__law_common.nd (de_abs B.abs (ha := (da_cons (de_var 1) da_nil))))
 (dss_cons (ds_while fuD PassesOwn.never (dt_gt (de_var 1) de_int)
 (dss_cons (ds_set (i := 2) sc__law_common.nd (de_mod (de_var 0) (de_var 1)))
 (dss_cons (ds_set (i := 0) sc__law_common.nd (de_var 1))
 (dss_one (ds_set (i := 1) sc__law_common.nd (de_var 2))))))
 (dss_one (ds_ret (de_var 0))))))
theorem ok__law_steps {f : Addr} {fd : FuncData} (Fn : Fun K "_law_steps" "_law_steps" s__law_steps f fd) (B : Blts mg) (h__law_common : Has P w K mg base "_law_common" 1 ["one", "other"] (spD K 2 g__law_common)) : FnOk P w K mg base CX0 2 f fd ["corners"] (spD K 1 g__law_steps) :=
  def_D (k := 1) (n := 1) (m := 9) (F := fb__law_steps) Fn sc__law_steps rfl rfl fun cdv A outer s H E hr =>
  (dss_cons (ds_knew (i := 1) sc__law_steps.nd)
 (dss_cons (ds_forR PassesOwn.never B.range (da_cons (de_len B.len (ha := (da_cons (de_var 0) da_nil))) da_nil) (dg_name (i := 2) sc__law_steps.nd)
 (dss_cons (ds_set (i := 3) sc__law_steps.nd (de_ix rfl (de_var 0) (de_sub (de_var 2) de_int)))
 (dss_cons (ds_set (i := 4) sc__law_steps.nd (de_sub (de_ix rfl (de_ix rfl (de_var 0) (de_var 2)) de_int) (de_ix rfl (de_var 3) de_int)))
 (dss_cons (ds_set (i := 5) sc__law_steps.nd (de_sub (de_ix rfl (de_ix rfl (de_var 0) (de_var 2)) de_int) (de_ix rfl (de_var 3) de_int)))
 (dss_cons (ds_set (i := 6) sc__law_steps.nd (de_user h__law_common hr (da_cons (de_var 4) (da_cons (de_var 5) da_nil))))
 (dss_one (ds_forR PassesOwn.never B.range (da_cons (de_var 6) da_nil) (dg_name (i := 7) sc__law_steps.nd)
 (dss_cons (ds_set (i := 8) sc__law_steps.nd (de_tup (da_cons (de_add (de_ix rfl (de_var 3) de_int) (de_mul (de_div (de_var 4) (de_var 6)) (de_var 7))) (da_cons (de_add (de_ix rfl (de_var 3) de_int) (de_mul (de_div (de_var 5) (de_var 6)) (de_var 7))) da_nil))))
 (dss_one (ds_kput 1 hr (de_tup (da_cons (de_var 8) (da_cons (de_tup (da_cons (de_add (de_ix rfl (de_var 8) de_int) (de_div (de_var 4) (de_var 6))) (da_cons (de_add (de_ix rfl (de_var 8) de_int) (de_div (de_var 5) (de_var 6))) da_nil))) da_nil)))))))))))))
 (dss_one (ds_ret (de_var 1)))))
theorem ok__law_gone {f : Addr} {fd : FuncData} (Fn : Fun K "_law_gone" "_law_gone" s__law_gone f fd) (B : Blts mg) (h__law_cross : Has P w K mg base "_law_cross" 1 ["one", "other", "third"] (spD K 3 g__law_cross)) : FnOk P w K mg base CX0 2 f fd ["triangles"] (spD K 1 g__law_gone) :=
  def_D (k := 1) (n := 1) (m := 6) (F := fb__law_gone) Fn sc__law_gone rfl rfl fun cdv A outer s H E hr =>
  (dss_cons (ds_knew (i := 1) sc__law_gone.nd)
 (dss_cons (ds_for PassesOwn.never (di_list rfl (de_var 0)) (dg_name (i := 2) sc__law_gone.nd)
 (dss_cons (ds_set (i := 3) sc__law_gone.nd (dn_de (dn_listC B.list (ha := (da_cons (de_var 2) da_nil)))))
 (dss_cons (ds_if (dt_lt (de_user h__law_cross hr (da_cons (de_ix rfl (de_var 3) de_int) (da_cons (de_ix rfl (de_var 3) de_int) (da_cons (de_ix rfl (de_var 3) de_int) da_nil)))) de_int)
 (dss_one (ds_set (i := 3) sc__law_gone.nd (dn_de (dn_listRev B.list B.reversed (de_var 3)))))
 dss_nil)
 (dss_one (ds_forR PassesOwn.never B.range (da_cons de_int da_nil) (dg_name (i := 4) sc__law_gone.nd)
 (dss_cons (ds_set (i := 5) sc__law_gone.nd (de_tup (da_cons (de_ix rfl (de_var 3) (de_sub (de_var 4) de_int)) (da_cons (de_ix rfl (de_var 3) (de_var 4)) da_nil))))
 (dss_cons (ds_if (dt_kin hr rfl (de_var 5) (de_var 1))
 (dss_one (ds_ret de_non))
 dss_nil)
 (dss_one (ds_kput 1 hr (de_var 5))))))))))
 (dss_one (ds_ret (de_var 1)))))
theorem ok__law_fills {f : Addr} {fd : FuncData} (Fn : Fun K "_law_fills" "_law_fills" s__law_fills f fd) (B : Blts mg) (h__law_steps : Has P w K mg base "_law_steps" 2 ["corners"] (spD K 1 g__law_steps)) (h__law_gone : Has P w K mg base "_law_gone" 2 ["triangles"] (spD K 1 g__law_gone)) : FnOk P w K mg base CX0 3 f fd ["triangles", "corners"] (spD K 2 g__law_fills) :=
  def_D (k := 2) (n := 2) (m := 5) (F := fb__law_fills) Fn sc__law_fills rfl rfl fun cdv A outer s H E hr =>
  (dss_cons (ds_set (i := 2) sc__law_fills.nd (de_user h__law_steps hr (da_cons (de_var 1) da_nil)))
 (dss_cons (ds_set (i := 3) sc__law_fills.nd (de_user h__law_gone hr (da_cons (de_var 0) da_nil)))
 (dss_cons (ds_if (dt_isN (de_var 3))
 (dss_one (ds_ret de_bl))
 dss_nil)
 (dss_cons (ds_for PassesOwn.never (di_kd (de_var 3)) (dg_name (i := 4) sc__law_fills.nd)
 (dss_one (ds_if (dt_eq hr rfl (de_kin hr rfl (de_tup (da_cons (de_ix rfl (de_var 4) de_int) (da_cons (de_ix rfl (de_var 4) de_int) da_nil))) (de_var 3)) (de_kin hr rfl (de_var 4) (de_var 2)))
 (dss_one (ds_ret de_bl))
 dss_nil)))
 (dss_cons (ds_for PassesOwn.never (di_kd (de_var 2)) (dg_name (i := 4) sc__law_fills.nd)
 (dss_one (ds_if (dt_knotin hr rfl (de_var 4) (de_var 3))
 (dss_one (ds_ret de_bl))
 dss_nil)))
 (dss_one (ds_ret de_bl)))))))
theorem ok__law_refused {f : Addr} {fd : FuncData} (Fn : Fun K "_law_refused" "_law_refused" s__law_refused f fd) (B : Blts mg) (h_least_triangles : Has P w K mg base "least_triangles" 6 ["corners"] (spD K 1 g_least_triangles)) {CF CN CT CW : Addr} (XE : ErrT K mg CF CN CT CW) (hR_least_triangles : HasR P w K mg base "least_triangles" 6 ["corners"] (spR K 1 r_least_triangles CW)) : FnOk P w K mg base CX0 7 f fd ["corners"] (spD K 1 g__law_refused) :=
  def_D (k := 6) (n := 1) (m := 3) (F := fb__law_refused) Fn sc__law_refused rfl rfl fun cdv A outer s H E hr =>
  (dss_cons (ds_set (i := 1) sc__law_refused.nd de_str)
 (dss_cons (ds_tryR (C := CW) (CF := CF) (i := 2) sc__law_refused.nd XE.xF.gC XE.WF (fun W pn xe tk _ => (drs_head (dr_expr (dre_user hR_least_triangles tk hr (da_cons (de_var 0) da_nil)))))
 (fun a oe pn hc hd hf => dssE_one (dsE_if (dwE_dt (dwE_and (dtE_isi XE.xW (List.mem_cons_self ..) hc hd hf B.isinstance (pe_bltn (v := .ty "ValueError") rfl XE.nV (by decide +kernel) rfl) (.ty _) XE.kWV) (dwE_and (dtE_isi XE.xW (List.mem_cons_self ..) hc hd hf B.isinstance (pe_glob (v := .ref CW) rfl XE.xW.gC rfl) (.own _) XE.kWW) (dwE_and1 (dtE_not (dtE_isi2 XE.xW (List.mem_cons_self ..) hc hd hf B.isinstance (pe_glob (v := .ref CN) rfl XE.xN.gC rfl) (pe_glob (v := .ref CT) rfl XE.xT.gC rfl) (kit_any2 XE.kWN XE.kWT)))))))
 (dss_one (ds_set (i := 1) sc__law_refused.nd de_str))
 dss_nil)))
 (dss_one (ds_ret (de_eq hr rfl (de_var 1) de_str)))))
theorem ok_law {f : Addr} {fd : FuncData} (Fn : Fun K "law" "law" s_law f fd) (B : Blts mg) (h__law_fence_by : Has P w K mg base "_law_fence_by" 3 ["script", "first"] (spD K 2 g__law_fence_by)) (h__law_cell_at : Has P w K mg base "_law_cell_at" 1 ["script", "k"] (spD K 2 g__law_cell_at)) (h__law_turning_by : Has P w K mg base "_law_turning_by" 2 ["script", "first", "far"] (spD K 3 g__law_turning_by)) (h__law_led : Has P w K mg base "_law_led" 1 ["turning", "point"] (spD K 2 g__law_led)) (h__law_sum : Has P w K mg base "_law_sum" 1 ["corners"] (spD K 1 g__law_sum)) (h__law_refused : Has P w K mg base "_law_refused" 7 ["corners"] (spD K 1 g__law_refused)) (h_least_triangles : Has P w K mg base "least_triangles" 6 ["corners"] (spD K 1 g_least_triangles)) (h__law_points_are : Has P w K mg base "_law_points_are" 2 ["found", "due"] (spD K 2 g__law_points_are)) (h__law_cross : Has P w K mg base "_law_cross" 1 ["one", "other", "third"] (spD K 3 g__law_cross)) (h__law_fills : Has P w K mg base "_law_fills" 3 ["triangles", "corners"] (spD K 2 g__law_fills)) : FnOk P w K mg base CX0 8 f fd ["script"] (spD K 1 g_law) :=
  def_D (k := 7) (n := 1) (m := 9) (F := fb_law) Fn sc_law rfl rfl fun cdv A outer s H E hr =>
  (dss_cons (ds_set (i := 1) sc_law.nd (de_user h__law_fence_by hr (da_cons (de_var 0) (da_cons de_int da_nil))))
 (dss_cons (ds_if (dt_eq hr rfl (de_mod (de_div (de_user h__law_cell_at hr (da_cons (de_var 0) (da_cons de_int da_nil))) de_int) de_int) de_int)
 (dss_cons (ds_set (i := 2) sc_law.nd (de_ix rfl (dn_de (dn_lst (da_cons (de_tup (da_cons de_int (da_cons de_int da_nil))) (da_cons (de_tup (da_cons de_int (da_cons de_int da_nil))) (da_cons (de_tup (da_cons de_int (da_cons de_int da_nil))) (da_cons (de_tup (da_cons de_int (da_cons de_int da_nil))) (da_cons (de_tup (da_cons de_int (da_cons de_int da_nil))) (da_cons (de_tup (da_cons de_int (da_cons de_int da_nil))) (da_cons (de_tup (da_cons de_int (da_cons de_int da_nil))) (da_cons (de_tup (da_cons de_int (da_cons de_int da_nil))) da_nil)))))))))) (de_mod (de_user h__law_cell_at hr (da_cons (de_var 0) (da_cons de_int da_nil))) de_int)))
 (dss_one (ds_set (i := 1) sc_law.nd (dn_de (dn_lst (da_cons (de_tup (da_cons de_int (da_cons de_int da_nil))) (da_cons (de_tup (da_cons (de_ix rfl (de_var 2) de_int) (da_cons de_int da_nil))) (da_cons (de_tup (da_cons de_int (da_cons (de_ix rfl (de_var 2) de_int) da_nil))) da_nil))))))))
 dss_nil)
 (dss_cons (ds_if (dt_eq hr rfl (de_mod (de_user h__law_cell_at hr (da_cons (de_var 0) (da_cons de_int da_nil))) de_int) de_int)
 (dss_cons (ds_set (i := 3) sc_law.nd (de_user h__law_turning_by hr (da_cons (de_var 0) (da_cons de_int (da_cons (de_pow de_int de_int) da_nil)))))
 (dss_one (ds_setLc (i := 1) [("point", 8)] sc_law.nd (di_list rfl (de_var 1)) (blkOk_by (N := nm_law) (sc := (defScope s_law)) (by decide +kernel)) (tgIn_name (by decide)) (fun _ _ _ _ _ => (dg_name (i := 8) sc_law.nd)) (fun _ _ _ _ _ => dts_nil) (fun _ _ _ _ _ => (de_user h__law_led hr (da_cons (de_var 3) (da_cons (de_var 8) da_nil)))))))
 dss_nil)
 (dss_cons (ds_set (i := 4) sc_law.nd (de_user h__law_sum hr (da_cons (de_var 1) da_nil)))
 (dss_cons (ds_set (i := 5) sc_law.nd (dn_de (dn_listC B.list (ha := (da_cons (de_var 1) da_nil)))))
 (dss_cons (ds_if (dt_gt (de_abs B.abs (ha := (da_cons (de_var 4) da_nil))) de_int)
 (dss_one (ds_ret (de_and (de_fB (de_user h__law_refused hr (da_cons (de_var 5) da_nil))) (de_one (de_fB (de_eq hr rfl (de_var 5) (de_var 1)))))))
 dss_nil)
 (dss_cons (ds_set (i := 6) sc_law.nd (de_user h_least_triangles hr (da_cons (de_var 5) da_nil)))
 (dss_cons (ds_if (dw_dt (dw_or (dt_not (dt_val (de_isi (T := "list") B.isinstance B.list rfl (ha := (de_var 6))))) (dw_or (dt_ne hr rfl (de_len B.len (ha := (da_cons (de_var 6) da_nil))) (de_abs B.abs (ha := (da_cons (de_var 4) da_nil)))) (dw_or1 (dt_ne hr rfl (de_var 5) (de_var 1))))))
 (dss_one (ds_ret de_bl))
 dss_nil)
 (dss_cons (ds_for PassesOwn.never (di_list rfl (de_var 6)) (dg_name (i := 7) sc_law.nd)
 (dss_cons (ds_if (dw_dt (dw_or (dt_not (dt_val (de_isi (T := "list") B.isinstance B.list rfl (ha := (de_var 7))))) (dw_or (dt_ne hr rfl (de_len B.len (ha := (da_cons (de_var 7) da_nil))) de_int) (dw_or1 (dt_not (dt_val (de_user h__law_points_are hr (da_cons (de_var 7) (da_cons (de_var 7) da_nil)))))))))
 (dss_one (ds_ret de_bl))
 dss_nil)
 (dss_one (ds_if (dt_ne hr rfl (de_abs B.abs (ha := (da_cons (de_user h__law_cross hr (da_cons (de_ix rfl (de_var 7) de_int) (da_cons (de_ix rfl (de_var 7) de_int) (da_cons (de_ix rfl (de_var 7) de_int) da_nil)))) da_nil))) de_int)
 (dss_one (ds_ret de_bl))
 dss_nil))))
 (dss_cons (ds_if (dt_lt (de_var 4) de_int)
 (dss_one (ds_set (i := 1) sc_law.nd (dn_de (dn_listRev B.list B.reversed (de_var 1)))))
 dss_nil)
 (dss_one (ds_ret (de_user h__law_fills hr (da_cons (de_var 6) (da_cons (de_var 1) da_nil)))))))))))))))
end
theorem all_mk {l : PySem.W.OpenLaw} {w : World} {K : PySem.W.Frag} {h : Heap} {mg : Str → Option Value} {fa : Addr} (X : K.In h) (G : h.Ns mainGlobals mg) (hfa : mg "law" = some (.ref fa))
    {f1 f2 f3 f4 f5 f6 f7 f8 f9 f10 f11 f12 f13 f14 f15 f16 f17 f18 f19 f20 f21 f22 f23 f24 f25 f26 f27 f28 f29 f30 f31 f32 f33 f34 : Addr}
    {od1 an1 od2 an2 od3 an3 od4 an4 od5 an5 od6 an6 od7 an7 od8 an8 od9 an9 od10 an10 od11 an11 od12 an12 od13 an13 od14 an14 od15 an15 od16 an16 od17 an17 od18 an18 od19 an19 od20 an20 od21 an21 od22 an22 od23 an23 od24 an24 od25 an25 od26 an26 od27 an27 od28 an28 od29 an29 od30 an30 od31 an31 od32 an32 od33 an33 od34 an34 : Option Addr} {sl1 sl2 sl3 sl4 sl5 sl6 sl7 sl8 sl9 sl10 sl11 sl12 sl13 sl14 sl15 sl16 sl17 sl18 sl19 sl20 sl21 sl22 sl23 sl24 sl25 sl26 sl27 sl28 sl29 sl30 sl31 sl32 sl33 sl34 : Array (Option Value)} {oc1 kV1 dc1 pm1 cd1 ct1 oc2 kV2 dc2 pm2 cd2 ct2 oc3 kV3 dc3 pm3 cd3 ct3 oc4 kV4 dc4 pm4 cd4 ct4 oc5 kV5 dc5 pm5 cd5 ct5 oc6 kV6 dc6 pm6 cd6 ct6 oc7 kV7 dc7 pm7 cd7 ct7 oc8 kV8 dc8 pm8 cd8 ct8 oc9 kV9 dc9 pm9 cd9 ct9 oc10 kV10 dc10 pm10 cd10 ct10 oc11 kV11 dc11 pm11 cd11 ct11 oc12 kV12 dc12 pm12 cd12 ct12 oc13 kV13 dc13 pm13 cd13 ct13 oc14 kV14 dc14 pm14 cd14 ct14 oc15 kV15 dc15 pm15 cd15 ct15 oc16 kV16 dc16 pm16 cd16 ct16 oc17 kV17 dc17 pm17 cd17 ct17 oc18 kV18 dc18 pm18 cd18 ct18 oc19 kV19 dc19 pm19 cd19 ct19 oc20 kV20 dc20 pm20 cd20 ct20 oc21 kV21 dc21 pm21 cd21 ct21 oc22 kV22 dc22 pm22 cd22 ct22 oc23 kV23 dc23 pm23 cd23 ct23 oc24 kV24 dc24 pm24 cd24 ct24 oc25 kV25 dc25 pm25 cd25 ct25 oc26 kV26 dc26 pm26 cd26 ct26 oc27 kV27 dc27 pm27 cd27 ct27 oc28 kV28 dc28 pm28 cd28 ct28 oc29 kV29 dc29 pm29 cd29 ct29 oc30 kV30 dc30 pm30 cd30 ct30 oc31 kV31 dc31 pm31 cd31 ct31 oc32 kV32 dc32 pm32 cd32 ct32 oc33 kV33 dc33 pm33 cd33 ct33 oc34 kV34 dc34 pm34 cd34 ct34 : Value}
    {tk_MOST_CORNERS : Tok} (c_MOST_CORNERS : PySem.W.nsIn K mainGlobals "MOST_CORNERS" = some (some (.int 12 tk_MOST_CORNERS)))
    {tk_MOST : Tok} (c_MOST : PySem.W.nsIn K mainGlobals "MOST" = some (some (.int 60 tk_MOST)))
    (a1 : PySem.W.nsIn K mainGlobals "cross" = some (some (.ref f1))) (l1 : K.lookup f1 = some ⟨oc1, od1, .func (PySem.W.fnOf "cross" "cross" (defArgs s_cross) (defBody s_cross) (defScope s_cross) .none kV1 dc1 pm1 an1 cd1 ct1), sl1⟩) (k1 : PySem.W.codeIn K cd1 "cross" = true) (q1 : PySem.W.keepIn K (.ref f1) = true)
    (a2 : PySem.W.nsIn K mainGlobals "side_of" = some (some (.ref f2))) (l2 : K.lookup f2 = some ⟨oc2, od2, .func (PySem.W.fnOf "side_of" "side_of" (defArgs s_side_of) (defBody s_side_of) (defScope s_side_of) .none kV2 dc2 pm2 an2 cd2 ct2), sl2⟩) (k2 : PySem.W.codeIn K cd2 "side_of" = true) (q2 : PySem.W.keepIn K (.ref f2) = true)
    (a3 : PySem.W.nsIn K mainGlobals "on_side" = some (some (.ref f3))) (l3 : K.lookup f3 = some ⟨oc3, od3, .func (PySem.W.fnOf "on_side" "on_side" (defArgs s_on_side) (defBody s_on_side) (defScope s_on_side) .none kV3 dc3 pm3 an3 cd3 ct3), sl3⟩) (k3 : PySem.W.codeIn K cd3 "on_side" = true) (q3 : PySem.W.keepIn K (.ref f3) = true)
    (a4 : PySem.W.nsIn K mainGlobals "meet" = some (some (.ref f4))) (l4 : K.lookup f4 = some ⟨oc4, od4, .func (PySem.W.fnOf "meet" "meet" (defArgs s_meet) (defBody s_meet) (defScope s_meet) .none kV4 dc4 pm4 an4 cd4 ct4), sl4⟩) (k4 : PySem.W.codeIn K cd4 "meet" = true) (q4 : PySem.W.keepIn K (.ref f4) = true)
    (a5 : PySem.W.nsIn K mainGlobals "sides" = some (some (.ref f5))) (l5 : K.lookup f5 = some ⟨oc5, od5, .func (PySem.W.fnOf "sides" "sides" (defArgs s_sides) (defBody s_sides) (defScope s_sides) .none kV5 dc5 pm5 an5 cd5 ct5), sl5⟩) (k5 : PySem.W.codeIn K cd5 "sides" = true) (q5 : PySem.W.keepIn K (.ref f5) = true)
    (a6 : PySem.W.nsIn K mainGlobals "folds_back" = some (some (.ref f6))) (l6 : K.lookup f6 = some ⟨oc6, od6, .func (PySem.W.fnOf "folds_back" "folds_back" (defArgs s_folds_back) (defBody s_folds_back) (defScope s_folds_back) .none kV6 dc6 pm6 an6 cd6 ct6), sl6⟩) (k6 : PySem.W.codeIn K cd6 "folds_back" = true) (q6 : PySem.W.keepIn K (.ref f6) = true)
    (a7 : PySem.W.nsIn K mainGlobals "is_fence" = some (some (.ref f7))) (l7 : K.lookup f7 = some ⟨oc7, od7, .func (PySem.W.fnOf "is_fence" "is_fence" (defArgs s_is_fence) (defBody s_is_fence) (defScope s_is_fence) .none kV7 dc7 pm7 an7 cd7 ct7), sl7⟩) (k7 : PySem.W.codeIn K cd7 "is_fence" = true) (q7 : PySem.W.keepIn K (.ref f7) = true)
    (a8 : PySem.W.nsIn K mainGlobals "asked" = some (some (.ref f8))) (l8 : K.lookup f8 = some ⟨oc8, od8, .func (PySem.W.fnOf "asked" "asked" (defArgs s_asked) (defBody s_asked) (defScope s_asked) .none kV8 dc8 pm8 an8 cd8 ct8), sl8⟩) (k8 : PySem.W.codeIn K cd8 "asked" = true) (q8 : PySem.W.keepIn K (.ref f8) = true)
    (a9 : PySem.W.nsIn K mainGlobals "turn_sum" = some (some (.ref f9))) (l9 : K.lookup f9 = some ⟨oc9, od9, .func (PySem.W.fnOf "turn_sum" "turn_sum" (defArgs s_turn_sum) (defBody s_turn_sum) (defScope s_turn_sum) .none kV9 dc9 pm9 an9 cd9 ct9), sl9⟩) (k9 : PySem.W.codeIn K cd9 "turn_sum" = true) (q9 : PySem.W.keepIn K (.ref f9) = true)
    (a10 : PySem.W.nsIn K mainGlobals "common" = some (some (.ref f10))) (l10 : K.lookup f10 = some ⟨oc10, od10, .func (PySem.W.fnOf "common" "common" (defArgs s_common) (defBody s_common) (defScope s_common) .none kV10 dc10 pm10 an10 cd10 ct10), sl10⟩) (k10 : PySem.W.codeIn K cd10 "common" = true) (q10 : PySem.W.keepIn K (.ref f10) = true)
    (a11 : PySem.W.nsIn K mainGlobals "is_ear" = some (some (.ref f11))) (l11 : K.lookup f11 = some ⟨oc11, od11, .func (PySem.W.fnOf "is_ear" "is_ear" (defArgs s_is_ear) (defBody s_is_ear) (defScope s_is_ear) .none kV11 dc11 pm11 an11 cd11 ct11), sl11⟩) (k11 : PySem.W.codeIn K cd11 "is_ear" = true) (q11 : PySem.W.keepIn K (.ref f11) = true)
    (a12 : PySem.W.nsIn K mainGlobals "ears" = some (some (.ref f12))) (l12 : K.lookup f12 = some ⟨oc12, od12, .func (PySem.W.fnOf "ears" "ears" (defArgs s_ears) (defBody s_ears) (defScope s_ears) .none kV12 dc12 pm12 an12 cd12 ct12), sl12⟩) (k12 : PySem.W.codeIn K cd12 "ears" = true) (q12 : PySem.W.keepIn K (.ref f12) = true)
    (a13 : PySem.W.nsIn K mainGlobals "shares_of" = some (some (.ref f13))) (l13 : K.lookup f13 = some ⟨oc13, od13, .func (PySem.W.fnOf "shares_of" "shares_of" (defArgs s_shares_of) (defBody s_shares_of) (defScope s_shares_of) .none kV13 dc13 pm13 an13 cd13 ct13), sl13⟩) (k13 : PySem.W.codeIn K cd13 "shares_of" = true) (q13 : PySem.W.keepIn K (.ref f13) = true)
    (a14 : PySem.W.nsIn K mainGlobals "point_of" = some (some (.ref f14))) (l14 : K.lookup f14 = some ⟨oc14, od14, .func (PySem.W.fnOf "point_of" "point_of" (defArgs s_point_of) (defBody s_point_of) (defScope s_point_of) .none kV14 dc14 pm14 an14 cd14 ct14), sl14⟩) (k14 : PySem.W.codeIn K cd14 "point_of" = true) (q14 : PySem.W.keepIn K (.ref f14) = true)
    (a15 : PySem.W.nsIn K mainGlobals "least_triangles" = some (some (.ref f15))) (l15 : K.lookup f15 = some ⟨oc15, od15, .func (PySem.W.fnOf "least_triangles" "least_triangles" (defArgs s_least_triangles) (defBody s_least_triangles) (defScope s_least_triangles) .none kV15 dc15 pm15 an15 cd15 ct15), sl15⟩) (k15 : PySem.W.codeIn K cd15 "least_triangles" = true) (q15 : PySem.W.keepIn K (.ref f15) = true)
    (a16 : PySem.W.nsIn K mainGlobals "_law_cell_at" = some (some (.ref f16))) (l16 : K.lookup f16 = some ⟨oc16, od16, .func (PySem.W.fnOf "_law_cell_at" "_law_cell_at" (defArgs s__law_cell_at) (defBody s__law_cell_at) (defScope s__law_cell_at) .none kV16 dc16 pm16 an16 cd16 ct16), sl16⟩) (k16 : PySem.W.codeIn K cd16 "_law_cell_at" = true) (q16 : PySem.W.keepIn K (.ref f16) = true)
    (a17 : PySem.W.nsIn K mainGlobals "_law_draw" = some (some (.ref f17))) (l17 : K.lookup f17 = some ⟨oc17, od17, .func (PySem.W.fnOf "_law_draw" "_law_draw" (defArgs s__law_draw) (defBody s__law_draw) (defScope s__law_draw) .none kV17 dc17 pm17 an17 cd17 ct17), sl17⟩) (k17 : PySem.W.codeIn K cd17 "_law_draw" = true) (q17 : PySem.W.keepIn K (.ref f17) = true)
    (a18 : PySem.W.nsIn K mainGlobals "_law_cross" = some (some (.ref f18))) (l18 : K.lookup f18 = some ⟨oc18, od18, .func (PySem.W.fnOf "_law_cross" "_law_cross" (defArgs s__law_cross) (defBody s__law_cross) (defScope s__law_cross) .none kV18 dc18 pm18 an18 cd18 ct18), sl18⟩) (k18 : PySem.W.codeIn K cd18 "_law_cross" = true) (q18 : PySem.W.keepIn K (.ref f18) = true)
    (a19 : PySem.W.nsIn K mainGlobals "_law_rows_by" = some (some (.ref f19))) (l19 : K.lookup f19 = some ⟨oc19, od19, .func (PySem.W.fnOf "_law_rows_by" "_law_rows_by" (defArgs s__law_rows_by) (defBody s__law_rows_by) (defScope s__law_rows_by) .none kV19 dc19 pm19 an19 cd19 ct19), sl19⟩) (k19 : PySem.W.codeIn K cd19 "_law_rows_by" = true) (q19 : PySem.W.keepIn K (.ref f19) = true)
    (a20 : PySem.W.nsIn K mainGlobals "_law_joined" = some (some (.ref f20))) (l20 : K.lookup f20 = some ⟨oc20, od20, .func (PySem.W.fnOf "_law_joined" "_law_joined" (defArgs s__law_joined) (defBody s__law_joined) (defScope s__law_joined) .none kV20 dc20 pm20 an20 cd20 ct20), sl20⟩) (k20 : PySem.W.codeIn K cd20 "_law_joined" = true) (q20 : PySem.W.keepIn K (.ref f20) = true)
    (a21 : PySem.W.nsIn K mainGlobals "_law_spiral" = some (some (.ref f21))) (l21 : K.lookup f21 = some ⟨oc21, od21, .func (PySem.W.fnOf "_law_spiral" "_law_spiral" (defArgs s__law_spiral) (defBody s__law_spiral) (defScope s__law_spiral) .none kV21 dc21 pm21 an21 cd21 ct21), sl21⟩) (k21 : PySem.W.codeIn K cd21 "_law_spiral" = true) (q21 : PySem.W.keepIn K (.ref f21) = true)
    (a22 : PySem.W.nsIn K mainGlobals "_law_flat" = some (some (.ref f22))) (l22 : K.lookup f22 = some ⟨oc22, od22, .func (PySem.W.fnOf "_law_flat" "_law_flat" (defArgs s__law_flat) (defBody s__law_flat) (defScope s__law_flat) .none kV22 dc22 pm22 an22 cd22 ct22), sl22⟩) (k22 : PySem.W.codeIn K cd22 "_law_flat" = true) (q22 : PySem.W.keepIn K (.ref f22) = true)
    (a23 : PySem.W.nsIn K mainGlobals "_law_fence_by" = some (some (.ref f23))) (l23 : K.lookup f23 = some ⟨oc23, od23, .func (PySem.W.fnOf "_law_fence_by" "_law_fence_by" (defArgs s__law_fence_by) (defBody s__law_fence_by) (defScope s__law_fence_by) .none kV23 dc23 pm23 an23 cd23 ct23), sl23⟩) (k23 : PySem.W.codeIn K cd23 "_law_fence_by" = true) (q23 : PySem.W.keepIn K (.ref f23) = true)
    (a24 : PySem.W.nsIn K mainGlobals "_law_turning_by" = some (some (.ref f24))) (l24 : K.lookup f24 = some ⟨oc24, od24, .func (PySem.W.fnOf "_law_turning_by" "_law_turning_by" (defArgs s__law_turning_by) (defBody s__law_turning_by) (defScope s__law_turning_by) .none kV24 dc24 pm24 an24 cd24 ct24), sl24⟩) (k24 : PySem.W.codeIn K cd24 "_law_turning_by" = true) (q24 : PySem.W.keepIn K (.ref f24) = true)
    (a25 : PySem.W.nsIn K mainGlobals "_law_led" = some (some (.ref f25))) (l25 : K.lookup f25 = some ⟨oc25, od25, .func (PySem.W.fnOf "_law_led" "_law_led" (defArgs s__law_led) (defBody s__law_led) (defScope s__law_led) .none kV25 dc25 pm25 an25 cd25 ct25), sl25⟩) (k25 : PySem.W.codeIn K cd25 "_law_led" = true) (q25 : PySem.W.keepIn K (.ref f25) = true)
    (a26 : PySem.W.nsIn K mainGlobals "_law_sum" = some (some (.ref f26))) (l26 : K.lookup f26 = some ⟨oc26, od26, .func (PySem.W.fnOf "_law_sum" "_law_sum" (defArgs s__law_sum) (defBody s__law_sum) (defScope s__law_sum) .none kV26 dc26 pm26 an26 cd26 ct26), sl26⟩) (k26 : PySem.W.codeIn K cd26 "_law_sum" = true) (q26 : PySem.W.keepIn K (.ref f26) = true)
    (a27 : PySem.W.nsIn K mainGlobals "_law_whole" = some (some (.ref f27))) (l27 : K.lookup f27 = some ⟨oc27, od27, .func (PySem.W.fnOf "_law_whole" "_law_whole" (defArgs s__law_whole) (defBody s__law_whole) (defScope s__law_whole) .none kV27 dc27 pm27 an27 cd27 ct27), sl27⟩) (k27 : PySem.W.codeIn K cd27 "_law_whole" = true) (q27 : PySem.W.keepIn K (.ref f27) = true)
    (a28 : PySem.W.nsIn K mainGlobals "_law_points_are" = some (some (.ref f28))) (l28 : K.lookup f28 = some ⟨oc28, od28, .func (PySem.W.fnOf "_law_points_are" "_law_points_are" (defArgs s__law_points_are) (defBody s__law_points_are) (defScope s__law_points_are) .none kV28 dc28 pm28 an28 cd28 ct28), sl28⟩) (k28 : PySem.W.codeIn K cd28 "_law_points_are" = true) (q28 : PySem.W.keepIn K (.ref f28) = true)
    (a29 : PySem.W.nsIn K mainGlobals "_law_common" = some (some (.ref f29))) (l29 : K.lookup f29 = some ⟨oc29, od29, .func (PySem.W.fnOf "_law_common" "_law_common" (defArgs s__law_common) (defBody s__law_common) (defScope s__law_common) .none kV29 dc29 pm29 an29 cd29 ct29), sl29⟩) (k29 : PySem.W.codeIn K cd29 "_law_common" = true) (q29 : PySem.W.keepIn K (.ref f29) = true)
    (a30 : PySem.W.nsIn K mainGlobals "_law_steps" = some (some (.ref f30))) (l30 : K.lookup f30 = some ⟨oc30, od30, .func (PySem.W.fnOf "_law_steps" "_law_steps" (defArgs s__law_steps) (defBody s__law_steps) (defScope s__law_steps) .none kV30 dc30 pm30 an30 cd30 ct30), sl30⟩) (k30 : PySem.W.codeIn K cd30 "_law_steps" = true) (q30 : PySem.W.keepIn K (.ref f30) = true)
    (a31 : PySem.W.nsIn K mainGlobals "_law_gone" = some (some (.ref f31))) (l31 : K.lookup f31 = some ⟨oc31, od31, .func (PySem.W.fnOf "_law_gone" "_law_gone" (defArgs s__law_gone) (defBody s__law_gone) (defScope s__law_gone) .none kV31 dc31 pm31 an31 cd31 ct31), sl31⟩) (k31 : PySem.W.codeIn K cd31 "_law_gone" = true) (q31 : PySem.W.keepIn K (.ref f31) = true)
    (a32 : PySem.W.nsIn K mainGlobals "_law_fills" = some (some (.ref f32))) (l32 : K.lookup f32 = some ⟨oc32, od32, .func (PySem.W.fnOf "_law_fills" "_law_fills" (defArgs s__law_fills) (defBody s__law_fills) (defScope s__law_fills) .none kV32 dc32 pm32 an32 cd32 ct32), sl32⟩) (k32 : PySem.W.codeIn K cd32 "_law_fills" = true) (q32 : PySem.W.keepIn K (.ref f32) = true)
    (a33 : PySem.W.nsIn K mainGlobals "_law_refused" = some (some (.ref f33))) (l33 : K.lookup f33 = some ⟨oc33, od33, .func (PySem.W.fnOf "_law_refused" "_law_refused" (defArgs s__law_refused) (defBody s__law_refused) (defScope s__law_refused) .none kV33 dc33 pm33 an33 cd33 ct33), sl33⟩) (k33 : PySem.W.codeIn K cd33 "_law_refused" = true) (q33 : PySem.W.keepIn K (.ref f33) = true)
    (a34 : PySem.W.nsIn K mainGlobals "law" = some (some (.ref f34))) (l34 : K.lookup f34 = some ⟨oc34, od34, .func (PySem.W.fnOf "law" "law" (defArgs s_law) (defBody s_law) (defScope s_law) .none kV34 dc34 pm34 an34 cd34 ct34), sl34⟩) (k34 : PySem.W.codeIn K cd34 "law" = true) (q34 : PySem.W.keepIn K (.ref f34) = true)
    (z_len : PySem.W.nsIn K mainGlobals "len" = some none)
    (z_abs : PySem.W.nsIn K mainGlobals "abs" = some none)
    (z_max : PySem.W.nsIn K mainGlobals "max" = some none)
    (z_min : PySem.W.nsIn K mainGlobals "min" = some none)
    (z_sum : PySem.W.nsIn K mainGlobals "sum" = some none)
    (z_int : PySem.W.nsIn K mainGlobals "int" = some none)
    (z_bool : PySem.W.nsIn K mainGlobals "bool" = some none)
    (z_str : PySem.W.nsIn K mainGlobals "str" = some none)
    (z_list : PySem.W.nsIn K mainGlobals "list" = some none)
    (z_tuple : PySem.W.nsIn K mainGlobals "tuple" = some none)
    (z_range : PySem.W.nsIn K mainGlobals "range" = some none)
    (z_isinstance : PySem.W.nsIn K mainGlobals "isinstance" = some none)
    (z_all : PySem.W.nsIn K mainGlobals "all" = some none)
    (z_sorted : PySem.W.nsIn K mainGlobals "sorted" = some none)
    (z_set : PySem.W.nsIn K mainGlobals "set" = some none)
    (z_reversed : PySem.W.nsIn K mainGlobals "reversed" = some none)
    {CF CN CT CW : Addr}
    (cc_aF : PySem.W.nsIn K mainGlobals "FenceError" = some (some (.ref CF)))
    (cc_aN : PySem.W.nsIn K mainGlobals "NoFence" = some (some (.ref CN)))
    (cc_aT : PySem.W.nsIn K mainGlobals "NoTurning" = some (some (.ref CT)))
    (cc_aW : PySem.W.nsIn K mainGlobals "TooWide" = some (some (.ref CW)))
    (cc_zV : PySem.W.nsIn K mainGlobals "ValueError" = some none)
    (cc_xF : PySem.W.excIn K CF [.type "ValueError", .type "Exception", .type "BaseException", .type "object"] "ValueError.__new__" = true)
    (cc_kF : PySem.W.keepIn K (.ref CF) = true)
    (cc_bF : PySem.W.subIn K (.ref CF) (.type "BaseException") = some true)
    (cc_tF : PySem.W.typeIn K (.ref CF) = some (.type "type"))
    (cc_iF : PySem.W.isClsIn K CF = true)
    (cc_gaF : PySem.W.findIn K (.ref CF) "__getattribute__" = some (some (.builtin "BaseException.__getattribute__")))
    (cc_ggF : PySem.W.findIn K (.ref CF) "__getattr__" = some none)
    (cc_clF : PySem.W.findIn K (.ref CF) "__class__" = some (some (.builtin "object.__class__")))
    (cc_obF : PySem.W.mroIn K CF (.type "object") = some true)
    (cc_vF : PySem.W.subIn K (.ref CF) (.type "ValueError") = some true)
    (cc_sFF : PySem.W.subIn K (.ref CF) (.ref CF) = some true)
    (cc_xN : PySem.W.excIn K CN [.type "ValueError", .type "Exception", .type "BaseException", .type "object"] "ValueError.__new__" = true)
    (cc_kN : PySem.W.keepIn K (.ref CN) = true)
    (cc_bN : PySem.W.subIn K (.ref CN) (.type "BaseException") = some true)
    (cc_tN : PySem.W.typeIn K (.ref CN) = some (.type "type"))
    (cc_iN : PySem.W.isClsIn K CN = true)
    (cc_gaN : PySem.W.findIn K (.ref CN) "__getattribute__" = some (some (.builtin "BaseException.__getattribute__")))
    (cc_ggN : PySem.W.findIn K (.ref CN) "__getattr__" = some none)
    (cc_clN : PySem.W.findIn K (.ref CN) "__class__" = some (some (.builtin "object.__class__")))
    (cc_obN : PySem.W.mroIn K CN (.type "object") = some true)
    (cc_vN : PySem.W.subIn K (.ref CN) (.type "ValueError") = some true)
    (cc_sNF : PySem.W.subIn K (.ref CN) (.ref CF) = some true)
    (cc_sNN : PySem.W.subIn K (.ref CN) (.ref CN) = some true)
    (cc_sNT : PySem.W.subIn K (.ref CN) (.ref CT) = some false)
    (cc_sNW : PySem.W.subIn K (.ref CN) (.ref CW) = some false)
    (cc_xT : PySem.W.excIn K CT [.type "ValueError", .type "Exception", .type "BaseException", .type "object"] "ValueError.__new__" = true)
    (cc_kT : PySem.W.keepIn K (.ref CT) = true)
    (cc_bT : PySem.W.subIn K (.ref CT) (.type "BaseException") = some true)
    (cc_tT : PySem.W.typeIn K (.ref CT) = some (.type "type"))
    (cc_iT : PySem.W.isClsIn K CT = true)
    (cc_gaT : PySem.W.findIn K (.ref CT) "__getattribute__" = some (some (.builtin "BaseException.__getattribute__")))
    (cc_ggT : PySem.W.findIn K (.ref CT) "__getattr__" = some none)
    (cc_clT : PySem.W.findIn K (.ref CT) "__class__" = some (some (.builtin "object.__class__")))
    (cc_obT : PySem.W.mroIn K CT (.type "object") = some true)
    (cc_vT : PySem.W.subIn K (.ref CT) (.type "ValueError") = some true)
    (cc_sTF : PySem.W.subIn K (.ref CT) (.ref CF) = some true)
    (cc_sTN : PySem.W.subIn K (.ref CT) (.ref CN) = some false)
    (cc_sTT : PySem.W.subIn K (.ref CT) (.ref CT) = some true)
    (cc_sTW : PySem.W.subIn K (.ref CT) (.ref CW) = some false)
    (cc_xW : PySem.W.excIn K CW [.type "ValueError", .type "Exception", .type "BaseException", .type "object"] "ValueError.__new__" = true)
    (cc_kW : PySem.W.keepIn K (.ref CW) = true)
    (cc_bW : PySem.W.subIn K (.ref CW) (.type "BaseException") = some true)
    (cc_tW : PySem.W.typeIn K (.ref CW) = some (.type "type"))
    (cc_iW : PySem.W.isClsIn K CW = true)
    (cc_gaW : PySem.W.findIn K (.ref CW) "__getattribute__" = some (some (.builtin "BaseException.__getattribute__")))
    (cc_ggW : PySem.W.findIn K (.ref CW) "__getattr__" = some none)
    (cc_clW : PySem.W.findIn K (.ref CW) "__class__" = some (some (.builtin "object.__class__")))
    (cc_obW : PySem.W.mroIn K CW (.type "object") = some true)
    (cc_vW : PySem.W.subIn K (.ref CW) (.type "ValueError") = some true)
    (cc_sWF : PySem.W.subIn K (.ref CW) (.ref CF) = some true)
    (cc_sWN : PySem.W.subIn K (.ref CW) (.ref CN) = some false)
    (cc_sWT : PySem.W.subIn K (.ref CW) (.ref CT) = some false)
    (cc_sWW : PySem.W.subIn K (.ref CW) (.ref CW) = some true)
    (cc_sg : PySem.W.specialIn K (.builtin "object.__class__") "__get__" = some (some (.builtin "getset_descriptor.__get__")))
    (cc_tk : PySem.W.takesIn K (.builtin "object.__class__") = some true)
    : ∃ fd : FuncData, (∀ (s : Shared) (v : Value), BindsTo s fd ⟨[v], []⟩ [("script", v)]) ∧ ∀ base : Heap, K.In base → base.Ns mainGlobals mg → FnOk l.prog w K mg base CX0 8 fa fd ["script"] (spD K 1 g_law) := by
  have e := hfa.symm.trans (PySem.W.mg_of X G a34)
  cases e
  have B : Blts mg := ⟨PySem.W.mg_none_of X G z_len, PySem.W.mg_none_of X G z_abs, PySem.W.mg_none_of X G z_max, PySem.W.mg_none_of X G z_min, PySem.W.mg_none_of X G z_sum, PySem.W.mg_none_of X G z_int, PySem.W.mg_none_of X G z_bool, PySem.W.mg_none_of X G z_str, PySem.W.mg_none_of X G z_list, PySem.W.mg_none_of X G z_tuple, PySem.W.mg_none_of X G z_range, PySem.W.mg_none_of X G z_isinstance, PySem.W.mg_none_of X G z_all, PySem.W.mg_none_of X G z_sorted, PySem.W.mg_none_of X G z_set, PySem.W.mg_none_of X G z_reversed⟩
  have F1 := fun_mk (st := s_cross) l1 k1 q1
  have b1 := F1.binds (ps := ["origin", "one", "other"]) fun _ _ _ _ _ _ us hl => match us, hl with | [_, _, _], _ => rfl
  have F2 := fun_mk (st := s_side_of) l2 k2 q2
  have b2 := F2.binds (ps := ["origin", "one", "other"]) fun _ _ _ _ _ _ us hl => match us, hl with | [_, _, _], _ => rfl
  have F3 := fun_mk (st := s_on_side) l3 k3 q3
  have b3 := F3.binds (ps := ["one", "other", "point"]) fun _ _ _ _ _ _ us hl => match us, hl with | [_, _, _], _ => rfl
  have F4 := fun_mk (st := s_meet) l4 k4 q4
  have b4 := F4.binds (ps := ["one", "other", "third", "fourth"]) fun _ _ _ _ _ _ us hl => match us, hl with | [_, _, _, _], _ => rfl
  have F5 := fun_mk (st := s_sides) l5 k5 q5
  have b5 := F5.binds (ps := ["corners"]) fun _ _ _ _ _ _ us hl => match us, hl with | [_], _ => rfl
  have F6 := fun_mk (st := s_folds_back) l6 k6 q6
  have b6 := F6.binds (ps := ["one", "middle", "other"]) fun _ _ _ _ _ _ us hl => match us, hl with | [_, _, _], _ => rfl
  have F7 := fun_mk (st := s_is_fence) l7 k7 q7
  have b7 := F7.binds (ps := ["corners"]) fun _ _ _ _ _ _ us hl => match us, hl with | [_], _ => rfl
  have F8 := fun_mk (st := s_asked) l8 k8 q8
  have b8 := F8.binds (ps := ["corners"]) fun _ _ _ _ _ _ us hl => match us, hl with | [_], _ => rfl
  have F9 := fun_mk (st := s_turn_sum) l9 k9 q9
  have b9 := F9.binds (ps := ["corners"]) fun _ _ _ _ _ _ us hl => match us, hl with | [_], _ => rfl
  have F10 := fun_mk (st := s_common) l10 k10 q10
  have b10 := F10.binds (ps := ["one", "other"]) fun _ _ _ _ _ _ us hl => match us, hl with | [_, _], _ => rfl
  have F11 := fun_mk (st := s_is_ear) l11 k11 q11
  have b11 := F11.binds (ps := ["left", "k"]) fun _ _ _ _ _ _ us hl => match us, hl with | [_, _], _ => rfl
  have F12 := fun_mk (st := s_ears) l12 k12 q12
  have b12 := F12.binds (ps := ["corners"]) fun _ _ _ _ _ _ us hl => match us, hl with | [_], _ => rfl
  have F13 := fun_mk (st := s_shares_of) l13 k13 q13
  have b13 := F13.binds (ps := ["one", "other"]) fun _ _ _ _ _ _ us hl => match us, hl with | [_, _], _ => rfl
  have F14 := fun_mk (st := s_point_of) l14 k14 q14
  have b14 := F14.binds (ps := ["triangle"]) fun _ _ _ _ _ _ us hl => match us, hl with | [_], _ => rfl
  have F15 := fun_mk (st := s_least_triangles) l15 k15 q15
  have b15 := F15.binds (ps := ["corners"]) fun _ _ _ _ _ _ us hl => match us, hl with | [_], _ => rfl
  have F16 := fun_mk (st := s__law_cell_at) l16 k16 q16
  have b16 := F16.binds (ps := ["script", "k"]) fun _ _ _ _ _ _ us hl => match us, hl with | [_, _], _ => rfl
  have F17 := fun_mk (st := s__law_draw) l17 k17 q17
  have b17 := F17.binds (ps := ["cell", "k", "bound"]) fun _ _ _ _ _ _ us hl => match us, hl with | [_, _, _], _ => rfl
  have F18 := fun_mk (st := s__law_cross) l18 k18 q18
  have b18 := F18.binds (ps := ["one", "other", "third"]) fun _ _ _ _ _ _ us hl => match us, hl with | [_, _, _], _ => rfl
  have F19 := fun_mk (st := s__law_rows_by) l19 k19 q19
  have b19 := F19.binds (ps := ["script", "first"]) fun _ _ _ _ _ _ us hl => match us, hl with | [_, _], _ => rfl
  have F20 := fun_mk (st := s__law_joined) l20 k20 q20
  have b20 := F20.binds (ps := ["lows", "highs", "tips"]) fun _ _ _ _ _ _ us hl => match us, hl with | [_, _, _], _ => rfl
  have F21 := fun_mk (st := s__law_spiral) l21 k21 q21
  have b21 := F21.binds (ps := ["cell"]) fun _ _ _ _ _ _ us hl => match us, hl with | [_], _ => rfl
  have F22 := fun_mk (st := s__law_flat) l22 k22 q22
  have b22 := F22.binds (ps := ["corners", "cell"]) fun _ _ _ _ _ _ us hl => match us, hl with | [_, _], _ => rfl
  have F23 := fun_mk (st := s__law_fence_by) l23 k23 q23
  have b23 := F23.binds (ps := ["script", "first"]) fun _ _ _ _ _ _ us hl => match us, hl with | [_, _], _ => rfl
  have F24 := fun_mk (st := s__law_turning_by) l24 k24 q24
  have b24 := F24.binds (ps := ["script", "first", "far"]) fun _ _ _ _ _ _ us hl => match us, hl with | [_, _, _], _ => rfl
  have F25 := fun_mk (st := s__law_led) l25 k25 q25
  have b25 := F25.binds (ps := ["turning", "point"]) fun _ _ _ _ _ _ us hl => match us, hl with | [_, _], _ => rfl
  have F26 := fun_mk (st := s__law_sum) l26 k26 q26
  have b26 := F26.binds (ps := ["corners"]) fun _ _ _ _ _ _ us hl => match us, hl with | [_], _ => rfl
  have F27 := fun_mk (st := s__law_whole) l27 k27 q27
  have b27 := F27.binds (ps := ["found"]) fun _ _ _ _ _ _ us hl => match us, hl with | [_], _ => rfl
  have F28 := fun_mk (st := s__law_points_are) l28 k28 q28
  have b28 := F28.binds (ps := ["found", "due"]) fun _ _ _ _ _ _ us hl => match us, hl with | [_, _], _ => rfl
  have F29 := fun_mk (st := s__law_common) l29 k29 q29
  have b29 := F29.binds (ps := ["one", "other"]) fun _ _ _ _ _ _ us hl => match us, hl with | [_, _], _ => rfl
  have F30 := fun_mk (st := s__law_steps) l30 k30 q30
  have b30 := F30.binds (ps := ["corners"]) fun _ _ _ _ _ _ us hl => match us, hl with | [_], _ => rfl
  have F31 := fun_mk (st := s__law_gone) l31 k31 q31
  have b31 := F31.binds (ps := ["triangles"]) fun _ _ _ _ _ _ us hl => match us, hl with | [_], _ => rfl
  have F32 := fun_mk (st := s__law_fills) l32 k32 q32
  have b32 := F32.binds (ps := ["triangles", "corners"]) fun _ _ _ _ _ _ us hl => match us, hl with | [_, _], _ => rfl
  have F33 := fun_mk (st := s__law_refused) l33 k33 q33
  have b33 := F33.binds (ps := ["corners"]) fun _ _ _ _ _ _ us hl => match us, hl with | [_], _ => rfl
  have F34 := fun_mk (st := s_law) l34 k34 q34
  refine ⟨PySem.W.fnOf "law" "law" (defArgs s_law) (defBody s_law) (defScope s_law) .none kV34 dc34 pm34 an34 cd34 ct34, fun s v => .of_eq rfl, fun base _ _ => ?_⟩
  have xF : ExcT K mg "FenceError" CF := ⟨PySem.W.mg_of X G cc_aF, cc_xF, cc_kF, cc_bF, cc_tF, cc_iF, cc_gaF, cc_ggF, cc_clF, cc_obF, cc_sg, cc_tk⟩
  have xN : ExcT K mg "NoFence" CN := ⟨PySem.W.mg_of X G cc_aN, cc_xN, cc_kN, cc_bN, cc_tN, cc_iN, cc_gaN, cc_ggN, cc_clN, cc_obN, cc_sg, cc_tk⟩
  have xT : ExcT K mg "NoTurning" CT := ⟨PySem.W.mg_of X G cc_aT, cc_xT, cc_kT, cc_bT, cc_tT, cc_iT, cc_gaT, cc_ggT, cc_clT, cc_obT, cc_sg, cc_tk⟩
  have xW : ExcT K mg "TooWide" CW := ⟨PySem.W.mg_of X G cc_aW, cc_xW, cc_kW, cc_bW, cc_tW, cc_iW, cc_gaW, cc_ggW, cc_clW, cc_obW, cc_sg, cc_tk⟩
  have XE : ErrT K mg CF CN CT CW := ⟨xF, xN, xT, xW, PySem.W.mg_none_of X G cc_zV, exm_up cc_bF cc_iF cc_tF cc_sNF, exm_up cc_bF cc_iF cc_tF cc_sTF, exm_up cc_bF cc_iF cc_tF cc_sWF, kit_val cc_vN, kit_val cc_vT, kit_val cc_vW, kit_own cc_iN cc_tN cc_sNN cc_sNN, kit_own cc_iT cc_tT cc_sNT cc_sTT, kit_own cc_iW cc_tW cc_sNW cc_sWW, kit_own cc_iN cc_tN cc_sTN cc_sNN, kit_own cc_iT cc_tT cc_sTT cc_sTT, kit_own cc_iW cc_tW cc_sTW cc_sWW, kit_own cc_iN cc_tN cc_sWN cc_sNN, kit_own cc_iT cc_tT cc_sWT cc_sTT, kit_own cc_iW cc_tW cc_sWW cc_sWW⟩
  have h_cross : Has l.prog w K mg base "cross" 1 ["origin", "one", "other"] (spD K 3 g_cross) := ⟨_, _, ok_cross F1 B, PySem.W.mg_of X G a1, q1, b1⟩
  have h_side_of : Has l.prog w K mg base "side_of" 2 ["origin", "one", "other"] (spD K 3 g_side_of) := ⟨_, _, ok_side_of F2 B h_cross, PySem.W.mg_of X G a2, q2, b2⟩
  have h_on_side : Has l.prog w K mg base "on_side" 2 ["one", "other", "point"] (spD K 3 g_on_side) := ⟨_, _, ok_on_side F3 B h_cross, PySem.W.mg_of X G a3, q3, b3⟩
  have h_meet : Has l.prog w K mg base "meet" 3 ["one", "other", "third", "fourth"] (spD K 4 g_meet) := ⟨_, _, ok_meet F4 B h_on_side h_side_of, PySem.W.mg_of X G a4, q4, b4⟩
  have h_sides : Has l.prog w K mg base "sides" 1 ["corners"] (spD K 1 g_sides) := ⟨_, _, ok_sides F5 B, PySem.W.mg_of X G a5, q5, b5⟩
  have h_folds_back : Has l.prog w K mg base "folds_back" 2 ["one", "middle", "other"] (spD K 3 g_folds_back) := ⟨_, _, ok_folds_back F6 B h_cross, PySem.W.mg_of X G a6, q6, b6⟩
  have h_is_fence : Has l.prog w K mg base "is_fence" 4 ["corners"] (spD K 1 g_is_fence) := ⟨_, _, ok_is_fence F7 B h_folds_back h_sides h_meet (PySem.W.mg_of X G c_MOST_CORNERS), PySem.W.mg_of X G a7, q7, b7⟩
  have h_asked : Has l.prog w K mg base "asked" 5 ["corners"] (spD K 1 g_asked) := ⟨_, _, ok_asked F8 B h_is_fence, PySem.W.mg_of X G a8, q8, b8⟩
  have h_turn_sum : Has l.prog w K mg base "turn_sum" 2 ["corners"] (spD K 1 g_turn_sum) := ⟨_, _, ok_turn_sum F9 B h_sides, PySem.W.mg_of X G a9, q9, b9⟩
  have h_common : Has l.prog w K mg base "common" 1 ["one", "other"] (spD K 2 g_common) := ⟨_, _, ok_common F10 B, PySem.W.mg_of X G a10, q10, b10⟩
  have h_is_ear : Has l.prog w K mg base "is_ear" 2 ["left", "k"] (spD K 2 g_is_ear) := ⟨_, _, ok_is_ear F11 B h_cross, PySem.W.mg_of X G a11, q11, b11⟩
  have h_ears : Has l.prog w K mg base "ears" 3 ["corners"] (spN K 1 g_ears) := ⟨_, _, ok_ears F12 B h_is_ear, PySem.W.mg_of X G a12, q12, b12⟩
  have h_shares_of : Has l.prog w K mg base "shares_of" 1 ["one", "other"] (spD K 2 g_shares_of) := ⟨_, _, ok_shares_of F13 B, PySem.W.mg_of X G a13, q13, b13⟩
  have h_point_of : Has l.prog w K mg base "point_of" 2 ["triangle"] (spD K 1 g_point_of) := ⟨_, _, ok_point_of F14 B h_common h_shares_of h_cross, PySem.W.mg_of X G a14, q14, b14⟩
  have h_least_triangles : Has l.prog w K mg base "least_triangles" 6 ["corners"] (spD K 1 g_least_triangles) := ⟨_, _, ok_least_triangles F15 B h_asked h_turn_sum h_ears h_cross h_point_of (PySem.W.mg_of X G c_MOST) XE, PySem.W.mg_of X G a15, q15, b15⟩
  have hR_least_triangles : HasR l.prog w K mg base "least_triangles" 6 ["corners"] (spR K 1 r_least_triangles CW) := ⟨_, _, okR_least_triangles F15 B h_asked h_turn_sum h_ears h_cross h_point_of (PySem.W.mg_of X G c_MOST) XE, PySem.W.mg_of X G a15, q15, b15⟩
  have h__law_cell_at : Has l.prog w K mg base "_law_cell_at" 1 ["script", "k"] (spD K 2 g__law_cell_at) := ⟨_, _, ok__law_cell_at F16 B, PySem.W.mg_of X G a16, q16, b16⟩
  have h__law_draw : Has l.prog w K mg base "_law_draw" 1 ["cell", "k", "bound"] (spD K 3 g__law_draw) := ⟨_, _, ok__law_draw F17 B, PySem.W.mg_of X G a17, q17, b17⟩
  have h__law_cross : Has l.prog w K mg base "_law_cross" 1 ["one", "other", "third"] (spD K 3 g__law_cross) := ⟨_, _, ok__law_cross F18 B, PySem.W.mg_of X G a18, q18, b18⟩
  have h__law_rows_by : Has l.prog w K mg base "_law_rows_by" 2 ["script", "first"] (spD K 2 g__law_rows_by) := ⟨_, _, ok__law_rows_by F19 B h__law_cell_at h__law_draw, PySem.W.mg_of X G a19, q19, b19⟩
  have h__law_joined : Has l.prog w K mg base "_law_joined" 1 ["lows", "highs", "tips"] (spD K 3 g__law_joined) := ⟨_, _, ok__law_joined F20 B, PySem.W.mg_of X G a20, q20, b20⟩
  have h__law_spiral : Has l.prog w K mg base "_law_spiral" 1 ["cell"] (spD K 1 g__law_spiral) := ⟨_, _, ok__law_spiral F21 B, PySem.W.mg_of X G a21, q21, b21⟩
  have h__law_flat : Has l.prog w K mg base "_law_flat" 1 ["corners", "cell"] (spD K 2 g__law_flat) := ⟨_, _, ok__law_flat F22 B, PySem.W.mg_of X G a22, q22, b22⟩
  have h__law_fence_by : Has l.prog w K mg base "_law_fence_by" 3 ["script", "first"] (spD K 2 g__law_fence_by) := ⟨_, _, ok__law_fence_by F23 B h__law_rows_by h__law_joined h__law_cell_at h__law_spiral h__law_flat, PySem.W.mg_of X G a23, q23, b23⟩
  have h__law_turning_by : Has l.prog w K mg base "_law_turning_by" 2 ["script", "first", "far"] (spD K 3 g__law_turning_by) := ⟨_, _, ok__law_turning_by F24 B h__law_cell_at, PySem.W.mg_of X G a24, q24, b24⟩
  have h__law_led : Has l.prog w K mg base "_law_led" 1 ["turning", "point"] (spD K 2 g__law_led) := ⟨_, _, ok__law_led F25 B, PySem.W.mg_of X G a25, q25, b25⟩
  have h__law_sum : Has l.prog w K mg base "_law_sum" 1 ["corners"] (spD K 1 g__law_sum) := ⟨_, _, ok__law_sum F26 B, PySem.W.mg_of X G a26, q26, b26⟩
  have h__law_whole : Has l.prog w K mg base "_law_whole" 1 ["found"] (spD K 1 g__law_whole) := ⟨_, _, ok__law_whole F27 B, PySem.W.mg_of X G a27, q27, b27⟩
  have h__law_points_are : Has l.prog w K mg base "_law_points_are" 2 ["found", "due"] (spD K 2 g__law_points_are) := ⟨_, _, ok__law_points_are F28 B h__law_whole, PySem.W.mg_of X G a28, q28, b28⟩
  have h__law_common : Has l.prog w K mg base "_law_common" 1 ["one", "other"] (spD K 2 g__law_common) := ⟨_, _, ok__law_common F29 B, PySem.W.mg_of X G a29, q29, b29⟩
  have h__law_steps : Has l.prog w K mg base "_law_steps" 2 ["corners"] (spD K 1 g__law_steps) := ⟨_, _, ok__law_steps F30 B h__law_common, PySem.W.mg_of X G a30, q30, b30⟩
  have h__law_gone : Has l.prog w K mg base "_law_gone" 2 ["triangles"] (spD K 1 g__law_gone) := ⟨_, _, ok__law_gone F31 B h__law_cross, PySem.W.mg_of X G a31, q31, b31⟩
  have h__law_fills : Has l.prog w K mg base "_law_fills" 3 ["triangles", "corners"] (spD K 2 g__law_fills) := ⟨_, _, ok__law_fills F32 B h__law_steps h__law_gone, PySem.W.mg_of X G a32, q32, b32⟩
  have h__law_refused : Has l.prog w K mg base "_law_refused" 7 ["corners"] (spD K 1 g__law_refused) := ⟨_, _, ok__law_refused F33 B h_least_triangles XE hR_least_triangles, PySem.W.mg_of X G a33, q33, b33⟩
  exact ok_law F34 B h__law_fence_by h__law_cell_at h__law_turning_by h__law_led h__law_sum h__law_refused h_least_triangles h__law_points_are h__law_cross h__law_fills
end LW

/-! part end -/
open PySem PySem.W PyProof.Rows
set_option maxHeartbeats 0 in
theorem PySem.Challenge.cw_fencefield_k15_whole_least_triangles_holds : PySem.Challenge.rw_fencefield_k15_whole_least_triangles.Holds := by
  w_on; o_law; k_head; (case hw => w_witness2)
  k_fill
  refine L2.walk_of (l := PySem.Challenge.rw_fencefield_k15_whole_least_triangles) (n := 63) (k := 8) (x := "script") (CX := fun _ => L2.CX0) (sp := fun w => DL.spD _ 1 LW.g_law) rfl (by decide) rfl ⟨rfl, by decide, by decide⟩ (fun w h Y => PySem.W.kIn_of Y) ?F (fun _ H a ns hl _ hS => ⟨rfl, H, [DL.scrD ns], .bool true, L2.Same.refl H, .cons (.scr hS) .nil, LW.law_true ns hl, fun v H' Z' _ r => by cases r; rfl⟩) (fun _ _ _ _ _ h => h)
  case F =>
    intro w mg fa h KX G hmg
    refine' LW.all_mk KX G hmg ?c_MOST_CORNERS ?c_MOST ?a1 ?l1 ?k1 ?q1 ?a2 ?l2 ?k2 ?q2 ?a3 ?l3 ?k3 ?q3 ?a4 ?l4 ?k4 ?q4 ?a5 ?l5 ?k5 ?q5 ?a6 ?l6 ?k6 ?q6 ?a7 ?l7 ?k7 ?q7 ?a8 ?l8 ?k8 ?q8 ?a9 ?l9 ?k9 ?q9 ?a10 ?l10 ?k10 ?q10 ?a11 ?l11 ?k11 ?q11 ?a12 ?l12 ?k12 ?q12 ?a13 ?l13 ?k13 ?q13 ?a14 ?l14 ?k14 ?q14 ?a15 ?l15 ?k15 ?q15 ?a16 ?l16 ?k16 ?q16 ?a17 ?l17 ?k17 ?q17 ?a18 ?l18 ?k18 ?q18 ?a19 ?l19 ?k19 ?q19 ?a20 ?l20 ?k20 ?q20 ?a21 ?l21 ?k21 ?q21 ?a22 ?l22 ?k22 ?q22 ?a23 ?l23 ?k23 ?q23 ?a24 ?l24 ?k24 ?q24 ?a25 ?l25 ?k25 ?q25 ?a26 ?l26 ?k26 ?q26 ?a27 ?l27 ?k27 ?q27 ?a28 ?l28 ?k28 ?q28 ?a29 ?l29 ?k29 ?q29 ?a30 ?l30 ?k30 ?q30 ?a31 ?l31 ?k31 ?q31 ?a32 ?l32 ?k32 ?q32 ?a33 ?l33 ?k33 ?q33 ?a34 ?l34 ?k34 ?q34 ?z_len ?z_abs ?z_max ?z_min ?z_sum ?z_int ?z_bool ?z_str ?z_list ?z_tuple ?z_range ?z_isinstance ?z_all ?z_sorted ?z_set ?z_reversed ?cc_aF ?cc_aN ?cc_aT ?cc_aW ?cc_zV ?cc_xF ?cc_kF ?cc_bF ?cc_tF ?cc_iF ?cc_gaF ?cc_ggF ?cc_clF ?cc_obF ?cc_vF ?cc_sFF ?cc_xN ?cc_kN ?cc_bN ?cc_tN ?cc_iN ?cc_gaN ?cc_ggN ?cc_clN ?cc_obN ?cc_vN ?cc_sNF ?cc_sNN ?cc_sNT ?cc_sNW ?cc_xT ?cc_kT ?cc_bT ?cc_tT ?cc_iT ?cc_gaT ?cc_ggT ?cc_clT ?cc_obT ?cc_vT ?cc_sTF ?cc_sTN ?cc_sTT ?cc_sTW ?cc_xW ?cc_kW ?cc_bW ?cc_tW ?cc_iW ?cc_gaW ?cc_ggW ?cc_clW ?cc_obW ?cc_vW ?cc_sWF ?cc_sWN ?cc_sWT ?cc_sWW ?cc_sg ?cc_tk
    (case c_MOST_CORNERS => k_is); (case c_MOST => k_is); (case a1 => k_is); (case l1 => k_is); (case k1 => k_is); (case q1 => k_is); (case a2 => k_is); (case l2 => k_is); (case k2 => k_is); (case q2 => k_is); (case a3 => k_is); (case l3 => k_is); (case k3 => k_is); (case q3 => k_is); (case a4 => k_is); (case l4 => k_is); (case k4 => k_is); (case q4 => k_is); (case a5 => k_is); (case l5 => k_is); (case k5 => k_is); (case q5 => k_is); (case a6 => k_is); (case l6 => k_is); (case k6 => k_is); (case q6 => k_is); (case a7 => k_is); (case l7 => k_is); (case k7 => k_is); (case q7 => k_is); (case a8 => k_is); (case l8 => k_is); (case k8 => k_is); (case q8 => k_is); (case a9 => k_is); (case l9 => k_is); (case k9 => k_is); (case q9 => k_is); (case a10 => k_is); (case l10 => k_is); (case k10 => k_is); (case q10 => k_is); (case a11 => k_is); (case l11 => k_is); (case k11 => k_is); (case q11 => k_is); (case a12 => k_is); (case l12 => k_is); (case k12 => k_is); (case q12 => k_is); (case a13 => k_is); (case l13 => k_is); (case k13 => k_is); (case q13 => k_is); (case a14 => k_is); (case l14 => k_is); (case k14 => k_is); (case q14 => k_is); (case a15 => k_is); (case l15 => k_is); (case k15 => k_is); (case q15 => k_is); (case a16 => k_is); (case l16 => k_is); (case k16 => k_is); (case q16 => k_is); (case a17 => k_is); (case l17 => k_is); (case k17 => k_is); (case q17 => k_is); (case a18 => k_is); (case l18 => k_is); (case k18 => k_is); (case q18 => k_is); (case a19 => k_is); (case l19 => k_is); (case k19 => k_is); (case q19 => k_is); (case a20 => k_is); (case l20 => k_is); (case k20 => k_is); (case q20 => k_is); (case a21 => k_is); (case l21 => k_is); (case k21 => k_is); (case q21 => k_is); (case a22 => k_is); (case l22 => k_is); (case k22 => k_is); (case q22 => k_is); (case a23 => k_is); (case l23 => k_is); (case k23 => k_is); (case q23 => k_is); (case a24 => k_is); (case l24 => k_is); (case k24 => k_is); (case q24 => k_is); (case a25 => k_is); (case l25 => k_is); (case k25 => k_is); (case q25 => k_is); (case a26 => k_is); (case l26 => k_is); (case k26 => k_is); (case q26 => k_is); (case a27 => k_is); (case l27 => k_is); (case k27 => k_is); (case q27 => k_is); (case a28 => k_is); (case l28 => k_is); (case k28 => k_is); (case q28 => k_is); (case a29 => k_is); (case l29 => k_is); (case k29 => k_is); (case q29 => k_is); (case a30 => k_is); (case l30 => k_is); (case k30 => k_is); (case q30 => k_is); (case a31 => k_is); (case l31 => k_is); (case k31 => k_is); (case q31 => k_is); (case a32 => k_is); (case l32 => k_is); (case k32 => k_is); (case q32 => k_is); (case a33 => k_is); (case l33 => k_is); (case k33 => k_is); (case q33 => k_is); (case a34 => k_is); (case l34 => k_is); (case k34 => k_is); (case q34 => k_is); (case z_len => k_is); (case z_abs => k_is); (case z_max => k_is); (case z_min => k_is); (case z_sum => k_is); (case z_int => k_is); (case z_bool => k_is); (case z_str => k_is); (case z_list => k_is); (case z_tuple => k_is); (case z_range => k_is); (case z_isinstance => k_is); (case z_all => k_is); (case z_sorted => k_is); (case z_set => k_is); (case z_reversed => k_is); (case cc_aF => k_is); (case cc_aN => k_is); (case cc_aT => k_is); (case cc_aW => k_is); (case cc_zV => k_is); (case cc_xF => k_exc); (case cc_kF => k_is); (case cc_bF => k_is); (case cc_tF => k_is); (case cc_iF => k_is); (case cc_gaF => k_is); (case cc_ggF => k_is); (case cc_clF => k_is); (case cc_obF => k_is); (case cc_vF => k_is); (case cc_sFF => first | rfl | k_is); (case cc_xN => k_exc); (case cc_kN => k_is); (case cc_bN => k_is); (case cc_tN => k_is); (case cc_iN => k_is); (case cc_gaN => k_is); (case cc_ggN => k_is); (case cc_clN => k_is); (case cc_obN => k_is); (case cc_vN => k_is); (case cc_sNF => first | rfl | k_is); (case cc_sNN => first | rfl | k_is); (case cc_sNT => first | rfl | k_is); (case cc_sNW => first | rfl | k_is); (case cc_xT => k_exc); (case cc_kT => k_is); (case cc_bT => k_is); (case cc_tT => k_is); (case cc_iT => k_is); (case cc_gaT => k_is); (case cc_ggT => k_is); (case cc_clT => k_is); (case cc_obT => k_is); (case cc_vT => k_is); (case cc_sTF => first | rfl | k_is); (case cc_sTN => first | rfl | k_is); (case cc_sTT => first | rfl | k_is); (case cc_sTW => first | rfl | k_is); (case cc_xW => k_exc); (case cc_kW => k_is); (case cc_bW => k_is); (case cc_tW => k_is); (case cc_iW => k_is); (case cc_gaW => k_is); (case cc_ggW => k_is); (case cc_clW => k_is); (case cc_obW => k_is); (case cc_vW => k_is); (case cc_sWF => first | rfl | k_is); (case cc_sWN => first | rfl | k_is); (case cc_sWT => first | rfl | k_is); (case cc_sWW => first | rfl | k_is); (case cc_sg => first | rfl | k_is); (case cc_tk => k_is)
