import PyProof.Rows.All
import Wide.All
import OpenK.AllK
import Wide.FinOn
import HandS.ForMost
import HandS.Wide
import HandS.Deep
import HandS.IsInst
import HandS.NoneIn
import HandS.More
import HandS.Rev
import KE.Datum
import PySem.Challenge.RW_fencefield_k08_floor_sums_far
set_option Elab.async false
set_option linter.all false
set_option maxRecDepth 100000
set_option maxHeartbeats 4000000

/-! part DL1 -/
/-! Data layer: what a def does, told on data alone (PyData), over the hand layer. -/
namespace DL
open PySem PySem.Spec PyProof.Rows L2
/-! ### values that hold data -/
mutual
inductive Rp (K : PySem.W.Frag) (Z : Hp) : V → PyData → Prop
  | non : Rp K Z .non .none
  | bl (b : Bool) : Rp K Z (.bl b) (.bool b)
  | int (i : Int) : Rp K Z (.int i) (.int i)
  | str (x : Str) : Rp K Z (.str x) (.str x)
  | lst {a : Addr} {xs : List V} {ds : List PyData} : Z a = some (.lst xs) → RpAll K Z xs ds → Rp K Z (.ref a) (.list ds)
  | tup {a : Addr} {xs : List V} {ds : List PyData} : Z a = some (.tup xs) → RpAll K Z xs ds → Rp K Z (.ref a) (.tuple ds)
  | scr {a : Addr} {ns : List Int} : SqL K Z a (ns.map V.int) → Rp K Z (.ref a) (.dict (ns.map fun n => (PyData.none, PyData.int n)))
inductive RpAll (K : PySem.W.Frag) (Z : Hp) : List V → List PyData → Prop
  | nil : RpAll K Z [] []
  | cons {v : V} {vs : List V} {d : PyData} {ds : List PyData} : Rp K Z v d → RpAll K Z vs ds → RpAll K Z (v :: vs) (d :: ds)
end
section
variable {K : PySem.W.Frag} {Z Z' H H' : Hp}
mutual
theorem Rp.mono (s : Same Z Z') : ∀ {v : V} {d : PyData}, Rp K Z v d → Rp K Z' v d
  | _, _, .non => .non
  | _, _, .bl b => .bl b
  | _, _, .int i => .int i
  | _, _, .str x => .str x
  | _, _, .lst h r => .lst (s _ _ h) (RpAll.mono s r)
  | _, _, .tup h r => .tup (s _ _ h) (RpAll.mono s r)
  | _, _, .scr h => .scr (s.seq h)
theorem RpAll.mono (s : Same Z Z') : ∀ {vs : List V} {ds : List PyData}, RpAll K Z vs ds → RpAll K Z' vs ds
  | _, _, .nil => .nil
  | _, _, .cons h r => .cons (Rp.mono s h) (RpAll.mono s r)
end
theorem RpAll.length : ∀ {vs : List V} {ds : List PyData}, RpAll K Z vs ds → vs.length = ds.length
  | _, _, .nil => rfl
  | _, _, .cons _ r => by rw [List.length_cons, List.length_cons, RpAll.length r]
theorem RpAll.get : ∀ {vs : List V} {ds : List PyData} {i : Nat} {d : PyData}, RpAll K Z vs ds → ds[i]? = some d → ∃ v, vs[i]? = some v ∧ Rp K Z v d
  | _, _, _, _, .nil, e => by simp at e
  | _, _, 0, _, .cons r _, e => by simp at e; subst e; exact ⟨_, rfl, r⟩
  | _, _, i + 1, d, .cons _ t, e => by
    obtain ⟨v, h1, h2⟩ := RpAll.get (i := i) (d := d) t (by simpa using e)
    exact ⟨v, by simpa using h1, h2⟩
theorem RpAll.append : ∀ {xs ys : List V} {ds es : List PyData}, RpAll K Z xs ds → RpAll K Z ys es → RpAll K Z (xs ++ ys) (ds ++ es)
  | _, _, _, _, .nil, s => s
  | _, _, _, _, .cons r t, s => .cons r (RpAll.append t s)
theorem RpAll.take : ∀ {xs : List V} {ds : List PyData} (n : Nat), RpAll K Z xs ds → RpAll K Z (xs.take n) (ds.take n)
  | _, _, 0, _ => .nil
  | _, _, _ + 1, .nil => .nil
  | _, _, n + 1, .cons r t => .cons r (RpAll.take n t)
theorem RpAll.drop : ∀ {xs : List V} {ds : List PyData} (n : Nat), RpAll K Z xs ds → RpAll K Z (xs.drop n) (ds.drop n)
  | _, _, 0, r => r
  | _, _, _ + 1, .nil => .nil
  | _, _, n + 1, .cons _ t => RpAll.drop n t
theorem RpAll.set {v : V} {d : PyData} (r : Rp K Z v d) : ∀ {xs : List V} {ds : List PyData} (i : Nat), RpAll K Z xs ds → RpAll K Z (xs.set i v) (ds.set i d)
  | _, _, _, .nil => .nil
  | _, _, 0, .cons _ t => .cons r t
  | _, _, i + 1, .cons q t => .cons q (RpAll.set r i t)
theorem RpAll.eraseIdx : ∀ {xs : List V} {ds : List PyData} (i : Nat), RpAll K Z xs ds → RpAll K Z (xs.eraseIdx i) (ds.eraseIdx i)
  | _, _, _, .nil => .nil
  | _, _, 0, .cons _ t => t
  | _, _, i + 1, .cons r t => .cons r (RpAll.eraseIdx i t)
theorem RpAll.reverse : ∀ {xs : List V} {ds : List PyData}, RpAll K Z xs ds → RpAll K Z xs.reverse ds.reverse
  | _, _, .nil => .nil
  | _, _, .cons r t => by rw [List.reverse_cons, List.reverse_cons]; exact RpAll.append (RpAll.reverse t) (.cons r .nil)
theorem RpAll.dropLast : ∀ {xs : List V} {ds : List PyData}, RpAll K Z xs ds → RpAll K Z xs.dropLast ds.dropLast
  | _, _, .nil => .nil
  | _, _, .cons r .nil => .nil
  | _, _, .cons r (.cons q t) => by
    have ih := RpAll.dropLast (.cons q t)
    exact .cons r ih
theorem RpAll.ints : ∀ {xs : List V} {ns : List Int}, RpAll K Z xs (ns.map PyData.int) → xs = ns.map V.int
  | _, [], .nil => rfl
  | _, n :: ns, .cons r t => by
    cases r
    rw [List.map_cons, RpAll.ints t]
theorem RpAll.bools : ∀ {xs : List V} {ns : List Bool}, RpAll K Z xs (ns.map PyData.bool) → xs = ns.map V.bl
  | _, [], .nil => rfl
  | _, n :: ns, .cons r t => by
    cases r
    rw [List.map_cons, RpAll.bools t]
theorem RpAll.of_ints : ∀ (ns : List Int), RpAll K Z (ns.map V.int) (ns.map PyData.int)
  | [] => .nil
  | n :: ns => .cons (.int n) (RpAll.of_ints ns)
mutual
theorem Rp.dp : ∀ {v : V} {d : PyData}, Rp K Z v d → d.canLay0 = true → Dp K Z v d
  | _, _, .non, _ => .non
  | _, _, .bl b, _ => .bl b
  | _, _, .int i, _ => .int i
  | _, _, .str x, _ => .str x
  | _, _, .lst h r, c => .lst (SqL.of h) (RpAll.dp r (by simpa [PyData.canLay0] using c))
  | _, _, .tup h r, c => .tup (SqT.of h) (RpAll.dp r (by simpa [PyData.canLay0] using c))
  | _, _, .scr h, c => by simp [PyData.canLay0] at c
theorem RpAll.dp : ∀ {vs : List V} {ds : List PyData}, RpAll K Z vs ds → PyData.canLayAll0 ds = true → DpAll K Z vs ds
  | _, _, .nil, _ => .nil
  | _, d :: ds, .cons h r, c => by
    have c' : d.canLay0 = true ∧ PyData.canLayAll0 ds = true := by simpa [PyData.canLayAll0] using c
    exact .cons (Rp.dp h c'.1) (RpAll.dp r c'.2)
end
end
/-! ### data without lists -/
mutual
def noL : PyData → Bool
  | .list _ => false
  | .dict _ => false
  | .tuple ds => noLs ds
  | _ => true
def noLs : List PyData → Bool
  | [] => true
  | d :: ds => noL d && noLs ds
end
section
variable {K : PySem.W.Frag} {Z Z' H H' : Hp}
mutual
theorem Rp.noL (s : ∀ a xs, Z a = some (.tup xs) → Z' a = some (.tup xs)) : ∀ {v : V} {d : PyData}, Rp K Z v d → noL d = true → Rp K Z' v d
  | _, _, .non, _ => .non
  | _, _, .bl b, _ => .bl b
  | _, _, .int i, _ => .int i
  | _, _, .str x, _ => .str x
  | _, _, .lst h r, c => by simp [DL.noL] at c
  | _, _, .tup h r, c => .tup (s _ _ h) (RpAll.noL s r (by simpa [DL.noL] using c))
  | _, _, .scr h, c => by simp [DL.noL] at c
theorem RpAll.noL (s : ∀ a xs, Z a = some (.tup xs) → Z' a = some (.tup xs)) : ∀ {vs : List V} {ds : List PyData}, RpAll K Z vs ds → noLs ds = true → RpAll K Z' vs ds
  | _, _, .nil, _ => .nil
  | _, d :: ds, .cons h r, c => by
    have c' : DL.noL d = true ∧ noLs ds = true := by simpa [noLs] using c
    exact .cons (Rp.noL s h c'.1) (RpAll.noL s r c'.2)
end
end
/-! ### behind an evaluation: H grows to H', its settled part Z to Z' -/
structure Ext (Z H Z' H' : Hp) : Prop where
  big : Same H H'
  up : Same Z Z'
  sub : Same Z' H'
  new : ∀ b, Z b = none → Z' b ≠ none → H b = none
theorem Ext.refl {Z H : Hp} (s : Same Z H) : Ext Z H Z H := ⟨Same.refl H, Same.refl Z, s, fun _ h n => absurd h n⟩
theorem Ext.trans {Z H Z1 H1 Z2 H2 : Hp} (a : Ext Z H Z1 H1) (b : Ext Z1 H1 Z2 H2) : Ext Z H Z2 H2 :=
  ⟨a.big.trans b.big, a.up.trans b.up, b.sub, fun x h n => by
    cases q : Z1 x with
    | none => exact a.big.free (b.new x q n)
    | some o => exact a.new x h (by rw [q]; exact fun z => nomatch z)⟩
theorem same_upd {H : Hp} {p : Addr} {o : HO} (h : H p = none) : Same H (upd H p o) := fun b x e => by
  rw [upd_ne (ne_of_none e h)]; exact e
theorem same_upd2 {Z H : Hp} {p : Addr} {o : HO} (s : Same Z H) : Same (upd Z p o) (upd H p o) := fun b x e => by
  by_cases hb : b = p
  · subst hb; rw [upd_same] at e ⊢; exact e
  · rw [upd_ne hb] at e ⊢; exact s _ _ e
theorem same_none {Z H : Hp} {p : Addr} (s : Same Z H) (h : H p = none) : Z p = none := s.free h
/-- a new object, settled at once -/
theorem Ext.lay {Z H : Hp} {p : Addr} {o : HO} (s : Same Z H) (h : H p = none) : Ext Z H (upd Z p o) (upd H p o) :=
  ⟨same_upd h, same_upd (s.free h), same_upd2 s, fun b hb n => by
    by_cases e : b = p
    · subst e; exact h
    · rw [upd_ne e] at n; exact absurd hb n⟩
/-- a new object, not settled -/
theorem Ext.free {Z H : Hp} {p : Addr} {o : HO} (s : Same Z H) (h : H p = none) : Ext Z H Z (upd H p o) :=
  ⟨same_upd h, Same.refl Z, s.trans (same_upd h), fun b hb n => absurd hb n⟩
abbrev Env := List (Option PyData)
structure View (K : PySem.W.Frag) (Z : Hp) (σ : L2.St) (ρ : Env) : Prop where
  len : ρ.length ≤ σ.length
  get : ∀ (i : Nat) (d : PyData), ρ[i]? = some (some d) → ∃ v, σ[i]? = some (some v) ∧ Rp K Z v d
theorem View.mono {K : PySem.W.Frag} {Z Z' : Hp} {σ : L2.St} {ρ : Env} (v : View K Z σ ρ) (s : Same Z Z') : View K Z' σ ρ := ⟨v.len, fun i d e => by
  obtain ⟨x, h, r⟩ := v.get i d e
  exact ⟨x, h, r.mono s⟩⟩
/-! ### canonical readings -/
abbrev DF := Env → Option PyData
def tD (K : PySem.W.Frag) (f : DF) : TE := fun σ H Q => ∃ Z ρ d, Same Z H ∧ View K Z σ ρ ∧ f ρ = some d ∧ ∀ v H' Z', Ext Z H Z' H' → Rp K Z' v d → Q v H'
def tT (K : PySem.W.Frag) (f : Env → Option Bool) : TT := fun σ H Q => ∃ Z ρ b, Same Z H ∧ View K Z σ ρ ∧ f ρ = some b ∧ ∀ H' Z', Ext Z H Z' H' → Q b H'
def tA (K : PySem.W.Frag) (f : Env → Option (List PyData)) : TA := fun σ H Q => ∃ Z ρ ds, Same Z H ∧ View K Z σ ρ ∧ f ρ = some ds ∧ ∀ vs H' Z', Ext Z H Z' H' → RpAll K Z' vs ds → Q vs H'
/-- a new list, not settled yet -/
def tN (K : PySem.W.Frag) (f : Env → Option (List PyData)) : TE := fun σ H Q => ∃ Z ρ ds, Same Z H ∧ View K Z σ ρ ∧ f ρ = some ds ∧
  ∀ p vs H' Z', Ext Z H Z' H' → H p = none → Z' p = none → H' p = some (.lst vs) → RpAll K Z' vs ds → Q (.ref p) H'
/-- an optional part of a slice -/
def tP (K : PySem.W.Frag) (f : Env → Option (Option Int)) : TO := fun σ H Q => ∃ Z ρ o, Same Z H ∧ View K Z σ ρ ∧ f ρ = some o ∧ ∀ H' Z', Ext Z H Z' H' → Q o H'
section
variable {X : Cx} {K : PySem.W.Frag} {e : Expr}
theorem _root_.L2.PE.weak {t t' : TE} (h : PE X e t) (w : ∀ σ H Q, t' σ H Q → t σ H Q) : PE X e t' := ⟨fun pins s σ H Q I q => h.run pins s σ H Q I (w _ _ _ q)⟩
theorem _root_.L2.PT.weak {t t' : TT} (h : PT X e t) (w : ∀ σ H Q, t' σ H Q → t σ H Q) : PT X e t' := ⟨fun pins s σ H Q I q => h.run pins s σ H Q I (w _ _ _ q)⟩
theorem _root_.L2.PA.weak {es : List Expr} {t t' : TA} (h : PA X es t) (w : ∀ σ H Q, t' σ H Q → t σ H Q) : PA X es t' := ⟨fun pos pins s σ H Q I q => h.run pos pins s σ H Q I (w _ _ _ q)⟩
theorem _root_.L2.PO.weak {e : Option Expr} {t t' : TO} (h : PO X e t) (w : ∀ σ H Q, t' σ H Q → t σ H Q) : PO X e t' := ⟨fun pins s σ H Q I q => h.run pins s σ H Q I (w _ _ _ q)⟩
theorem _root_.L2.PS.weak {st : Stmt} {t t' : TS} (h : PS X st t) (w : ∀ D σ H, t' D σ H → t D σ H) : PS X st t' := ⟨fun pins s σ H D I q => h.run pins s σ H D I (w _ _ _ q)⟩
theorem _root_.L2.PSs.weak {st : List Stmt} {t t' : TS} (h : PSs X st t) (w : ∀ D σ H, t' D σ H → t D σ H) : PSs X st t' := ⟨fun pins s σ H D I q => h.run pins s σ H D I (w _ _ _ q)⟩
end
abbrev DE (X : Cx) (K : PySem.W.Frag) (e : Expr) (f : DF) : Prop := PE X e (tD K f)
abbrev DT (X : Cx) (K : PySem.W.Frag) (e : Expr) (f : Env → Option Bool) : Prop := PT X e (tT K f)
abbrev DA (X : Cx) (K : PySem.W.Frag) (es : List Expr) (f : Env → Option (List PyData)) : Prop := PA X es (tA K f)
abbrev DN (X : Cx) (K : PySem.W.Frag) (e : Expr) (f : Env → Option (List PyData)) : Prop := PE X e (tN K f)
abbrev DO (X : Cx) (K : PySem.W.Frag) (e : Option Expr) (f : Env → Option (Option Int)) : Prop := PO X e (tP K f)
/-! ### names, constants -/
def fVar (i : Nat) : DF := fun ρ => (ρ[i]?).join
def fC (d : PyData) : DF := fun _ => some d
section
variable {X : Cx} {K : PySem.W.Frag} {pos : Pos}
theorem de_var (i : Nat) {x : Str} (hN : X.N[i]? = some x := by rfl) (hv : Vis X.env.scope x := by first | exact Or.inl rfl | exact Or.inr (Or.inl rfl) | exact Or.inr (Or.inr rfl)) (hd : (x == ("__debug__" : Str)) = false := by decide)
    (hcd : (x == ("__classdict__" : Str)) = false := by decide) : DE X K (.Name x pos) (fVar i) :=
  (pe_var hN hv hd hcd).weak fun σ H Q ⟨Z, ρ, d, s, v, e, q⟩ => by
    have e' : ρ[i]? = some (some d) := by
      unfold fVar at e
      cases h : ρ[i]? with
      | none => rw [h] at e; cases e
      | some o =>
        rw [h] at e
        have : o = some d := e
        rw [this]
    obtain ⟨x, h, r⟩ := v.get i d e'
    exact ⟨x, h, q x H Z (Ext.refl s) r⟩
theorem de_int {i j} : DE X K (.Constant (.int i) j pos) (fC (.int i)) := pe_int.weak fun σ H Q ⟨Z, ρ, d, s, v, e, q⟩ => by
  cases e; exact q _ H Z (Ext.refl s) (.int i)
theorem de_bl {b j} : DE X K (.Constant (.bool b) j pos) (fC (.bool b)) := pe_bl.weak fun σ H Q ⟨Z, ρ, d, s, v, e, q⟩ => by
  cases e; exact q _ H Z (Ext.refl s) (.bl b)
theorem de_non {j} : DE X K (.Constant .none j pos) (fC .none) := pe_non.weak fun σ H Q ⟨Z, ρ, d, s, v, e, q⟩ => by
  cases e; exact q _ H Z (Ext.refl s) .non
theorem de_str {x j} : DE X K (.Constant (.str x) j pos) (fC (.str x)) := pe_str.weak fun σ H Q ⟨Z, ρ, d, s, v, e, q⟩ => by
  cases e; exact q _ H Z (Ext.refl s) (.str x)
/-- an int constant of the module -/
theorem de_globI {x : Str} {i : Int} {tk : Tok} (hg : Gl X x) (hm : X.mg x = some (.int i tk)) (hd : (x == ("__debug__" : Str)) = false := by decide) : DE X K (.Name x pos) (fC (.int i)) :=
  (pe_glob (v := .int i) hg hm ⟨tk, rfl⟩ hd).weak fun σ H Q ⟨Z, ρ, d, s, v, e, q⟩ => by
    cases e; exact q _ H Z (Ext.refl s) (.int i)
end
/-! ### operators on two values -/
abbrev G2 := PyData → PyData → Option PyData
def f2 (g : G2) (fa fb : DF) : DF := fun ρ => (fa ρ).bind fun x => (fb ρ).bind fun y => g x y
def RR (K : PySem.W.Frag) (r : R2) (g : G2) : Prop := ∀ (x y : V) (dx dy d : PyData) (Z H : Hp), Same Z H → Rp K Z x dx → Rp K Z y dy → g dx dy = some d →
  ∀ Q : VK, (∀ v H' Z', Ext Z H Z' H' → Rp K Z' v d → Q v H') → r x y H Q
theorem opt_bind {α β : Type} {o : Option α} {f : α → Option β} {b : β} (h : o.bind f = some b) : ∃ a, o = some a ∧ f a = some b := by
  cases o with
  | none => cases h
  | some a => exact ⟨a, rfl, h⟩
theorem tOp_weak {K : PySem.W.Frag} {r : R2} {g : G2} {fa fb : DF} (rr : RR K r g) : ∀ σ H Q, tD K (f2 g fa fb) σ H Q → tOp r (tD K fa) (tD K fb) σ H Q := fun σ H Q ⟨Z, ρ, d, s, v, e, q⟩ => by
  obtain ⟨x, e1, e2⟩ := opt_bind e
  obtain ⟨y, e3, e4⟩ := opt_bind e2
  refine ⟨Z, ρ, x, s, v, e1, fun vx H1 Z1 x1 r1 => ?_⟩
  refine ⟨Z1, ρ, y, x1.sub, v.mono x1.up, e3, fun vy H2 Z2 x2 r2 => ?_⟩
  exact rr vx vy x y d Z2 H2 x2.sub (r1.mono x2.up) r2 e4 Q fun w H3 Z3 x3 r3 => q w H3 Z3 ((x1.trans x2).trans x3) r3
section
variable {X : Cx} {K : PySem.W.Frag} {pos : Pos} {a b c : Expr} {fa fb fc : DF}
theorem de_op {op : Operator} {r : R2} {g : G2} (ho : OpR X (binaryOp op) r) (rr : RR K r g) (ha : DE X K a fa) (hb : DE X K b fb) : DE X K (.BinOp a op b pos) (f2 g fa fb) := (pe_op ho ha hb).weak (tOp_weak rr)
theorem de_cmp {op : CmpOp} {r : R2} {g : G2} (ho : OpR X (compareOp op) r) (rr : RR K r g) (ha : DE X K a fa) (hb : DE X K b fb) (hm : behindInMarks op b = false) : DE X K (.Compare a [op] [b] pos) (f2 g fa fb) := (pe_cmpR ho ha hb hm).weak (tOp_weak rr)
end
/-- ints in, under a guard, an int out -/
noncomputable def gI (C : Int → Int → Prop) (g : Int → Int → PyData) : G2 := fun x y => match x, y with
  | .int i, .int j => open Classical in if C i j then some (g i j) else none
  | _, _ => none
def gI0 (g : Int → Int → PyData) : G2 := fun x y => match x, y with
  | .int i, .int j => some (g i j)
  | _, _ => none
theorem gI0_inv {g : Int → Int → PyData} {x y d : PyData} (h : gI0 g x y = some d) : ∃ i j, x = .int i ∧ y = .int j ∧ d = g i j := by
  unfold gI0 at h
  split at h
  · cases h; exact ⟨_, _, rfl, rfl, rfl⟩
  · cases h
theorem gI_inv {C : Int → Int → Prop} {g : Int → Int → PyData} {x y d : PyData} (h : gI C g x y = some d) : ∃ i j, x = .int i ∧ y = .int j ∧ C i j ∧ d = g i j := by
  unfold gI at h
  split at h
  · split at h
    · rename_i hc; cases h; exact ⟨_, _, rfl, rfl, hc, rfl⟩
    · cases h
  · cases h
theorem rr_I0 {K : PySem.W.Frag} {g : Int → Int → V} {g' : Int → Int → PyData} (hg : ∀ i j Z, Rp K Z (g i j) (g' i j)) : RR K (rI0 g) (gI0 g') := fun x y dx dy d Z H s rx ry e Q q => by
  obtain ⟨i, j, rfl, rfl, rfl⟩ := gI0_inv e
  cases rx; cases ry
  exact ⟨i, j, rfl, rfl, q _ H Z (Ext.refl s) (hg i j Z)⟩
theorem rr_I {K : PySem.W.Frag} {C C' : Int → Int → Prop} {g : Int → Int → V} {g' : Int → Int → PyData} (hc : ∀ i j, C' i j → C i j) (hg : ∀ i j Z, Rp K Z (g i j) (g' i j)) : RR K (rI C g) (gI C' g') := fun x y dx dy d Z H s rx ry e Q q => by
  obtain ⟨i, j, rfl, rfl, c, rfl⟩ := gI_inv e
  cases rx; cases ry
  exact ⟨i, j, rfl, rfl, hc i j c, q _ H Z (Ext.refl s) (hg i j Z)⟩
/-- below 2^n in size -/
def Bd (n : Nat) (i : Int) : Prop := i.natAbs < 2 ^ n
def MulG (i j : Int) : Prop := Bd 100000 i ∧ Bd 100000 j
def DivG (i j : Int) : Prop := j ≠ 0 ∧ Bd 8999 j
def ModG (i j : Int) : Prop := j ≠ 0
def PowG (i j : Int) : Prop := 0 ≤ j ∧ j ≤ 1000000 ∧ i.natAbs < 2 ^ 64
def CDivX (_ j : Int) : Prop := j ≠ 0 ∧ j.natAbs.log2 < 9000
theorem op_fdivX {X : Cx} : OpR X (binaryOp .FloorDiv) (rI CDivX fun i j => .int (i.fdiv j)) := opI fun _ _ _ _ _ _ _ hc q => floordiv_int hc.1 q (.inl (PyProof.noPylong_of_log2 hc.2))
section
variable {X : Cx} {K : PySem.W.Frag} {pos : Pos} {a b c : Expr} {fa fb fc : DF}
abbrev gAdd : G2 := gI0 fun i j => .int (i + j)
abbrev gSub : G2 := gI0 fun i j => .int (i - j)
noncomputable abbrev gMul : G2 := gI MulG fun i j => .int (i * j)
noncomputable abbrev gDiv : G2 := gI DivG fun i j => .int (i.fdiv j)
noncomputable abbrev gMod : G2 := gI ModG fun i j => .int (i.fmod j)
noncomputable abbrev gPow : G2 := gI PowG fun i j => .int (i ^ j.toNat)
abbrev gLt : G2 := gI0 fun i j => .bool (decide (i < j))
abbrev gLe : G2 := gI0 fun i j => .bool (decide (i ≤ j))
abbrev gGt : G2 := gI0 fun i j => .bool (decide (j < i))
abbrev gGe : G2 := gI0 fun i j => .bool (decide (j ≤ i))
theorem rr_lt : RR K (rI0 fun i j => .bl (decide (i < j))) gLt := rr_I0 fun _ _ _ => .bl _
theorem rr_le : RR K (rI0 fun i j => .bl (decide (i ≤ j))) gLe := rr_I0 fun _ _ _ => .bl _
theorem rr_gt : RR K (rI0 fun i j => .bl (decide (j < i))) gGt := rr_I0 fun _ _ _ => .bl _
theorem rr_ge : RR K (rI0 fun i j => .bl (decide (j ≤ i))) gGe := rr_I0 fun _ _ _ => .bl _
theorem de_add (ha : DE X K a fa) (hb : DE X K b fb) : DE X K (.BinOp a .Add b pos) (f2 gAdd fa fb) := de_op op_add (rr_I0 fun _ _ _ => .int _) ha hb
theorem de_sub (ha : DE X K a fa) (hb : DE X K b fb) : DE X K (.BinOp a .Sub b pos) (f2 gSub fa fb) := de_op op_sub (rr_I0 fun _ _ _ => .int _) ha hb
theorem de_mul (ha : DE X K a fa) (hb : DE X K b fb) : DE X K (.BinOp a .Mult b pos) (f2 gMul fa fb) := de_op op_mulW (rr_I (fun i j h => wide_mul h.1 h.2 (by decide) (by decide) (by decide)) fun _ _ _ => .int _) ha hb
theorem de_div (ha : DE X K a fa) (hb : DE X K b fb) : DE X K (.BinOp a .FloorDiv b pos) (f2 gDiv fa fb) := de_op op_fdivX (rr_I (fun i j h => ⟨h.1, Nat.lt_of_lt_of_le (PySem.Flt.log2_lt_of (by decide) h.2) (by decide)⟩) fun _ _ _ => .int _) ha hb
theorem de_mod (ha : DE X K a fa) (hb : DE X K b fb) : DE X K (.BinOp a .Mod b pos) (f2 gMod fa fb) := de_op op_modN (rr_I (fun i j h => h) fun _ _ _ => .int _) ha hb
theorem de_pow (ha : DE X K a fa) (hb : DE X K b fb) : DE X K (.BinOp a .Pow b pos) (f2 gPow fa fb) := de_op op_pow (rr_I (fun i j h => h) fun _ _ _ => .int _) ha hb
theorem de_lt (ha : DE X K a fa) (hb : DE X K b fb) : DE X K (.Compare a [.Lt] [b] pos) (f2 gLt fa fb) := de_cmp op_lt rr_lt ha hb (nomark _)
theorem de_le (ha : DE X K a fa) (hb : DE X K b fb) : DE X K (.Compare a [.LtE] [b] pos) (f2 gLe fa fb) := de_cmp op_le rr_le ha hb (nomark _)
theorem de_gt (ha : DE X K a fa) (hb : DE X K b fb) : DE X K (.Compare a [.Gt] [b] pos) (f2 gGt fa fb) := de_cmp op_gt rr_gt ha hb (nomark _)
theorem de_ge (ha : DE X K a fa) (hb : DE X K b fb) : DE X K (.Compare a [.GtE] [b] pos) (f2 gGe fa fb) := de_cmp op_ge rr_ge ha hb (nomark _)
/-- == and != of any data -/
def gEq : G2 := fun x y => if SeqAt.shaped x && SeqAt.shaped y then some (.bool (PyData.eqv x y)) else none
def gNe : G2 := fun x y => if SeqAt.shaped x && SeqAt.shaped y then some (.bool (!PyData.eqv x y)) else none
theorem shaped_lay {d : PyData} (h : SeqAt.shaped d = true) : d.canLay0 = true := SeqAt.canLay_of_shaped h
theorem rr_eq : RR K (rEqD K) gEq := fun x y dx dy d Z H s rx ry e Q q => by
  unfold gEq at e
  split at e
  · rename_i h
    rw [Bool.and_eq_true] at h
    cases e
    exact ⟨dx, dy, (rx.mono s).dp (shaped_lay h.1), (ry.mono s).dp (shaped_lay h.2), h.1, h.2, q _ H Z (Ext.refl s) (.bl _)⟩
  · cases e
theorem rr_ne : RR K (rNeD K) gNe := fun x y dx dy d Z H s rx ry e Q q => by
  unfold gNe at e
  split at e
  · rename_i h
    rw [Bool.and_eq_true] at h
    cases e
    exact ⟨dx, dy, (rx.mono s).dp (shaped_lay h.1), (ry.mono s).dp (shaped_lay h.2), h.1, h.2, q _ H Z (Ext.refl s) (.bl _)⟩
  · cases e
theorem de_eq {k : Nat} (hr : Room k X.A) (hK : X.K = K := by rfl) (ha : DE X K a fa) (hb : DE X K b fb) : DE X K (.Compare a [.Eq] [b] pos) (f2 gEq fa fb) := by
  subst hK; exact de_cmp (op_eqD hr.units) rr_eq ha hb (nomark _)
theorem de_ne {k : Nat} (hr : Room k X.A) (hK : X.K = K := by rfl) (ha : DE X K a fa) (hb : DE X K b fb) : DE X K (.Compare a [.NotEq] [b] pos) (f2 gNe fa fb) := by
  subst hK; exact de_cmp (op_neD hr.units) rr_ne ha hb (nomark _)
end
end DL
/-! part DL2 -/
namespace DL
open PySem PySem.Spec PyProof.Rows L2
/-! ### items, slices, displays -/
def gIx : G2 := fun x y => match x, y with
  | .list ds, .int i => atI ds i
  | .tuple ds, .int i => atI ds i
  | .dict kvs, .int i => (atI kvs i).map (·.2)
  | _, _ => none
section
variable {K : PySem.W.Frag} {Z H : Hp}
theorem atI_rp {vs : List V} {ds : List PyData} {i : Int} {d : PyData} (r : RpAll K Z vs ds) (h : atI ds i = some d) : ∃ v, atI vs i = some v ∧ Rp K Z v d := by
  unfold atI at h ⊢
  rw [r.length]
  cases e : ixN ds.length i with
  | none => rw [e] at h; cases h
  | some j =>
    rw [e] at h
    exact r.get h
theorem atI_map {α β : Type} {f : α → β} {xs : List α} {i : Int} : atI (xs.map f) i = (atI xs i).map f := by
  unfold atI
  rw [List.length_map]
  cases ixN xs.length i with
  | none => rfl
  | some j => exact List.getElem?_map
theorem gIx_inv {x y d : PyData} (h : gIx x y = some d) : (∃ ds i, x = .list ds ∧ y = .int i ∧ atI ds i = some d) ∨ (∃ ds i, x = .tuple ds ∧ y = .int i ∧ atI ds i = some d) ∨
    ∃ kvs i, x = .dict kvs ∧ y = .int i ∧ (atI kvs i).map (·.2) = some d := by
  unfold gIx at h
  split at h
  · exact .inl ⟨_, _, rfl, rfl, h⟩
  · exact .inr (.inl ⟨_, _, rfl, rfl, h⟩)
  · exact .inr (.inr ⟨_, _, rfl, rfl, h⟩)
  · cases h
theorem rr_ix : RR K (fun x y H Q => rIxL K x y H Q ∨ rIxT K x y H Q) gIx := fun x y dx dy d Z H s rx ry e Q q => by
  rcases gIx_inv e with ⟨ds, i, rfl, rfl, h⟩ | ⟨ds, i, rfl, rfl, h⟩ | ⟨kvs, i, rfl, rfl, h⟩
  · cases ry
    cases rx with
    | lst ha r =>
      obtain ⟨v, hv, rv⟩ := atI_rp r h
      exact .inl ⟨_, _, i, v, rfl, rfl, SqL.of (s _ _ ha), hv, q v H Z (Ext.refl s) rv⟩
  · cases ry
    cases rx with
    | tup ha r =>
      obtain ⟨v, hv, rv⟩ := atI_rp r h
      exact .inr ⟨_, _, i, v, rfl, rfl, SqT.of (s _ _ ha), hv, q v H Z (Ext.refl s) rv⟩
  · cases ry
    cases rx with
    | @scr a ns hs =>
      rw [atI_map, Option.map_map] at h
      cases e2 : atI ns i with
      | none => rw [e2] at h; cases h
      | some n =>
        rw [e2] at h
        have : d = .int n := by cases h; rfl
        subst this
        exact .inl ⟨_, _, i, .int n, rfl, rfl, s.seq hs, by rw [atI_map, e2]; rfl, q _ H Z (Ext.refl s) (.int n)⟩
end
section
variable {X : Cx} {K : PySem.W.Frag} {pos : Pos} {a b c e : Expr} {es : List Expr} {fa fb fc fe : DF} {fs : Env → Option (List PyData)}
theorem de_ix (hK : X.K = K := by rfl) (ha : DE X K a fa) (hb : DE X K b fb) (hs : PlainIx b := by exact fun _ _ => rfl) : DE X K (.Subscript a b pos) (f2 gIx fa fb) := by
  subst hK
  exact (pe_ix (ix_list.or ix_tup) ha hb hs).weak (tOp_weak rr_ix)
/-! argument lists -/
def fNil : Env → Option (List PyData) := fun _ => some []
def fCons (fe : DF) (fs : Env → Option (List PyData)) : Env → Option (List PyData) := fun ρ => (fe ρ).bind fun d => (fs ρ).bind fun ds => some (d :: ds)
theorem da_nil : DA X K [] fNil := pa_nil.weak fun σ H Q ⟨Z, ρ, ds, s, v, e, q⟩ => by
  cases e; exact q _ H Z (Ext.refl s) .nil
theorem da_cons (he : DE X K e fe) (hs : DA X K es fs) (hst : starEach (e :: es) X.env = (false, eval e X.env) :: starEach es X.env := by rfl) : DA X K (e :: es) (fCons fe fs) :=
  (pa_cons he hs hst).weak fun σ H Q ⟨Z, ρ, ds, s, v, e, q⟩ => by
    obtain ⟨x, e1, e2⟩ := opt_bind e
    obtain ⟨xs, e3, e4⟩ := opt_bind e2
    cases e4
    refine ⟨Z, ρ, x, s, v, e1, fun vx H1 Z1 x1 r1 => ?_⟩
    exact ⟨Z1, ρ, xs, x1.sub, v.mono x1.up, e3, fun vs H2 Z2 x2 r2 => q _ H2 Z2 (x1.trans x2) (.cons (r1.mono x2.up) r2)⟩
/-- a new list, settled -/
def fL (f : Env → Option (List PyData)) : DF := fun ρ => (f ρ).map .list
def fTup (f : Env → Option (List PyData)) : DF := fun ρ => (f ρ).bind fun ds => if ds.length ≤ 1000 then some (.tuple ds) else none
def fLst (f : Env → Option (List PyData)) : Env → Option (List PyData) := fun ρ => (f ρ).bind fun ds => if ds.length ≤ 1000 then some ds else none
theorem le_line {n : Nat} (h : n ≤ 1000) : n ≤ sizeLine := Nat.le_trans h (by decide)
theorem dn_de {f : Env → Option (List PyData)} (h : DN X K e f) : DE X K e (fL f) := PE.weak h fun σ H Q ⟨Z, ρ, d, s, v, ed, q⟩ => by
  unfold fL at ed
  cases e1 : f ρ with
  | none => rw [e1] at ed; cases ed
  | some ds =>
    rw [e1] at ed
    cases ed
    refine ⟨Z, ρ, ds, s, v, e1, fun p vs H' Z' x hp zp hl r => ?_⟩
    have sz : Same Z' (upd Z' p (.lst vs)) := same_upd zp
    refine q (.ref p) H' (upd Z' p (.lst vs)) ⟨x.big, x.up.trans sz, fun b o eb => ?_, fun b hb hn => ?_⟩ (.lst upd_same (r.mono sz))
    · by_cases hbp : b = p
      · subst hbp; rw [upd_same] at eb; cases eb; exact hl
      · rw [upd_ne hbp] at eb; exact x.sub _ _ eb
    · by_cases hbp : b = p
      · subst hbp; exact hp
      · rw [upd_ne hbp] at hn; exact x.new b hb hn
theorem de_tup {x1} (h : DA X K es fs) : DE X K (.Tuple es x1 pos) (fTup fs) := (pe_tup h).weak fun σ H Q ⟨Z, ρ, d, s, v, ed, q⟩ => by
  obtain ⟨ds, e1, e2⟩ := opt_bind ed
  split at e2
  · rename_i hl
    cases e2
    refine ⟨Z, ρ, ds, s, v, e1, fun vs H1 Z1 x1 r1 => ⟨by rw [r1.length]; exact le_line hl, fun p hp => ?_⟩⟩
    have x2 : Ext Z1 H1 (upd Z1 p (.tup vs)) (upd H1 p (.tup vs)) := Ext.lay x1.sub hp
    exact q _ _ _ (x1.trans x2) (.tup upd_same (r1.mono x2.up))
  · cases e2
theorem dn_lst (h : DA X K es fs) : DN X K (.List es pos) (fLst fs) := (pe_lst h).weak fun σ H Q ⟨Z, ρ, d, s, v, ed, q⟩ => by
  obtain ⟨ds, e1, e2⟩ := opt_bind ed
  split at e2
  · rename_i hl
    cases e2
    refine ⟨Z, ρ, d, s, v, e1, fun vs H1 Z1 x1 r1 => ⟨by rw [r1.length]; exact le_line hl, fun p hp => ?_⟩⟩
    exact q p vs _ _ (x1.trans (Ext.free x1.sub hp)) (x1.big.free hp) (x1.sub.free hp) upd_same r1
  · cases e2
/-! slices -/
def fPn : Env → Option (Option Int) := fun _ => some none
def asInt : PyData → Option Int
  | .int i => some i
  | _ => none
def fPs (f : DF) : Env → Option (Option Int) := fun ρ => (f ρ).bind fun d => (asInt d).map some
theorem do_none : DO X K none fPn := po_none.weak fun σ H Q ⟨Z, ρ, d, s, v, ed, q⟩ => by
  cases ed; exact q H Z (Ext.refl s)
theorem asInt_inv {d : PyData} {i : Int} (h : asInt d = some i) : d = .int i := by
  cases d <;> cases h; rfl
theorem do_some (h : DE X K e fe) : DO X K (some e) (fPs fe) := (po_some h).weak fun σ H Q ⟨Z, ρ, o, s, v, ed, q⟩ => by
  obtain ⟨d, e1, e2⟩ := opt_bind ed
  cases e3 : asInt d with
  | none => rw [e3] at e2; cases e2
  | some i =>
    rw [e3] at e2
    cases e2
    have := asInt_inv e3
    subst this
    refine ⟨Z, ρ, _, s, v, e1, fun vx H1 Z1 x1 r1 => ?_⟩
    cases r1
    exact ⟨i, rfl, q H1 Z1 x1⟩
def cutG {α : Type} (xs : List α) (lo hi : Option Int) : List α := (xs.drop (HT.sIx xs.length 0 lo)).take (HT.sIx xs.length xs.length hi - HT.sIx xs.length 0 lo)
def asList : PyData → Option (List PyData)
  | .list ds => some ds
  | _ => none
theorem asList_inv {d : PyData} {ds : List PyData} (h : asList d = some ds) : d = .list ds := by
  cases d <;> cases h; rfl
def fSl (fe : DF) (fl fh : Env → Option (Option Int)) : Env → Option (List PyData) := fun ρ => (fe ρ).bind fun d => (asList d).bind fun ds => (fl ρ).bind fun l => (fh ρ).bind fun h => some (cutG ds l h)
theorem dn_slice {lo hi : Option Expr} {fl fh : Env → Option (Option Int)} {p2 : Pos} (hK : X.K = K := by rfl) (he : DE X K e fe) (hl : DO X K lo fl) (hh : DO X K hi fh) : DN X K (.Subscript e (.Slice lo hi none p2) pos) (fSl fe fl fh) := by
  subst hK
  refine (pe_slice sl_list he hl hh).weak fun σ H Q ⟨Z, ρ, d, s, v, ed, q⟩ => ?_
  obtain ⟨x, e1, e2⟩ := opt_bind ed
  obtain ⟨ds, e3, e4⟩ := opt_bind e2
  obtain ⟨l, e5, e6⟩ := opt_bind e4
  obtain ⟨h, e7, e8⟩ := opt_bind e6
  cases e8
  have := asList_inv e3
  subst this
  refine ⟨Z, ρ, _, s, v, e1, fun vx H1 Z1 x1 r1 => ?_⟩
  refine ⟨Z1, ρ, l, x1.sub, v.mono x1.up, e5, fun H2 Z2 x2 => ?_⟩
  refine ⟨Z2, ρ, h, x2.sub, (v.mono x1.up).mono x2.up, e7, fun H3 Z3 x3 => ?_⟩
  cases r1 with
  | @lst a xs _ ha r =>
    have hs : Same Z1 H3 := (x2.up.trans x3.up).trans x3.sub
    refine ⟨a, xs, rfl, SqL.of (hs _ _ ha), fun p hp => ?_⟩
    have x4 : Ext Z3 H3 Z3 (upd H3 p (.lst (cutV xs l h))) := Ext.free x3.sub hp
    have x13 := (x1.trans x2).trans x3
    refine q p _ _ _ (x13.trans x4) (x13.big.free hp) (x3.sub.free hp) upd_same ?_
    have r3 := r.mono (x2.up.trans x3.up)
    unfold cutV cutG
    rw [r3.length]
    exact (r3.drop _).take _
/-! list + list -/
def fCat (fa fb : DF) : Env → Option (List PyData) := fun ρ => (fa ρ).bind fun x => (asList x).bind fun xs => (fb ρ).bind fun y => (asList y).bind fun ys => if xs.length + ys.length ≤ 1000 then some (xs ++ ys) else none
theorem dn_cat (ha : DE X K a fa) (hb : DE X K b fb) : DN X K (.BinOp a .Add b pos) (fCat fa fb) := by
  refine (pe_op op_cat ha hb).weak fun σ H Q ⟨Z, ρ, d, s, v, ed, q⟩ => ?_
  obtain ⟨x, e1, e2⟩ := opt_bind ed
  obtain ⟨xs, e3, e4⟩ := opt_bind e2
  obtain ⟨y, e5, e6⟩ := opt_bind e4
  obtain ⟨ys, e7, e8⟩ := opt_bind e6
  split at e8
  · rename_i hl
    cases e8
    have := asList_inv e3
    subst this
    have := asList_inv e7
    subst this
    refine ⟨Z, ρ, _, s, v, e1, fun vx H1 Z1 x1 r1 => ?_⟩
    refine ⟨Z1, ρ, _, x1.sub, v.mono x1.up, e5, fun vy H2 Z2 x2 r2 => ?_⟩
    have r1' := r1.mono x2.up
    cases r1' with
    | lst ha ra =>
      cases r2 with
      | lst hb rb =>
        refine ⟨_, _, _, _, rfl, rfl, x2.sub _ _ ha, x2.sub _ _ hb, by rw [ra.length, rb.length]; exact le_line hl, fun p hp => ?_⟩
        exact q p _ _ _ ((x1.trans x2).trans (Ext.free x2.sub hp)) ((x1.trans x2).big.free hp) (x2.sub.free hp) upd_same (ra.append rb)
  · cases e8
end
/-! ### tests -/
def asBool : PyData → Option Bool
  | .bool b => some b
  | _ => none
theorem asBool_inv {d : PyData} {i : Bool} (h : asBool d = some i) : d = .bool i := by
  cases d <;> cases h; rfl
def fTst (f : DF) : Env → Option Bool := fun ρ => (f ρ).bind asBool
def fAnd (f g : Env → Option Bool) : Env → Option Bool := fun ρ => (f ρ).bind fun b => if b = true then g ρ else some false
def fOr (f g : Env → Option Bool) : Env → Option Bool := fun ρ => (f ρ).bind fun b => if b = true then some true else g ρ
def fNot (f : Env → Option Bool) : Env → Option Bool := fun ρ => (f ρ).map (!·)
def fB (f : Env → Option Bool) : DF := fun ρ => (f ρ).map .bool
section
variable {X : Cx} {K : PySem.W.Frag} {pos : Pos} {a b c e : Expr} {es rest : List Expr} {fa fb fc fe : DF} {ta tb : Env → Option Bool}
/-- a bool's expression as a test -/
theorem dt_val (h : DE X K e fe) (he : ∀ whole, isTrue e X.env whole = (do let v ← whole; standAt e.pos; holding [v] (truthy v)) := by intro _; rfl) : DT X K e (fTst fe) := (pt_val h he).weak fun σ H Q ⟨Z, ρ, b, s, v, ed, q⟩ => by
  obtain ⟨x, e1, e2⟩ := opt_bind ed
  have := asBool_inv e2
  subst this
  refine ⟨Z, ρ, _, s, v, e1, fun vx H1 Z1 x1 r1 => ?_⟩
  cases r1
  exact ⟨b, rfl, q H1 Z1 x1⟩
theorem dt_cmp {op : CmpOp} {r : R2} {g : G2} (ho : OpR X (compareOp op) r) (rr : RR K r g) (ha : DE X K a fa) (hb : DE X K b fb) (hm : behindInMarks op b = false) : DT X K (.Compare a [op] [b] pos) (fTst (f2 g fa fb)) :=
  (pt_cmpR ho ha hb hm).weak fun σ H Q ⟨Z, ρ, b, s, v, ed, q⟩ => by
    obtain ⟨x, e1, e2⟩ := opt_bind ed
    have := asBool_inv e2
    subst this
    refine tOp_weak rr σ H _ ⟨Z, ρ, _, s, v, e1, fun vx H1 Z1 x1 r1 => ?_⟩
    cases r1
    exact ⟨b, rfl, q H1 Z1 x1⟩
theorem dt_lt (ha : DE X K a fa) (hb : DE X K b fb) : DT X K (.Compare a [.Lt] [b] pos) (fTst (f2 gLt fa fb)) := dt_cmp op_lt rr_lt ha hb (nomark _)
theorem dt_le (ha : DE X K a fa) (hb : DE X K b fb) : DT X K (.Compare a [.LtE] [b] pos) (fTst (f2 gLe fa fb)) := dt_cmp op_le rr_le ha hb (nomark _)
theorem dt_gt (ha : DE X K a fa) (hb : DE X K b fb) : DT X K (.Compare a [.Gt] [b] pos) (fTst (f2 gGt fa fb)) := dt_cmp op_gt rr_gt ha hb (nomark _)
theorem dt_ge (ha : DE X K a fa) (hb : DE X K b fb) : DT X K (.Compare a [.GtE] [b] pos) (fTst (f2 gGe fa fb)) := dt_cmp op_ge rr_ge ha hb (nomark _)
theorem dt_eq {k : Nat} (hr : Room k X.A) (hK : X.K = K := by rfl) (ha : DE X K a fa) (hb : DE X K b fb) : DT X K (.Compare a [.Eq] [b] pos) (fTst (f2 gEq fa fb)) := by
  subst hK; exact dt_cmp (op_eqD hr.units) rr_eq ha hb (nomark _)
theorem dt_ne {k : Nat} (hr : Room k X.A) (hK : X.K = K := by rfl) (ha : DE X K a fa) (hb : DE X K b fb) : DT X K (.Compare a [.NotEq] [b] pos) (fTst (f2 gNe fa fb)) := by
  subst hK; exact dt_cmp (op_neD hr.units) rr_ne ha hb (nomark _)
/-- x in a list, x not in a list -/
def gIn : G2 := fun x y => match y with
  | .list ds => if SeqAt.shaped x && SeqAt.shaped (.list ds) then some (.bool (ds.any fun z => PyData.eqv z x)) else none
  | _ => none
def gNotIn : G2 := fun x y => match y with
  | .list ds => if SeqAt.shaped x && SeqAt.shaped (.list ds) then some (.bool (!ds.any fun z => PyData.eqv z x)) else none
  | _ => none
theorem rr_in : RR K (rInD K) gIn := fun x y dx dy d Z H s rx ry e Q q => by
  unfold gIn at e
  split at e
  · split at e
    · rename_i h
      rw [Bool.and_eq_true] at h
      cases e
      exact ⟨dx, _, (rx.mono s).dp (shaped_lay h.1), (ry.mono s).dp (shaped_lay h.2), h.1, h.2, q _ H Z (Ext.refl s) (.bl _)⟩
    · cases e
  · cases e
theorem rr_notIn : RR K (rNotInD K) gNotIn := fun x y dx dy d Z H s rx ry e Q q => by
  unfold gNotIn at e
  split at e
  · split at e
    · rename_i h
      rw [Bool.and_eq_true] at h
      cases e
      exact ⟨dx, _, (rx.mono s).dp (shaped_lay h.1), (ry.mono s).dp (shaped_lay h.2), h.1, h.2, q _ H Z (Ext.refl s) (.bl _)⟩
    · cases e
  · cases e
theorem units65 {A : Around} {k : Nat} (hr : Room k A) : A.units + 65 < cLine := by have := hr.un; omega
theorem de_in {k : Nat} (hr : Room k X.A) (hK : X.K = K := by rfl) (ha : DE X K a fa) (hb : DE X K b fb) (hm : behindInMarks .In b = false := by rfl) : DE X K (.Compare a [.In] [b] pos) (f2 gIn fa fb) := by
  subst hK; exact de_cmp (op_inD (units65 hr)) rr_in ha hb hm
theorem dt_in {k : Nat} (hr : Room k X.A) (hK : X.K = K := by rfl) (ha : DE X K a fa) (hb : DE X K b fb) (hm : behindInMarks .In b = false := by rfl) : DT X K (.Compare a [.In] [b] pos) (fTst (f2 gIn fa fb)) := by
  subst hK; exact dt_cmp (op_inD (units65 hr)) rr_in ha hb hm
theorem dt_notIn {k : Nat} (hr : Room k X.A) (hK : X.K = K := by rfl) (ha : DE X K a fa) (hb : DE X K b fb) (hm : behindInMarks .NotIn b = false := by rfl) : DT X K (.Compare a [.NotIn] [b] pos) (fTst (f2 gNotIn fa fb)) := by
  subst hK; exact dt_cmp (op_notInD (units65 hr)) rr_notIn ha hb hm
/-- is None, is not None -/
def gIsN (d : PyData) : PyData := .bool (match d with | .none => true | _ => false)
def gNotN (d : PyData) : PyData := .bool (match d with | .none => false | _ => true)
def f1 (g : PyData → Option PyData) (fa : DF) : DF := fun ρ => (fa ρ).bind g
theorem rp_non {Z : Hp} {v : V} {d : PyData} (r : Rp K Z v d) : Rp K Z (.bl (decide (v = .non))) (gIsN d) := by
  cases r <;> exact .bl _
theorem rp_notN {Z : Hp} {v : V} {d : PyData} (r : Rp K Z v d) : Rp K Z (.bl (!decide (v = .non))) (gNotN d) := by
  cases r <;> exact .bl _
theorem de_isN {j pos'} (ha : DE X K a fa) : DE X K (.Compare a [.Is] [.Constant .none j pos'] pos) (f1 (fun d => some (gIsN d)) fa) := (pe_cmp (pc_isN ha)).weak fun σ H Q ⟨Z, ρ, d, s, v, ed, q⟩ => by
  obtain ⟨x, e1, e2⟩ := opt_bind ed
  cases e2
  exact ⟨Z, ρ, x, s, v, e1, fun vx H1 Z1 x1 r1 => q _ H1 Z1 x1 (rp_non r1)⟩
theorem de_notN {j pos'} (ha : DE X K a fa) : DE X K (.Compare a [.IsNot] [.Constant .none j pos'] pos) (f1 (fun d => some (gNotN d)) fa) := (pe_cmp (pc_notN ha)).weak fun σ H Q ⟨Z, ρ, d, s, v, ed, q⟩ => by
  obtain ⟨x, e1, e2⟩ := opt_bind ed
  cases e2
  exact ⟨Z, ρ, x, s, v, e1, fun vx H1 Z1 x1 r1 => q _ H1 Z1 x1 (rp_notN r1)⟩
theorem dt_isN {j pos'} (ha : DE X K a fa) : DT X K (.Compare a [.Is] [.Constant .none j pos'] pos) (fTst (f1 (fun d => some (gIsN d)) fa)) := (pt_cmp (pc_isN ha)).weak fun σ H Q ⟨Z, ρ, d, s, v, ed, q⟩ => by
  obtain ⟨y, e0, e3⟩ := opt_bind ed
  obtain ⟨x, e1, e2⟩ := opt_bind e0
  cases e2
  have e3' := asBool_inv e3
  exact ⟨Z, ρ, x, s, v, e1, fun vx H1 Z1 x1 r1 => by
    have r2 := rp_non r1
    rw [e3'] at r2
    have hb : decide (vx = V.non) = d := by
      generalize decide (vx = V.non) = bb at r2
      cases r2; rfl
    exact ⟨d, by rw [hb], q H1 Z1 x1⟩⟩
theorem dt_notN {j pos'} (ha : DE X K a fa) : DT X K (.Compare a [.IsNot] [.Constant .none j pos'] pos) (fTst (f1 (fun d => some (gNotN d)) fa)) := (pt_cmp (pc_notN ha)).weak fun σ H Q ⟨Z, ρ, d, s, v, ed, q⟩ => by
  obtain ⟨y, e0, e3⟩ := opt_bind ed
  obtain ⟨x, e1, e2⟩ := opt_bind e0
  cases e2
  have e3' := asBool_inv e3
  exact ⟨Z, ρ, x, s, v, e1, fun vx H1 Z1 x1 r1 => by
    have r2 := rp_notN r1
    rw [e3'] at r2
    have hb : (!decide (vx = V.non)) = d := by
      generalize (!decide (vx = V.non)) = bb at r2
      cases r2; rfl
    exact ⟨d, by rw [hb], q H1 Z1 x1⟩⟩
/-- and, or, not as tests -/
abbrev DW (X : Cx) (K : PySem.W.Frag) (e : Expr) (f : Env → Option Bool) : Prop := PW X e (tT K f)
theorem _root_.L2.PW.weak {e : Expr} {t t' : TT} (h : PW X e t) (w : ∀ σ H Q, t' σ H Q → t σ H Q) : PW X e t' := ⟨fun wh pins s σ H Q I q => h.run wh pins s σ H Q I (w _ _ _ q)⟩
theorem dw_and1 (ha : DT X K a ta) : DW X K (.BoolOp .And [a] pos) ta := pw_and1 ha
theorem dw_or1 (ha : DT X K a ta) : DW X K (.BoolOp .Or [a] pos) ta := pw_or1 ha
theorem dw_and (ha : DT X K a ta) (hb : DW X K (.BoolOp .And (b :: rest) pos) tb) : DW X K (.BoolOp .And (a :: b :: rest) pos) (fAnd ta tb) := (pw_and ha hb).weak fun σ H Q ⟨Z, ρ, d, s, v, ed, q⟩ => by
  obtain ⟨x, e1, e2⟩ := opt_bind ed
  refine ⟨Z, ρ, x, s, v, e1, fun H1 Z1 x1 => ?_⟩
  cases x with
  | true => exact iteT ⟨Z1, ρ, d, x1.sub, v.mono x1.up, e2, fun H2 Z2 x2 => q H2 Z2 (x1.trans x2)⟩
  | false => cases e2; exact iteF (q H1 Z1 x1)
theorem dw_or (ha : DT X K a ta) (hb : DW X K (.BoolOp .Or (b :: rest) pos) tb) : DW X K (.BoolOp .Or (a :: b :: rest) pos) (fOr ta tb) := (pw_or ha hb).weak fun σ H Q ⟨Z, ρ, d, s, v, ed, q⟩ => by
  obtain ⟨x, e1, e2⟩ := opt_bind ed
  refine ⟨Z, ρ, x, s, v, e1, fun H1 Z1 x1 => ?_⟩
  cases x with
  | true => cases e2; exact iteT (q H1 Z1 x1)
  | false => exact iteF ⟨Z1, ρ, d, x1.sub, v.mono x1.up, e2, fun H2 Z2 x2 => q H2 Z2 (x1.trans x2)⟩
theorem dw_dt {e : Expr} {f : Env → Option Bool} (h : DW X K e f) : DT X K e f := h.pt
theorem dt_not (ha : DT X K a ta) : DT X K (.UnaryOp .Not a pos) (fNot ta) := (pt_not ha).weak fun σ H Q ⟨Z, ρ, d, s, v, ed, q⟩ => by
  unfold fNot at ed
  cases e1 : ta ρ with
  | none => rw [e1] at ed; cases ed
  | some x =>
    rw [e1] at ed
    cases ed
    exact ⟨Z, ρ, x, s, v, e1, fun H1 Z1 x1 => q H1 Z1 x1⟩
/-- and, or, not as values of bools -/
theorem de_one {op : BoolOp} (ha : DE X K a (fB ta)) : DE X K (.BoolOp op [a] pos) (fB ta) := pe_one ha
theorem fB_some {ta : Env → Option Bool} {ρ : Env} {d : PyData} (h : fB ta ρ = some d) : ∃ x, ta ρ = some x ∧ d = .bool x := by
  unfold fB at h
  cases e1 : ta ρ with
  | none => rw [e1] at h; cases h
  | some x => rw [e1] at h; cases h; exact ⟨x, rfl, rfl⟩
theorem de_and (ha : DE X K a (fB ta)) (hb : DE X K (.BoolOp .And (b :: rest) pos) (fB tb)) : DE X K (.BoolOp .And (a :: b :: rest) pos) (fB (fAnd ta tb)) := (pe_and ha hb).weak fun σ H Q ⟨Z, ρ, d, s, v, ed, q⟩ => by
  obtain ⟨y, e0, rfl⟩ := fB_some ed
  obtain ⟨x, e1, e2⟩ := opt_bind e0
  refine ⟨Z, ρ, .bool x, s, v, by unfold fB; rw [e1]; rfl, fun vx H1 Z1 x1 r1 => ?_⟩
  cases r1
  refine ⟨x, rfl, ?_⟩
  cases x with
  | true => exact iteT ⟨Z1, ρ, .bool y, x1.sub, v.mono x1.up, by unfold fB; rw [show tb ρ = some y by simpa using e2]; rfl, fun w H2 Z2 x2 r2 => q w H2 Z2 (x1.trans x2) r2⟩
  | false => cases e2; exact iteF (q _ H1 Z1 x1 (.bl _))
theorem de_or (ha : DE X K a (fB ta)) (hb : DE X K (.BoolOp .Or (b :: rest) pos) (fB tb)) : DE X K (.BoolOp .Or (a :: b :: rest) pos) (fB (fOr ta tb)) := (pe_or ha hb).weak fun σ H Q ⟨Z, ρ, d, s, v, ed, q⟩ => by
  obtain ⟨y, e0, rfl⟩ := fB_some ed
  obtain ⟨x, e1, e2⟩ := opt_bind e0
  refine ⟨Z, ρ, .bool x, s, v, by unfold fB; rw [e1]; rfl, fun vx H1 Z1 x1 r1 => ?_⟩
  cases r1
  refine ⟨x, rfl, ?_⟩
  cases x with
  | true => cases e2; exact iteT (q _ H1 Z1 x1 (.bl _))
  | false => exact iteF ⟨Z1, ρ, .bool y, x1.sub, v.mono x1.up, by unfold fB; rw [show tb ρ = some y by simpa using e2]; rfl, fun w H2 Z2 x2 r2 => q w H2 Z2 (x1.trans x2) r2⟩
theorem de_not (ha : DE X K a (fB ta)) : DE X K (.UnaryOp .Not a pos) (fB (fNot ta)) := (pe_not ha).weak fun σ H Q ⟨Z, ρ, d, s, v, ed, q⟩ => by
  obtain ⟨y, e0, rfl⟩ := fB_some ed
  unfold fNot at e0
  cases e1 : ta ρ with
  | none => rw [e1] at e0; cases e0
  | some x =>
    rw [e1] at e0
    cases e0
    refine ⟨Z, ρ, .bool x, s, v, by unfold fB; rw [e1]; rfl, fun vx H1 Z1 x1 r1 => ?_⟩
    cases r1
    exact ⟨x, rfl, q _ H1 Z1 x1 (.bl _)⟩
/-- a value that is a bool, as fB of its test -/
theorem de_fB (h : DE X K e fe) : DE X K e (fB (fTst fe)) := PE.weak h fun σ H Q ⟨Z, ρ, d, s, v, ed, q⟩ => by
  obtain ⟨y, e0, rfl⟩ := fB_some ed
  obtain ⟨x, e1, e2⟩ := opt_bind e0
  have := asBool_inv e2
  subst this
  exact ⟨Z, ρ, _, s, v, e1, q⟩
/-- a < b < c -/
def fChain (g g' : G2) (fa fb fc : DF) : Env → Option Bool := fun ρ => (fa ρ).bind fun x => (fb ρ).bind fun y => (g x y).bind fun z => (asBool z).bind fun k => if k = true then (fc ρ).bind fun w => (g' y w).bind asBool else some false
theorem tChain_weak {r r' : R2} {g g' : G2} (rr : RR K r g) (rr' : RR K r' g') : ∀ σ H Q, tD K (fB (fChain g g' fa fb fc)) σ H Q → tChain r r' (tD K fa) (tD K fb) (tD K fc) σ H Q := fun σ H Q ⟨Z, ρ, d, s, v, ed, q⟩ => by
  obtain ⟨t, e0, rfl⟩ := fB_some ed
  obtain ⟨x, e1, e2⟩ := opt_bind e0
  obtain ⟨y, e3, e4⟩ := opt_bind e2
  obtain ⟨z, e5, e6⟩ := opt_bind e4
  obtain ⟨k, e7, e8⟩ := opt_bind e6
  have := asBool_inv e7
  subst this
  refine ⟨Z, ρ, x, s, v, e1, fun vx H1 Z1 x1 r1 => ?_⟩
  refine ⟨Z1, ρ, y, x1.sub, v.mono x1.up, e3, fun vy H2 Z2 x2 r2 => ?_⟩
  refine rr vx vy x y _ Z2 H2 x2.sub (r1.mono x2.up) r2 e5 _ fun vz H3 Z3 x3 r3 => ?_
  cases r3
  refine ⟨k, rfl, ?_⟩
  have x13 := (x1.trans x2).trans x3
  cases k with
  | true =>
    obtain ⟨w, e9, e10⟩ := opt_bind e8
    obtain ⟨u, e11, e12⟩ := opt_bind e10
    have := asBool_inv e12
    subst this
    refine iteT ⟨Z3, ρ, w, x3.sub, v.mono x13.up, e9, fun vw H4 Z4 x4 r4 => ?_⟩
    exact rr' vy vw y w _ Z4 H4 x4.sub ((r2.mono x3.up).mono x4.up) r4 e11 _ fun vu H5 Z5 x5 r5 => q vu H5 Z5 ((x13.trans x4).trans x5) r5
  | false =>
    cases e8
    exact iteF (q _ H3 Z3 x13 (.bl _))
theorem de_chain {op op' : CmpOp} {r r' : R2} {g g' : G2} (ho : OpR X (compareOp op) r) (ho' : OpR X (compareOp op') r') (rr : RR K r g) (rr' : RR K r' g') (ha : DE X K a fa) (hb : DE X K b fb) (hc : DE X K c fc)
    (hm : lastMarks [op, op'] [b, c] = false := by with_unfolding_all rfl) : DE X K (.Compare a [op, op'] [b, c] pos) (fB (fChain g g' fa fb fc)) := (pe_chain ho ho' ha hb hc hm).weak (tChain_weak rr rr')
theorem dt_chain {op op' : CmpOp} {r r' : R2} {g g' : G2} (ho : OpR X (compareOp op) r) (ho' : OpR X (compareOp op') r') (rr : RR K r g) (rr' : RR K r' g') (ha : DE X K a fa) (hb : DE X K b fb) (hc : DE X K c fc)
    (hm : lastMarks [op, op'] [b, c] = false := by with_unfolding_all rfl) : DT X K (.Compare a [op, op'] [b, c] pos) (fChain g g' fa fb fc) := (pt_chain ho ho' ha hb hc hm).weak fun σ H Q ⟨Z, ρ, b, s, v, ed, q⟩ =>
  tChain_weak rr rr' σ H _ ⟨Z, ρ, .bool b, s, v, by unfold fB; rw [ed]; rfl, fun vx H1 Z1 x1 r1 => by cases r1; exact ⟨b, rfl, q H1 Z1 x1⟩⟩
end
end DL
/-! part DL3 -/
namespace DL
open PySem PySem.Spec PyProof.Rows L2
/-! ### calls of built-ins -/
def RC (K : PySem.W.Frag) (r : List V → Hp → VK → Prop) (g : List PyData → Option PyData) : Prop := ∀ (xs : List V) (ds : List PyData) (d : PyData) (Z H : Hp), Same Z H → RpAll K Z xs ds → g ds = some d →
  ∀ Q : VK, (∀ v H' Z', Ext Z H Z' H' → Rp K Z' v d → Q v H') → r xs H Q
/-- a new list -/
def RN (K : PySem.W.Frag) (r : List V → Hp → VK → Prop) (g : List PyData → Option (List PyData)) : Prop := ∀ (xs : List V) (ds es : List PyData) (Z H : Hp), Same Z H → RpAll K Z xs ds → g ds = some es →
  ∀ Q : VK, (∀ p vs H' Z', Ext Z H Z' H' → H p = none → Z' p = none → H' p = some (.lst vs) → RpAll K Z' vs es → Q (.ref p) H') → r xs H Q
def fCall (g : List PyData → Option PyData) (fs : Env → Option (List PyData)) : DF := fun ρ => (fs ρ).bind g
def fCallN (g : List PyData → Option (List PyData)) (fs : Env → Option (List PyData)) : Env → Option (List PyData) := fun ρ => (fs ρ).bind g
section
variable {X : Cx} {K : PySem.W.Frag} {pos p : Pos} {a b c e : Expr} {es : List Expr} {fa fb fc fe : DF} {fs : Env → Option (List PyData)} {x : Str}
theorem tCB_weak {r : List V → Hp → VK → Prop} {g : List PyData → Option PyData} (rc : RC K r g) : ∀ σ H Q, tD K (fCall g fs) σ H Q → tCB r (tA K fs) σ H Q := fun σ H Q ⟨Z, ρ, d, s, v, ed, q⟩ => by
  obtain ⟨ds, e1, e2⟩ := opt_bind ed
  exact ⟨Z, ρ, ds, s, v, e1, fun vs H1 Z1 x1 r1 => rc vs ds d Z1 H1 x1.sub r1 e2 Q fun w H2 Z2 x2 r2 => q w H2 Z2 (x1.trans x2) r2⟩
theorem tCB_weakN {r : List V → Hp → VK → Prop} {g : List PyData → Option (List PyData)} (rc : RN K r g) : ∀ σ H Q, tN K (fCallN g fs) σ H Q → tCB r (tA K fs) σ H Q := fun σ H Q ⟨Z, ρ, d, s, v, ed, q⟩ => by
  obtain ⟨ds, e1, e2⟩ := opt_bind ed
  exact ⟨Z, ρ, ds, s, v, e1, fun vs H1 Z1 x1 r1 => rc vs ds d Z1 H1 x1.sub r1 e2 Q fun w us H2 Z2 x2 n1 n2 l r2 => q w us H2 Z2 (x1.trans x2) (x1.big.free n1) n2 l r2⟩
theorem de_callB {id : String} {r : List V → Hp → VK → Prop} {g : List PyData → Option PyData} (hc : CallR X (.builtin id) r) (rc : RC K r g) (hg : Gl X x) (hm : X.mg x = none) (hv : bootBuiltins x = some (.builtin id)) (ha : DA X K (e :: es) fs)
    (hn : x ≠ "__name__" := by decide) (hdb : (x == ("__debug__" : Str)) = false := by decide)
    (he : starEach (e :: es) X.env = (false, eval e X.env) :: starEach es X.env := by rfl) (hpl : (backTo pos (starEach es X.env)).any (·.1) = false := by rfl) : DE X K (.Call (.Name x p) (e :: es) [] pos) (fCall g fs) :=
  (pe_callB hc hg hm hv ha hn hdb he hpl).weak (tCB_weak rc)
theorem de_callTy {T : String} {r : List V → Hp → VK → Prop} {g : List PyData → Option PyData} (hc : CallR X (.type T) r) (rc : RC K r g) (hg : Gl X x) (hm : X.mg x = none) (hv : bootBuiltins x = some (.type T)) (ha : DA X K (e :: es) fs)
    (hn : x ≠ "__name__" := by decide) (hdb : (x == ("__debug__" : Str)) = false := by decide)
    (he : starEach (e :: es) X.env = (false, eval e X.env) :: starEach es X.env := by rfl) (hpl : (backTo pos (starEach es X.env)).any (·.1) = false := by rfl) : DE X K (.Call (.Name x p) (e :: es) [] pos) (fCall g fs) :=
  (pe_callTy hc hg hm hv ha hn hdb he hpl).weak (tCB_weak rc)
theorem dn_callTy {T : String} {r : List V → Hp → VK → Prop} {g : List PyData → Option (List PyData)} (hc : CallR X (.type T) r) (rc : RN K r g) (hg : Gl X x) (hm : X.mg x = none) (hv : bootBuiltins x = some (.type T)) (ha : DA X K (e :: es) fs)
    (hn : x ≠ "__name__" := by decide) (hdb : (x == ("__debug__" : Str)) = false := by decide)
    (he : starEach (e :: es) X.env = (false, eval e X.env) :: starEach es X.env := by rfl) (hpl : (backTo pos (starEach es X.env)).any (·.1) = false := by rfl) : DN X K (.Call (.Name x p) (e :: es) [] pos) (fCallN g fs) :=
  (pe_callTy hc hg hm hv ha hn hdb he hpl).weak (tCB_weakN rc)
/-! len, abs, max, min, sum, int, list, all -/
def gLen : List PyData → Option PyData
  | [.list ds] => some (.int ds.length)
  | [.tuple ds] => some (.int ds.length)
  | [.dict ds] => some (.int ds.length)
  | _ => none
theorem rc_len : RC K (fun xs H Q => ∃ p ys, xs = [.ref p] ∧ (SqL K H p ys ∨ SqT K H p ys) ∧ Q (.int ys.length) H) gLen := fun xs ds d Z H s r e Q q => by
  unfold gLen at e
  split at e
  · cases e
    cases r with
    | cons h t =>
      cases t
      cases h with
      | lst ha ra => exact ⟨_, _, rfl, .inl (SqL.of (s _ _ ha)), q _ H Z (Ext.refl s) (by rw [ra.length]; exact .int _)⟩
  · cases e
    cases r with
    | cons h t =>
      cases t
      cases h with
      | tup ha ra => exact ⟨_, _, rfl, .inr (SqT.of (s _ _ ha)), q _ H Z (Ext.refl s) (by rw [ra.length]; exact .int _)⟩
  · cases e
    cases r with
    | cons h t =>
      cases t
      cases h with
      | scr ha => exact ⟨_, _, rfl, .inl (s.seq ha), q _ H Z (Ext.refl s) (by rw [List.length_map, List.length_map]; exact .int _)⟩
  · cases e
theorem de_len (hm : X.mg "len" = none) (hK : X.K = K := by rfl) (hg : Gl X "len" := by rfl) (ha : DA X K [e] fs) (he : starEach [e] X.env = (false, eval e X.env) :: starEach [] X.env := by rfl) : DE X K (.Call (.Name "len" p) [e] [] pos) (fCall gLen fs) := by
  subst hK; exact de_callB call_len_seq rc_len hg hm PySem.boot_len ha (by decide) (by decide) he rfl
def gAbs : List PyData → Option PyData
  | [.int i] => some (.int (if i < 0 then -i else i))
  | _ => none
theorem rc_abs : RC K (fun xs H Q => ∃ i, xs = [.int i] ∧ Q (.int (if i < 0 then -i else i)) H) gAbs := fun xs ds d Z H s r e Q q => by
  unfold gAbs at e
  split at e
  · cases e
    cases r with
    | cons h t => cases t; cases h; exact ⟨_, rfl, q _ H Z (Ext.refl s) (.int _)⟩
  · cases e
theorem de_abs (hm : X.mg "abs" = none) (hg : Gl X "abs" := by rfl) (ha : DA X K [e] fs) (he : starEach [e] X.env = (false, eval e X.env) :: starEach [] X.env := by rfl) : DE X K (.Call (.Name "abs" p) [e] [] pos) (fCall gAbs fs) :=
  de_callB call_abs rc_abs hg hm (by decide +kernel) ha (by decide) (by decide) he rfl
def gMax2 : List PyData → Option PyData
  | [.int i, .int j] => some (.int (if j > i then j else i))
  | _ => none
def gMin2 : List PyData → Option PyData
  | [.int i, .int j] => some (.int (if j < i then j else i))
  | _ => none
theorem rc_max2 : RC K (fun xs H Q => ∃ i j, xs = [.int i, .int j] ∧ Q (.int (if j > i then j else i)) H) gMax2 := fun xs ds d Z H s r e Q q => by
  unfold gMax2 at e
  split at e
  · cases e
    cases r with
    | cons h t =>
      cases t with
      | cons h' t' => cases t'; cases h; cases h'; exact ⟨_, _, rfl, q _ H Z (Ext.refl s) (.int _)⟩
  · cases e
theorem rc_min2 : RC K (fun xs H Q => ∃ i j, xs = [.int i, .int j] ∧ Q (.int (if j < i then j else i)) H) gMin2 := fun xs ds d Z H s r e Q q => by
  unfold gMin2 at e
  split at e
  · cases e
    cases r with
    | cons h t =>
      cases t with
      | cons h' t' => cases t'; cases h; cases h'; exact ⟨_, _, rfl, q _ H Z (Ext.refl s) (.int _)⟩
  · cases e
theorem de_max2 (hm : X.mg "max" = none) (hg : Gl X "max" := by rfl) (hc : X.calm = true := by rfl) (ha : DA X K [e, a] fs) (he : starEach [e, a] X.env = (false, eval e X.env) :: starEach [a] X.env := by rfl) (hpl : (backTo pos (starEach [a] X.env)).any (·.1) = false := by rfl) : DE X K (.Call (.Name "max" p) [e, a] [] pos) (fCall gMax2 fs) :=
  de_callB (call_max2 hc) rc_max2 hg hm (by decide +kernel) ha (by decide) (by decide) he hpl
theorem de_min2 (hm : X.mg "min" = none) (hg : Gl X "min" := by rfl) (hc : X.calm = true := by rfl) (ha : DA X K [e, a] fs) (he : starEach [e, a] X.env = (false, eval e X.env) :: starEach [a] X.env := by rfl) (hpl : (backTo pos (starEach [a] X.env)).any (·.1) = false := by rfl) : DE X K (.Call (.Name "min" p) [e, a] [] pos) (fCall gMin2 fs) :=
  de_callB (call_min2 hc) rc_min2 hg hm (by decide +kernel) ha (by decide) (by decide) he hpl
/-- the ints of a list -/
def intsOf : List PyData → Option (List Int)
  | [] => some []
  | .int i :: ds => (intsOf ds).map (i :: ·)
  | _ => none
theorem intsOf_inv : ∀ {ds : List PyData} {ns : List Int}, intsOf ds = some ns → ds = ns.map .int
  | [], ns, h => by cases h; rfl
  | .int i :: ds, ns, h => by
    unfold intsOf at h
    cases e : intsOf ds with
    | none => rw [e] at h; cases h
    | some ms => rw [e] at h; cases h; rw [intsOf_inv e]; rfl
  | .none :: _, _, h => by cases h
  | .bool _ :: _, _, h => by cases h
  | .str _ :: _, _, h => by cases h
  | .list _ :: _, _, h => by cases h
  | .tuple _ :: _, _, h => by cases h
  | .dict _ :: _, _, h => by cases h
theorem intsOf_map : ∀ (ns : List Int), intsOf (ns.map .int) = some ns
  | [] => rfl
  | n :: ns => by unfold intsOf; rw [List.map_cons]; show (intsOf (ns.map .int)).map (n :: ·) = _; rw [intsOf_map ns]; rfl
def lmax : List Int → Int
  | [] => 0
  | [x] => x
  | x :: y :: r => if lmax (y :: r) < x then x else lmax (y :: r)
def lmin : List Int → Int
  | [] => 0
  | [x] => x
  | x :: y :: r => if x < lmin (y :: r) then x else lmin (y :: r)
theorem lmax_mem : ∀ (l : List Int), l ≠ [] → lmax l ∈ l
  | [], h => absurd rfl h
  | [x], _ => by simp [lmax]
  | x :: y :: r, _ => by
    have ih := lmax_mem (y :: r) (by simp)
    rw [lmax]
    split
    · simp
    · exact List.mem_cons_of_mem _ ih
theorem lmax_ge : ∀ (l : List Int) (y : Int), y ∈ l → y ≤ lmax l
  | [x], y, h => by simp at h; subst h; simp [lmax]
  | x :: z :: r, y, h => by
    have ih := lmax_ge (z :: r)
    rw [lmax]
    rcases List.mem_cons.mp h with e | e
    · subst e; split <;> omega
    · have := ih y e; split <;> omega
theorem lmin_mem : ∀ (l : List Int), l ≠ [] → lmin l ∈ l
  | [], h => absurd rfl h
  | [x], _ => by simp [lmin]
  | x :: y :: r, _ => by
    have ih := lmin_mem (y :: r) (by simp)
    rw [lmin]
    split
    · simp
    · exact List.mem_cons_of_mem _ ih
theorem lmin_le : ∀ (l : List Int) (y : Int), y ∈ l → lmin l ≤ y
  | [x], y, h => by simp at h; subst h; simp [lmin]
  | x :: z :: r, y, h => by
    have ih := lmin_le (z :: r)
    rw [lmin]
    rcases List.mem_cons.mp h with e | e
    · subst e; split <;> omega
    · have := ih y e; split <;> omega
def gSum : List PyData → Option PyData
  | [.list ds] => (intsOf ds).map fun ns => .int ns.sum
  | _ => none
def gMaxL : List PyData → Option PyData
  | [.list ds] => (intsOf ds).bind fun ns => if ns.isEmpty then none else some (.int (lmax ns))
  | _ => none
def gMinL : List PyData → Option PyData
  | [.list ds] => (intsOf ds).bind fun ns => if ns.isEmpty then none else some (.int (lmin ns))
  | _ => none
theorem rc_sum : RC K (rSum K) gSum := fun xs ds d Z H s r e Q q => by
  unfold gSum at e
  split at e
  · rename_i ds
    cases e1 : intsOf ds with
    | none => rw [e1] at e; cases e
    | some ns =>
      rw [e1] at e
      cases e
      have := intsOf_inv e1
      subst this
      cases r with
      | cons h t =>
        cases t
        cases h with
        | lst ha ra =>
          have := ra.ints
          subst this
          exact ⟨_, ns, rfl, SqL.of (s _ _ ha), q _ H Z (Ext.refl s) (.int _)⟩
  · cases e
theorem rc_maxL : RC K (rMax K) gMaxL := fun xs ds d Z H s r e Q q => by
  unfold gMaxL at e
  split at e
  · rename_i ds
    obtain ⟨ns, e1, e2⟩ := opt_bind e
    split at e2
    · cases e2
    · rename_i hne
      cases e2
      have := intsOf_inv e1
      subst this
      have hn : ns ≠ [] := fun z => hne (by rw [z]; rfl)
      cases r with
      | cons h t =>
        cases t
        cases h with
        | lst ha ra =>
          have := ra.ints
          subst this
          refine ⟨_, ns, rfl, SqL.of (s _ _ ha), List.length_pos_iff.mpr hn, fun m hm hb => ?_⟩
          have e3 : m = lmax ns := Int.le_antisymm (lmax_ge ns m hm) (hb _ (lmax_mem ns hn))
          rw [e3]
          exact q _ H Z (Ext.refl s) (.int _)
  · cases e
theorem rc_minL : RC K (rMin K) gMinL := fun xs ds d Z H s r e Q q => by
  unfold gMinL at e
  split at e
  · rename_i ds
    obtain ⟨ns, e1, e2⟩ := opt_bind e
    split at e2
    · cases e2
    · rename_i hne
      cases e2
      have := intsOf_inv e1
      subst this
      have hn : ns ≠ [] := fun z => hne (by rw [z]; rfl)
      cases r with
      | cons h t =>
        cases t
        cases h with
        | lst ha ra =>
          have := ra.ints
          subst this
          refine ⟨_, ns, rfl, SqL.of (s _ _ ha), List.length_pos_iff.mpr hn, fun m hm hb => ?_⟩
          have e3 : m = lmin ns := Int.le_antisymm (hb _ (lmin_mem ns hn)) (lmin_le ns m hm)
          rw [e3]
          exact q _ H Z (Ext.refl s) (.int _)
  · cases e
theorem de_sum (hm : X.mg "sum" = none) (hK : X.K = K := by rfl) (hc : X.calm = true := by rfl) (hg : Gl X "sum" := by rfl) (ha : DA X K [e] fs) (he : starEach [e] X.env = (false, eval e X.env) :: starEach [] X.env := by rfl) : DE X K (.Call (.Name "sum" p) [e] [] pos) (fCall gSum fs) := by
  subst hK; exact de_callB (cr_sum hc) rc_sum hg hm (by decide +kernel) ha (by decide) (by decide) he rfl
theorem de_maxL (hm : X.mg "max" = none) (hK : X.K = K := by rfl) (hc : X.calm = true := by rfl) (hg : Gl X "max" := by rfl) (ha : DA X K [e] fs) (he : starEach [e] X.env = (false, eval e X.env) :: starEach [] X.env := by rfl) : DE X K (.Call (.Name "max" p) [e] [] pos) (fCall gMaxL fs) := by
  subst hK; exact de_callB (cr_max hc) rc_maxL hg hm (by decide +kernel) ha (by decide) (by decide) he rfl
theorem de_minL (hm : X.mg "min" = none) (hK : X.K = K := by rfl) (hc : X.calm = true := by rfl) (hg : Gl X "min" := by rfl) (ha : DA X K [e] fs) (he : starEach [e] X.env = (false, eval e X.env) :: starEach [] X.env := by rfl) : DE X K (.Call (.Name "min" p) [e] [] pos) (fCall gMinL fs) := by
  subst hK; exact de_callB (cr_min hc) rc_minL hg hm (by decide +kernel) ha (by decide) (by decide) he rfl
def gInt : List PyData → Option PyData
  | [.int i] => some (.int i)
  | [.bool b] => some (.int (if b then 1 else 0))
  | _ => none
theorem rc_int : RC K (fun xs H Q => (∃ i, xs = [.int i] ∧ Q (.int i) H) ∨ ∃ k, xs = [.bl k] ∧ Q (.int (if k then 1 else 0)) H) gInt := fun xs ds d Z H s r e Q q => by
  unfold gInt at e
  split at e
  · cases e
    cases r with
    | cons h t => cases t; cases h; exact .inl ⟨_, rfl, q _ H Z (Ext.refl s) (.int _)⟩
  · cases e
    cases r with
    | cons h t => cases t; cases h; exact .inr ⟨_, rfl, q _ H Z (Ext.refl s) (.int _)⟩
  · cases e
theorem de_intC (hm : X.mg "int" = none) (hg : Gl X "int" := by rfl) (ha : DA X K [e] fs) (he : starEach [e] X.env = (false, eval e X.env) :: starEach [] X.env := by rfl) : DE X K (.Call (.Name "int" p) [e] [] pos) (fCall gInt fs) :=
  de_callTy call_int1 rc_int hg hm (by decide +kernel) ha (by decide) (by decide) he rfl
/-- list(x) -/
def gListC : List PyData → Option (List PyData)
  | [.list ds] => some ds
  | [.tuple ds] => some ds
  | _ => none
theorem rn_list : RN K (fun xs H Q => ∃ p ys, xs = [.ref p] ∧ (SqL K H p ys ∨ SqT K H p ys) ∧ ∀ l, H l = none → Q (.ref l) (upd H l (.lst ys))) gListC := fun xs ds es Z H s r e Q q => by
  unfold gListC at e
  split at e
  · cases e
    cases r with
    | cons h t =>
      cases t
      cases h with
      | lst ha ra => exact ⟨_, _, rfl, .inl (SqL.of (s _ _ ha)), fun l hl => q l _ _ Z (Ext.free s hl) hl (s.free hl) upd_same ra⟩
  · cases e
    cases r with
    | cons h t =>
      cases t
      cases h with
      | tup ha ra => exact ⟨_, _, rfl, .inr (SqT.of (s _ _ ha)), fun l hl => q l _ _ Z (Ext.free s hl) hl (s.free hl) upd_same ra⟩
  · cases e
theorem dn_listC (hm : X.mg "list" = none) (hK : X.K = K := by rfl) (hg : Gl X "list" := by rfl) (ha : DA X K [e] fs) (he : starEach [e] X.env = (false, eval e X.env) :: starEach [] X.env := by rfl) : DN X K (.Call (.Name "list" p) [e] [] pos) (fCallN gListC fs) := by
  subst hK; exact dn_callTy call_list_of rn_list hg hm (by decide +kernel) ha (by decide) (by decide) he rfl
def boolsOf : List PyData → Option (List Bool)
  | [] => some []
  | .bool i :: ds => (boolsOf ds).map (i :: ·)
  | _ => none
theorem boolsOf_inv : ∀ {ds : List PyData} {ns : List Bool}, boolsOf ds = some ns → ds = ns.map .bool
  | [], ns, h => by cases h; rfl
  | .bool i :: ds, ns, h => by
    unfold boolsOf at h
    cases e : boolsOf ds with
    | none => rw [e] at h; cases h
    | some ms => rw [e] at h; cases h; rw [boolsOf_inv e]; rfl
  | .none :: _, _, h => by cases h
  | .int _ :: _, _, h => by cases h
  | .str _ :: _, _, h => by cases h
  | .list _ :: _, _, h => by cases h
  | .tuple _ :: _, _, h => by cases h
  | .dict _ :: _, _, h => by cases h
def gAll : List PyData → Option PyData
  | [.list ds] => (boolsOf ds).map fun bs => .bool (bs.all id)
  | _ => none
theorem rc_all : RC K (rAll K) gAll := fun xs ds d Z H s r e Q q => by
  unfold gAll at e
  split at e
  · rename_i ds
    cases e1 : boolsOf ds with
    | none => rw [e1] at e; cases e
    | some ns =>
      rw [e1] at e
      cases e
      have := boolsOf_inv e1
      subst this
      cases r with
      | cons h t =>
        cases t
        cases h with
        | lst ha ra =>
          have := ra.bools
          subst this
          exact ⟨_, ns, rfl, SqL.of (s _ _ ha), q _ H Z (Ext.refl s) (.bl _)⟩
  · cases e
theorem de_all (hm : X.mg "all" = none) (hK : X.K = K := by rfl) (hc : X.calm = true := by rfl) (hg : Gl X "all" := by rfl) (ha : DA X K [e] fs) (he : starEach [e] X.env = (false, eval e X.env) :: starEach [] X.env := by rfl) : DE X K (.Call (.Name "all" p) [e] [] pos) (fCall gAll fs) := by
  subst hK; exact de_callB (cr_all hc) rc_all hg hm (by decide +kernel) ha (by decide) (by decide) he rfl
/-! isinstance of a built-in type -/
def tyN : PyData → String
  | .none => "NoneType"
  | .bool _ => "bool"
  | .int _ => "int"
  | .str _ => "str"
  | .list _ => "list"
  | .tuple _ => "tuple"
  | .dict _ => "list"
def fIsi (T : String) (fe : DF) : DF := fun ρ => (fe ρ).bind fun d => (kitB (tyN d) T).map .bool
theorem tyx_of {Z H : Hp} (s : Same Z H) {v : V} {d : PyData} (r : Rp K Z v d) (hd : ∀ kvs, d ≠ .dict kvs) : TyX K H v (.type (tyN d)) := by
  cases r with
  | non => exact .base .non
  | bl b => exact .base (.bl b)
  | int b => exact .base (.int b)
  | str b => exact .base (.str b)
  | lst h _ => exact .base (.lst (s _ _ h))
  | tup h _ => exact .base (.tup (s _ _ h))
  | scr h => exact absurd rfl (hd _)
def notScr : PyData → Bool
  | .dict _ => false
  | _ => true
def fIsi' (T : String) (fe : DF) : DF := fun ρ => (fe ρ).bind fun d => if notScr d then (kitB (tyN d) T).map .bool else none
theorem de_isi {T : String} {n : Str} {p2 : Pos} (hm : X.mg "isinstance" = none) (hm2 : X.mg n = none) (hK : X.K = K := by rfl) (hg : Gl X "isinstance" := by rfl) (hg2 : Gl X n := by rfl) (hv : bootBuiltins n = some (.type T) := by decide +kernel)
    (ha : DE X K e fe) (hn : n ≠ "__name__" := by decide) (hd : (n == ("__debug__" : Str)) = false := by decide)
    (he : starEach [e, .Name n p2] X.env = (false, eval e X.env) :: starEach [.Name n p2] X.env := by rfl) (he2 : starEach [.Name n p2] X.env = (false, eval (.Name n p2) X.env) :: starEach [] X.env := by rfl)
    (hpl : (backTo pos (starEach [.Name n p2] X.env)).any (·.1) = false := by rfl) : DE X K (.Call (.Name "isinstance" p) [e, .Name n p2] [] pos) (fIsi' T fe) := by
  subst hK
  refine (pe_callB call_isi hg hm (by decide +kernel) (pa_cons ha (pa_cons (pe_bltn (v := .ty T) hg2 hm2 hv rfl hn hd) pa_nil he2) he) (by decide) (by decide) he hpl).weak fun σ H Q ⟨Z, ρ, d, s, v, ed, q⟩ => ?_
  obtain ⟨x, e1, e2⟩ := opt_bind ed
  split at e2
  · rename_i hns
    cases e3 : kitB (tyN x) T with
    | none => rw [e3] at e2; cases e2
    | some b =>
      rw [e3] at e2
      cases e2
      refine ⟨Z, ρ, x, s, v, e1, fun vx H1 Z1 x1 r1 => ?_⟩
      refine ⟨vx, .ty T, _, _, b, rfl, .ty T, tyx_of x1.sub r1 (fun kvs z => by rw [z] at hns; cases hns), kit_ty e3, q _ H1 Z1 x1 (.bl b)⟩
  · cases e2
end
/-! ### a def's promise on data -/
/-- from the arguments' data to the answer's -/
def spD (K : PySem.W.Frag) (n : Nat) (G : List PyData → Option PyData) : Sp := fun vs H Q _ => vs.length = n ∧ ∃ Z ds d, Same Z H ∧ RpAll K Z vs ds ∧ G ds = some d ∧ ∀ v H' Z', Ext Z H Z' H' → Rp K Z' v d → Q v H'
/-- a new list, not settled -/
def spN (K : PySem.W.Frag) (n : Nat) (G : List PyData → Option (List PyData)) : Sp := fun vs H Q _ => vs.length = n ∧ ∃ Z ds es, Same Z H ∧ RpAll K Z vs ds ∧ G ds = some es ∧
  ∀ p us H' Z', Ext Z H Z' H' → H p = none → Z' p = none → H' p = some (.lst us) → RpAll K Z' us es → Q (.ref p) H'
section
variable {P : Program} {w : World} {K : PySem.W.Frag} {mg : Str → Option Value} {base : Heap}
theorem settle {Z H Z' H' : Hp} {p : Addr} {vs : List V} (x : Ext Z H Z' H') (hp : H p = none) (zp : Z' p = none) (hl : H' p = some (.lst vs)) : Ext Z H (upd Z' p (.lst vs)) H' ∧ Same Z' (upd Z' p (.lst vs)) := by
  have sz : Same Z' (upd Z' p (.lst vs)) := same_upd zp
  refine ⟨⟨x.big, x.up.trans sz, fun b o eb => ?_, fun b hb hn => ?_⟩, sz⟩
  · by_cases hbp : b = p
    · subst hbp; rw [upd_same] at eb; cases eb; exact hl
    · rw [upd_ne hbp] at eb; exact x.sub _ _ eb
  · by_cases hbp : b = p
    · subst hbp; exact hp
    · rw [upd_ne hbp] at hn; exact x.new b hb hn
theorem fn_settle {CX : CXT} {k n : Nat} {f : Addr} {fd : FuncData} {ps : List Str} {G : List PyData → Option (List PyData)} (F : FnOk P w K mg base CX k f fd ps (spN K n G)) : FnOk P w K mg base CX k f fd ps (spD K n fun ds => (G ds).map .list) :=
  F.imp fun vs H Q E ⟨hn, Z, ds, d, s, r, e, q⟩ => by
    have e : (G ds).map PyData.list = some d := e
    cases e1 : G ds with
    | none => rw [e1] at e; cases e
    | some es =>
      rw [e1] at e
      cases e
      refine ⟨hn, Z, ds, es, s, r, e1, fun p us H' Z' x hp zp hl ru => ?_⟩
      obtain ⟨x2, sz⟩ := settle x hp zp hl
      exact q _ H' _ x2 (.lst upd_same (ru.mono sz))
end
section
variable {X : Cx} {K : PySem.W.Frag} {pos p : Pos} {e : Expr} {es : List Expr} {fs : Env → Option (List PyData)} {x : Str} {k n : Nat} {f : Addr} {fd : FuncData} {ps : List Str}
def fCallF (n : Nat) (G : List PyData → Option PyData) (fs : Env → Option (List PyData)) : DF := fun ρ => (fs ρ).bind fun ds => if ds.length = n then G ds else none
def fCallFN (n : Nat) (G : List PyData → Option (List PyData)) (fs : Env → Option (List PyData)) : Env → Option (List PyData) := fun ρ => (fs ρ).bind fun ds => if ds.length = n then G ds else none
theorem de_call {G : List PyData → Option PyData} (F : FnOk X.prog X.w X.K X.mg X.base CX0 k f fd ps (spD K n G)) (hr : Room k X.A) (hm : X.mg x = some (.ref f)) (hk : PySem.W.keepIn X.K (.ref f) = true) (hb : Binds X.K fd ps [])
    (ha : DA X K (e :: es) fs) (hg : Gl X x := by rfl) (hdb : (x == ("__debug__" : Str)) = false := by decide) (he : starEach (e :: es) X.env = (false, eval e X.env) :: starEach es X.env := by rfl) (hpl : (backTo pos (starEach es X.env)).any (·.1) = false := by rfl) :
    DE X K (.Call (.Name x p) (e :: es) [] pos) (fCallF n G fs) := (pe_call F hr hg hm hk hb .nil pass0 ha hdb he hpl).weak fun σ H Q ⟨Z, ρ, d, s, v, ed, q⟩ => by
  obtain ⟨ds, e1, e2⟩ := opt_bind ed
  split at e2
  · rename_i hl
    refine ⟨Z, ρ, ds, s, v, e1, fun vs H1 Z1 x1 r1 => ?_⟩
    show spD K n G (vs ++ []) H1 Q E0
    rw [List.append_nil]
    exact ⟨r1.length.trans hl, Z1, ds, d, x1.sub, r1, e2, fun w H2 Z2 x2 r2 => q w H2 Z2 (x1.trans x2) r2⟩
  · cases e2
theorem dn_call {G : List PyData → Option (List PyData)} (F : FnOk X.prog X.w X.K X.mg X.base CX0 k f fd ps (spN K n G)) (hr : Room k X.A) (hm : X.mg x = some (.ref f)) (hk : PySem.W.keepIn X.K (.ref f) = true) (hb : Binds X.K fd ps [])
    (ha : DA X K (e :: es) fs) (hg : Gl X x := by rfl) (hdb : (x == ("__debug__" : Str)) = false := by decide) (he : starEach (e :: es) X.env = (false, eval e X.env) :: starEach es X.env := by rfl) (hpl : (backTo pos (starEach es X.env)).any (·.1) = false := by rfl) :
    DN X K (.Call (.Name x p) (e :: es) [] pos) (fCallFN n G fs) := (pe_call F hr hg hm hk hb .nil pass0 ha hdb he hpl).weak fun σ H Q ⟨Z, ρ, d, s, v, ed, q⟩ => by
  obtain ⟨ds, e1, e2⟩ := opt_bind ed
  split at e2
  · rename_i hl
    refine ⟨Z, ρ, ds, s, v, e1, fun vs H1 Z1 x1 r1 => ?_⟩
    show spN K n G (vs ++ []) H1 Q E0
    rw [List.append_nil]
    exact ⟨r1.length.trans hl, Z1, ds, d, x1.sub, r1, e2, fun p us H2 Z2 x2 hp zp hl2 r2 => q p us H2 Z2 (x1.trans x2) (x1.big.free hp) zp hl2 r2⟩
  · cases e2
end
end DL
/-! part DL4 -/
namespace DL
open PySem PySem.Spec PyProof.Rows L2
/-! ### targets -/
abbrev Asg := List (Nat × PyData)
def setE (ρ : Env) : Asg → Env
  | [] => ρ
  | p :: a => setE (ρ.set p.1 (some p.2)) a
def setV (σ : L2.St) : List (Nat × V) → L2.St
  | [] => σ
  | p :: a => setV (σ.set p.1 (some p.2)) a
abbrev TgF := PyData → Option Asg
inductive Prs (K : PySem.W.Frag) (Z : Hp) : List (Nat × V) → Asg → Prop
  | nil : Prs K Z [] []
  | cons {i : Nat} {v : V} {d : PyData} {ps : List (Nat × V)} {as : Asg} : Rp K Z v d → Prs K Z ps as → Prs K Z ((i, v) :: ps) ((i, d) :: as)
section
variable {K : PySem.W.Frag} {Z Z' H : Hp}
theorem Prs.mono (s : Same Z Z') : ∀ {ps : List (Nat × V)} {as : Asg}, Prs K Z ps as → Prs K Z' ps as
  | _, _, .nil => .nil
  | _, _, .cons r t => .cons (r.mono s) (Prs.mono s t)
theorem View.set {σ : L2.St} {ρ : Env} (w : View K Z σ ρ) {i : Nat} {v : V} {d : PyData} (r : Rp K Z v d) : View K Z (σ.set i (some v)) (ρ.set i (some d)) := by
  refine ⟨by rw [List.length_set, List.length_set]; exact w.len, fun j e h => ?_⟩
  by_cases hj : i = j
  · subst hj
    by_cases hl : i < ρ.length
    · rw [List.getElem?_set_self hl] at h
      cases h
      exact ⟨v, List.getElem?_set_self (Nat.lt_of_lt_of_le hl w.len), r⟩
    · rw [List.getElem?_eq_none (by rw [List.length_set]; omega)] at h; cases h
  · rw [List.getElem?_set_ne hj] at h ⊢
    exact w.get j e h
theorem View.sets {ps : List (Nat × V)} {as : Asg} {σ : L2.St} {ρ : Env} (w : View K Z σ ρ) (h : Prs K Z ps as) : View K Z (setV σ ps) (setE ρ as) := by
  induction h generalizing σ ρ with
  | nil => exact w
  | cons r t ih => exact ih (w.set r)
theorem Prs.slots : ∀ {ps : List (Nat × V)} {as : Asg}, Prs K Z ps as → ps.map (·.1) = as.map (·.1)
  | _, _, .nil => rfl
  | _, _, .cons _ t => by rw [List.map_cons, List.map_cons, Prs.slots t]
end
def tgN (j : Nat) : TgF := fun d => some [(j, d)]
def tgT (js : List Nat) : TgF := fun d => match d with
  | .tuple ds => if ds.length = js.length then some (js.zip ds) else none
  | _ => none
def tgU (js : List Nat) : TgF := fun d => match d with
  | .list ds => if ds.length = js.length then some (js.zip ds) else none
  | _ => none
def gD (K : PySem.W.Frag) (tg : TgF) : TG := fun v σ H Q => ∃ Z d asg, Same Z H ∧ Rp K Z v d ∧ tg d = some asg ∧ ∀ ps, Prs K Z ps asg → Q (setV σ ps) H
def gDs (js : List Nat) : TGs := fun vs σ H Q => vs.length = js.length ∧ Q (setV σ (js.zip vs)) H
theorem _root_.L2.PG.weak {X : Cx} {e : Expr} {t t' : TG} (h : PG X e t) (w : ∀ v σ H Q, t' v σ H Q → t v σ H Q) : PG X e t' := ⟨fun pins s σ H v u Q I r q => h.run pins s σ H v u Q I r (w _ _ _ _ q)⟩
theorem _root_.L2.PGs.weak {X : Cx} {e : List Expr} {t t' : TGs} (h : PGs X e t) (w : ∀ v σ H Q, t' v σ H Q → t v σ H Q) : PGs X e t' := ⟨fun pins s σ H v u Q I r q => h.run pins s σ H v u Q I r (w _ _ _ _ q)⟩
theorem _root_.L2.PI.weak {X : Cx} {tg e : Expr} {t t' : TI} (h : PI X tg e t) (w : ∀ σ H R, t' σ H R → t σ H R) : PI X tg e t' := ⟨fun pins s σ H R I q => h.run pins s σ H R I (w _ _ _ q)⟩
abbrev DG (X : Cx) (K : PySem.W.Frag) (e : Expr) (tg : TgF) : Prop := PG X e (gD K tg)
theorem prs_zip {K : PySem.W.Frag} {Z : Hp} : ∀ {vs : List V} {ds : List PyData} (js : List Nat), RpAll K Z vs ds → Prs K Z (js.zip vs) (js.zip ds)
  | _, _, [], _ => by rw [List.zip_nil_left, List.zip_nil_left]; exact .nil
  | _, _, _ :: _, .nil => by rw [List.zip_nil_right, List.zip_nil_right]; exact .nil
  | _, _, j :: js, .cons r t => .cons r (prs_zip js t)
section
variable {X : Cx} {K : PySem.W.Frag} {pos : Pos} {e : Expr} {es : List Expr}
theorem dg_name {i : Nat} {x : Str} (hN : X.N.Nodup) (hi : X.N[i]? = some x := by rfl) (hx : Loc X.env.scope x := by first | exact Or.inl rfl | exact Or.inr rfl) (hf : X.fn x = true ∨ X.env.scope.names.lookup x = some .local := by first | exact .inl rfl | exact .inr rfl) : DG X K (.Name x pos) (tgN i) :=
  (pg_name hN hi hx hf).weak fun v σ H Q ⟨Z, d, asg, s, r, e, q⟩ => by
    cases e
    exact q [(i, v)] (.cons r .nil)
theorem dgs_nil : PGs X [] (gDs []) := pgs_nil.weak fun v σ H Q ⟨h, q⟩ => ⟨List.length_eq_zero_iff.mp h, q⟩
theorem dgs_cons {i : Nat} {x : Str} {js : List Nat} (hN : X.N.Nodup) (h2 : PGs X es (gDs js)) (hi : X.N[i]? = some x := by rfl) (hx : Loc X.env.scope x := by first | exact Or.inl rfl | exact Or.inr rfl) (hf : X.fn x = true ∨ X.env.scope.names.lookup x = some .local := by first | exact .inl rfl | exact .inr rfl)
    (hs : (assignEach (.Name x pos :: es) X.env).map (·.2) = assign (.Name x pos) X.env :: (assignEach es X.env).map (·.2) := by rfl) : PGs X (.Name x pos :: es) (gDs (i :: js)) :=
  (pgs_cons (pg_name hN hi hx hf) h2 hs).weak fun vs σ H Q ⟨h, q⟩ => by
    cases vs with
    | nil => cases h
    | cons v r => exact ⟨v, r, rfl, by simpa using h, q⟩
theorem dg_tup {js : List Nat} {k n : Nat} (hK : X.K = K := by rfl) (hc : X.calm = true := by rfl) (h : PGs X es (gDs js)) (hj : js.length = n := by rfl)
    (hn : (assignEach es X.env).length = n := by rfl) (hst : (assignEach es X.env).findIdx? (·.1) = none := by rfl) : DG X K (.Tuple es k pos) (tgT js) := by
  subst hK
  refine (pg_tup hc h hn hst).weak fun v σ H Q ⟨Z, d, asg, s, r, e, q⟩ => ?_
  unfold tgT at e
  split at e
  · split at e
    · rename_i ds hl
      cases e
      cases r with
      | tup ha ra =>
        have hl2 := ra.length
        exact ⟨_, _, rfl, SqT.of (s _ _ ha), by omega, by omega, q _ (prs_zip js ra)⟩
    · cases e
  · cases e
theorem dg_unl {js : List Nat} {k n : Nat} (hK : X.K = K := by rfl) (hc : X.calm = true := by rfl) (h : PGs X es (gDs js)) (hj : js.length = n := by rfl)
    (hn : (assignEach es X.env).length = n := by rfl) (hst : (assignEach es X.env).findIdx? (·.1) = none := by rfl) : DG X K (.Tuple es k pos) (tgU js) := by
  subst hK
  refine (pg_unl hc h hn hst).weak fun v σ H Q ⟨Z, d, asg, s, r, e, q⟩ => ?_
  unfold tgU at e
  split at e
  · split at e
    · rename_i ds hl
      cases e
      cases r with
      | lst ha ra =>
        have hl2 := ra.length
        exact ⟨_, _, rfl, SqL.of (s _ _ ha), by omega, by omega, q _ (prs_zip js ra)⟩
    · cases e
  · cases e
end
/-! ### what is walked -/
structure Walks (K : PySem.W.Frag) (Z : Hp) (J : It) (ds : List PyData) : Prop where
  go : ∀ i H d, Same Z H → ds[i]? = some d → J.go i H
  yld : ∀ i H d x H2, Same Z H → ds[i]? = some d → J.yld i H x H2 → H2 = H ∧ Rp K Z x d
  stop : ∀ i H, Same Z H → ds.length ≤ i → J.stop i H
def tI (K : PySem.W.Frag) (fi : Env → Option (List PyData)) : TI := fun σ H R => ∃ Z ρ ds, Same Z H ∧ View K Z σ ρ ∧ fi ρ = some ds ∧ ∀ J H' Z', Ext Z H Z' H' → Walks K Z' J ds → R J H'
abbrev DI (X : Cx) (K : PySem.W.Frag) (tg iter : Expr) (fi : Env → Option (List PyData)) : Prop := PI X tg iter (tI K fi)
def asTup : PyData → Option (List PyData)
  | .tuple ds => some ds
  | _ => none
theorem asTup_inv {d : PyData} {ds : List PyData} (h : asTup d = some ds) : d = .tuple ds := by
  cases d <;> cases h; rfl
def fIL (fe : DF) : Env → Option (List PyData) := fun ρ => (fe ρ).bind asList
def fIT (fe : DF) : Env → Option (List PyData) := fun ρ => (fe ρ).bind asTup
def rngD (lo : Int) (n : Nat) : List PyData := (List.range n).map fun i => .int (lo + (i : Nat))
def rng1 : List PyData → Option (List PyData)
  | [.int j] => if j < 2 ^ 62 ∧ -(2 ^ 62) ≤ j then some (rngD 0 j.toNat) else none
  | _ => none
def rng2 : List PyData → Option (List PyData)
  | [.int i, .int j] => if (i < 2 ^ 62 ∧ -(2 ^ 62) ≤ i) ∧ (j < 2 ^ 62 ∧ -(2 ^ 62) ≤ j) then some (rngD i (j - i).toNat) else none
  | _ => none
def fIR (g : List PyData → Option (List PyData)) (fs : Env → Option (List PyData)) : Env → Option (List PyData) := fun ρ => (fs ρ).bind g
theorem walks_list {K : PySem.W.Frag} {Z : Hp} {a : Addr} {xs : List V} {ds : List PyData} (h : Z a = some (.lst xs)) (r : RpAll K Z xs ds) : Walks K Z (Itl K a) ds where
  go := fun i H d s e => by
    obtain ⟨v, hv, _⟩ := r.get e
    exact ⟨xs, v, SqL.of (s _ _ h), hv⟩
  yld := fun i H d x H2 s e y => by
    obtain ⟨v, hv, rv⟩ := r.get e
    obtain ⟨rfl, f⟩ := y
    have := f xs (SqL.of (s _ _ h))
    rw [hv] at this
    cases this
    exact ⟨rfl, rv⟩
  stop := fun i H s hi => ⟨xs, SqL.of (s _ _ h), by rw [r.length]; exact hi⟩
theorem walks_tup {K : PySem.W.Frag} {Z : Hp} {a : Addr} {xs : List V} {ds : List PyData} (h : Z a = some (.tup xs)) (r : RpAll K Z xs ds) : Walks K Z (Itt K a) ds where
  go := fun i H d s e => by
    obtain ⟨v, hv, _⟩ := r.get e
    exact ⟨xs, v, SqT.of (s _ _ h), hv⟩
  yld := fun i H d x H2 s e y => by
    obtain ⟨v, hv, rv⟩ := r.get e
    obtain ⟨rfl, f⟩ := y
    have := f xs (SqT.of (s _ _ h))
    rw [hv] at this
    cases this
    exact ⟨rfl, rv⟩
  stop := fun i H s hi => ⟨xs, SqT.of (s _ _ h), by rw [r.length]; exact hi⟩
theorem rngD_get {lo : Int} {n i : Nat} {d : PyData} (h : (rngD lo n)[i]? = some d) : i < n ∧ d = .int (lo + (i : Nat)) := by
  unfold rngD at h
  rw [List.getElem?_map] at h
  by_cases hi : i < n
  · rw [List.getElem?_eq_getElem (by rw [List.length_range]; exact hi), List.getElem_range] at h
    cases h
    exact ⟨hi, rfl⟩
  · rw [List.getElem?_eq_none (by rw [List.length_range]; omega)] at h
    cases h
theorem rngD_len (lo : Int) (n : Nat) : (rngD lo n).length = n := by unfold rngD; rw [List.length_map, List.length_range]
theorem walks_rng {K : PySem.W.Frag} {Z : Hp} {lo : Int} {n : Nat} : Walks K Z (Itr lo n) (rngD lo n) where
  go := fun i H d s e => (rngD_get e).1
  yld := fun i H d x H2 s e y => by
    obtain ⟨rfl, rfl⟩ := y
    exact ⟨rfl, by rw [(rngD_get e).2]; exact .int _⟩
  stop := fun i H s hi => by rw [rngD_len] at hi; exact hi
section
variable {X : Cx} {K : PySem.W.Frag} {pos p : Pos} {tg e a b : Expr} {es : List Expr} {fe : DF} {fs : Env → Option (List PyData)}
theorem di_list (hK : X.K = K := by rfl) (he : DE X K e fe) : DI X K tg e (fIL fe) := by
  subst hK
  refine (pi_list he).weak fun σ H R ⟨Z, ρ, ds, s, v, ed, q⟩ => ?_
  obtain ⟨x, e1, e2⟩ := opt_bind ed
  have := asList_inv e2
  subst this
  refine ⟨Z, ρ, _, s, v, e1, fun vx H1 Z1 x1 r1 => ?_⟩
  cases r1 with
  | lst ha ra => exact ⟨_, rfl, ⟨_, SqL.of (x1.sub _ _ ha)⟩, q _ H1 Z1 x1 (walks_list ha ra)⟩
theorem di_tup (hK : X.K = K := by rfl) (he : DE X K e fe) : DI X K tg e (fIT fe) := by
  subst hK
  refine (pi_tup he).weak fun σ H R ⟨Z, ρ, ds, s, v, ed, q⟩ => ?_
  obtain ⟨x, e1, e2⟩ := opt_bind ed
  have := asTup_inv e2
  subst this
  refine ⟨Z, ρ, _, s, v, e1, fun vx H1 Z1 x1 r1 => ?_⟩
  cases r1 with
  | tup ha ra => exact ⟨_, rfl, ⟨_, SqT.of (x1.sub _ _ ha)⟩, q _ H1 Z1 x1 (walks_tup ha ra)⟩
theorem di_range1 (hm : X.mg "range" = none) (hg : Gl X "range" := by rfl) (ha : DA X K [a] fs) (hs : starEach [a] X.env = [(false, eval a X.env)] := by rfl) : DI X K tg (.Call (.Name "range" p) [a] [] pos) (fIR rng1 fs) :=
  (pi_range1 hg hm ha hs).weak fun σ H R ⟨Z, ρ, ds, s, v, ed, q⟩ => by
    obtain ⟨x, e1, e2⟩ := opt_bind ed
    unfold rng1 at e2
    split at e2
    · split at e2
      · rename_i j hj
        cases e2
        refine ⟨Z, ρ, _, s, v, e1, fun vs H1 Z1 x1 r1 => ?_⟩
        cases r1 with
        | cons h t => cases t; cases h; exact ⟨j, rfl, hj.2, hj.1, q _ H1 Z1 x1 walks_rng⟩
      · cases e2
    · cases e2
theorem di_range2 (hm : X.mg "range" = none) (hg : Gl X "range" := by rfl) (ha : DA X K [a, b] fs) (hs : starEach [a, b] X.env = [(false, eval a X.env), (false, eval b X.env)] := by rfl) (hs2 : starEach [b] X.env = [(false, eval b X.env)] := by rfl) :
    DI X K tg (.Call (.Name "range" p) [a, b] [] pos) (fIR rng2 fs) :=
  (pi_range2 hg hm ha hs hs2).weak fun σ H R ⟨Z, ρ, ds, s, v, ed, q⟩ => by
    obtain ⟨x, e1, e2⟩ := opt_bind ed
    unfold rng2 at e2
    split at e2
    · split at e2
      · rename_i i j hj
        cases e2
        refine ⟨Z, ρ, _, s, v, e1, fun vs H1 Z1 x1 r1 => ?_⟩
        cases r1 with
        | cons h t =>
          cases t with
          | cons h' t' => cases t'; cases h; cases h'; exact ⟨i, j, rfl, ⟨hj.1.2, hj.1.1, hj.2.2, hj.2.1⟩, q _ H1 Z1 x1 walks_rng⟩
      · cases e2
    · cases e2
end
/-! ### list comprehensions -/
def wipeE (ρ : Env) : List Nat → Env
  | [] => ρ
  | v :: vs => (wipeE ρ vs).set v none
theorem wipeE_length (ρ : Env) : ∀ vs : List Nat, (wipeE ρ vs).length = ρ.length
  | [] => rfl
  | v :: vs => by unfold wipeE; rw [List.length_set, wipeE_length ρ vs]
theorem View.wipe {K : PySem.W.Frag} {Z : Hp} {σ : L2.St} {ρ : Env} (w : View K Z σ ρ) : ∀ vs : List Nat, View K Z (L2.wipe σ vs) (wipeE ρ vs)
  | [] => w
  | v :: vs => by
    have ih := View.wipe w vs
    refine ⟨?_, fun j d h => ?_⟩
    · rw [wipeE_length, wipe_length]; exact w.len
    · unfold wipeE at h
      unfold L2.wipe
      by_cases hj : v = j
      · subst hj
        by_cases hl : v < (wipeE ρ vs).length
        · rw [List.getElem?_set_self hl] at h; cases h
        · rw [List.getElem?_eq_none (by rw [List.length_set]; omega)] at h; cases h
      · rw [List.getElem?_set_ne hj] at h ⊢
        exact ih.get j d h
theorem wipe_set {σ : L2.St} {j : Nat} {x : Option V} : ∀ {vs : List Nat}, j ∈ vs → L2.wipe (σ.set j x) vs = L2.wipe σ vs
  | v :: vs, h => by
    by_cases hv : j ∈ vs
    · show (L2.wipe (σ.set j x) vs).set v none = (L2.wipe σ vs).set v none
      rw [wipe_set hv]
    · have e : j = v := by
        rcases List.mem_cons.mp h with e | e
        · exact e
        · exact absurd e hv
      subst e
      have out : ∀ (ws : List Nat), j ∉ ws → L2.wipe (σ.set j x) ws = (L2.wipe σ ws).set j x := by
        intro ws
        induction ws with
        | nil => intro _; rfl
        | cons u us ih =>
          intro hn
          have h1 : u ≠ j := fun z => hn (by rw [z]; exact List.mem_cons_self)
          have h2 : j ∉ us := fun z => hn (List.mem_cons_of_mem _ z)
          show (L2.wipe (σ.set j x) us).set u none = ((L2.wipe σ us).set u none).set j x
          rw [ih h2, List.set_comm _ _ h1.symm]
      show (L2.wipe (σ.set j x) vs).set j none = (L2.wipe σ vs).set j none
      rw [out vs hv, List.set_set]
theorem wipe_wipe {σ : L2.St} : ∀ vs : List Nat, L2.wipe (L2.wipe σ vs) vs = L2.wipe σ vs := by
  intro vs
  have gen : ∀ (us : List Nat) (τ : L2.St), (∀ u ∈ us, u ∈ vs) → L2.wipe (L2.wipe τ us) vs = L2.wipe τ vs := by
    intro us
    induction us with
    | nil => intro τ _; rfl
    | cons u us ih =>
      intro τ h
      show L2.wipe ((L2.wipe τ us).set u none) vs = _
      rw [wipe_set (h u List.mem_cons_self)]
      exact ih τ fun z hz => h z (List.mem_cons_of_mem _ hz)
  exact gen vs σ fun _ h => h
theorem wipe_sets {vs : List Nat} : ∀ (ps : List (Nat × V)) (σ : L2.St), (∀ p ∈ ps, p.1 ∈ vs) → L2.wipe (setV σ ps) vs = L2.wipe σ vs
  | [], _, _ => rfl
  | p :: ps, σ, h => by
    show L2.wipe (setV (σ.set p.1 (some p.2)) ps) vs = _
    rw [wipe_sets ps _ fun q hq => h q (List.mem_cons_of_mem _ hq), wipe_set (h p List.mem_cons_self)]
def TgIn (vs : List Nat) (tg : TgF) : Prop := ∀ d asg, tg d = some asg → ∀ p ∈ asg, p.1 ∈ vs
theorem tgIn_name {vs : List Nat} {j : Nat} (h : j ∈ vs) : TgIn vs (tgN j) := fun d asg e p hp => by
  cases e
  simp at hp
  rw [hp]; exact h
theorem tgIn_tup {vs js : List Nat} (h : ∀ j ∈ js, j ∈ vs) : TgIn vs (tgT js) := fun d asg e p hp => by
  unfold tgT at e
  split at e
  · split at e
    · cases e
      exact h _ (List.of_mem_zip (show (p.1, p.2) ∈ _ from hp)).1
    · cases e
  · cases e
def lcD (tg : TgF) (ft : Env → Option Bool) (fe : DF) (ρ : Env) : List PyData → Option (List PyData)
  | [] => some []
  | d :: ds => (tg d).bind fun asg => (ft (setE ρ asg)).bind fun b => if b = true then (fe (setE ρ asg)).bind fun y => (lcD tg ft fe ρ ds).map (y :: ·) else lcD tg ft fe ρ ds
def fLc (vs : List Nat) (fi : Env → Option (List PyData)) (tg : TgF) (ft : Env → Option Bool) (fe : DF) : Env → Option (List PyData) := fun ρ => (fi ρ).bind fun ds => if ds.length ≤ 1000000 then lcD tg ft fe (wipeE ρ vs) ds else none
theorem lc_weak {K : PySem.W.Frag} {vs : List Nat} {fi : Env → Option (List PyData)} {tg : TgF} {ft : Env → Option Bool} {fe : DF} (hin : TgIn vs tg) :
    ∀ σ H Q, tN K (fLc vs fi tg ft fe) σ H Q → tLc (tI K fi) (gD K tg) (tT K ft) (tD K fe) vs σ H Q := fun σ H Q ⟨Z, ρ, es, s, v, ed, q⟩ => by
  obtain ⟨ds, e1, e2⟩ := opt_bind ed
  split at e2
  · rename_i hsz
    refine ⟨Z, ρ, ds, s, v, e1, fun J H1 Z1 x1 wk => ?_⟩
    intro D hD
    have v1 := v.mono x1.up
    refine ⟨fun i m H' => m = ds.length - i ∧ i ≤ ds.length ∧ ∃ Z' acc as rest, Ext Z1 H1 Z' H' ∧ Z' D = none ∧ H' D = some (.lst acc) ∧ RpAll K Z' acc as ∧ as.length ≤ i ∧ lcD tg ft fe (wipeE ρ vs) (ds.drop i) = some rest ∧ as ++ rest = es,
      ⟨ds.length, rfl, Nat.zero_le _, Z1, [], [], es, Ext.free x1.sub hD, x1.sub.free hD, upd_same, .nil, Nat.zero_le _, e2, rfl⟩, ?_⟩
    rintro i m H' ⟨rfl, hi, Z', acc, as, rest, x, zD, hl, ra, hlen, el, ea⟩
    have sz : Same Z1 H' := x.up.trans x.sub
    by_cases hlt : i < ds.length
    · right
      have hd : ds[i]? = some ds[i] := List.getElem?_eq_getElem hlt
      rw [List.drop_eq_getElem_cons hlt] at el
      obtain ⟨asg, t1, t2⟩ := opt_bind el
      obtain ⟨b, t3, t4⟩ := opt_bind t2
      refine ⟨wk.go i H' _ sz hd, _, fun H2 hN => ⟨ds.length - (i + 1), by omega, hN⟩, fun y H2 hy => ?_⟩
      obtain ⟨rfl, ry⟩ := wk.yld i H' _ y H2 sz hd hy
      refine ⟨Z', ds[i], asg, x.sub, ry.mono x.up, t1, fun ps hps => ?_⟩
      have hsl : ∀ p ∈ ps, p.1 ∈ vs := fun p hp => by
        have : p.1 ∈ asg.map (·.1) := by rw [← hps.slots]; exact List.mem_map_of_mem hp
        obtain ⟨r, hr, er⟩ := List.mem_map.mp this
        rw [← er]
        exact hin _ _ t1 r hr
      refine ⟨by rw [wipe_sets ps _ hsl, wipe_wipe], ?_⟩
      have w2 : View K Z' (setV (L2.wipe σ vs) ps) (setE (wipeE ρ vs) asg) := ((v1.mono x.up).wipe vs).sets hps
      refine ⟨Z', setE (wipeE ρ vs) asg, b, x.sub, w2, t3, fun H3 Z3 x3 => ?_⟩
      have keepD : ∀ {Z3 H3 : Hp}, Ext Z' H2 Z3 H3 → Z3 D = none := fun {Z3 H3} x3 => by
        cases hz : Z3 D with
        | none => rfl
        | some o =>
          have := x3.new D zD (by rw [hz]; exact fun z => nomatch z)
          rw [hl] at this; cases this
      cases b with
      | true =>
        rw [if_pos rfl] at t4
        refine iteT ?_
        obtain ⟨dy, t5, t6⟩ := opt_bind t4
        refine ⟨Z3, _, dy, x3.sub, w2.mono x3.up, t5, fun vy H4 Z4 x4 r4 => ?_⟩
        have x34 := x3.trans x4
        cases hr : lcD tg ft fe (wipeE ρ vs) (List.drop (i + 1) ds) with
        | none => rw [hr] at t6; cases t6
        | some rest' =>
          rw [hr] at t6
          cases t6
          have z4 := keepD x34
          refine ⟨acc, x34.big _ _ hl, ?_, ?_⟩
          · rw [ra.length]
            exact Nat.lt_of_le_of_lt (Nat.le_trans hlen (Nat.le_trans hi hsz)) (by decide)
          · have xx := x.trans x34
            refine ⟨rfl, hlt, Z4, acc ++ [vy], as ++ [dy], rest', ⟨fun b o hb => ?_, xx.up, fun b o hb => ?_, xx.new⟩, z4, upd_same, (ra.mono x34.up).append (.cons r4 .nil), by rw [List.length_append]; simp; omega, hr, by rw [List.append_assoc]; exact ea⟩
            · rw [upd_ne (ne_of_none hb hD)]; exact xx.big _ _ hb
            · rw [upd_ne (ne_of_none hb z4)]; exact xx.sub _ _ hb
      | false =>
        rw [if_neg (by decide)] at t4
        refine iteF ?_
        exact ⟨rfl, hlt, Z3, acc, as, rest, x.trans x3, keepD x3, x3.big _ _ hl, ra.mono x3.up, by omega, t4, ea⟩
    · left
      have e : i = ds.length := by omega
      subst e
      rw [List.drop_length] at el
      cases el
      rw [List.append_nil] at ea
      subst ea
      exact ⟨wk.stop _ H' sz (Nat.le_refl _), q D acc H' Z' (x1.trans x) (x1.big.free hD) zD hl ra⟩
  · cases e2
abbrev DTs (X : Cx) (K : PySem.W.Frag) (ifs : List Expr) (ft : Env → Option Bool) : Prop := PTs X ifs (tT K ft)
def fYes : Env → Option Bool := fun _ => some true
section
variable {X : Cx} {K : PySem.W.Frag}
theorem _root_.L2.PTs.weak {ifs : List Expr} {t t' : TT} (h : PTs X ifs t) (w : ∀ σ H Q, t' σ H Q → t σ H Q) : PTs X ifs t' := ⟨fun pins s σ H Q I q => h.run pins s σ H Q I (w _ _ _ q)⟩
theorem dts_nil : DTs X K [] fYes := pts_nil.weak fun σ H Q ⟨Z, ρ, b, s, v, e, q⟩ => by cases e; exact q H Z (Ext.refl s)
theorem dts_one {c : Expr} {ft : Env → Option Bool} (h : DT X K c ft) : DTs X K [c] ft := pts_one h
variable {elt tg iter : Expr} {ifs : List Expr} {scope : Scope} {own : List (Str × Nat)} {pos : Pos} {fi : Env → Option (List PyData)} {g : TgF} {ft : Env → Option Bool} {fe : DF}
theorem dn_lc (own : List (Str × Nat)) (hN : X.N.Nodup) (hi : DI X K tg iter fi) (ok : BlkOk X.N X.env.scope scope own) (hin : TgIn (own.map (·.2)) g)
    (hg : ∀ (s : Shared) (H : Hp) (C : Addr) (cl : List (Str × Addr)) (fp : List Addr), DG (X.blk s H scope (compEnvC scope cl C X.env) fp) K tg g)
    (ht : ∀ (s : Shared) (H : Hp) (C : Addr) (cl : List (Str × Addr)) (fp : List Addr), DTs (X.blk s H scope (compEnvC scope cl C X.env) fp) K ifs ft)
    (he : ∀ (s : Shared) (H : Hp) (C : Addr) (cl : List (Str × Addr)) (fp : List Addr), DE (X.blk s H scope (compEnvC scope cl C X.env) fp) K elt fe) (hc : X.calm = true := by rfl) (hs : ∀ x, foldedSetIterable iter X.env x = pure x := by intro _; rfl) :
    DN X K (.ListComp elt [⟨tg, iter, ifs, 0⟩] scope pos) (fLc (own.map (·.2)) fi g ft fe) := (pe_lc hc hN hi ok hg ht he hs).weak (lc_weak hin)
end
end DL
/-! part DL5 -/
namespace DL
open PySem PySem.Spec PyProof.Rows L2
/-! ### what the names hold: settled data, or a list of one's own -/
inductive Cell where
  | sh (d : PyData)
  | ow (ds : List PyData)
abbrev Sto := List (Option Cell)
def cS : Option Cell → Option PyData
  | some (.sh d) => some d
  | _ => none
def cO : Option Cell → Option PyData
  | some (.sh d) => some d
  | some (.ow ds) => some (.list ds)
  | none => none
def vS (ρ : Sto) : Env := ρ.map cS
def vO (ρ : Sto) : Env := ρ.map cO
structure Hold (K : PySem.W.Frag) (H0 Z0 : Hp) (σ : L2.St) (H Z : Hp) (ρ : Sto) : Prop where
  ext : Ext Z0 H0 Z H
  len : ρ.length = σ.length
  sh : ∀ (i : Nat) (d : PyData), ρ[i]? = some (some (.sh d)) → ∃ v, σ[i]? = some (some v) ∧ Rp K Z v d
  ow : ∀ (i : Nat) (ds : List PyData), ρ[i]? = some (some (.ow ds)) → ∃ a vs, σ[i]? = some (some (.ref a)) ∧ H a = some (.lst vs) ∧ Z a = none ∧ H0 a = none ∧ RpAll K Z vs ds
  ap : ∀ (i j : Nat) (a : Addr) (ds es : List PyData), ρ[i]? = some (some (.ow ds)) → ρ[j]? = some (some (.ow es)) → σ[i]? = some (some (.ref a)) → σ[j]? = some (some (.ref a)) → i = j
def Own (σ : L2.St) (ρ : Sto) (a : Addr) : Prop := ∃ (i : Nat) (ds : List PyData), ρ[i]? = some (some (.ow ds)) ∧ σ[i]? = some (some (.ref a))
open Classical in
noncomputable def zO (σ : L2.St) (ρ : Sto) (H Z : Hp) : Hp := fun b => if Own σ ρ b then H b else Z b
open Classical in
noncomputable def zC (σ : L2.St) (ρ : Sto) (Z : Hp) : Hp := fun b => if Own σ ρ b then none else Z b
section
variable {K : PySem.W.Frag} {H0 Z0 H Z H' Z' : Hp} {σ : L2.St} {ρ : Sto}
theorem Hold.sub (h : Hold K H0 Z0 σ H Z ρ) : Same Z H := h.ext.sub
theorem Hold.viewS (h : Hold K H0 Z0 σ H Z ρ) : View K Z σ (vS ρ) := ⟨by unfold vS; rw [List.length_map, h.len]; exact Nat.le_refl _, fun i d e => by
  unfold vS at e
  rw [List.getElem?_map] at e
  cases hr : ρ[i]? with
  | none => rw [hr] at e; cases e
  | some c =>
    rw [hr] at e
    have e : cS c = some d := Option.some.inj e
    cases c with
    | none => cases e
    | some c =>
      cases c with
      | sh d' => cases e; exact h.sh i d hr
      | ow ds => cases e⟩
theorem Hold.own_lst (h : Hold K H0 Z0 σ H Z ρ) {a : Addr} (o : Own σ ρ a) : ∃ vs, H a = some (.lst vs) ∧ Z a = none ∧ H0 a = none := by
  obtain ⟨i, ds, e1, e2⟩ := o
  obtain ⟨b, vs, h1, h2, h3, h4, _⟩ := h.ow i ds e1
  rw [e2] at h1
  cases h1
  exact ⟨vs, h2, h3, h4⟩
theorem Hold.zO_sub (h : Hold K H0 Z0 σ H Z ρ) : Same (zO σ ρ H Z) H := fun b o e => by
  unfold zO at e
  split at e
  · exact e
  · exact h.sub _ _ e
theorem Hold.zO_up (h : Hold K H0 Z0 σ H Z ρ) : Same Z (zO σ ρ H Z) := fun b o e => by
  unfold zO
  split
  · rename_i c
    obtain ⟨vs, _, hz, _⟩ := h.own_lst c
    rw [hz] at e; cases e
  · exact e
theorem Hold.viewO (h : Hold K H0 Z0 σ H Z ρ) : View K (zO σ ρ H Z) σ (vO ρ) := ⟨by unfold vO; rw [List.length_map, h.len]; exact Nat.le_refl _, fun i d e => by
  unfold vO at e
  rw [List.getElem?_map] at e
  cases hr : ρ[i]? with
  | none => rw [hr] at e; cases e
  | some c =>
    rw [hr] at e
    have e : cO c = some d := Option.some.inj e
    cases c with
    | none => cases e
    | some c =>
      cases c with
      | sh d' =>
        cases e
        obtain ⟨v, h1, h2⟩ := h.sh i d hr
        exact ⟨v, h1, h2.mono h.zO_up⟩
      | ow ds =>
        cases e
        obtain ⟨a, vs, h1, h2, h3, h4, h5⟩ := h.ow i ds hr
        refine ⟨.ref a, h1, .lst (xs := vs) ?_ (h5.mono h.zO_up)⟩
        unfold zO
        rw [if_pos ⟨i, ds, hr, h1⟩]
        exact h2⟩
/-- behind an evaluation that saw the settled part alone -/
theorem Hold.afterS (h : Hold K H0 Z0 σ H Z ρ) (x : Ext Z H Z' H') : Hold K H0 Z0 σ H' Z' ρ := by
  refine ⟨h.ext.trans x, h.len, fun i d e => ?_, fun i ds e => ?_, h.ap⟩
  · obtain ⟨v, h1, h2⟩ := h.sh i d e
    exact ⟨v, h1, h2.mono x.up⟩
  · obtain ⟨a, vs, h1, h2, h3, h4, h5⟩ := h.ow i ds e
    refine ⟨a, vs, h1, x.big _ _ h2, ?_, h4, h5.mono x.up⟩
    cases q : Z' a with
    | none => rfl
    | some o =>
      have := x.new a h3 (by rw [q]; exact fun z => nomatch z)
      rw [h2] at this; cases this
theorem Hold.cut_up (h : Hold K H0 Z0 σ H Z ρ) (x : Ext (zO σ ρ H Z) H Z' H') : Same Z (zC σ ρ Z') := fun b o e => by
  unfold zC
  split
  · rename_i c
    obtain ⟨vs, _, hz, _⟩ := h.own_lst c
    rw [hz] at e; cases e
  · exact x.up _ _ (h.zO_up _ _ e)
theorem zC_sub : Same (zC σ ρ Z) Z := fun b o e => by
  unfold zC at e
  split at e
  · cases e
  · exact e
/-- behind one that saw one's own lists too -/
theorem Hold.afterO (h : Hold K H0 Z0 σ H Z ρ) (x : Ext (zO σ ρ H Z) H Z' H') : Hold K H0 Z0 σ H' (zC σ ρ Z') ρ := by
  have up := h.cut_up x
  refine ⟨⟨h.ext.big.trans x.big, h.ext.up.trans up, zC_sub.trans x.sub, fun b hb hn => ?_⟩, h.len, fun i d e => ?_, fun i ds e => ?_, h.ap⟩
  · unfold zC at hn
    split at hn
    · exact absurd rfl hn
    · rename_i c
      cases q : zO σ ρ H Z b with
      | none => exact h.ext.big.free (x.new b q hn)
      | some o =>
        unfold zO at q
        rw [if_neg c] at q
        exact h.ext.new b hb (by rw [q]; exact fun z => nomatch z)
  · obtain ⟨v, h1, h2⟩ := h.sh i d e
    exact ⟨v, h1, h2.mono up⟩
  · obtain ⟨a, vs, h1, h2, h3, h4, h5⟩ := h.ow i ds e
    refine ⟨a, vs, h1, x.big _ _ h2, ?_, h4, h5.mono up⟩
    unfold zC
    rw [if_pos ⟨i, ds, e, h1⟩]
theorem Hold.cut_tup (h : Hold K H0 Z0 σ H Z ρ) (x : Ext (zO σ ρ H Z) H Z' H') : ∀ a xs, Z' a = some (.tup xs) → zC σ ρ Z' a = some (.tup xs) := fun a xs e => by
  unfold zC
  split
  · rename_i c
    obtain ⟨vs, h1, _, _⟩ := h.own_lst c
    have : zO σ ρ H Z a = some (.lst vs) := by unfold zO; rw [if_pos c]; exact h1
    rw [x.up _ _ this] at e
    cases e
  · exact e
/-- the end of a body: everything may be settled -/
theorem Hold.endO (h : Hold K H0 Z0 σ H Z ρ) (x : Ext (zO σ ρ H Z) H Z' H') : Ext Z0 H0 Z' H' := by
  refine ⟨h.ext.big.trans x.big, (h.ext.up.trans h.zO_up).trans x.up, x.sub, fun b hb hn => ?_⟩
  cases q : zO σ ρ H Z b with
  | none => exact h.ext.big.free (x.new b q hn)
  | some o =>
    unfold zO at q
    split at q
    · rename_i c
      obtain ⟨vs, _, _, h4⟩ := h.own_lst c
      exact h4
    · exact h.ext.new b hb (by rw [q]; exact fun z => nomatch z)
theorem set_other {α : Type} {l : List α} {i j : Nat} {x y : α} (h : (l.set i x)[j]? = some y) (hne : x ≠ y) : i ≠ j ∧ l[j]? = some y := by
  by_cases e : i = j
  · subst e
    by_cases hl : i < l.length
    · rw [List.getElem?_set_self hl] at h; cases h; exact absurd rfl hne
    · rw [List.getElem?_eq_none (by rw [List.length_set]; omega)] at h; cases h
  · rw [List.getElem?_set_ne e] at h; exact ⟨e, h⟩
theorem Hold.setsh (h : Hold K H0 Z0 σ H Z ρ) {i : Nat} {v : V} {d : PyData} (r : Rp K Z v d) : Hold K H0 Z0 (σ.set i (some v)) H Z (ρ.set i (some (.sh d))) := by
  refine ⟨h.ext, by rw [List.length_set, List.length_set, h.len], fun j e hj => ?_, fun j ds hj => ?_, fun j k a ds es hj hk h1 h2 => ?_⟩
  · by_cases e2 : i = j
    · subst e2
      by_cases hl : i < ρ.length
      · rw [List.getElem?_set_self hl] at hj
        cases hj
        exact ⟨v, List.getElem?_set_self (by rw [← h.len]; exact hl), r⟩
      · rw [List.getElem?_eq_none (by rw [List.length_set]; omega)] at hj; cases hj
    · rw [List.getElem?_set_ne e2] at hj ⊢
      exact h.sh j e hj
  · obtain ⟨e2, hj⟩ := set_other hj (by intro z; cases z)
    rw [List.getElem?_set_ne e2]
    exact h.ow j ds hj
  · obtain ⟨e2, hj⟩ := set_other hj (by intro z; cases z)
    obtain ⟨e3, hk⟩ := set_other hk (by intro z; cases z)
    rw [List.getElem?_set_ne e2] at h1
    rw [List.getElem?_set_ne e3] at h2
    exact h.ap j k a ds es hj hk h1 h2
/-- a name gets a new list of its own -/
theorem Hold.setow (h : Hold K H0 Z0 σ H Z ρ) {i : Nat} {p : Addr} {vs : List V} {ds : List PyData} (hl : H p = some (.lst vs)) (hz : Z p = none) (h0 : H0 p = none) (hn : ¬ Own σ ρ p) (r : RpAll K Z vs ds) : Hold K H0 Z0 (σ.set i (some (.ref p))) H Z (ρ.set i (some (.ow ds))) := by
  have other : ∀ {j : Nat} {es : List PyData}, (ρ.set i (some (.ow ds)))[j]? = some (some (.ow es)) → (i = j ∧ es = ds ∧ (σ.set i (some (V.ref p)))[j]? = some (some (V.ref p))) ∨ (i ≠ j ∧ ρ[j]? = some (some (.ow es)) ∧ (σ.set i (some (V.ref p)))[j]? = σ[j]?) := fun {j es} hj => by
    by_cases e2 : i = j
    · subst e2
      left
      by_cases hl : i < ρ.length
      · rw [List.getElem?_set_self hl] at hj
        cases hj
        exact ⟨rfl, rfl, List.getElem?_set_self (by rw [← h.len]; exact hl)⟩
      · rw [List.getElem?_eq_none (by rw [List.length_set]; omega)] at hj; cases hj
    · right
      rw [List.getElem?_set_ne e2] at hj
      exact ⟨e2, hj, List.getElem?_set_ne e2⟩
  refine ⟨h.ext, by rw [List.length_set, List.length_set, h.len], fun j e hj => ?_, fun j es hj => ?_, fun j k a es fs hj hk h1 h2 => ?_⟩
  · obtain ⟨e2, hj⟩ := set_other hj (by intro z; cases z)
    rw [List.getElem?_set_ne e2]
    exact h.sh j e hj
  · rcases other hj with ⟨rfl, rfl, e3⟩ | ⟨e2, hj, e3⟩
    · exact ⟨p, vs, e3, hl, hz, h0, r⟩
    · rw [e3]; exact h.ow j es hj
  · rcases other hj with ⟨e2, rfl, e3⟩ | ⟨e2, hj', e3⟩ <;> rcases other hk with ⟨f2, rfl, f3⟩ | ⟨f2, hk', f3⟩
    · omega
    · rw [e3] at h1
      cases h1
      rw [f3] at h2
      exact absurd ⟨k, fs, hk', h2⟩ hn
    · rw [f3] at h2
      cases h2
      rw [e3] at h1
      exact absurd ⟨j, es, hj', h1⟩ hn
    · rw [e3] at h1
      rw [f3] at h2
      exact h.ap j k a es fs hj' hk' h1 h2
theorem own_old (h : Hold K H0 Z0 σ H Z ρ) {p : Addr} (hp : H p = none) : ¬ Own σ ρ p := fun o => by
  obtain ⟨vs, e, _⟩ := h.own_lst o
  rw [hp] at e; cases e
/-- one's own list is changed -/
theorem Hold.mutate (h : Hold K H0 Z0 σ H Z ρ) {i : Nat} {a : Addr} {vs : List V} {ds es : List PyData} (hi : ρ[i]? = some (some (.ow ds))) (ha : σ[i]? = some (some (.ref a))) (r : RpAll K Z vs es) : Hold K H0 Z0 σ (upd H a (.lst vs)) Z (ρ.set i (some (.ow es))) := by
  obtain ⟨us, hl, hz, h0⟩ := h.own_lst ⟨i, ds, hi, ha⟩
  have sm : Same Z (upd H a (.lst vs)) := fun b o e => by rw [upd_ne (ne_of_none e hz)]; exact h.sub _ _ e
  have il : i < ρ.length := (List.getElem?_eq_some_iff.mp hi).1
  have other : ∀ {j : Nat} {gs : List PyData}, (ρ.set i (some (.ow es)))[j]? = some (some (.ow gs)) → (i = j ∧ gs = es) ∨ (i ≠ j ∧ ρ[j]? = some (some (.ow gs))) := fun {j gs} hj => by
    by_cases e2 : i = j
    · subst e2
      rw [List.getElem?_set_self il] at hj
      cases hj
      exact .inl ⟨rfl, rfl⟩
    · rw [List.getElem?_set_ne e2] at hj
      exact .inr ⟨e2, hj⟩
  refine ⟨⟨fun b o e => by rw [upd_ne (ne_of_none e h0)]; exact h.ext.big _ _ e, h.ext.up, sm, h.ext.new⟩, by rw [List.length_set, h.len], fun j e hj => ?_, fun j gs hj => ?_, fun j k b gs fs hj hk h1 h2 => ?_⟩
  · obtain ⟨e2, hj⟩ := set_other hj (by intro z; cases z)
    exact h.sh j e hj
  · rcases other hj with ⟨rfl, rfl⟩ | ⟨e2, hj⟩
    · exact ⟨a, vs, ha, upd_same, hz, h0, r⟩
    · obtain ⟨b, ws, q1, q2, q3, q4, q5⟩ := h.ow j gs hj
      refine ⟨b, ws, q1, ?_, q3, q4, q5⟩
      have : b ≠ a := fun z => by subst z; exact e2 (h.ap i j b ds gs hi hj ha q1)
      rw [upd_ne this]; exact q2
  · have back : ∀ {j : Nat} {gs : List PyData}, (ρ.set i (some (.ow es)))[j]? = some (some (.ow gs)) → ∃ gs', ρ[j]? = some (some (.ow gs')) := fun {j gs} hj => by
      rcases other hj with ⟨rfl, rfl⟩ | ⟨e2, hj⟩
      · exact ⟨ds, hi⟩
      · exact ⟨gs, hj⟩
    obtain ⟨g1, e1⟩ := back hj
    obtain ⟨g2, e2⟩ := back hk
    exact h.ap j k b g1 g2 e1 e2 h1 h2
end
/-! ### what a statement comes to -/
inductive Res where
  | fail
  | next (ρ : Sto)
  | ret (d : PyData)
  | retN (ds : List PyData)
  | brk (ρ : Sto)
  | ct (ρ : Sto)
abbrev SFn := Sto → Res
def Good (K : PySem.W.Frag) (H0 Z0 : Hp) (D : Ends) : Res → Prop
  | .fail => False
  | .next ρ => ∀ σ H Z, Hold K H0 Z0 σ H Z ρ → D.nx σ H
  | .ret d => ∀ v H Z, Ext Z0 H0 Z H → Rp K Z v d → D.rt v H
  | .retN ds => ∀ p us H Z, Ext Z0 H0 Z H → H0 p = none → Z p = none → H p = some (.lst us) → RpAll K Z us ds → D.rt (.ref p) H
  | .brk ρ => ∀ σ H Z, Hold K H0 Z0 σ H Z ρ → D.bk σ H
  | .ct ρ => ∀ σ H Z, Hold K H0 Z0 σ H Z ρ → D.ct σ H
def tS (K : PySem.W.Frag) (F : SFn) : TS := fun D σ H => ∃ H0 Z0 Z ρ, Hold K H0 Z0 σ H Z ρ ∧ Good K H0 Z0 D (F ρ)
abbrev DS (X : Cx) (K : PySem.W.Frag) (st : Stmt) (F : SFn) : Prop := PS X st (tS K F)
abbrev DSs (X : Cx) (K : PySem.W.Frag) (sts : List Stmt) (F : SFn) : Prop := PSs X sts (tS K F)
def dNext : SFn := .next
def dSeq (F G : SFn) : SFn := fun ρ => match F ρ with
  | .next ρ' => G ρ'
  | r => r
section
variable {X : Cx} {K : PySem.W.Frag} {st : Stmt} {sts : List Stmt} {F G : SFn} {pos : Pos}
theorem dss_nil : DSs X K [] dNext := pss_nil.weak fun D σ H ⟨H0, Z0, Z, ρ, h, g⟩ => g σ H Z h
theorem ds_pass : DS X K (.Pass pos) dNext := ps_pass.weak fun D σ H ⟨H0, Z0, Z, ρ, h, g⟩ => g σ H Z h
def dBrk : SFn := .brk
def dCt : SFn := .ct
theorem ds_break : DS X K (.Break pos) dBrk := ps_break.weak fun D σ H ⟨H0, Z0, Z, ρ, h, g⟩ => g σ H Z h
theorem ds_continue : DS X K (.Continue pos) dCt := ps_continue.weak fun D σ H ⟨H0, Z0, Z, ρ, h, g⟩ => g σ H Z h
theorem good_seq {H0 Z0 : Hp} {D : Ends} {F G : SFn} {ρ : Sto} (g : Good K H0 Z0 D (dSeq F G ρ)) : Good K H0 Z0 { D with nx := tS K G D } (F ρ) := by
  unfold dSeq at g
  cases e : F ρ with
  | fail => rw [e] at g; exact g
  | next ρ' => rw [e] at g; exact fun σ H Z h => ⟨H0, Z0, Z, ρ', h, g⟩
  | ret d => rw [e] at g; exact g
  | retN d => rw [e] at g; exact g
  | brk ρ' => rw [e] at g; exact g
  | ct ρ' => rw [e] at g; exact g
theorem dss_cons (h1 : DS X K st F) (h2 : DSs X K sts G) : DSs X K (st :: sts) (dSeq F G) := (pss_cons h1 h2).weak fun D σ H ⟨H0, Z0, Z, ρ, h, g⟩ => ⟨H0, Z0, Z, ρ, h, good_seq g⟩
theorem dss_one (h1 : DS X K st F) : DSs X K [st] F := pss_one h1
theorem dss_doc {x : Str} {j : Option Nat} {p p2 : Pos} : True := trivial
/-- a statement that is never come to -/
def dNever : SFn := fun _ => .fail
theorem ds_never : DS X K st dNever := ps_never.weak fun D σ H ⟨H0, Z0, Z, ρ, h, g⟩ => g
theorem dss_never : DSs X K sts dNever := pss_never.weak fun D σ H ⟨H0, Z0, Z, ρ, h, g⟩ => g
/-! names and tuples of names -/
def setSh (ρ : Sto) : Asg → Sto
  | [] => ρ
  | p :: a => setSh (ρ.set p.1 (some (.sh p.2))) a
theorem Hold.sets {H0 Z0 H Z : Hp} {σ : L2.St} {ρ : Sto} {ps : List (Nat × V)} {as : Asg} (h : Hold K H0 Z0 σ H Z ρ) (r : Prs K Z ps as) : Hold K H0 Z0 (setV σ ps) H Z (setSh ρ as) := by
  induction r generalizing σ ρ with
  | nil => exact h
  | cons r t ih => exact ih (h.setsh r)
def dAsg (tg : TgF) (f : DF) : SFn := fun ρ => match f (vS ρ) with
  | some d => match tg d with
    | some asg => .next (setSh ρ asg)
    | none => .fail
  | none => .fail
def dAsgO (tg : TgF) (f : DF) : SFn := fun ρ => match f (vO ρ) with
  | some d => if noL d then match tg d with
    | some asg => .next (setSh ρ asg)
    | none => .fail
    else .fail
  | none => .fail
def dSet (i : Nat) (f : DF) : SFn := fun ρ => match f (vS ρ) with
  | some d => .next (ρ.set i (some (.sh d)))
  | none => .fail
def dSetO (i : Nat) (f : DF) : SFn := fun ρ => match f (vO ρ) with
  | some d => if noL d then .next (ρ.set i (some (.sh d))) else .fail
  | none => .fail
def dSetN (i : Nat) (f : Env → Option (List PyData)) : SFn := fun ρ => match f (vS ρ) with
  | some ds => .next (ρ.set i (some (.ow ds)))
  | none => .fail
def dSetNO (i : Nat) (f : Env → Option (List PyData)) : SFn := fun ρ => match f (vO ρ) with
  | some ds => if noLs ds then .next (ρ.set i (some (.ow ds))) else .fail
  | none => .fail
/-- a new list of flat things, read off one's own lists, settled -/
def dSetSO (i : Nat) (f : Env → Option (List PyData)) : SFn := fun ρ => match f (vO ρ) with
  | some ds => if noLs ds then .next (ρ.set i (some (.sh (.list ds)))) else .fail
  | none => .fail
variable {te : TE} {f : DF} {fn : Env → Option (List PyData)} {i : Nat}
theorem set_weak (w : ∀ σ H Q, tD K f σ H Q → te σ H Q) : ∀ D σ H, tS K (dSet i f) D σ H → tAsg te (gName i) D σ H := fun D σ H ⟨H0, Z0, Z, ρ, h, g⟩ => by
  unfold dSet at g
  cases e : f (vS ρ) with
  | none => rw [e] at g; exact g.elim
  | some d =>
    rw [e] at g
    refine w σ H _ ⟨Z, vS ρ, d, h.sub, h.viewS, e, fun v H' Z' x r => ?_⟩
    exact g _ H' Z' ((h.afterS x).setsh r)
theorem setO_weak (w : ∀ σ H Q, tD K f σ H Q → te σ H Q) : ∀ D σ H, tS K (dSetO i f) D σ H → tAsg te (gName i) D σ H := fun D σ H ⟨H0, Z0, Z, ρ, h, g⟩ => by
  unfold dSetO at g
  cases e : f (vO ρ) with
  | none => rw [e] at g; exact g.elim
  | some d =>
    rw [e] at g
    by_cases hn : noL d = true
    · simp only [hn, if_true] at g
      refine w σ H _ ⟨_, vO ρ, d, h.zO_sub, h.viewO, e, fun v H' Z' x r => ?_⟩
      exact g _ H' _ ((h.afterO x).setsh (r.noL (h.cut_tup x) hn))
    · simp only [hn] at g; exact g.elim
theorem setN_weak (w : ∀ σ H Q, tN K fn σ H Q → te σ H Q) : ∀ D σ H, tS K (dSetN i fn) D σ H → tAsg te (gName i) D σ H := fun D σ H ⟨H0, Z0, Z, ρ, h, g⟩ => by
  unfold dSetN at g
  cases e : fn (vS ρ) with
  | none => rw [e] at g; exact g.elim
  | some ds =>
    rw [e] at g
    refine w σ H _ ⟨Z, vS ρ, ds, h.sub, h.viewS, e, fun p vs H' Z' x hp zp hl r => ?_⟩
    refine g _ H' Z' ((h.afterS x).setow hl zp (h.ext.big.free hp) (fun o => ?_) r)
    exact own_old h hp o
theorem own_cut {H0 Z0 H Z Z' H' : Hp} {σ : L2.St} {ρ : Sto} {p : Addr} (h : Hold K H0 Z0 σ H Z ρ) (x : Ext (zO σ ρ H Z) H Z' H') (zp : Z' p = none) : zC σ ρ Z' p = none := by
  unfold zC
  split
  · rfl
  · exact zp
theorem setNO_weak (w : ∀ σ H Q, tN K fn σ H Q → te σ H Q) : ∀ D σ H, tS K (dSetNO i fn) D σ H → tAsg te (gName i) D σ H := fun D σ H ⟨H0, Z0, Z, ρ, h, g⟩ => by
  unfold dSetNO at g
  cases e : fn (vO ρ) with
  | none => rw [e] at g; exact g.elim
  | some ds =>
    rw [e] at g
    by_cases hn : noLs ds = true
    · simp only [hn, if_true] at g
      refine w σ H _ ⟨_, vO ρ, ds, h.zO_sub, h.viewO, e, fun p vs H' Z' x hp zp hl r => ?_⟩
      refine g _ H' _ ((h.afterO x).setow hl (own_cut h x zp) (h.ext.big.free hp) (own_old h hp) (r.noL (h.cut_tup x) hn))
    · simp only [hn] at g; exact g.elim
theorem Hold.lay {H0 Z0 H Z : Hp} {σ : L2.St} {ρ : Sto} {p : Addr} {vs : List V} (h : Hold K H0 Z0 σ H Z ρ) (hl : H p = some (.lst vs)) (hz : Z p = none) (h0 : H0 p = none) (hn : ¬ Own σ ρ p) : Hold K H0 Z0 σ H (upd Z p (.lst vs)) ρ := by
  have sz : Same Z (upd Z p (.lst vs)) := same_upd hz
  refine ⟨⟨h.ext.big, h.ext.up.trans sz, fun b o e => ?_, fun b hb hn2 => ?_⟩, h.len, fun j e hj => ?_, fun j es hj => ?_, h.ap⟩
  · by_cases hbp : b = p
    · subst hbp; rw [upd_same] at e; cases e; exact hl
    · rw [upd_ne hbp] at e; exact h.sub _ _ e
  · by_cases hbp : b = p
    · subst hbp; exact h0
    · rw [upd_ne hbp] at hn2; exact h.ext.new b hb hn2
  · obtain ⟨v, h1, h2⟩ := h.sh j e hj
    exact ⟨v, h1, h2.mono sz⟩
  · obtain ⟨a, ws, q1, q2, q3, q4, q5⟩ := h.ow j es hj
    refine ⟨a, ws, q1, q2, ?_, q4, q5.mono sz⟩
    have : a ≠ p := fun z => by subst z; exact hn ⟨j, es, hj, q1⟩
    rw [upd_ne this]; exact q3
theorem setSO_weak (w : ∀ σ H Q, tN K fn σ H Q → te σ H Q) : ∀ D σ H, tS K (dSetSO i fn) D σ H → tAsg te (gName i) D σ H := fun D σ H ⟨H0, Z0, Z, ρ, h, g⟩ => by
  unfold dSetSO at g
  cases e : fn (vO ρ) with
  | none => rw [e] at g; exact g.elim
  | some ds =>
    rw [e] at g
    by_cases hn : noLs ds = true
    · simp only [hn, if_true] at g
      refine w σ H _ ⟨_, vO ρ, ds, h.zO_sub, h.viewO, e, fun p vs H' Z' x hp zp hl r => ?_⟩
      have zp' := own_cut h x zp
      have hh := (h.afterO x).lay hl zp' (h.ext.big.free hp) (own_old h hp)
      have rr := (r.noL (h.cut_tup x) hn).mono (same_upd (o := .lst vs) zp')
      exact g _ H' _ (hh.setsh (.lst upd_same rr))
    · simp only [hn] at g; exact g.elim
section
variable {x : Str} {e : Expr} {pos' : Pos}
theorem ds_set (hN : X.N.Nodup) (he : DE X K e f) (hi : X.N[i]? = some x := by rfl) (hx : Loc X.env.scope x := by first | exact Or.inl rfl | exact Or.inr rfl) (hs : swapsWith e (some (.Name x pos')) pos.line X.env = pure false := by rfl) (hf : X.fn x = true ∨ X.env.scope.names.lookup x = some .local := by first | exact .inl rfl | exact .inr rfl) :
    DS X K (.Assign [.Name x pos'] e pos) (dSet i f) := (ps_set hN hi hx he hs hf).weak (set_weak fun _ _ _ h => h)
theorem ds_setO (hN : X.N.Nodup) (he : DE X K e f) (hi : X.N[i]? = some x := by rfl) (hx : Loc X.env.scope x := by first | exact Or.inl rfl | exact Or.inr rfl) (hs : swapsWith e (some (.Name x pos')) pos.line X.env = pure false := by rfl) (hf : X.fn x = true ∨ X.env.scope.names.lookup x = some .local := by first | exact .inl rfl | exact .inr rfl) :
    DS X K (.Assign [.Name x pos'] e pos) (dSetO i f) := (ps_set hN hi hx he hs hf).weak (setO_weak fun _ _ _ h => h)
theorem ds_setN (hN : X.N.Nodup) (he : DN X K e fn) (hi : X.N[i]? = some x := by rfl) (hx : Loc X.env.scope x := by first | exact Or.inl rfl | exact Or.inr rfl) (hs : swapsWith e (some (.Name x pos')) pos.line X.env = pure false := by rfl) (hf : X.fn x = true ∨ X.env.scope.names.lookup x = some .local := by first | exact .inl rfl | exact .inr rfl) :
    DS X K (.Assign [.Name x pos'] e pos) (dSetN i fn) := (ps_set hN hi hx he hs hf).weak (setN_weak fun _ _ _ h => h)
theorem ds_setNO (hN : X.N.Nodup) (he : DN X K e fn) (hi : X.N[i]? = some x := by rfl) (hx : Loc X.env.scope x := by first | exact Or.inl rfl | exact Or.inr rfl) (hs : swapsWith e (some (.Name x pos')) pos.line X.env = pure false := by rfl) (hf : X.fn x = true ∨ X.env.scope.names.lookup x = some .local := by first | exact .inl rfl | exact .inr rfl) :
    DS X K (.Assign [.Name x pos'] e pos) (dSetNO i fn) := (ps_set hN hi hx he hs hf).weak (setNO_weak fun _ _ _ h => h)
theorem ds_setSO (hN : X.N.Nodup) (he : DN X K e fn) (hi : X.N[i]? = some x := by rfl) (hx : Loc X.env.scope x := by first | exact Or.inl rfl | exact Or.inr rfl) (hs : swapsWith e (some (.Name x pos')) pos.line X.env = pure false := by rfl) (hf : X.fn x = true ∨ X.env.scope.names.lookup x = some .local := by first | exact .inl rfl | exact .inr rfl) :
    DS X K (.Assign [.Name x pos'] e pos) (dSetSO i fn) := (ps_set hN hi hx he hs hf).weak (setSO_weak fun _ _ _ h => h)
end
/-! name = [.. for ..] -/
section
variable {y : Str} {py : Pos} {elt tg iter : Expr} {ifs : List Expr} {scope : Scope} {own : List (Str × Nat)} {pos spos : Pos} {fi : Env → Option (List PyData)} {g : TgF} {ft : Env → Option Bool} {fe : DF}
theorem set_lc {t : SFn} (wk : ∀ te, (∀ σ H Q, tN K (fLc (own.map (·.2)) fi g ft fe) σ H Q → te σ H Q) → ∀ D σ H, tS K t D σ H → tAsg te (gName i) D σ H) (hN : X.N.Nodup) (hy : X.N[i]? = some y) (hyl : X.env.scope.names.lookup y = some .local)
    (hsw : swapsWith (.ListComp elt [⟨tg, iter, ifs, 0⟩] scope pos) (some (.Name y py)) spos.line X.env = pure true) (hi : DI X K tg iter fi) (ok : BlkOk X.N X.env.scope scope own) (hin : TgIn (own.map (·.2)) g)
    (hg : ∀ (s : Shared) (H : Hp) (C : Addr) (cl : List (Str × Addr)) (fp : List Addr), DG (X.blk s H scope (compEnvC scope cl C X.env) fp) K tg g)
    (ht : ∀ (s : Shared) (H : Hp) (C : Addr) (cl : List (Str × Addr)) (fp : List Addr), DTs (X.blk s H scope (compEnvC scope cl C X.env) fp) K ifs ft)
    (he : ∀ (s : Shared) (H : Hp) (C : Addr) (cl : List (Str × Addr)) (fp : List Addr), DE (X.blk s H scope (compEnvC scope cl C X.env) fp) K elt fe) (hc : X.calm = true) (hs : ∀ x, foldedSetIterable iter X.env x = pure x) :
    DS X K (.Assign [.Name y py] (.ListComp elt [⟨tg, iter, ifs, 0⟩] scope pos) spos) t := (ps_setLc hc hN hy hyl hsw hi ok hg ht he hs).weak (wk _ (lc_weak hin))
theorem ds_setLcN (own : List (Str × Nat)) (hN : X.N.Nodup) (hi : DI X K tg iter fi) (ok : BlkOk X.N X.env.scope scope own) (hin : TgIn (own.map (·.2)) g)
    (hg : ∀ (s : Shared) (H : Hp) (C : Addr) (cl : List (Str × Addr)) (fp : List Addr), DG (X.blk s H scope (compEnvC scope cl C X.env) fp) K tg g)
    (ht : ∀ (s : Shared) (H : Hp) (C : Addr) (cl : List (Str × Addr)) (fp : List Addr), DTs (X.blk s H scope (compEnvC scope cl C X.env) fp) K ifs ft)
    (he : ∀ (s : Shared) (H : Hp) (C : Addr) (cl : List (Str × Addr)) (fp : List Addr), DE (X.blk s H scope (compEnvC scope cl C X.env) fp) K elt fe) (hy : X.N[i]? = some y := by rfl) (hyl : X.env.scope.names.lookup y = some .local := by rfl)
    (hsw : swapsWith (.ListComp elt [⟨tg, iter, ifs, 0⟩] scope pos) (some (.Name y py)) spos.line X.env = pure true := by exact sw_true rfl rfl rfl (by decide +kernel)) (hc : X.calm = true := by rfl) (hs : ∀ x, foldedSetIterable iter X.env x = pure x := by intro _; rfl) :
    DS X K (.Assign [.Name y py] (.ListComp elt [⟨tg, iter, ifs, 0⟩] scope pos) spos) (dSetN i (fLc (own.map (·.2)) fi g ft fe)) := set_lc (fun te w => setN_weak w) hN hy hyl hsw hi ok hin hg ht he hc hs
theorem tD_fL {te : TE} {fn : Env → Option (List PyData)} (w : ∀ σ H Q, tN K fn σ H Q → te σ H Q) : ∀ σ H Q, tD K (fL fn) σ H Q → te σ H Q := fun σ H Q ⟨Z, ρ, d, s, v, ed, q⟩ => by
  unfold fL at ed
  cases e1 : fn ρ with
  | none => rw [e1] at ed; cases ed
  | some ds =>
    rw [e1] at ed
    cases ed
    refine w σ H Q ⟨Z, ρ, ds, s, v, e1, fun p vs H' Z' x hp zp hl r => ?_⟩
    obtain ⟨x2, sz⟩ := settle x hp zp hl
    exact q (.ref p) H' _ x2 (.lst upd_same (r.mono sz))
theorem ds_setLc (own : List (Str × Nat)) (hN : X.N.Nodup) (hi : DI X K tg iter fi) (ok : BlkOk X.N X.env.scope scope own) (hin : TgIn (own.map (·.2)) g)
    (hg : ∀ (s : Shared) (H : Hp) (C : Addr) (cl : List (Str × Addr)) (fp : List Addr), DG (X.blk s H scope (compEnvC scope cl C X.env) fp) K tg g)
    (ht : ∀ (s : Shared) (H : Hp) (C : Addr) (cl : List (Str × Addr)) (fp : List Addr), DTs (X.blk s H scope (compEnvC scope cl C X.env) fp) K ifs ft)
    (he : ∀ (s : Shared) (H : Hp) (C : Addr) (cl : List (Str × Addr)) (fp : List Addr), DE (X.blk s H scope (compEnvC scope cl C X.env) fp) K elt fe) (hy : X.N[i]? = some y := by rfl) (hyl : X.env.scope.names.lookup y = some .local := by rfl)
    (hsw : swapsWith (.ListComp elt [⟨tg, iter, ifs, 0⟩] scope pos) (some (.Name y py)) spos.line X.env = pure true := by exact sw_true rfl rfl rfl (by decide +kernel)) (hc : X.calm = true := by rfl) (hs : ∀ x, foldedSetIterable iter X.env x = pure x := by intro _; rfl) :
    DS X K (.Assign [.Name y py] (.ListComp elt [⟨tg, iter, ifs, 0⟩] scope pos) spos) (dSet i (fL (fLc (own.map (·.2)) fi g ft fe))) := set_lc (fun te w => set_weak (tD_fL w)) hN hy hyl hsw hi ok hin hg ht he hc hs
theorem ds_setLcSO (own : List (Str × Nat)) (hN : X.N.Nodup) (hi : DI X K tg iter fi) (ok : BlkOk X.N X.env.scope scope own) (hin : TgIn (own.map (·.2)) g)
    (hg : ∀ (s : Shared) (H : Hp) (C : Addr) (cl : List (Str × Addr)) (fp : List Addr), DG (X.blk s H scope (compEnvC scope cl C X.env) fp) K tg g)
    (ht : ∀ (s : Shared) (H : Hp) (C : Addr) (cl : List (Str × Addr)) (fp : List Addr), DTs (X.blk s H scope (compEnvC scope cl C X.env) fp) K ifs ft)
    (he : ∀ (s : Shared) (H : Hp) (C : Addr) (cl : List (Str × Addr)) (fp : List Addr), DE (X.blk s H scope (compEnvC scope cl C X.env) fp) K elt fe) (hy : X.N[i]? = some y := by rfl) (hyl : X.env.scope.names.lookup y = some .local := by rfl)
    (hsw : swapsWith (.ListComp elt [⟨tg, iter, ifs, 0⟩] scope pos) (some (.Name y py)) spos.line X.env = pure true := by exact sw_true rfl rfl rfl (by decide +kernel)) (hc : X.calm = true := by rfl) (hs : ∀ x, foldedSetIterable iter X.env x = pure x := by intro _; rfl) :
    DS X K (.Assign [.Name y py] (.ListComp elt [⟨tg, iter, ifs, 0⟩] scope pos) spos) (dSetSO i (fLc (own.map (·.2)) fi g ft fe)) := set_lc (fun te w => setSO_weak w) hN hy hyl hsw hi ok hin hg ht he hc hs
theorem ds_setLcNO (own : List (Str × Nat)) (hN : X.N.Nodup) (hi : DI X K tg iter fi) (ok : BlkOk X.N X.env.scope scope own) (hin : TgIn (own.map (·.2)) g)
    (hg : ∀ (s : Shared) (H : Hp) (C : Addr) (cl : List (Str × Addr)) (fp : List Addr), DG (X.blk s H scope (compEnvC scope cl C X.env) fp) K tg g)
    (ht : ∀ (s : Shared) (H : Hp) (C : Addr) (cl : List (Str × Addr)) (fp : List Addr), DTs (X.blk s H scope (compEnvC scope cl C X.env) fp) K ifs ft)
    (he : ∀ (s : Shared) (H : Hp) (C : Addr) (cl : List (Str × Addr)) (fp : List Addr), DE (X.blk s H scope (compEnvC scope cl C X.env) fp) K elt fe) (hy : X.N[i]? = some y := by rfl) (hyl : X.env.scope.names.lookup y = some .local := by rfl)
    (hsw : swapsWith (.ListComp elt [⟨tg, iter, ifs, 0⟩] scope pos) (some (.Name y py)) spos.line X.env = pure true := by exact sw_true rfl rfl rfl (by decide +kernel)) (hc : X.calm = true := by rfl) (hs : ∀ x, foldedSetIterable iter X.env x = pure x := by intro _; rfl) :
    DS X K (.Assign [.Name y py] (.ListComp elt [⟨tg, iter, ifs, 0⟩] scope pos) spos) (dSetNO i (fLc (own.map (·.2)) fi g ft fe)) := set_lc (fun te w => setNO_weak w) hN hy hyl hsw hi ok hin hg ht he hc hs
end
/-! a, b = e -/
section
variable {tg e : Expr} {tgf : TgF}
theorem ds_asg (he : DE X K e f) (hg : DG X K tg tgf) (hs : swapsWithSole [tg] e pos.line X.env = pure false := by rfl) (hw : swappedStores [tg] e X.env = pure none := by rfl)
    (h1 : (assignEach [tg] X.env).map (·.2) = [assign tg X.env] := by rfl) : DS X K (.Assign [tg] e pos) (dAsg tgf f) := (ps_asg he hg hs hw h1).weak fun D σ H ⟨H0, Z0, Z, ρ, h, g⟩ => by
  unfold dAsg at g
  cases e1 : f (vS ρ) with
  | none => rw [e1] at g; exact g.elim
  | some d =>
    rw [e1] at g
    cases e2 : tgf d with
    | none => simp only [e2] at g; exact g.elim
    | some asg =>
      simp only [e2] at g
      refine ⟨Z, vS ρ, d, h.sub, h.viewS, e1, fun v H' Z' x r => ?_⟩
      exact ⟨Z', d, asg, x.sub, r, e2, fun ps hp => g _ H' Z' ((h.afterS x).sets hp)⟩
theorem prs_noL {Z Z' : Hp} (s : ∀ a xs, Z a = some (.tup xs) → Z' a = some (.tup xs)) {ps : List (Nat × V)} {as : Asg} (r : Prs K Z ps as) (h : ∀ p ∈ as, noL p.2 = true) : Prs K Z' ps as := by
  induction r with
  | nil => exact .nil
  | cons r t ih => exact .cons (r.noL s (h _ List.mem_cons_self)) (ih fun p hp => h p (List.mem_cons_of_mem _ hp))
end
end
end DL
/-! part DL6 -/
namespace DL
open PySem PySem.Spec PyProof.Rows L2
section
variable {X : Cx} {K : PySem.W.Frag} {pos p : Pos} {e : Expr} {f : DF} {fn : Env → Option (List PyData)} {i : Nat} {F G : SFn}
/-! ### return -/
def dRet (f : DF) : SFn := fun ρ => match f (vO ρ) with
  | some d => .ret d
  | none => .fail
def dRetN (f : Env → Option (List PyData)) : SFn := fun ρ => match f (vO ρ) with
  | some ds => .retN ds
  | none => .fail
def dRetOw (i : Nat) : SFn := fun ρ => match ρ[i]? with
  | some (some (.ow ds)) => .retN ds
  | _ => .fail
theorem ds_ret (he : DE X K e f) : DS X K (.Return (some e) pos) (dRet f) := (ps_ret he).weak fun D σ H ⟨H0, Z0, Z, ρ, h, g⟩ => by
  unfold dRet at g
  cases e1 : f (vO ρ) with
  | none => rw [e1] at g; exact g.elim
  | some d =>
    rw [e1] at g
    exact ⟨_, vO ρ, d, h.zO_sub, h.viewO, e1, fun v H' Z' x r => g v H' Z' (h.endO x) r⟩
theorem ds_retN (he : DN X K e fn) : DS X K (.Return (some e) pos) (dRetN fn) := (ps_ret he).weak fun D σ H ⟨H0, Z0, Z, ρ, h, g⟩ => by
  unfold dRetN at g
  cases e1 : fn (vO ρ) with
  | none => rw [e1] at g; exact g.elim
  | some d =>
    rw [e1] at g
    exact ⟨_, vO ρ, d, h.zO_sub, h.viewO, e1, fun p vs H' Z' x hp zp hl r => g p vs H' Z' (h.endO x) (h.ext.big.free hp) zp hl r⟩
theorem ds_retOw {x : Str} (hN : X.N[i]? = some x := by rfl) (hv : Vis X.env.scope x := by first | exact Or.inl rfl | exact Or.inr (Or.inl rfl) | exact Or.inr (Or.inr rfl)) (hd : (x == ("__debug__" : Str)) = false := by decide)
    (hcd : (x == ("__classdict__" : Str)) = false := by decide) : DS X K (.Return (some (.Name x p)) pos) (dRetOw i) := (ps_ret (pe_var hN hv hd hcd)).weak fun D σ H ⟨H0, Z0, Z, ρ, h, g⟩ => by
  unfold dRetOw at g
  split at g
  · rename_i ds e1
    obtain ⟨a, vs, h1, h2, h3, h4, h5⟩ := h.ow i ds e1
    exact ⟨.ref a, h1, g a vs H Z h.ext h4 h3 h2 h5⟩
  · exact g.elim
/-! ### an expression, a list's methods -/
def dDrop (f : DF) : SFn := fun ρ => match f (vO ρ) with
  | some _ => .next ρ
  | none => .fail
theorem ds_expr (he : DE X K e f) (hs : swapsWith e none pos.line X.env = pure false := by rfl) : DS X K (.Expr e pos) (dDrop f) := (ps_expr he hs).weak fun D σ H ⟨H0, Z0, Z, ρ, h, g⟩ => by
  unfold dDrop at g
  cases e1 : f (vO ρ) with
  | none => rw [e1] at g; exact g.elim
  | some d =>
    rw [e1] at g
    exact ⟨_, vO ρ, d, h.zO_sub, h.viewO, e1, fun v H' Z' x r => g σ H' _ (h.afterO x)⟩
def dApp (i : Nat) (f : DF) : SFn := fun ρ => match ρ[i]? with
  | some (some (.ow ds)) => match f (vS ρ) with
    | some d => if ds.length < 1000000 then .next (ρ.set i (some (.ow (ds ++ [d])))) else .fail
    | none => .fail
  | _ => .fail
def dAppO (i : Nat) (f : DF) : SFn := fun ρ => match ρ[i]? with
  | some (some (.ow ds)) => match f (vO ρ) with
    | some d => if ds.length < 1000000 then if noL d then .next (ρ.set i (some (.ow (ds ++ [d])))) else .fail else .fail
    | none => .fail
  | _ => .fail
theorem tyl {H : Hp} {a : Addr} {vs : List V} (h : H a = some (.lst vs)) : tyV K "list" (.ref a) H := .inl ⟨rfl, vs, SqL.of h⟩
theorem lt_line {n : Nat} (h : n < 1000000) : n < sizeLine := Nat.lt_trans h (by decide)
section
variable {x : Str} {px apos : Pos} {a b : Expr} {fa fb : DF}
theorem ds_app (i : Nat) (he : DE X K e f) (hK : X.K = K := by rfl) (hN : X.N[i]? = some x := by rfl) (hv : Vis X.env.scope x := by first | exact Or.inl rfl | exact Or.inr (Or.inl rfl) | exact Or.inr (Or.inr rfl)) (hd : (x == ("__debug__" : Str)) = false := by decide)
    (hcd : (x == ("__classdict__" : Str)) = false := by decide) (hline : (apos.endLine == p.line) = true := by rfl) (hst : starEach [e] X.env = (false, eval e X.env) :: starEach [] X.env := by rfl)
    (hfew : ((backTo p (starEach [e] X.env)).all (fun x => !x.1) && (backToKw p (keywordEach [] X.env)).all (fun x => x.1.isSome) && decide (([e] : List Expr).length + ([] : List Keyword).length + (if ([] : List Keyword).isEmpty then 0 else 1) < 30)) = true := by rfl)
    (hs : swapsWith (.Call (.Attribute (.Name x px) "append" apos) [e] [] p) none pos.line X.env = pure false := by rfl) : DS X K (.Expr (.Call (.Attribute (.Name x px) "append" apos) [e] [] p) pos) (dApp i f) := by
  subst hK
  refine (ps_expr (pe_bm PySem.F.plainAttrs_list PySem.F.slot_list_append PySem.F.type_list_append mt_append (pe_var hN hv hd hcd) (pa_cons he pa_nil hst) rfl hfew hline hst rfl) hs).weak fun D σ H ⟨H0, Z0, Z, ρ, h, g⟩ => ?_
  unfold dApp at g
  split at g
  · rename_i ds e1
    cases e2 : f (vS ρ) with
    | none => rw [e2] at g; exact g.elim
    | some d =>
      simp only [e2] at g
      by_cases hl : ds.length < 1000000
      · rw [if_pos hl] at g
        obtain ⟨l, vs, h1, h2, h3, h4, h5⟩ := h.ow i ds e1
        refine ⟨.ref l, h1, tyl h2, Z, vS ρ, d, h.sub, h.viewS, e2, fun v H' Z' xx r => ?_⟩
        have h' := h.afterS xx
        obtain ⟨l', vs', g1, g2, g3, g4, g5⟩ := h'.ow i ds e1
        rw [h1] at g1
        cases g1
        refine ⟨l, vs', v, rfl, rfl, g2, by rw [g5.length]; exact lt_line hl, ?_⟩
        exact g σ _ Z' (h'.mutate e1 h1 (g5.append (.cons r .nil)))
      · rw [if_neg hl] at g; exact g.elim
  · exact g.elim
theorem ds_appO (i : Nat) (he : DE X K e f) (hK : X.K = K := by rfl) (hN : X.N[i]? = some x := by rfl) (hv : Vis X.env.scope x := by first | exact Or.inl rfl | exact Or.inr (Or.inl rfl) | exact Or.inr (Or.inr rfl)) (hd : (x == ("__debug__" : Str)) = false := by decide)
    (hcd : (x == ("__classdict__" : Str)) = false := by decide) (hline : (apos.endLine == p.line) = true := by rfl) (hst : starEach [e] X.env = (false, eval e X.env) :: starEach [] X.env := by rfl)
    (hfew : ((backTo p (starEach [e] X.env)).all (fun x => !x.1) && (backToKw p (keywordEach [] X.env)).all (fun x => x.1.isSome) && decide (([e] : List Expr).length + ([] : List Keyword).length + (if ([] : List Keyword).isEmpty then 0 else 1) < 30)) = true := by rfl)
    (hs : swapsWith (.Call (.Attribute (.Name x px) "append" apos) [e] [] p) none pos.line X.env = pure false := by rfl) : DS X K (.Expr (.Call (.Attribute (.Name x px) "append" apos) [e] [] p) pos) (dAppO i f) := by
  subst hK
  refine (ps_expr (pe_bm PySem.F.plainAttrs_list PySem.F.slot_list_append PySem.F.type_list_append mt_append (pe_var hN hv hd hcd) (pa_cons he pa_nil hst) rfl hfew hline hst rfl) hs).weak fun D σ H ⟨H0, Z0, Z, ρ, h, g⟩ => ?_
  unfold dAppO at g
  split at g
  · rename_i ds e1
    cases e2 : f (vO ρ) with
    | none => rw [e2] at g; exact g.elim
    | some d =>
      simp only [e2] at g
      by_cases hl : ds.length < 1000000
      · rw [if_pos hl] at g
        by_cases hn : noL d = true
        · simp only [hn, if_true] at g
          obtain ⟨l, vs, h1, h2, h3, h4, h5⟩ := h.ow i ds e1
          refine ⟨.ref l, h1, tyl h2, _, vO ρ, d, h.zO_sub, h.viewO, e2, fun v H' Z' xx r => ?_⟩
          have h' := h.afterO xx
          obtain ⟨l', vs', g1, g2, g3, g4, g5⟩ := h'.ow i ds e1
          rw [h1] at g1
          cases g1
          refine ⟨l, vs', v, rfl, rfl, g2, by rw [g5.length]; exact lt_line hl, ?_⟩
          exact g σ _ _ (h'.mutate e1 h1 (g5.append (.cons (r.noL (h.cut_tup xx) hn) .nil)))
        · simp only [hn] at g; exact g.elim
      · rw [if_neg hl] at g; exact g.elim
  · exact g.elim
/-- x.pop(): its value dropped, or given to a name -/
def dPop (i : Nat) : SFn := fun ρ => match ρ[i]? with
  | some (some (.ow ds)) => match ds[ds.length - 1]? with
    | some _ => .next (ρ.set i (some (.ow ds.dropLast)))
    | none => .fail
  | _ => .fail
def dPopTo (j i : Nat) : SFn := fun ρ => match ρ[i]? with
  | some (some (.ow ds)) => match ds[ds.length - 1]? with
    | some d => if i = j then .fail else .next ((ρ.set i (some (.ow ds.dropLast))).set j (some (.sh d)))
    | none => .fail
  | _ => .fail
theorem ds_pop (i : Nat) (hK : X.K = K := by rfl) (hN : X.N[i]? = some x := by rfl) (hv : Vis X.env.scope x := by first | exact Or.inl rfl | exact Or.inr (Or.inl rfl) | exact Or.inr (Or.inr rfl)) (hd : (x == ("__debug__" : Str)) = false := by decide)
    (hcd : (x == ("__classdict__" : Str)) = false := by decide) (hline : (apos.endLine == p.line) = true := by rfl)
    (hs : swapsWith (.Call (.Attribute (.Name x px) "pop" apos) [] [] p) none pos.line X.env = pure false := by rfl) : DS X K (.Expr (.Call (.Attribute (.Name x px) "pop" apos) [] [] p) pos) (dPop i) := by
  subst hK
  refine (ps_expr (pe_bm0 PySem.F.plainAttrs_list PySem.F.slot_list_pop PySem.F.type_list_pop mt_pop (pe_var hN hv hd hcd) rfl hline) hs).weak fun D σ H ⟨H0, Z0, Z, ρ, h, g⟩ => ?_
  unfold dPop at g
  split at g
  · rename_i ds e1
    split at g
    · rename_i d e2
      obtain ⟨l, vs, h1, h2, h3, h4, h5⟩ := h.ow i ds e1
      obtain ⟨v, hv, rv⟩ := h5.get e2
      rw [← h5.length] at hv
      exact ⟨.ref l, h1, tyl h2, l, vs, v, rfl, rfl, h2, hv, g σ _ Z (h.mutate e1 h1 h5.dropLast)⟩
    · exact g.elim
  · exact g.elim
theorem ds_popTo {y : Str} {py : Pos} (j i : Nat) (hNd : X.N.Nodup) (hK : X.K = K := by rfl) (hN : X.N[i]? = some x := by rfl) (hv : Vis X.env.scope x := by first | exact Or.inl rfl | exact Or.inr (Or.inl rfl) | exact Or.inr (Or.inr rfl)) (hd : (x == ("__debug__" : Str)) = false := by decide)
    (hcd : (x == ("__classdict__" : Str)) = false := by decide) (hline : (apos.endLine == p.line) = true := by rfl) (hj : X.N[j]? = some y := by rfl) (hy : Loc X.env.scope y := by first | exact Or.inl rfl | exact Or.inr rfl)
    (hs : swapsWith (.Call (.Attribute (.Name x px) "pop" apos) [] [] p) (some (.Name y py)) pos.line X.env = pure false := by rfl) (hf : X.fn y = true ∨ X.env.scope.names.lookup y = some .local := by first | exact .inl rfl | exact .inr rfl) :
    DS X K (.Assign [.Name y py] (.Call (.Attribute (.Name x px) "pop" apos) [] [] p) pos) (dPopTo j i) := by
  subst hK
  refine (ps_set hNd hj hy (pe_bm0 PySem.F.plainAttrs_list PySem.F.slot_list_pop PySem.F.type_list_pop mt_pop (pe_var hN hv hd hcd) rfl hline) hs hf).weak fun D σ H ⟨H0, Z0, Z, ρ, h, g⟩ => ?_
  unfold dPopTo at g
  split at g
  · rename_i ds e1
    split at g
    · rename_i d e2
      split at g
      · exact g.elim
      · obtain ⟨l, vs, h1, h2, h3, h4, h5⟩ := h.ow i ds e1
        obtain ⟨v, hv, rv⟩ := h5.get e2
        rw [← h5.length] at hv
        exact ⟨.ref l, h1, tyl h2, l, vs, v, rfl, rfl, h2, hv, g _ _ Z ((h.mutate e1 h1 h5.dropLast).setsh rv)⟩
    · exact g.elim
  · exact g.elim
/-- x.pop(e) -/
def dPopAt (i : Nat) (f : DF) : SFn := fun ρ => match ρ[i]? with
  | some (some (.ow ds)) => match f (vO ρ) with
    | some (.int n) => if 0 ≤ n ∧ n < 2 ^ 63 ∧ n < ds.length then .next (ρ.set i (some (.ow (ds.eraseIdx n.toNat)))) else .fail
    | _ => .fail
  | _ => .fail
theorem seqIndex_of {n : Int} {k : Nat} (h0 : 0 ≤ n) (h : n < k) : seqIndex? n k = some n.toNat := by
  have : ixN k n = some n.toNat := by unfold ixN; rw [if_pos h0, if_pos h]
  exact (ixN_seq this).1
theorem ds_popAt (i : Nat) (he : DE X K e f) (hK : X.K = K := by rfl) (hN : X.N[i]? = some x := by rfl) (hv : Vis X.env.scope x := by first | exact Or.inl rfl | exact Or.inr (Or.inl rfl) | exact Or.inr (Or.inr rfl)) (hd : (x == ("__debug__" : Str)) = false := by decide)
    (hcd : (x == ("__classdict__" : Str)) = false := by decide) (hline : (apos.endLine == p.line) = true := by rfl) (hst : starEach [e] X.env = (false, eval e X.env) :: starEach [] X.env := by rfl)
    (hfew : ((backTo p (starEach [e] X.env)).all (fun x => !x.1) && (backToKw p (keywordEach [] X.env)).all (fun x => x.1.isSome) && decide (([e] : List Expr).length + ([] : List Keyword).length + (if ([] : List Keyword).isEmpty then 0 else 1) < 30)) = true := by rfl)
    (hs : swapsWith (.Call (.Attribute (.Name x px) "pop" apos) [e] [] p) none pos.line X.env = pure false := by rfl) : DS X K (.Expr (.Call (.Attribute (.Name x px) "pop" apos) [e] [] p) pos) (dPopAt i f) := by
  subst hK
  refine (ps_expr (pe_bm PySem.F.plainAttrs_list PySem.F.slot_list_pop PySem.F.type_list_pop mt_popAt (pe_var hN hv hd hcd) (pa_cons he pa_nil hst) rfl hfew hline hst rfl) hs).weak fun D σ H ⟨H0, Z0, Z, ρ, h, g⟩ => ?_
  unfold dPopAt at g
  split at g
  · rename_i ds e1
    split at g
    · rename_i n e2
      split at g
      · rename_i hc
        obtain ⟨l, vs, h1, h2, h3, h4, h5⟩ := h.ow i ds e1
        refine ⟨.ref l, h1, tyl h2, _, vO ρ, _, h.zO_sub, h.viewO, e2, fun v H' Z' xx r => ?_⟩
        cases r
        have h' := h.afterO xx
        obtain ⟨l', vs', g1, g2, g3, g4, g5⟩ := h'.ow i ds e1
        rw [h1] at g1
        cases g1
        have hlen : n < vs'.length := by rw [g5.length]; exact hc.2.2
        have hk : n.toNat < vs'.length := by omega
        refine ⟨l, vs', n, n.toNat, vs'[n.toNat], rfl, rfl, g2, by omega, hc.2.1, seqIndex_of hc.1 hlen, List.getElem?_eq_getElem hk, ?_⟩
        exact g σ _ _ (h'.mutate e1 h1 (g5.eraseIdx _))
      · exact g.elim
    · exact g.elim
  · exact g.elim
/-- x.clear() -/
def dClear (i : Nat) : SFn := fun ρ => match ρ[i]? with
  | some (some (.ow _)) => .next (ρ.set i (some (.ow [])))
  | _ => .fail
theorem ds_clear (i : Nat) (hK : X.K = K := by rfl) (hN : X.N[i]? = some x := by rfl) (hv : Vis X.env.scope x := by first | exact Or.inl rfl | exact Or.inr (Or.inl rfl) | exact Or.inr (Or.inr rfl)) (hd : (x == ("__debug__" : Str)) = false := by decide)
    (hcd : (x == ("__classdict__" : Str)) = false := by decide) (hline : (apos.endLine == p.line) = true := by rfl)
    (hs : swapsWith (.Call (.Attribute (.Name x px) "clear" apos) [] [] p) none pos.line X.env = pure false := by rfl) : DS X K (.Expr (.Call (.Attribute (.Name x px) "clear" apos) [] [] p) pos) (dClear i) := by
  subst hK
  refine (ps_expr (pe_bm0 PySem.F.plainAttrs_list PySem.F.slot_list_clear PySem.F.type_list_clear mt_clear (pe_var hN hv hd hcd) rfl hline) hs).weak fun D σ H ⟨H0, Z0, Z, ρ, h, g⟩ => ?_
  unfold dClear at g
  split at g
  · rename_i ds e1
    obtain ⟨l, vs, h1, h2, h3, h4, h5⟩ := h.ow i ds e1
    exact ⟨.ref l, h1, tyl h2, l, vs, rfl, rfl, h2, g σ _ Z (h.mutate e1 h1 .nil)⟩
  · exact g.elim
/-- x.insert(a, e) -/
def dIns (i : Nat) (fa f : DF) : SFn := fun ρ => match ρ[i]? with
  | some (some (.ow ds)) => match fa (vO ρ) with
    | some (.int n) => match f (vO ρ) with
      | some d => if (0 ≤ n ∧ n < 2 ^ 63) ∧ ds.length < 1000000 then if noL d then .next (ρ.set i (some (.ow (ds.take n.toNat ++ [d] ++ ds.drop n.toNat)))) else .fail else .fail
      | none => .fail
    | _ => .fail
  | _ => .fail
theorem ds_ins (i : Nat) (ha : DE X K a fa) (he : DE X K e f) (hK : X.K = K := by rfl) (hN : X.N[i]? = some x := by rfl) (hv : Vis X.env.scope x := by first | exact Or.inl rfl | exact Or.inr (Or.inl rfl) | exact Or.inr (Or.inr rfl)) (hd : (x == ("__debug__" : Str)) = false := by decide)
    (hcd : (x == ("__classdict__" : Str)) = false := by decide) (hline : (apos.endLine == p.line) = true := by rfl) (hst : starEach [a, e] X.env = (false, eval a X.env) :: starEach [e] X.env := by rfl) (hst2 : starEach [e] X.env = (false, eval e X.env) :: starEach [] X.env := by rfl)
    (hfew : ((backTo p (starEach [a, e] X.env)).all (fun x => !x.1) && (backToKw p (keywordEach [] X.env)).all (fun x => x.1.isSome) && decide (([a, e] : List Expr).length + ([] : List Keyword).length + (if ([] : List Keyword).isEmpty then 0 else 1) < 30)) = true := by rfl)
    (hpl : (backTo p (starEach [e] X.env)).any (·.1) = false := by rfl)
    (hs : swapsWith (.Call (.Attribute (.Name x px) "insert" apos) [a, e] [] p) none pos.line X.env = pure false := by rfl) : DS X K (.Expr (.Call (.Attribute (.Name x px) "insert" apos) [a, e] [] p) pos) (dIns i fa f) := by
  subst hK
  refine (ps_expr (pe_bm PySem.F.plainAttrs_list PySem.F.slot_list_insert PySem.F.type_list_insert mt_insert (pe_var hN hv hd hcd) (pa_cons ha (pa_cons he pa_nil hst2) hst) rfl hfew hline hst hpl) hs).weak fun D σ H ⟨H0, Z0, Z, ρ, h, g⟩ => ?_
  unfold dIns at g
  split at g
  · rename_i ds e1
    split at g
    · rename_i n e2
      split at g
      · rename_i d e3
        split at g
        · rename_i hc
          by_cases hn : noL d = true
          · simp only [hn, if_true] at g
            obtain ⟨l, vs, h1, h2, h3, h4, h5⟩ := h.ow i ds e1
            refine ⟨.ref l, h1, tyl h2, _, vO ρ, _, h.zO_sub, h.viewO, e2, fun v1 H1 Z1 x1 r1 => ?_⟩
            cases r1
            refine ⟨_, vO ρ, d, x1.sub, h.viewO.mono x1.up, e3, fun v H' Z' x2 r => ?_⟩
            have h' := h.afterO (x1.trans x2)
            obtain ⟨l', vs', g1, g2, g3, g4, g5⟩ := h'.ow i ds e1
            rw [h1] at g1
            cases g1
            refine ⟨l, vs', n, v, rfl, rfl, g2, by rw [g5.length]; exact lt_line hc.2, hc.1.1, hc.1.2, ?_⟩
            have rr := r.noL (h.cut_tup (x1.trans x2)) hn
            exact g σ _ _ (h'.mutate e1 h1 (((g5.take _).append (.cons rr .nil)).append (g5.drop _)))
          · simp only [hn] at g; exact g.elim
        · exact g.elim
      · exact g.elim
    · exact g.elim
  · exact g.elim
/-- x[a] = e -/
def dSetAt (i : Nat) (fa f : DF) : SFn := fun ρ => match ρ[i]? with
  | some (some (.ow ds)) => match f (vO ρ) with
    | some d => match fa (vO ρ) with
      | some (.int n) => match ixN ds.length n with
        | some j => if noL d then .next (ρ.set i (some (.ow (ds.set j d)))) else .fail
        | none => .fail
      | _ => .fail
    | none => .fail
  | _ => .fail
theorem ds_setAt {tpos : Pos} (i : Nat) (ha : DE X K a fa) (he : DE X K e f) (hN : X.N[i]? = some x := by rfl) (hv : Vis X.env.scope x := by first | exact Or.inl rfl | exact Or.inr (Or.inl rfl) | exact Or.inr (Or.inr rfl)) (hd : (x == ("__debug__" : Str)) = false := by decide)
    (hcd : (x == ("__classdict__" : Str)) = false := by decide)
    (hsub : ∀ v, assign (.Subscript (.Name x px) a tpos) X.env v = (do
      let ov ← holding [v] (eval (.Name x px) X.env)
      let iv ← holding [v, ov] (eval a X.env)
      standAt tpos
      holding [v, ov, iv] (setItem ov iv v)
      release [v, ov, iv] []) := by intro _; rfl)
    (hs : swapsWithSole [.Subscript (.Name x px) a tpos] e pos.line X.env = pure false := by rfl) (hw : swappedStores [.Subscript (.Name x px) a tpos] e X.env = pure none := by rfl)
    (h1 : (assignEach [.Subscript (.Name x px) a tpos] X.env).map (·.2) = [assign (.Subscript (.Name x px) a tpos) X.env] := by rfl) : DS X K (.Assign [.Subscript (.Name x px) a tpos] e pos) (dSetAt i fa f) := by
  refine (ps_asg he (pg_sub (pe_var hN hv hd hcd) ha set_list hsub) hs hw h1).weak fun D σ H ⟨H0, Z0, Z, ρ, h, g⟩ => ?_
  unfold dSetAt at g
  split at g
  · rename_i ds e1
    split at g
    · rename_i d e2
      split at g
      · rename_i n e3
        split at g
        · rename_i j e4
          by_cases hn : noL d = true
          · simp only [hn, if_true] at g
            obtain ⟨l, vs, h1, h2, h3, h4, h5⟩ := h.ow i ds e1
            refine ⟨_, vO ρ, d, h.zO_sub, h.viewO, e2, fun v H1 Z1 x1 r1 => ?_⟩
            refine ⟨.ref l, h1, _, vO ρ, _, x1.sub, h.viewO.mono x1.up, e3, fun v2 H' Z' x2 r2 => ?_⟩
            cases r2
            have h' := h.afterO (x1.trans x2)
            obtain ⟨l', vs', g1, g2, g3, g4, g5⟩ := h'.ow i ds e1
            rw [h1] at g1
            cases g1
            refine ⟨l, vs', n, j, rfl, rfl, g2, by rw [g5.length]; exact e4, ?_⟩
            have rr := (r1.mono x2.up).noL (h.cut_tup (x1.trans x2)) hn
            exact g σ _ _ (h'.mutate e1 h1 (g5.set rr j))
          · simp only [hn] at g; exact g.elim
        · exact g.elim
      · exact g.elim
    · exact g.elim
  · exact g.elim
end
/-! ### if, while, for -/
def dIf (c : Env → Option Bool) (F G : SFn) : SFn := fun ρ => match c (vO ρ) with
  | some true => F ρ
  | some false => G ρ
  | none => .fail
theorem ds_if {c : Expr} {fc : Env → Option Bool} {a b : List Stmt} (hc : DT X K c fc) (ha : DSs X K a F) (hb : DSs X K b G) : DS X K (.If c a b pos) (dIf fc F G) := (ps_if hc ha hb).weak fun D σ H ⟨H0, Z0, Z, ρ, h, g⟩ => by
  unfold dIf at g
  cases e1 : fc (vO ρ) with
  | none => rw [e1] at g; exact g.elim
  | some k =>
    rw [e1] at g
    refine ⟨_, vO ρ, k, h.zO_sub, h.viewO, e1, fun H' Z' x => ?_⟩
    cases k with
    | true => exact iteT ⟨H0, Z0, _, ρ, h.afterO x, g⟩
    | false => exact iteF ⟨H0, Z0, _, ρ, h.afterO x, g⟩
def whileF (c : Env → Option Bool) (F : SFn) : Nat → SFn
  | 0 => fun _ => .fail
  | n + 1 => fun ρ => match c (vO ρ) with
    | none => .fail
    | some false => .next ρ
    | some true => match F ρ with
      | .next ρ' => whileF c F n ρ'
      | .ct ρ' => whileF c F n ρ'
      | .brk ρ' => .next ρ'
      | r => r
def dWhile (fu : Sto → Nat) (c : Env → Option Bool) (F : SFn) : SFn := fun ρ => whileF c F (fu ρ) ρ
theorem ds_while (fu : Sto → Nat) {c : Expr} {fc : Env → Option Bool} {a : List Stmt} (hp : PassesOwn (model X.prog X.w) X.A X.env X.xe) (hc : DT X K c fc) (ha : DSs X K a F) : DS X K (.While c a [] pos) (dWhile fu fc F) := (ps_while hp hc ha).weak fun D σ H ⟨H0, Z0, Z, ρ, h, g⟩ => by
  refine ⟨fun m σ H => ∃ ρ Z, Hold K H0 Z0 σ H Z ρ ∧ Good K H0 Z0 D (whileF fc F m ρ), ⟨fu ρ, ρ, Z, h, g⟩, ?_⟩
  rintro m σ H ⟨ρ, Z, h, g⟩
  cases m with
  | zero => exact g.elim
  | succ n =>
    unfold whileF at g
    cases e1 : fc (vO ρ) with
    | none => simp only [e1] at g; exact g.elim
    | some k =>
      refine ⟨_, vO ρ, k, h.zO_sub, h.viewO, e1, fun H' Z' x => ?_⟩
      have h' := h.afterO x
      cases k with
      | false =>
        simp only [e1] at g
        exact iteF (g _ _ _ h')
      | true =>
        simp only [e1] at g
        refine iteT ⟨fun σ' H' => ∃ ρ' Z', Hold K H0 Z0 σ' H' Z' ρ' ∧ Good K H0 Z0 D (whileF fc F n ρ'), fun σ' H' hw => ⟨n, Nat.lt_succ_self n, hw⟩, H0, Z0, _, ρ, h', ?_⟩
        cases e2 : F ρ with
        | fail => rw [e2] at g; exact g.elim
        | next ρ' => rw [e2] at g; exact fun σ H Z hh => ⟨ρ', Z, hh, g⟩
        | ct ρ' => rw [e2] at g; exact fun σ H Z hh => ⟨ρ', Z, hh, g⟩
        | brk ρ' => rw [e2] at g; exact g
        | ret d => rw [e2] at g; exact g
        | retN d => rw [e2] at g; exact g
def forF (tg : TgF) (F : SFn) : List PyData → SFn
  | [] => .next
  | d :: ds => fun ρ => match tg d with
    | none => .fail
    | some asg => match F (setSh ρ asg) with
      | .next ρ' => forF tg F ds ρ'
      | .ct ρ' => forF tg F ds ρ'
      | .brk ρ' => .next ρ'
      | r => r
def dFor (fi : Env → Option (List PyData)) (tg : TgF) (F : SFn) : SFn := fun ρ => match fi (vS ρ) with
  | some ds => forF tg F ds ρ
  | none => .fail
/-- over data that holds no list (a range's turns), read off one's own lists too -/
def dForO (fi : Env → Option (List PyData)) (tg : TgF) (F : SFn) : SFn := fun ρ => match fi (vO ρ) with
  | some ds => if noLs ds then forF tg F ds ρ else .fail
  | none => .fail
theorem Hold.rebase {H0 Z0 H Z Z1 : Hp} {σ : L2.St} {ρ : Sto} (h : Hold K H0 Z0 σ H Z ρ) (up : Same Z0 Z1) (s : Same Z1 Z) : Hold K H0 Z1 σ H Z ρ :=
  ⟨⟨h.ext.big, s, h.ext.sub, fun b hb hn => h.ext.new b (up.free hb) hn⟩, h.len, h.sh, h.ow, h.ap⟩
theorem Ext.unbase {Z0 H0 Z1 H1 Z H : Hp} (a : Ext Z0 H0 Z1 H1) (b : Ext Z1 H0 Z H) : Ext Z0 H0 Z H := ⟨b.big, a.up.trans b.up, b.sub, fun x hx hn => by
  cases q : Z1 x with
  | none => exact b.new x q hn
  | some o => exact a.new x hx (by rw [q]; exact fun z => nomatch z)⟩
theorem Hold.unbase {H0 Z0 H Z Z1 H1 : Hp} {σ : L2.St} {ρ : Sto} (a : Ext Z0 H0 Z1 H1) (h : Hold K H0 Z1 σ H Z ρ) : Hold K H0 Z0 σ H Z ρ := ⟨a.unbase h.ext, h.len, h.sh, h.ow, h.ap⟩
theorem for_core {J : It} {ds : List PyData} {tg : TgF} {H0 Z0 Z1 H1 : Hp} {D : Ends} {σ : L2.St} {H : Hp} {ρ : Sto} (wk : Walks K Z1 J ds) (x1 : Ext Z0 H0 Z1 H1) (h : Hold K H0 Z1 σ H Z1 ρ) (g : Good K H0 Z0 D (forF tg F ds ρ)) :
    ∃ W : Nat → Nat → L2.St → Hp → Prop, (∃ m, W 0 m σ H) ∧ ∀ i m σ H, W i m σ H →
      (J.stop i H ∧ D.nx σ H) ∨ (J.go i H ∧ ∃ N : L2.St → Hp → Prop, (∀ σ' H', N σ' H' → ∃ m', m' < m ∧ W (i + 1) m' σ' H') ∧ ∀ x H', J.yld i H x H' → gD K tg x σ H' fun σ2 H2 => tS K F { D with nx := N, ct := N, bk := D.nx } σ2 H2) := by
  refine ⟨fun i m σ H => m = ds.length - i ∧ i ≤ ds.length ∧ ∃ ρ Z, Hold K H0 Z1 σ H Z ρ ∧ Good K H0 Z0 D (forF tg F (ds.drop i) ρ), ⟨ds.length, rfl, Nat.zero_le _, ρ, Z1, h, g⟩, ?_⟩
  rintro i m σ H ⟨rfl, hi, ρ, Z, h, g⟩
  have sz : Same Z1 H := h.ext.up.trans h.sub
  by_cases hlt : i < ds.length
  · right
    have hd : ds[i]? = some ds[i] := List.getElem?_eq_getElem hlt
    rw [List.drop_eq_getElem_cons hlt] at g
    unfold forF at g
    cases e1 : tg ds[i] with
    | none => simp only [e1] at g; exact g.elim
    | some asg =>
      simp only [e1] at g
      refine ⟨wk.go i H _ sz hd, fun σ' H' => ∃ ρ' Z', Hold K H0 Z1 σ' H' Z' ρ' ∧ Good K H0 Z0 D (forF tg F (ds.drop (i + 1)) ρ'), fun σ' H' ⟨ρ', Z', hh, gg⟩ => ⟨ds.length - (i + 1), by omega, rfl, hlt, ρ', Z', hh, gg⟩, fun y H2 hy => ?_⟩
      obtain ⟨rfl, ry⟩ := wk.yld i H _ y H2 sz hd hy
      refine ⟨Z, ds[i], asg, h.sub, ry.mono h.ext.up, e1, fun ps hps => ?_⟩
      refine ⟨H0, Z1, Z, setSh ρ asg, h.sets hps, ?_⟩
      cases e2 : F (setSh ρ asg) with
      | fail => rw [e2] at g; exact g.elim
      | next ρ' => rw [e2] at g; exact fun σ H Z hh => ⟨ρ', Z, hh, g⟩
      | ct ρ' => rw [e2] at g; exact fun σ H Z hh => ⟨ρ', Z, hh, g⟩
      | brk ρ' => rw [e2] at g; exact fun σ H Z hh => g σ H Z (hh.unbase x1)
      | ret d => rw [e2] at g; exact fun v H Z x r => g v H Z (x1.unbase x) r
      | retN d => rw [e2] at g; exact fun p us H Z x hp zp hl r => g p us H Z (x1.unbase x) hp zp hl r
  · left
    have e : i = ds.length := by omega
    subst e
    rw [List.drop_length] at g
    exact ⟨wk.stop _ H sz (Nat.le_refl _), g σ H Z (h.unbase x1)⟩
theorem ds_for {tg iter : Expr} {fi : Env → Option (List PyData)} {tgf : TgF} {body : List Stmt} (hp : PassesOwn (model X.prog X.w) X.A X.env X.xe) (hi : DI X K tg iter fi) (hg : DG X K tg tgf) (hb : DSs X K body F) (hc : X.calm = true := by rfl)
    (hs : ∀ x, foldedSetIterable iter X.env x = pure x := by intro _; rfl) : DS X K (.For tg iter body [] pos) (dFor fi tgf F) := (ps_for hp hc hi hg hb hs).weak fun D σ H ⟨H0, Z0, Z, ρ, h, g⟩ => by
  unfold dFor at g
  cases e1 : fi (vS ρ) with
  | none => rw [e1] at g; exact g.elim
  | some ds =>
    rw [e1] at g
    refine ⟨Z, vS ρ, ds, h.sub, h.viewS, e1, fun J H1 Z1 x1 wk => ?_⟩
    have h1 := h.afterS x1
    exact for_core wk h1.ext (h1.rebase h1.ext.up (Same.refl _)) g
theorem noLs_get : ∀ {ds : List PyData} {i : Nat} {d : PyData}, noLs ds = true → ds[i]? = some d → noL d = true
  | e :: ds, 0, d, h, q => by
    have h' : noL e = true ∧ noLs ds = true := by simpa [noLs] using h
    simp at q; subst q; exact h'.1
  | e :: ds, i + 1, d, h, q => by
    have h' : noL e = true ∧ noLs ds = true := by simpa [noLs] using h
    exact noLs_get (ds := ds) (i := i) h'.2 (by simpa using q)
theorem Walks.same {Z Z' : Hp} {J : It} {ds : List PyData} (w : Walks K Z J ds) (hn : noLs ds = true) (hJ : ∀ H, Same Z' H → ∃ H2, Same Z H2 ∧ True) : True := trivial
theorem ds_forR {tg a : Expr} {fs : Env → Option (List PyData)} {tgf : TgF} {body : List Stmt} {p2 pos2 : Pos} (hp : PassesOwn (model X.prog X.w) X.A X.env X.xe) (hm : X.mg "range" = none) (ha : DA X K [a] fs) (hg : DG X K tg tgf) (hb : DSs X K body F) (hgl : Gl X "range" := by rfl) (hc : X.calm = true := by rfl)
    (hst : starEach [a] X.env = [(false, eval a X.env)] := by rfl) (hs : ∀ x, foldedSetIterable (.Call (.Name "range" p2) [a] [] pos2) X.env x = pure x := by intro _; rfl) : DS X K (.For tg (.Call (.Name "range" p2) [a] [] pos2) body [] pos) (dForO (fIR rng1 fs) tgf F) := (ps_for hp hc (pi_range1 hgl hm ha hst) hg hb hs).weak fun D σ H ⟨H0, Z0, Z, ρ, h, g⟩ => by
  unfold dForO at g
  cases e1 : fIR rng1 fs (vO ρ) with
  | none => rw [e1] at g; exact g.elim
  | some ds =>
    rw [e1] at g
    by_cases hn : noLs ds = true
    · simp only [hn, if_true] at g
      obtain ⟨y, e2, e3⟩ := opt_bind e1
      unfold rng1 at e3
      split at e3
      · split at e3
        · rename_i j hj
          cases e3
          refine ⟨_, vO ρ, _, h.zO_sub, h.viewO, e2, fun vs H1 Z1 x1 r1 => ?_⟩
          have h1 := h.afterO x1
          cases r1 with
          | cons r t =>
            cases t
            cases r
            exact ⟨j, rfl, hj.2, hj.1, for_core walks_rng h1.ext (h1.rebase h1.ext.up (Same.refl _)) g⟩
        · cases e3
      · cases e3
    · simp only [hn] at g; exact g.elim
theorem ds_forR2 {tg a b : Expr} {fs : Env → Option (List PyData)} {tgf : TgF} {body : List Stmt} {p2 pos2 : Pos} (hp : PassesOwn (model X.prog X.w) X.A X.env X.xe) (hm : X.mg "range" = none) (ha : DA X K [a, b] fs) (hg : DG X K tg tgf) (hb : DSs X K body F) (hgl : Gl X "range" := by rfl) (hc : X.calm = true := by rfl)
    (hst : starEach [a, b] X.env = [(false, eval a X.env), (false, eval b X.env)] := by rfl) (hst2 : starEach [b] X.env = [(false, eval b X.env)] := by rfl) (hs : ∀ x, foldedSetIterable (.Call (.Name "range" p2) [a, b] [] pos2) X.env x = pure x := by intro _; rfl) : DS X K (.For tg (.Call (.Name "range" p2) [a, b] [] pos2) body [] pos) (dForO (fIR rng2 fs) tgf F) := (ps_for hp hc (pi_range2 hgl hm ha hst hst2) hg hb hs).weak fun D σ H ⟨H0, Z0, Z, ρ, h, g⟩ => by
  unfold dForO at g
  cases e1 : fIR rng2 fs (vO ρ) with
  | none => rw [e1] at g; exact g.elim
  | some ds =>
    rw [e1] at g
    by_cases hn : noLs ds = true
    · simp only [hn, if_true] at g
      obtain ⟨y, e2, e3⟩ := opt_bind e1
      unfold rng2 at e3
      split at e3
      · split at e3
        · rename_i i j hj
          cases e3
          refine ⟨_, vO ρ, _, h.zO_sub, h.viewO, e2, fun vs H1 Z1 x1 r1 => ?_⟩
          have h1 := h.afterO x1
          cases r1 with
          | cons r t =>
            cases t with
            | cons r' t' =>
              cases t'
              cases r; cases r'
              exact ⟨i, j, rfl, ⟨hj.1.2, hj.1.1, hj.2.2, hj.2.1⟩, for_core walks_rng h1.ext (h1.rebase h1.ext.up (Same.refl _)) g⟩
        · cases e3
      · cases e3
    · simp only [hn] at g; exact g.elim
end
/-! ### a def -/
def sto0 (n : Nat) (ds : List PyData) : Sto := ds.map (fun d => some (.sh d)) ++ List.replicate (n - ds.length) none
def runD (n : Nat) (F : SFn) : List PyData → Option PyData := fun ds => match F (sto0 n ds) with
  | .ret d => some d
  | .retN es => some (.list es)
  | .next _ => some .none
  | _ => none
def runN (n : Nat) (F : SFn) : List PyData → Option (List PyData) := fun ds => match F (sto0 n ds) with
  | .retN es => some es
  | _ => none
theorem hold_start {K : PySem.W.Frag} {N : List Str} {vs : List V} {ds : List PyData} {Z H : Hp} (s : Same Z H) (r : RpAll K Z vs ds) : Hold K H Z (L2.start N vs) H Z (sto0 N.length ds) := by
  have hl := r.length
  refine ⟨Ext.refl s, ?_, fun i d e => ?_, fun i es e => ?_, fun i j a es fs e1 => ?_⟩
  · unfold sto0 L2.start
    rw [List.length_append, List.length_append, List.length_map, List.length_map, List.length_replicate, List.length_replicate, hl]
  · unfold sto0 at e
    unfold L2.start
    by_cases hi : i < ds.length
    · rw [List.getElem?_append_left (by rw [List.length_map]; exact hi), List.getElem?_map] at e
      rw [List.getElem?_append_left (by rw [List.length_map, hl]; exact hi), List.getElem?_map]
      cases q : ds[i]? with
      | none => rw [q] at e; cases e
      | some d' =>
        rw [q] at e
        cases e
        obtain ⟨v, hv, rv⟩ := r.get q
        exact ⟨v, by rw [hv]; rfl, rv⟩
    · rw [List.getElem?_append_right (by rw [List.length_map]; omega), List.getElem?_replicate] at e
      split at e <;> cases e
  · unfold sto0 at e
    by_cases hi : i < ds.length
    · rw [List.getElem?_append_left (by rw [List.length_map]; exact hi), List.getElem?_map] at e
      cases q : ds[i]? with
      | none => rw [q] at e; cases e
      | some d' => rw [q] at e; cases e
    · rw [List.getElem?_append_right (by rw [List.length_map]; omega), List.getElem?_replicate] at e
      split at e <;> cases e
  · unfold sto0 at e1
    by_cases hi : i < ds.length
    · rw [List.getElem?_append_left (by rw [List.length_map]; exact hi), List.getElem?_map] at e1
      cases q : ds[i]? with
      | none => rw [q] at e1; cases e1
      | some d' => rw [q] at e1; cases e1
    · rw [List.getElem?_append_right (by rw [List.length_map]; omega), List.getElem?_replicate] at e1
      split at e1 <;> cases e1
section
variable {P : Program} {w : World} {K : PySem.W.Frag} {mg : Str → Option Value} {base : Heap} {x qual : Str} {st : Stmt} {f : Addr} {fd : FuncData} {N ps : List Str} {k : Nat} {F : SFn}
theorem fn_D (Fn : Fun K x qual st f fd) (S : FnScope N ps (defScope st))
    (hbody : ∀ (cdv : Value) (A : Around) (outer : List PySem.Env) (s : Shared) (H : Hp) (E : XK), Room k (A.deeper (envOfC qual (defScope st) s.heap.objs.size f cdv)) → DSs (cxOf CX0 P w K mg base N qual (defScope st) f cdv A outer s H E).nox K (defBody st) F) :
    FnOk P w K mg base CX0 (k + 1) f fd ps (spD K ps.length (runD N.length F)) := by
  refine Fn.ok S (fun vs H Q E ⟨h, _⟩ => h) fun cdv A outer s H vs Q E hr hsp => ?_
  obtain ⟨hn, Z, ds, d, sm, r, e, q⟩ := hsp
  refine ⟨_, hbody cdv A outer s H E hr, H, Z, Z, sto0 N.length ds, hold_start sm r, ?_⟩
  unfold runD at e
  cases e2 : F (sto0 N.length ds) with
  | fail => rw [e2] at e; cases e
  | next ρ => rw [e2] at e; cases e; exact fun σ H' Z' h => q _ H' Z' h.ext .non
  | ret d' => rw [e2] at e; cases e; exact fun v H' Z' x rr => q v H' Z' x rr
  | retN es =>
    rw [e2] at e; cases e
    exact fun p us H' Z' x hp zp hl rr => by
      obtain ⟨x2, sz⟩ := settle x hp zp hl
      exact q _ H' _ x2 (.lst upd_same (rr.mono sz))
  | brk ρ => rw [e2] at e; cases e
  | ct ρ => rw [e2] at e; cases e
theorem fn_N (Fn : Fun K x qual st f fd) (S : FnScope N ps (defScope st))
    (hbody : ∀ (cdv : Value) (A : Around) (outer : List PySem.Env) (s : Shared) (H : Hp) (E : XK), Room k (A.deeper (envOfC qual (defScope st) s.heap.objs.size f cdv)) → DSs (cxOf CX0 P w K mg base N qual (defScope st) f cdv A outer s H E).nox K (defBody st) F) :
    FnOk P w K mg base CX0 (k + 1) f fd ps (spN K ps.length (runN N.length F)) := by
  refine Fn.ok S (fun vs H Q E ⟨h, _⟩ => h) fun cdv A outer s H vs Q E hr hsp => ?_
  obtain ⟨hn, Z, ds, d, sm, r, e, q⟩ := hsp
  refine ⟨_, hbody cdv A outer s H E hr, H, Z, Z, sto0 N.length ds, hold_start sm r, ?_⟩
  unfold runN at e
  cases e2 : F (sto0 N.length ds) with
  | fail => rw [e2] at e; cases e
  | next ρ => rw [e2] at e; cases e
  | ret d' => rw [e2] at e; cases e
  | retN es =>
    rw [e2] at e; cases e
    exact fun p us H' Z' x hp zp hl rr => q p us H' Z' x hp zp hl rr
  | brk ρ => rw [e2] at e; cases e
  | ct ρ => rw [e2] at e; cases e
end
end DL
/-! part DL7 -/
namespace DL
open PySem PySem.Spec PyProof.Rows L2
/-! ### the names of built-ins that the text leaves as they are -/
structure Blts (mg : Str → Option Value) : Prop where
  len : mg "len" = none
  abs : mg "abs" = none
  max : mg "max" = none
  min : mg "min" = none
  sum : mg "sum" = none
  int : mg "int" = none
  bool : mg "bool" = none
  str : mg "str" = none
  list : mg "list" = none
  tuple : mg "tuple" = none
  range : mg "range" = none
  isinstance : mg "isinstance" = none
  all : mg "all" = none
  sorted : mg "sorted" = none
  set : mg "set" = none
  reversed : mg "reversed" = none
/-- a def that keeps its promise stands at the name -/
structure Has (P : Program) (w : World) (K : PySem.W.Frag) (mg : Str → Option Value) (base : Heap) (x : Str) (k : Nat) (ps : List Str) (sp : Sp) : Prop where
  ex : ∃ (f : Addr) (fd : FuncData), FnOk P w K mg base CX0 k f fd ps sp ∧ mg x = some (.ref f) ∧ PySem.W.keepIn K (.ref f) = true ∧ Binds K fd ps []
theorem Has.settle {P : Program} {w : World} {K : PySem.W.Frag} {mg : Str → Option Value} {base : Heap} {x : Str} {k n : Nat} {ps : List Str} {G : List PyData → Option (List PyData)} (h : Has P w K mg base x k ps (spN K n G)) : Has P w K mg base x k ps (spD K n fun ds => (G ds).map .list) := by
  obtain ⟨f, fd, F, a, b, c⟩ := h.ex
  exact ⟨f, fd, fn_settle F, a, b, c⟩
section
variable {X : Cx} {K : PySem.W.Frag} {pos p : Pos} {e a : Expr} {es : List Expr} {fs : Env → Option (List PyData)} {fe fa : DF} {x : Str} {j k n : Nat} {ps : List Str}
theorem de_user {G : List PyData → Option PyData} (h : Has X.prog X.w X.K X.mg X.base x j ps (spD K n G)) (hr : Room k X.A)
    (ha : DA X K (e :: es) fs) (hjk : j ≤ k := by decide) (hg : Gl X x := by rfl) (hdb : (x == ("__debug__" : Str)) = false := by decide) (he : starEach (e :: es) X.env = (false, eval e X.env) :: starEach es X.env := by rfl) (hpl : (backTo pos (starEach es X.env)).any (·.1) = false := by rfl) :
    DE X K (.Call (.Name x p) (e :: es) [] pos) (fCallF n G fs) := by
  obtain ⟨f, fd, F, hm, hk, hb⟩ := h.ex
  exact de_call F (hr.mono hjk) hm hk hb ha hg hdb he hpl
theorem dn_user {G : List PyData → Option (List PyData)} (h : Has X.prog X.w X.K X.mg X.base x j ps (spN K n G)) (hr : Room k X.A)
    (ha : DA X K (e :: es) fs) (hjk : j ≤ k := by decide) (hg : Gl X x := by rfl) (hdb : (x == ("__debug__" : Str)) = false := by decide) (he : starEach (e :: es) X.env = (false, eval e X.env) :: starEach es X.env := by rfl) (hpl : (backTo pos (starEach es X.env)).any (·.1) = false := by rfl) :
    DN X K (.Call (.Name x p) (e :: es) [] pos) (fCallFN n G fs) := by
  obtain ⟨f, fd, F, hm, hk, hb⟩ := h.ex
  exact dn_call F (hr.mono hjk) hm hk hb ha hg hdb he hpl
/-- -e -/
def gNeg : PyData → Option PyData
  | .int i => some (.int (-i))
  | _ => none
theorem de_neg (ha : DE X K a fa) : DE X K (.UnaryOp .USub a pos) (f1 gNeg fa) := (pe_un un_neg ha).weak fun σ H Q ⟨Z, ρ, d, s, v, ed, q⟩ => by
  obtain ⟨x, e1, e2⟩ := opt_bind ed
  refine ⟨Z, ρ, x, s, v, e1, fun vx H1 Z1 x1 r1 => ?_⟩
  cases r1 with
  | int i => cases e2; exact ⟨i, rfl, q _ H1 Z1 x1 (.int _)⟩
  | _ => cases e2
/-- list(reversed(e)) -/
def fRev (fe : DF) : Env → Option (List PyData) := fun ρ => (fe ρ).bind fun d => (asList d).bind fun ds => some ds.reverse
def tLstRev (K : PySem.W.Frag) (te : TE) : TE := fun σ H Q => te σ H fun v H1 => ∃ (a : Addr) (xs : List V), v = .ref a ∧ SqL K H1 a xs ∧ ∀ q, H1 q = none → Q (.ref q) (upd H1 q (.lst xs.reverse))
end
end DL
/-! part DL8 -/
namespace DL
open PySem PySem.Spec PyProof.Rows L2
section
variable {prog : Program} {w : World} {A : Around} {E : Value → Shared → Prop} {s : Shared} {R : Result → Shared → Prop}
theorem ext_rev {it l S : Addr} {items : Array Value} {res : Value} {c₀ : Nat} (hh : A.handled = none) (hit : s.heap.IsRevIter it l ((items.size : Int) - 1)) (hl : s.heap.IsList l items) (hne : l ≠ it) (hSi : S ≠ it) (hSl : S ≠ l) (hn : items.size ≤ sizeLine)
    (hS : s.heap.get? S = some { cls := .type "list", data := .seq #[] c₀ })
    (hR : ∀ (s' : Shared) (acc : Array Value) (c' : Nat), Moved [S, it] (fun a b => b = a) s s' → s'.heap.get? S = some { cls := .type "list", dict := none, data := .seq acc c', slots := #[] } → ItemsOf (fun i v => items[items.size - 1 - i]? = some v) acc items.size → R (.ok (.ret res)) s') :
    wpAny (model prog w) A.in1 (Builtin.List.listExtendWith (.ref S) (.ref it) res)
      (fun fin s' => match fin with | .done f => R (.ok f) s' | .again c' => c'.quiet = true ∧ codeAny (model prog w) A c' R s') (fun e s' => R (.error e) s') s := by
  have W := (Walks.listRev (prog := prog) (w := w) (A := A.in1) hh it l hne items).toS
  have hSf : S ∉ [it, l] := by simp only [List.mem_cons, List.not_mem_nil, or_false, not_or]; exact ⟨hSi, hSl⟩
  have hT : s.TypeIs (.ref it) "list_reverseiterator" := hit.typeIs
  have h1 : Builtin.List.listSameRef (.ref S) (.ref it) = false := by simp [Builtin.List.listSameRef, hSi]
  unfold Builtin.List.listExtendWith
  refine wpAny_bind (wpAny_typeOf hT ?_)
  rw [if_neg (by rw [h1]; decide)]
  refine wpAny_bind (wpAny_pyIter_revIter hit ?_)
  refine wpAny_bind (wpAny_holding ?_)
  unfold Builtin.List.listLengthHint
  refine wpAny_bind (wpAny_specialOf hT RT.nolen_lri ?_)
  show wpAny _ A.in1 (specialOf (Value.ref it) (Str.ofString "__length_hint__") >>= _) _ _ _
  refine wpAny_bind (wpAny_specialOf hT RT.hint_lri ?_)
  generalize hid : ("list_reverseiterator.__length_hint__" : String) = id0
  wp_delta
  rw [show splitId id0 = some ("list_reverseiterator", "__length_hint__") from by subst hid; decide +kernel]
  subst hid
  refine wpAny_bind (wpAny_isInstance (b := true) hT (by rw [isSubtype_type]; kernel_rfl) ?_)
  refine wpAny_pure ?_
  rw [if_neg (by decide)]
  have e0 : ((items.size : Nat) : Int) - 1 - ((0 : Nat) : Int) = (items.size : Int) - 1 := by omega
  exact wpAny_pure ⟨plainId_quiet F.plain_extend_loop _, codeAny_extend_loopS W hn _ hSf _ items.size 0 _ _ _ rfl (Nat.zero_le _) ⟨Nat.zero_le _, by rw [e0]; exact hit, hl⟩ hS (ItemsOf.nil _) fun s' acc' c' hm hS' hacc => hR s' acc' c' hm hS' hacc⟩
theorem init_rev {it l S : Addr} {items : Array Value} (hh : A.handled = none) (hit : s.heap.IsRevIter it l ((items.size : Int) - 1)) (hl : s.heap.IsList l items) (hne : l ≠ it) (hSi : S ≠ it) (hSl : S ≠ l) (hn : items.size ≤ sizeLine)
    (hS : s.heap.get? S = some { cls := .type "list", data := .seq #[] })
    (hR : ∀ (h' : Heap) (tk : Nat) (acc : Array Value) (c' : Nat), (∀ b o, b ≠ S → b ≠ it → s.heap.get? b = some o → h'.get? b = some o) → h'.get? S = some { cls := .type "list", dict := none, data := .seq acc c', slots := #[] } → ItemsOf (fun i v => items[items.size - 1 - i]? = some v) acc items.size → R (.ok (.ret .none)) { s with heap := h', toks := tk }) :
    wpAny (model prog w) A.in1 (Builtin.«list.__init__» ⟨[.ref S, .ref it], []⟩)
      (fun fin s' => match fin with | .done f => R (.ok f) s' | .again c' => c'.quiet = true ∧ codeAny (model prog w) A c' R s') (fun e s' => R (.error e) s') s := by
  show wpAny _ A.in1 (Builtin.List.listItems (.ref S) >>= fun old => Builtin.List.listUpdate (.ref S) (fun _ => #[]) >>= fun _ => letGo old.toList.reverse >>= fun _ => Builtin.List.listExtendWith (.ref S) (.ref it) .none) _ _ s
  refine wpAny_bind ?_
  unfold Builtin.List.listItems
  refine wpAny_bind (wpAny_seqItems hS rfl (wpAny_pure ?_))
  show wpAny _ A.in1 (updateSeq S (fun _ => #[]) >>= fun _ => letGo (#[] : Array Value).toList.reverse >>= fun _ => Builtin.List.listExtendWith (.ref S) (.ref it) .none) _ _ s
  refine wpAny_bind (wpAny_updateSeq hS rfl ?_)
  have hS₂ := Heap.get?_update_self (Obj.mapSeq (fun _ => (#[] : Array Value))) hS rfl
  have oth : ∀ b o, b ≠ S → s.heap.get? b = some o → (s.heap.update S (Obj.mapSeq (fun _ => (#[] : Array Value)))).get? b = some o := fun b o hb e => (Heap.get?_update_other _ _ (Ne.symm hb)).trans e
  refine wpAny_bind (wpAny_letGo ?_)
  have hit2 : (s.heap.update S (Obj.mapSeq (fun _ => (#[] : Array Value)))).IsRevIter it l ((items.size : Int) - 1) := hit.at fun o e => oth it o hSi.symm e
  have hl2 : (s.heap.update S (Obj.mapSeq (fun _ => (#[] : Array Value)))).IsList l items := hl.at fun o e => oth l o hSl.symm e
  refine ext_rev (s := { s with heap := s.heap.update S (Obj.mapSeq (fun _ => (#[] : Array Value))) }) (c₀ := _) hh hit2 hl2 hne hSi hSl hn hS₂ fun s' acc c' hm hS' ha => ?_
  rw [Moved.eq_with hm]
  refine hR s'.heap s'.toks acc c' (fun b o hb hb2 e => hm.heap b o (fun hmem => ?_) (oth b o hb e)) hS' ha
  rcases List.mem_cons.mp hmem with e' | hmem
  · exact hb e'
  · exact hb2 (List.mem_singleton.mp hmem)
theorem call_list_rev {it l : Addr} {items : Array Value} {Q : Value → Shared → Prop} (hh : A.handled = none) (hit : s.heap.IsRevIter it l ((items.size : Int) - 1)) (hl : s.heap.IsList l items) (hne : l ≠ it) (hn : items.size ≤ sizeLine)
    (hQ : ∀ (h' : Heap) (tk : Nat) (acc : Array Value) (c' : Nat), (∀ b o, b ≠ it → s.heap.get? b = some o → h'.get? b = some o) → h'.get? s.heap.objs.size = some { cls := .type "list", dict := none, data := .seq acc c', slots := #[] } → ItemsOf (fun i v => items[items.size - 1 - i]? = some v) acc items.size →
      Q (.ref s.heap.objs.size) { s with heap := h', toks := tk }) :
    wpAny (model prog w) A (call (.type "list") [.ref it]) Q E s := by
  obtain ⟨oi, hoi, _⟩ := id hit
  obtain ⟨ol, hol, _⟩ := id hl
  have hSi : s.heap.objs.size ≠ it := Nat.ne_of_gt (Heap.lt_size hoi)
  have hSl : s.heap.objs.size ≠ l := Nat.ne_of_gt (Heap.lt_size hol)
  refine callType_codes (Q₁ := fun obj s₁ => obj = .ref s.heap.objs.size ∧ s₁ = { s with heap := s.heap.push { cls := .type "list", data := .seq #[] } }) F.called_list (F.typeCall_list_1 _) F.entry_list_init
    (code_list_new _ ⟨rfl, rfl⟩) fun obj s₁ h₁ => ?_
  obtain ⟨rfl, rfl⟩ := h₁
  have hS : (s.heap.push { cls := .type "list", data := .seq #[] }).get? s.heap.objs.size = some { cls := .type "list", data := .seq #[] } := Heap.get?_push_size _ rfl
  have hit1 : (s.heap.push { cls := .type "list", data := .seq #[] }).IsRevIter it l ((items.size : Int) - 1) := hit.at fun o e => Heap.get?_push_of_some _ e
  refine ⟨⟨_, hS, rfl⟩, F.args_list_init_2 _ _, init_rev (s := { s with heap := s.heap.push { cls := .type "list", data := .seq #[] } }) (A := A.in1) hh hit1 (hl.push _) hne hSi hSl hn hS fun h' tk acc c' hk hS' ha => ⟨rfl, hQ h' tk acc c' (fun b o hb e => hk b o (fun z => ?_) hb (Heap.get?_push_of_some _ e)) hS' ha⟩⟩
  rw [z] at e
  exact absurd (Heap.lt_size e) (Nat.lt_irrefl _)
end
section
variable {X : Cx} {K : PySem.W.Frag} {e : Expr} {fe : DF}
theorem pe_lstRev {te : TE} {p p2 pos pos2 : Pos} (hc : X.calm = true) (hg : Gl X "list") (hm : X.mg "list" = none) (hg2 : Gl X "reversed") (hm2 : X.mg "reversed" = none) (he : PE X e te)
    (hs : starEach [e] X.env = (false, eval e X.env) :: starEach [] X.env)
    (hs2 : starEach [.Call (.Name "reversed" p2) [e] [] pos2] X.env = (false, eval (.Call (.Name "reversed" p2) [e] [] pos2) X.env) :: starEach [] X.env) :
    PE X (.Call (.Name "list" p) [.Call (.Name "reversed" p2) [e] [] pos2] [] pos) (tLstRev X.K te) := by
  refine ⟨fun pins s σ H Q I h => ?_⟩
  refine Call_ (ld_blt I hg hm boot_list (PyProof.Rows.callWith_type1 (args_cons (Call_ (ld_blt I hg2 hm2 PyProof.Rows.boot_reversed (PyProof.Rows.callWith_type1 (args_cons (thn (he.run pins s σ H _ I h) fun u s1 ⟨v, H1, I1, r1, q1⟩ => args_nil ?_) hs) hs rfl))) hs2) hs2 rfl))
  obtain ⟨a, xs, ev, hq, q⟩ := q1
  subst ev
  obtain rfl : u = Value.ref a := r1
  obtain ⟨its, rv, p', hz⟩ := I1.list hq
  refine call_reversed_list p'.isList (args_nil ?_)
  have k0 : ∀ b o, s1.heap.get? b = some o → (s1.heap.push (revObj a ((its.toArray.size : Int) - 1))).get? b = some o := fun b o e => Heap.get?_push_of_some _ e
  have I2 : Inv X pins σ H1 { s1 with heap := s1.heap.push (revObj a ((its.toArray.size : Int) - 1)) } := I1.kept (t' := s1.toks) k0
  obtain ⟨f0, f1, f2, f3, f4, f5⟩ := I1.fpOk (H' := H1) (b := s1.heap.objs.size) (Nat.le_refl _) (I1.hok.fresh (Nat.le_refl _))
  have hl := p'.isList
  obtain ⟨ol, hol, _⟩ := id hl
  have hne : a ≠ s1.heap.objs.size := Nat.ne_of_lt (Heap.lt_size hol)
  have hn : its.toArray.size ≤ sizeLine := by rw [List.size_toArray, ← rv.length]; exact hz
  refine call_list_rev (s := { s1 with heap := s1.heap.push (revObj a ((its.toArray.size : Int) - 1)) }) (I1.ok.hd hc) ⟨_, Heap.get?_push_size _ rfl, rfl, rfl⟩ (hl.push _) hne hn fun h' tk acc c' hk hS hi => ?_
  have hS0 : s1.heap.objs.size ≤ (s1.heap.push (revObj a ((its.toArray.size : Int) - 1))).objs.size := by rw [Heap.size_push]; exact Nat.le_succ _
  have hk1 : ∀ b u, s1.heap.get? b = some u → h'.get? b = some u := fun b u eb => hk b u (Nat.ne_of_lt (Heap.lt_size eb)) (k0 b u eb)
  refine ⟨.ref _, upd H1 _ (.lst xs.reverse), I1.laid (t' := tk) hk1 hS0 (show ObjOk X.prog X.w _ _ _ (.lst xs.reverse) from ⟨by rw [List.length_reverse]; exact hz, acc.toList, c', RT.vals_rev rv hi, ?_⟩), rfl, q _ (I1.hok.fresh hS0)⟩
  rw [Array.toArray_toList]
  exact hS
theorem dn_listRev {p p2 pos pos2 : Pos} (hm : X.mg "list" = none) (hm2 : X.mg "reversed" = none) (he : DE X K e fe) (hK : X.K = K := by rfl) (hc : X.calm = true := by rfl) (hg : Gl X "list" := by rfl) (hg2 : Gl X "reversed" := by rfl)
    (hs : starEach [e] X.env = (false, eval e X.env) :: starEach [] X.env := by rfl)
    (hs2 : starEach [.Call (.Name "reversed" p2) [e] [] pos2] X.env = (false, eval (.Call (.Name "reversed" p2) [e] [] pos2) X.env) :: starEach [] X.env := by rfl) :
    DN X K (.Call (.Name "list" p) [.Call (.Name "reversed" p2) [e] [] pos2] [] pos) (fRev fe) := by
  subst hK
  refine (pe_lstRev hc hg hm hg2 hm2 he hs hs2).weak fun σ H Q ⟨Z, ρ, d, s, v, ed, q⟩ => ?_
  obtain ⟨x, e1, e2⟩ := opt_bind ed
  obtain ⟨ds, e3, e4⟩ := opt_bind e2
  cases e4
  have := asList_inv e3
  subst this
  refine ⟨Z, ρ, _, s, v, e1, fun vx H1 Z1 x1 r1 => ?_⟩
  cases r1 with
  | lst ha r =>
    refine ⟨_, _, rfl, SqL.of (x1.sub _ _ ha), fun p hp => ?_⟩
    exact q p _ _ _ (x1.trans (Ext.free x1.sub hp)) (x1.big.free hp) (x1.sub.free hp) upd_same r.reverse
end
/-! ### turns enough for any while: all that the names hold -/
mutual
def szD : PyData → Nat
  | .int i => i.natAbs
  | .list ds => 1 + szDs ds
  | .tuple ds => 1 + szDs ds
  | _ => 1
def szDs : List PyData → Nat
  | [] => 0
  | d :: ds => 1 + szD d + szDs ds
end
def szC : Option Cell → Nat
  | some (.sh d) => szD d
  | some (.ow ds) => szDs ds
  | none => 0
def fuD (ρ : Sto) : Nat := 10000 + (ρ.map szC).sum
/-- the script -/
def scrD (ns : List Int) : PyData := .dict (ns.map fun n => (PyData.none, PyData.int n))
section
variable {P : Program} {w : World} {K : PySem.W.Frag} {mg : Str → Option Value} {base : Heap} {x qual : Str} {st : Stmt} {f : Addr} {fd : FuncData} {N ps : List Str} {k n m : Nat} {F : SFn}
theorem def_D (Fn : Fun K x qual st f fd) (S : FnScope N ps (defScope st)) (hn : ps.length = n) (hm : N.length = m)
    (hbody : ∀ (cdv : Value) (A : Around) (outer : List PySem.Env) (s : Shared) (H : Hp) (E : XK), Room k (A.deeper (envOfC qual (defScope st) s.heap.objs.size f cdv)) → DSs (cxOf CX0 P w K mg base N qual (defScope st) f cdv A outer s H E).nox K (defBody st) F) :
    FnOk P w K mg base CX0 (k + 1) f fd ps (spD K n (runD m F)) := by
  subst hn; subst hm; exact fn_D Fn S hbody
theorem def_N (Fn : Fun K x qual st f fd) (S : FnScope N ps (defScope st)) (hn : ps.length = n) (hm : N.length = m)
    (hbody : ∀ (cdv : Value) (A : Around) (outer : List PySem.Env) (s : Shared) (H : Hp) (E : XK), Room k (A.deeper (envOfC qual (defScope st) s.heap.objs.size f cdv)) → DSs (cxOf CX0 P w K mg base N qual (defScope st) f cdv A outer s H E).nox K (defBody st) F) :
    FnOk P w K mg base CX0 (k + 1) f fd ps (spN K n (runN m F)) := by
  subst hn; subst hm; exact fn_N Fn S hbody
end
end DL
/-! part DL9 -/
namespace DL
open PySem PySem.Spec PyProof.Rows L2
/-! ### reckoning with what a def does on data -/
theorem gI0_ii {g : Int → Int → PyData} {i j : Int} : gI0 g (.int i) (.int j) = some (g i j) := rfl
theorem gI_ii {C : Int → Int → Prop} {g : Int → Int → PyData} {i j : Int} (h : C i j) : gI C g (.int i) (.int j) = some (g i j) := by
  unfold gI; exact if_pos h
theorem mulG_ok {i j : Int} (h1 : Bd 100000 i) (h2 : Bd 100000 j) : MulG i j := ⟨h1, h2⟩
theorem gMul_ii {i j : Int} (h1 : Bd 100000 i) (h2 : Bd 100000 j) : gI MulG (fun i j => .int (i * j)) (.int i) (.int j) = some (.int (i * j)) := gI_ii ⟨h1, h2⟩
theorem gDiv_ii {i j : Int} (h1 : j ≠ 0) (h2 : Bd 8999 j) : gI DivG (fun i j => .int (i.fdiv j)) (.int i) (.int j) = some (.int (i.fdiv j)) := gI_ii ⟨h1, h2⟩
theorem gDiv_pos {i j : Int} (h1 : 0 < j) (h2 : Bd 8999 j) : gI DivG (fun i j => .int (i.fdiv j)) (.int i) (.int j) = some (.int (i / j)) := by
  rw [gDiv_ii (by omega) h2, Int.fdiv_eq_ediv_of_nonneg i (by omega)]
theorem gMod_ii {i j : Int} (h1 : j ≠ 0) : gI ModG (fun i j => .int (i.fmod j)) (.int i) (.int j) = some (.int (i.fmod j)) := gI_ii h1
theorem gMod_pos {i j : Int} (h1 : 0 < j) : gI ModG (fun i j => .int (i.fmod j)) (.int i) (.int j) = some (.int (i % j)) := by
  rw [gMod_ii (by omega), Int.fmod_eq_emod_of_nonneg i (by omega)]
theorem gPow_ii {i j : Int} (h : PowG i j) : gI PowG (fun i j => .int (i ^ j.toNat)) (.int i) (.int j) = some (.int (i ^ j.toNat)) := gI_ii h
theorem gEq_int {i j : Int} : gEq (.int i) (.int j) = some (.bool (decide (i = j))) := by
  unfold gEq
  have h : ∀ k : Int, SeqAt.shaped (.int k) = true := fun k => by simp [SeqAt.shaped, PyData.canLay0, PyData.depth]
  rw [h, h]
  simp only [Bool.and_self, if_true, PyData.eqv]
  rw [PySem.W.beq_decide]
theorem gNe_int {i j : Int} : gNe (.int i) (.int j) = some (.bool (!decide (i = j))) := by
  unfold gNe
  have h : ∀ k : Int, SeqAt.shaped (.int k) = true := fun k => by simp [SeqAt.shaped, PyData.canLay0, PyData.depth]
  rw [h, h]
  simp only [Bool.and_self, if_true, PyData.eqv]
  rw [PySem.W.beq_decide]
/-! bounds -/
theorem bd_mono {n m : Nat} {i : Int} (h : Bd n i) (hm : n ≤ m) : Bd m i := Nat.lt_of_lt_of_le h (Nat.pow_le_pow_right (by decide) hm)
theorem bd_add {n m : Nat} {i j : Int} (h1 : Bd n i) (h2 : Bd m j) : Bd (max n m + 1) (i + j) := by
  have a := bd_mono h1 (Nat.le_max_left n m)
  have b := bd_mono h2 (Nat.le_max_right n m)
  unfold Bd at *
  rw [Nat.pow_succ]
  omega
theorem bd_sub {n m : Nat} {i j : Int} (h1 : Bd n i) (h2 : Bd m j) : Bd (max n m + 1) (i - j) := by
  have a := bd_mono h1 (Nat.le_max_left n m)
  have b := bd_mono h2 (Nat.le_max_right n m)
  unfold Bd at *
  rw [Nat.pow_succ]
  omega
theorem bd_mul {n m : Nat} {i j : Int} (h1 : Bd n i) (h2 : Bd m j) : Bd (n + m) (i * j) := wide_lt h1 h2
theorem bd_neg {n : Nat} {i : Int} (h1 : Bd n i) : Bd n (-i) := by unfold Bd at *; rwa [Int.natAbs_neg]
theorem bd_emod {n : Nat} {i j : Int} (h0 : 0 < j) (h1 : Bd n j) : Bd n (i % j) := by
  have a := Int.emod_nonneg i (show j ≠ 0 by omega)
  have b := Int.emod_lt_of_pos i h0
  unfold Bd at *
  omega
theorem bd_ediv {n : Nat} {i j : Int} (h1 : Bd n i) : Bd (n + 1) (i / j) := by
  unfold Bd at *
  have := Int.natAbs_ediv_le_natAbs i j
  rw [Nat.pow_succ]
  omega
theorem bd_lit {n : Nat} {i : Int} (h : i.natAbs < 2 ^ n) : Bd n i := h
theorem bd_le {n : Nat} {i j : Int} (h : Bd n j) (h0 : 0 ≤ i) (h1 : i ≤ j) : Bd n i := by unfold Bd at *; omega
/-! sets of tuples of ints, of ints -/
def tupI : PyData → Option (List Int)
  | .tuple ds => intsOf ds
  | _ => none
def tupsI : List PyData → Option (List (List Int))
  | [] => some []
  | d :: ds => (tupI d).bind fun k => (tupsI ds).map (k :: ·)
def ddup {α : Type} [DecidableEq α] : List α → List α
  | [] => []
  | x :: xs => if x ∈ xs then ddup xs else x :: ddup xs
def insI (x : Int) : List Int → List Int
  | [] => [x]
  | y :: ys => if x ≤ y then x :: y :: ys else y :: insI x ys
def sortI : List Int → List Int
  | [] => []
  | x :: xs => insI x (sortI xs)
def fLenSet (fe : DF) : DF := fun ρ => (fe ρ).bind fun d => (asList d).bind fun ds => (tupsI ds).bind fun ks => if ks.length < 64 then some (.int (ddup ks).length) else none
def fSortSet (fe : DF) : Env → Option (List PyData) := fun ρ => (fe ρ).bind fun d => (asList d).bind fun ds => (intsOf ds).bind fun ns => if ns.length < 64 then some ((sortI (ddup ns)).map .int) else none
end DL
/-! part SU -/
namespace LW
open PySem PySem.Spec PyProof.Rows L2 DL
/-- cross(origin, one, other): 0 origin 1 one 2 other 3 left -/
noncomputable def fb_cross : SFn := (dSeq (dSet 3 (f2 gMul (f2 gSub (f2 gIx (fVar 1) (fC (.int 0))) (f2 gIx (fVar 0) (fC (.int 0)))) (f2 gSub (f2 gIx (fVar 2) (fC (.int 1))) (f2 gIx (fVar 0) (fC (.int 1)))))) (dRet (f2 gSub (fVar 3) (f2 gMul (f2 gSub (f2 gIx (fVar 1) (fC (.int 1))) (f2 gIx (fVar 0) (fC (.int 1)))) (f2 gSub (f2 gIx (fVar 2) (fC (.int 0))) (f2 gIx (fVar 0) (fC (.int 0))))))))
noncomputable def g_cross : List PyData → Option PyData := runD 4 fb_cross
/-- side_of(origin, one, other): 0 origin 1 one 2 other 3 turn -/
noncomputable def fb_side_of : SFn := (dSeq (dSet 3 (fCallF 3 g_cross (fCons (fVar 0) (fCons (fVar 1) (fCons (fVar 2) fNil))))) (dRet (f2 gSub (fCall gInt (fCons (f2 gGt (fVar 3) (fC (.int 0))) fNil)) (fCall gInt (fCons (f2 gLt (fVar 3) (fC (.int 0))) fNil)))))
noncomputable def g_side_of : List PyData → Option PyData := runD 4 fb_side_of
/-- on_side(one, other, point): 0 one 1 other 2 point -/
noncomputable def fb_on_side : SFn := (dSeq (dIf (fTst (f2 gNe (fCallF 3 g_cross (fCons (fVar 0) (fCons (fVar 1) (fCons (fVar 2) fNil)))) (fC (.int 0)))) (dRet (fC (.bool false))) dNext) (dSeq (dIf (fNot (fChain gLe gLe (fCall gMin2 (fCons (f2 gIx (fVar 0) (fC (.int 0))) (fCons (f2 gIx (fVar 1) (fC (.int 0))) fNil))) (f2 gIx (fVar 2) (fC (.int 0))) (fCall gMax2 (fCons (f2 gIx (fVar 0) (fC (.int 0))) (fCons (f2 gIx (fVar 1) (fC (.int 0))) fNil))))) (dRet (fC (.bool false))) dNext) (dRet (fB (fChain gLe gLe (fCall gMin2 (fCons (f2 gIx (fVar 0) (fC (.int 1))) (fCons (f2 gIx (fVar 1) (fC (.int 1))) fNil))) (f2 gIx (fVar 2) (fC (.int 1))) (fCall gMax2 (fCons (f2 gIx (fVar 0) (fC (.int 1))) (fCons (f2 gIx (fVar 1) (fC (.int 1))) fNil))))))))
noncomputable def g_on_side : List PyData → Option PyData := runD 3 fb_on_side
/-- meet(one, other, third, fourth): 0 one 1 other 2 third 3 fourth 4 point -/
noncomputable def fb_meet : SFn := (dSeq (dFor (fIT (fTup (fCons (fVar 2) (fCons (fVar 3) fNil)))) (tgN 4) (dIf (fTst (fCallF 3 g_on_side (fCons (fVar 0) (fCons (fVar 1) (fCons (fVar 4) fNil))))) (dRet (fC (.bool true))) dNext)) (dSeq (dFor (fIT (fTup (fCons (fVar 0) (fCons (fVar 1) fNil)))) (tgN 4) (dIf (fTst (fCallF 3 g_on_side (fCons (fVar 2) (fCons (fVar 3) (fCons (fVar 4) fNil))))) (dRet (fC (.bool true))) dNext)) (dSeq (dIf (fTst (f2 gGe (f2 gMul (fCallF 3 g_side_of (fCons (fVar 0) (fCons (fVar 1) (fCons (fVar 2) fNil)))) (fCallF 3 g_side_of (fCons (fVar 0) (fCons (fVar 1) (fCons (fVar 3) fNil))))) (fC (.int 0)))) (dRet (fC (.bool false))) dNext) (dRet (f2 gLt (f2 gMul (fCallF 3 g_side_of (fCons (fVar 2) (fCons (fVar 3) (fCons (fVar 0) fNil)))) (fCallF 3 g_side_of (fCons (fVar 2) (fCons (fVar 3) (fCons (fVar 1) fNil))))) (fC (.int 0)))))))
noncomputable def g_meet : List PyData → Option PyData := runD 5 fb_meet
/-- sides(corners): 0 corners 1 k -/
noncomputable def fb_sides : SFn := (dRet (fL (fLc [1] (fIR rng1 (fCons (fCall gLen (fCons (fVar 0) fNil)) fNil)) (tgN 1) fYes (fTup (fCons (f2 gIx (fVar 0) (fVar 1)) (fCons (f2 gIx (fVar 0) (f2 gMod (f2 gAdd (fVar 1) (fC (.int 1))) (fCall gLen (fCons (fVar 0) fNil)))) fNil))))))
noncomputable def g_sides : List PyData → Option PyData := runD 2 fb_sides
/-- folds_back(one, middle, other): 0 one 1 middle 2 other 3 along -/
noncomputable def fb_folds_back : SFn := (dSeq (dIf (fTst (f2 gNe (fCallF 3 g_cross (fCons (fVar 0) (fCons (fVar 1) (fCons (fVar 2) fNil)))) (fC (.int 0)))) (dRet (fC (.bool false))) dNext) (dSeq (dSet 3 (f2 gMul (f2 gSub (f2 gIx (fVar 0) (fC (.int 0))) (f2 gIx (fVar 1) (fC (.int 0)))) (f2 gSub (f2 gIx (fVar 2) (fC (.int 0))) (f2 gIx (fVar 1) (fC (.int 0)))))) (dRet (f2 gGt (f2 gAdd (fVar 3) (f2 gMul (f2 gSub (f2 gIx (fVar 0) (fC (.int 1))) (f2 gIx (fVar 1) (fC (.int 1)))) (f2 gSub (f2 gIx (fVar 2) (fC (.int 1))) (f2 gIx (fVar 1) (fC (.int 1)))))) (fC (.int 0))))))
noncomputable def g_folds_back : List PyData → Option PyData := runD 4 fb_folds_back
/-- is_fence(corners): 0 corners 1 many 2 k 3 row 4 j -/
noncomputable def fb_is_fence : SFn := (dSeq (dSet 1 (fCall gLen (fCons (fVar 0) fNil))) (dSeq (dIf (fNot (fChain gLe gLe (fC (.int 3)) (fVar 1) (fC (.int 12)))) (dRet (fC (.bool false))) dNext) (dSeq (dForO (fIR rng1 (fCons (fVar 1) fNil)) (tgN 2) (dIf (fOr (fTst (f2 gIn (f2 gIx (fVar 0) (fVar 2)) (fL (fSl (fVar 0) fPn (fPs (fVar 2)))))) (fTst (fCallF 3 g_folds_back (fCons (f2 gIx (fVar 0) (f2 gSub (fVar 2) (fC (.int 2)))) (fCons (f2 gIx (fVar 0) (f2 gSub (fVar 2) (fC (.int 1)))) (fCons (f2 gIx (fVar 0) (fVar 2)) fNil)))))) (dRet (fC (.bool false))) dNext)) (dSeq (dSet 3 (fCallF 1 g_sides (fCons (fVar 0) fNil))) (dSeq (dForO (fIR rng1 (fCons (fVar 1) fNil)) (tgN 2) (dForO (fIR rng2 (fCons (f2 gAdd (fVar 2) (fC (.int 2))) (fCons (fVar 1) fNil))) (tgN 4) (dIf (fAnd (fTst (f2 gNe (f2 gMod (f2 gAdd (fVar 4) (fC (.int 1))) (fVar 1)) (fVar 2))) (fTst (fCallF 4 g_meet (fCons (f2 gIx (f2 gIx (fVar 3) (fVar 2)) (fC (.int 0))) (fCons (f2 gIx (f2 gIx (fVar 3) (fVar 2)) (fC (.int 1))) (fCons (f2 gIx (f2 gIx (fVar 3) (fVar 4)) (fC (.int 0))) (fCons (f2 gIx (f2 gIx (fVar 3) (fVar 4)) (fC (.int 1))) fNil))))))) (dRet (fC (.bool false))) dNext))) (dRet (fC (.bool true))))))))
noncomputable def g_is_fence : List PyData → Option PyData := runD 5 fb_is_fence
/-- _law_cell_at(script, k): 0 script 1 k -/
noncomputable def fb__law_cell_at : SFn := (dSeq (dIf (fTst (f2 gLt (fVar 1) (fCall gLen (fCons (fVar 0) fNil)))) (dRet (f2 gIx (fVar 0) (fVar 1))) dNext) (dRet (fC (.int 0))))
noncomputable def g__law_cell_at : List PyData → Option PyData := runD 2 fb__law_cell_at
/-- _law_draw(cell, k, bound): 0 cell 1 k 2 bound 3 stir -/
noncomputable def fb__law_draw : SFn := (dSeq (dSet 3 (f2 gMod (f2 gMul (f2 gAdd (f2 gAdd (f2 gMod (fVar 0) (fC (.int 2147483647))) (f2 gMul (fC (.int 977)) (fVar 1))) (fC (.int 1))) (fC (.int 48271))) (fC (.int 2147483647)))) (dSeq (dSet 3 (f2 gMod (f2 gMul (f2 gAdd (fVar 3) (f2 gMul (fC (.int 40692)) (f2 gAdd (fVar 1) (fC (.int 3))))) (fC (.int 69621))) (fC (.int 2147483629)))) (dRet (f2 gMod (f2 gDiv (fVar 3) (fC (.int 8))) (fVar 2)))))
noncomputable def g__law_draw : List PyData → Option PyData := runD 4 fb__law_draw
/-- _law_cross(one, other, third): 0 one 1 other 2 third 3 left -/
noncomputable def fb__law_cross : SFn := (dSeq (dSet 3 (f2 gMul (f2 gSub (f2 gIx (fVar 1) (fC (.int 0))) (f2 gIx (fVar 0) (fC (.int 0)))) (f2 gSub (f2 gIx (fVar 2) (fC (.int 1))) (f2 gIx (fVar 0) (fC (.int 1)))))) (dRet (f2 gSub (fVar 3) (f2 gMul (f2 gSub (f2 gIx (fVar 1) (fC (.int 1))) (f2 gIx (fVar 0) (fC (.int 1)))) (f2 gSub (f2 gIx (fVar 2) (fC (.int 0))) (f2 gIx (fVar 0) (fC (.int 0))))))))
noncomputable def g__law_cross : List PyData → Option PyData := runD 4 fb__law_cross
/-- _law_rows_by(script, first): 0 script 1 first 2 cell 3 many 4 x 5 lows 6 highs 7 k 8 low -/
noncomputable def fb__law_rows_by : SFn := (dSeq (dSet 2 (fCallF 2 g__law_cell_at (fCons (fVar 0) (fCons (fVar 1) fNil)))) (dSeq (dSet 3 (f2 gAdd (fC (.int 2)) (f2 gMod (fVar 2) (fC (.int 5))))) (dSeq (dSet 4 (fC (.int 0))) (dSeq (dSetN 5 (fLst fNil)) (dSeq (dSetN 6 (fLst fNil)) (dSeq (dForO (fIR rng1 (fCons (fVar 3) fNil)) (tgN 7) (dSeq (dSet 8 (f2 gSub (fCallF 3 g__law_draw (fCons (fCallF 2 g__law_cell_at (fCons (fVar 0) (fCons (f2 gAdd (fVar 1) (fC (.int 1))) fNil))) (fCons (fVar 7) (fCons (fC (.int 9)) fNil)))) (fC (.int 4)))) (dSeq (dApp 5 (fTup (fCons (fVar 4) (fCons (fVar 8) fNil)))) (dSeq (dApp 6 (fTup (fCons (fVar 4) (fCons (f2 gAdd (f2 gAdd (fVar 8) (fC (.int 1))) (fCallF 3 g__law_draw (fCons (fCallF 2 g__law_cell_at (fCons (fVar 0) (fCons (f2 gAdd (fVar 1) (fC (.int 2))) fNil))) (fCons (fVar 7) (fCons (fC (.int 5)) fNil))))) fNil)))) (dSet 4 (f2 gAdd (f2 gAdd (fVar 4) (fC (.int 1))) (fCallF 3 g__law_draw (fCons (fCallF 2 g__law_cell_at (fCons (fVar 0) (fCons (f2 gAdd (fVar 1) (fC (.int 3))) fNil))) (fCons (fVar 7) (fCons (fC (.int 3)) fNil)))))))))) (dRet (fL (fLst (fCons (fVar 5) (fCons (fVar 6) (fCons (f2 gMod (f2 gDiv (fVar 2) (fC (.int 5))) (fC (.int 4))) fNil))))))))))))
noncomputable def g__law_rows_by : List PyData → Option PyData := runD 9 fb__law_rows_by
/-- _law_joined(lows, highs, tips): 0 lows 1 highs 2 tips 3 top -/
noncomputable def fb__law_joined : SFn := (dSeq (dSetN 3 (fCallN gListC (fCons (fVar 1) fNil))) (dSeq (dIf (fTst (f2 gEq (f2 gMod (fVar 2) (fC (.int 2))) (fC (.int 1)))) (dPopAt 3 (fC (.int 0))) dNext) (dSeq (dIf (fAnd (fTst (f2 gGt (fVar 2) (fC (.int 1)))) (fTst (f2 gGt (f2 gAdd (fCall gLen (fCons (fVar 0) fNil)) (fCall gLen (fCons (fVar 3) fNil))) (fC (.int 3))))) (dPop 3) dNext) (dRet (fL (fCat (fVar 0) (fL (fRev (fVar 3)))))))))
noncomputable def g__law_joined : List PyData → Option PyData := runD 4 fb__law_joined
/-- _law_spiral(cell): 0 cell 1 w 2 h 3 outer -/
noncomputable def fb__law_spiral : SFn := (dSeq (dSet 1 (f2 gAdd (fC (.int 5)) (f2 gMod (fVar 0) (fC (.int 3))))) (dSeq (dSet 2 (f2 gAdd (fC (.int 6)) (f2 gMod (f2 gDiv (fVar 0) (fC (.int 3))) (fC (.int 3))))) (dSeq (dSet 3 (fL (fLst (fCons (fTup (fCons (fC (.int 0)) (fCons (fC (.int 0)) fNil))) (fCons (fTup (fCons (fVar 1) (fCons (fC (.int 0)) fNil))) (fCons (fTup (fCons (fVar 1) (fCons (fVar 2) fNil))) (fCons (fTup (fCons (fC (.int 0)) (fCons (fVar 2) fNil))) (fCons (fTup (fCons (fC (.int 0)) (fCons (fC (.int 3)) fNil))) (fCons (fTup (fCons (f2 gSub (fVar 1) (fC (.int 3))) (fCons (fC (.int 3)) fNil))) fNil))))))))) (dRet (fL (fCat (fVar 3) (fL (fLst (fCons (fTup (fCons (f2 gSub (fVar 1) (fC (.int 3))) (fCons (fC (.int 4)) fNil))) (fCons (fTup (fCons (fC (.int 1)) (fCons (fC (.int 4)) fNil))) (fCons (fTup (fCons (fC (.int 1)) (fCons (f2 gSub (fVar 2) (fC (.int 1))) fNil))) (fCons (fTup (fCons (f2 gSub (fVar 1) (fC (.int 1))) (fCons (f2 gSub (fVar 2) (fC (.int 1))) fNil))) (fCons (fTup (fCons (f2 gSub (fVar 1) (fC (.int 1))) (fCons (fC (.int 1)) fNil))) (fCons (fTup (fCons (fC (.int 0)) (fCons (fC (.int 1)) fNil))) fNil))))))))))))))
noncomputable def g__law_spiral : List PyData → Option PyData := runD 4 fb__law_spiral
/-- _law_flat(corners, cell): 0 corners 1 cell 2 at 3 one 4 x 5 y 6 parts 7 k -/
noncomputable def fb__law_flat : SFn := (dSeq (dSet 2 (f2 gMod (fVar 1) (fCall gLen (fCons (fVar 0) fNil)))) (dSeq (dSet 3 (f2 gIx (fVar 0) (f2 gSub (fVar 2) (fC (.int 1))))) (dSeq (dSet 4 (f2 gSub (f2 gIx (f2 gIx (fVar 0) (fVar 2)) (fC (.int 0))) (f2 gIx (fVar 3) (fC (.int 0))))) (dSeq (dSet 5 (f2 gSub (f2 gIx (f2 gIx (fVar 0) (fVar 2)) (fC (.int 1))) (f2 gIx (fVar 3) (fC (.int 1))))) (dSeq (dSet 6 (fL (fLc [7] (fIR rng2 (fCons (fC (.int 2)) (fCons (fC (.int 20)) fNil))) (tgN 7) (fAnd (fTst (f2 gEq (f2 gMod (fVar 4) (fVar 7)) (fC (.int 0)))) (fTst (f2 gEq (f2 gMod (fVar 5) (fVar 7)) (fC (.int 0))))) (fVar 7)))) (dSeq (dIf (fOr (fTst (f2 gEq (fVar 6) (fL (fLst fNil)))) (fTst (f2 gGt (fCall gLen (fCons (fVar 0) fNil)) (fC (.int 11))))) (dRet (fVar 0)) dNext) (dSeq (dSet 7 (f2 gAdd (fC (.int 1)) (f2 gMod (f2 gDiv (fVar 1) (fC (.int 12))) (f2 gSub (f2 gIx (fVar 6) (f1 gNeg (fC (.int 1)))) (fC (.int 1)))))) (dRet (fL (fCat (fL (fCat (fL (fSl (fVar 0) fPn (fPs (fVar 2)))) (fL (fLst (fCons (fTup (fCons (f2 gAdd (f2 gIx (fVar 3) (fC (.int 0))) (f2 gMul (f2 gDiv (fVar 4) (f2 gIx (fVar 6) (f1 gNeg (fC (.int 1))))) (fVar 7))) (fCons (f2 gAdd (f2 gIx (fVar 3) (fC (.int 1))) (f2 gMul (f2 gDiv (fVar 5) (f2 gIx (fVar 6) (f1 gNeg (fC (.int 1))))) (fVar 7))) fNil))) fNil))))) (fL (fSl (fVar 0) (fPs (fVar 2)) fPn))))))))))))
noncomputable def g__law_flat : List PyData → Option PyData := runD 8 fb__law_flat
/-- _law_fence_by(script, first): 0 script 1 first 2 rows 3 corners 4 cell 5 turn 6 x 7 y -/
noncomputable def fb__law_fence_by : SFn := (dSeq (dSet 2 (fCallF 2 g__law_rows_by (fCons (fVar 0) (fCons (fVar 1) fNil)))) (dSeq (dSet 3 (fCallF 3 g__law_joined (fCons (f2 gIx (fVar 2) (fC (.int 0))) (fCons (f2 gIx (fVar 2) (fC (.int 1))) (fCons (f2 gIx (fVar 2) (fC (.int 2))) fNil))))) (dSeq (dSet 4 (f2 gDiv (fCallF 2 g__law_cell_at (fCons (fVar 0) (fCons (fVar 1) fNil))) (fC (.int 20)))) (dSeq (dIf (fTst (f2 gEq (f2 gMod (f2 gDiv (fVar 4) (fC (.int 48))) (fC (.int 5))) (fC (.int 1)))) (dSet 3 (fCallF 1 g__law_spiral (fCons (fCallF 2 g__law_cell_at (fCons (fVar 0) (fCons (f2 gAdd (fVar 1) (fC (.int 1))) fNil))) fNil))) dNext) (dSeq (dIf (fTst (f2 gEq (f2 gMod (f2 gDiv (fVar 4) (fC (.int 240))) (fC (.int 2))) (fC (.int 1)))) (dSet 3 (fCallF 2 g__law_flat (fCons (fVar 3) (fCons (fCallF 2 g__law_cell_at (fCons (fVar 0) (fCons (f2 gAdd (fVar 1) (fC (.int 2))) fNil))) fNil)))) dNext) (dSeq (dSet 5 (f2 gMod (fVar 4) (fCall gLen (fCons (fVar 3) fNil)))) (dSeq (dSet 3 (fL (fCat (fL (fSl (fVar 3) (fPs (fVar 5)) fPn)) (fL (fSl (fVar 3) fPn (fPs (fVar 5))))))) (dSeq (dIf (fTst (f2 gEq (f2 gMod (f2 gDiv (fVar 4) (fC (.int 12))) (fC (.int 2))) (fC (.int 1)))) (dSet 3 (fL (fRev (fVar 3)))) dNext) (dSeq (dIf (fTst (f2 gEq (f2 gMod (f2 gDiv (fVar 4) (fC (.int 24))) (fC (.int 2))) (fC (.int 1)))) (dSet 3 (fL (fLc [6, 7] (fIL (fVar 3)) (tgT [6, 7]) fYes (fTup (fCons (fVar 7) (fCons (fVar 6) fNil)))))) dNext) (dRet (fVar 3)))))))))))
noncomputable def g__law_fence_by : List PyData → Option PyData := runD 8 fb__law_fence_by
/-- _law_turning_by(script, first, far): 0 script 1 first 2 far 3 s 4 t 5 sign 6 e 7 f -/
noncomputable def fb__law_turning_by : SFn := (dSeq (dSet 3 (f2 gSub (f2 gMod (fCallF 2 g__law_cell_at (fCons (fVar 0) (fCons (fVar 1) fNil))) (fVar 2)) (f2 gDiv (fVar 2) (fC (.int 2))))) (dSeq (dSet 4 (f2 gSub (f2 gMod (fCallF 2 g__law_cell_at (fCons (fVar 0) (fCons (f2 gAdd (fVar 1) (fC (.int 1))) fNil))) (fVar 2)) (f2 gDiv (fVar 2) (fC (.int 2))))) (dSeq (dSet 5 (f2 gSub (fC (.int 1)) (f2 gMul (fC (.int 2)) (f2 gMod (fCallF 2 g__law_cell_at (fCons (fVar 0) (fCons (f2 gAdd (fVar 1) (fC (.int 2))) fNil))) (fC (.int 2)))))) (dSeq (dSet 6 (f2 gSub (f2 gMod (fCallF 2 g__law_cell_at (fCons (fVar 0) (fCons (f2 gAdd (fVar 1) (fC (.int 3))) fNil))) (f2 gPow (fC (.int 10)) (fC (.int 30)))) (f2 gPow (fC (.int 10)) (fC (.int 29))))) (dSeq (dSet 7 (f2 gSub (f2 gMod (f2 gDiv (fCallF 2 g__law_cell_at (fCons (fVar 0) (fCons (f2 gAdd (fVar 1) (fC (.int 2))) fNil))) (fC (.int 2))) (f2 gPow (fC (.int 10)) (fC (.int 30)))) (f2 gPow (fC (.int 10)) (fC (.int 29))))) (dRet (fTup (fCons (f2 gAdd (fC (.int 1)) (f2 gMul (fVar 3) (fVar 4))) (fCons (fVar 3) (fCons (f2 gMul (fVar 5) (fVar 4)) (fCons (fVar 5) (fCons (fVar 6) (fCons (fVar 7) fNil)))))))))))))
noncomputable def g__law_turning_by : List PyData → Option PyData := runD 8 fb__law_turning_by
/-- _law_led(turning, point): 0 turning 1 point 2 a 3 b 4 c 5 d 6 e 7 f -/
noncomputable def fb__law_led : SFn := (dSeq (dAsg (tgT [2, 3, 4, 5, 6, 7]) (fVar 0)) (dRet (fTup (fCons (f2 gAdd (f2 gAdd (f2 gMul (fVar 2) (f2 gIx (fVar 1) (fC (.int 0)))) (f2 gMul (fVar 3) (f2 gIx (fVar 1) (fC (.int 1))))) (fVar 6)) (fCons (f2 gAdd (f2 gAdd (f2 gMul (fVar 4) (f2 gIx (fVar 1) (fC (.int 0)))) (f2 gMul (fVar 5) (f2 gIx (fVar 1) (fC (.int 1))))) (fVar 7)) fNil)))))
noncomputable def g__law_led : List PyData → Option PyData := runD 8 fb__law_led
/-- _law_on(one, other, point): 0 one 1 other 2 point 3 along -/
noncomputable def fb__law_on : SFn := (dSeq (dSet 3 (f2 gAdd (f2 gMul (f2 gSub (f2 gIx (fVar 0) (fC (.int 0))) (f2 gIx (fVar 2) (fC (.int 0)))) (f2 gSub (f2 gIx (fVar 1) (fC (.int 0))) (f2 gIx (fVar 2) (fC (.int 0))))) (f2 gMul (f2 gSub (f2 gIx (fVar 0) (fC (.int 1))) (f2 gIx (fVar 2) (fC (.int 1)))) (f2 gSub (f2 gIx (fVar 1) (fC (.int 1))) (f2 gIx (fVar 2) (fC (.int 1))))))) (dRet (fB (fAnd (fTst (f2 gEq (fCallF 3 g__law_cross (fCons (fVar 0) (fCons (fVar 1) (fCons (fVar 2) fNil)))) (fC (.int 0)))) (fTst (f2 gLe (fVar 3) (fC (.int 0))))))))
noncomputable def g__law_on : List PyData → Option PyData := runD 4 fb__law_on
/-- _law_touch(one, other, third, fourth): 0 one 1 other 2 third 3 fourth 4 first 5 second -/
noncomputable def fb__law_touch : SFn := (dSeq (dIf (fOr (fTst (fCallF 3 g__law_on (fCons (fVar 0) (fCons (fVar 1) (fCons (fVar 2) fNil))))) (fTst (fCallF 3 g__law_on (fCons (fVar 0) (fCons (fVar 1) (fCons (fVar 3) fNil)))))) (dRet (fC (.bool true))) dNext) (dSeq (dIf (fOr (fTst (fCallF 3 g__law_on (fCons (fVar 2) (fCons (fVar 3) (fCons (fVar 0) fNil))))) (fTst (fCallF 3 g__law_on (fCons (fVar 2) (fCons (fVar 3) (fCons (fVar 1) fNil)))))) (dRet (fC (.bool true))) dNext) (dSeq (dSet 4 (fL (fLst (fCons (fCallF 3 g__law_cross (fCons (fVar 0) (fCons (fVar 1) (fCons (fVar 2) fNil)))) (fCons (fCallF 3 g__law_cross (fCons (fVar 0) (fCons (fVar 1) (fCons (fVar 3) fNil)))) fNil))))) (dSeq (dSet 5 (fL (fLst (fCons (fCallF 3 g__law_cross (fCons (fVar 2) (fCons (fVar 3) (fCons (fVar 0) fNil)))) (fCons (fCallF 3 g__law_cross (fCons (fVar 2) (fCons (fVar 3) (fCons (fVar 1) fNil)))) fNil))))) (dRet (fB (fAnd (fChain gLt gLt (fCall gMinL (fCons (fVar 4) fNil)) (fC (.int 0)) (fCall gMaxL (fCons (fVar 4) fNil))) (fChain gLt gLt (fCall gMinL (fCons (fVar 5) fNil)) (fC (.int 0)) (fCall gMaxL (fCons (fVar 5) fNil))))))))))
noncomputable def g__law_touch : List PyData → Option PyData := runD 6 fb__law_touch
/-- _law_is_fence(corners): 0 corners 1 many 2 k 3 j 4 one 5 other 6 shared 7 far 8 point -/
noncomputable def fb__law_is_fence : SFn := (dSeq (dSet 1 (fCall gLen (fCons (fVar 0) fNil))) (dSeq (dIf (fOr (fTst (f2 gLt (fVar 1) (fC (.int 3)))) (fOr (fTst (f2 gGt (fVar 1) (fC (.int 12)))) (fTst (f2 gLt (fLenSet (fVar 0)) (fVar 1))))) (dRet (fC (.bool false))) dNext) (dSeq (dForO (fIR rng1 (fCons (fVar 1) fNil)) (tgN 2) (dForO (fIR rng1 (fCons (fVar 2) fNil)) (tgN 3) (dSeq (dSet 4 (fL (fLst (fCons (f2 gIx (fVar 0) (f2 gSub (fVar 2) (fC (.int 1)))) (fCons (f2 gIx (fVar 0) (fVar 2)) fNil))))) (dSeq (dSet 5 (fL (fLst (fCons (f2 gIx (fVar 0) (f2 gSub (fVar 3) (fC (.int 1)))) (fCons (f2 gIx (fVar 0) (fVar 3)) fNil))))) (dSeq (dSet 6 (fL (fLc [8] (fIL (fVar 4)) (tgN 8) (fTst (f2 gIn (fVar 8) (fVar 5))) (fVar 8)))) (dSeq (dIf (fAnd (fTst (f2 gEq (fVar 6) (fL (fLst fNil)))) (fTst (fCallF 4 g__law_touch (fCons (f2 gIx (fVar 4) (fC (.int 0))) (fCons (f2 gIx (fVar 4) (fC (.int 1))) (fCons (f2 gIx (fVar 5) (fC (.int 0))) (fCons (f2 gIx (fVar 5) (fC (.int 1))) fNil))))))) (dRet (fC (.bool false))) dNext) (dSeq (dIf (fTst (f2 gEq (fCall gLen (fCons (fVar 6) fNil)) (fC (.int 1)))) (dSeq (dSet 7 (fL (fLc [8] (fIL (f2 gAdd (fVar 4) (fVar 5))) (tgN 8) (fTst (f2 gNe (fVar 8) (f2 gIx (fVar 6) (fC (.int 0))))) (fVar 8)))) (dIf (fOr (fTst (fCallF 3 g__law_on (fCons (f2 gIx (fVar 6) (fC (.int 0))) (fCons (f2 gIx (fVar 7) (fC (.int 0))) (fCons (f2 gIx (fVar 7) (fC (.int 1))) fNil))))) (fTst (fCallF 3 g__law_on (fCons (f2 gIx (fVar 6) (fC (.int 0))) (fCons (f2 gIx (fVar 7) (fC (.int 1))) (fCons (f2 gIx (fVar 7) (fC (.int 0))) fNil)))))) (dRet (fC (.bool false))) dNext)) dNext) (dIf (fTst (f2 gEq (fCall gLen (fCons (fVar 6) fNil)) (fC (.int 2)))) (dRet (fC (.bool false))) dNext)))))))) (dRet (fC (.bool true))))))
noncomputable def g__law_is_fence : List PyData → Option PyData := runD 9 fb__law_is_fence
/-- asked(corners): 0 corners -/
noncomputable def fb_asked : SFn := (dIf (fNot (fTst (fCallF 1 g_is_fence (fCons (fVar 0) fNil)))) dNever dNext)
noncomputable def g_asked : List PyData → Option PyData := runD 1 fb_asked
/-- turn_sum(corners): 0 corners 1 one 2 other -/
noncomputable def fb_turn_sum : SFn := (dRet (fCall gSum (fCons (fL (fLc [1, 2] (fIL (fCallF 1 g_sides (fCons (fVar 0) fNil))) (tgT [1, 2]) fYes (f2 gSub (f2 gMul (f2 gIx (fVar 1) (fC (.int 0))) (f2 gIx (fVar 2) (fC (.int 1)))) (f2 gMul (f2 gIx (fVar 1) (fC (.int 1))) (f2 gIx (fVar 2) (fC (.int 0))))))) fNil)))
noncomputable def g_turn_sum : List PyData → Option PyData := runD 3 fb_turn_sum
/-- double_area(corners): 0 corners -/
noncomputable def fb_double_area : SFn := (dSeq (dDrop (fCallF 1 g_asked (fCons (fVar 0) fNil))) (dRet (fCall gAbs (fCons (fCallF 1 g_turn_sum (fCons (fVar 0) fNil)) fNil))))
noncomputable def g_double_area : List PyData → Option PyData := runD 1 fb_double_area
/-- goes_left(corners): 0 corners -/
noncomputable def fb_goes_left : SFn := (dSeq (dDrop (fCallF 1 g_asked (fCons (fVar 0) fNil))) (dRet (f2 gGt (fCallF 1 g_turn_sum (fCons (fVar 0) fNil)) (fC (.int 0)))))
noncomputable def g_goes_left : List PyData → Option PyData := runD 1 fb_goes_left
/-- _law_sum(corners): 0 corners 1 total 2 k 3 one 4 other -/
noncomputable def fb__law_sum : SFn := (dSeq (dSet 1 (fC (.int 0))) (dSeq (dForO (fIR rng1 (fCons (fCall gLen (fCons (fVar 0) fNil)) fNil)) (tgN 2) (dSeq (dSet 3 (f2 gIx (fVar 0) (f2 gSub (fVar 2) (fC (.int 1))))) (dSeq (dSet 4 (f2 gIx (fVar 0) (fVar 2))) (dSet 1 (f2 gAdd (fVar 1) (f2 gMul (f2 gSub (f2 gIx (fVar 3) (fC (.int 0))) (f2 gIx (fVar 4) (fC (.int 0)))) (f2 gAdd (f2 gIx (fVar 3) (fC (.int 1))) (f2 gIx (fVar 4) (fC (.int 1)))))))))) (dRet (fVar 1))))
noncomputable def g__law_sum : List PyData → Option PyData := runD 5 fb__law_sum
/-- _law_whole(found): 0 found -/
noncomputable def fb__law_whole : SFn := (dRet (fB (fAnd (fTst (fIsi' "int" (fVar 0))) (fNot (fTst (fIsi' "bool" (fVar 0)))))))
noncomputable def g__law_whole : List PyData → Option PyData := runD 1 fb__law_whole
/-- place_of(corners, point): 0 corners 1 point 2 within 3 one 4 other -/
noncomputable def fb_place_of : SFn := (dSeq (dSet 2 (fC (.bool false))) (dSeq (dFor (fIL (fCallF 1 g_sides (fCons (fVar 0) fNil))) (tgT [3, 4]) (dSeq (dIf (fTst (fCallF 3 g_on_side (fCons (fVar 3) (fCons (fVar 4) (fCons (fVar 1) fNil))))) (dRet (fC (.str "rim"))) dNext) (dIf (fTst (f2 gNe (f2 gGt (f2 gIx (fVar 3) (fC (.int 1))) (f2 gIx (fVar 1) (fC (.int 1)))) (f2 gGt (f2 gIx (fVar 4) (fC (.int 1))) (f2 gIx (fVar 1) (fC (.int 1)))))) (dIf (fTst (f2 gEq (f2 gGt (fCallF 3 g_cross (fCons (fVar 3) (fCons (fVar 4) (fCons (fVar 1) fNil)))) (fC (.int 0))) (f2 gGt (f2 gIx (fVar 4) (fC (.int 1))) (f2 gIx (fVar 3) (fC (.int 1)))))) (dSet 2 (fB (fNot (fTst (fVar 2))))) dNext) dNext))) (dSeq (dIf (fTst (fVar 2)) (dRet (fC (.str "inside"))) dNext) (dRet (fC (.str "outside"))))))
noncomputable def g_place_of : List PyData → Option PyData := runD 5 fb_place_of
/-- where(corners, point): 0 corners 1 point -/
noncomputable def fb_where : SFn := (dSeq (dDrop (fCallF 1 g_asked (fCons (fVar 0) fNil))) (dRet (fCallF 2 g_place_of (fCons (fVar 0) (fCons (fVar 1) fNil)))))
noncomputable def g_where : List PyData → Option PyData := runD 2 fb_where
/-- _law_place(corners, point): 0 corners 1 point 2 within 3 k 4 one 5 other 6 turn 7 along -/
noncomputable def fb__law_place : SFn := (dSeq (dSet 2 (fC (.bool false))) (dSeq (dForO (fIR rng1 (fCons (fCall gLen (fCons (fVar 0) fNil)) fNil)) (tgN 3) (dSeq (dSet 4 (f2 gIx (fVar 0) (f2 gSub (fVar 3) (fC (.int 1))))) (dSeq (dSet 5 (f2 gIx (fVar 0) (fVar 3))) (dSeq (dSet 6 (fCallF 3 g__law_cross (fCons (fVar 4) (fCons (fVar 5) (fCons (fVar 1) fNil))))) (dSeq (dSet 7 (f2 gAdd (f2 gMul (f2 gSub (f2 gIx (fVar 4) (fC (.int 0))) (f2 gIx (fVar 1) (fC (.int 0)))) (f2 gSub (f2 gIx (fVar 5) (fC (.int 0))) (f2 gIx (fVar 1) (fC (.int 0))))) (f2 gMul (f2 gSub (f2 gIx (fVar 4) (fC (.int 1))) (f2 gIx (fVar 1) (fC (.int 1)))) (f2 gSub (f2 gIx (fVar 5) (fC (.int 1))) (f2 gIx (fVar 1) (fC (.int 1))))))) (dSeq (dIf (fAnd (fTst (f2 gEq (fVar 6) (fC (.int 0)))) (fTst (f2 gLe (fVar 7) (fC (.int 0))))) (dRet (fC (.str "rim"))) dNext) (dIf (fAnd (fTst (f2 gNe (f2 gGt (f2 gIx (fVar 4) (fC (.int 0))) (f2 gIx (fVar 1) (fC (.int 0)))) (f2 gGt (f2 gIx (fVar 5) (fC (.int 0))) (f2 gIx (fVar 1) (fC (.int 0)))))) (fTst (f2 gEq (f2 gLt (fVar 6) (fC (.int 0))) (f2 gGt (f2 gIx (fVar 5) (fC (.int 0))) (f2 gIx (fVar 4) (fC (.int 0))))))) (dSet 2 (fB (fNot (fTst (fVar 2))))) dNext))))))) (dRet (f2 gIx (fL (fLst (fCons (fC (.str "outside")) (fCons (fC (.str "inside")) fNil)))) (fCall gInt (fCons (fVar 2) fNil))))))
noncomputable def g__law_place : List PyData → Option PyData := runD 8 fb__law_place
/-- common(one, other): 0 one 1 other 2 rest -/
noncomputable def fb_common : SFn := (dSeq (dSet 0 (fCall gAbs (fCons (fVar 0) fNil))) (dSeq (dSet 1 (fCall gAbs (fCons (fVar 1) fNil))) (dSeq (dWhile fuD (fTst (f2 gGt (fVar 1) (fC (.int 0)))) (dSeq (dSet 2 (f2 gMod (fVar 0) (fVar 1))) (dSeq (dSet 0 (fVar 1)) (dSet 1 (fVar 2))))) (dRet (fVar 0)))))
noncomputable def g_common : List PyData → Option PyData := runD 3 fb_common
/-- rim(corners): 0 corners 1 one 2 other -/
noncomputable def fb_rim : SFn := (dSeq (dDrop (fCallF 1 g_asked (fCons (fVar 0) fNil))) (dRet (fCall gSum (fCons (fL (fLc [1, 2] (fIL (fCallF 1 g_sides (fCons (fVar 0) fNil))) (tgT [1, 2]) fYes (fCallF 2 g_common (fCons (f2 gSub (f2 gIx (fVar 2) (fC (.int 0))) (f2 gIx (fVar 1) (fC (.int 0)))) (fCons (f2 gSub (f2 gIx (fVar 2) (fC (.int 1))) (f2 gIx (fVar 1) (fC (.int 1)))) fNil))))) fNil))))
noncomputable def g_rim : List PyData → Option PyData := runD 3 fb_rim
/-- inside(corners): 0 corners -/
noncomputable def fb_inside : SFn := (dRet (f2 gDiv (f2 gAdd (f2 gSub (fCallF 1 g_double_area (fCons (fVar 0) fNil)) (fCallF 1 g_rim (fCons (fVar 0) fNil))) (fC (.int 2))) (fC (.int 2))))
noncomputable def g_inside : List PyData → Option PyData := runD 1 fb_inside
/-- spots(corners, y): 0 corners 1 y 2 found 3 bottom 4 one 5 other 6 rise 7 top -/
noncomputable def fb_spots : SFn := (dSeq (dSetN 2 (fLst fNil)) (dSeq (dSet 3 (fC (.int 1))) (dSeq (dFor (fIL (fCallF 1 g_sides (fCons (fVar 0) fNil))) (tgT [4, 5]) (dSeq (dIf (fTst (f2 gEq (f2 gIx (fVar 4) (fC (.int 1))) (fVar 1))) (dApp 2 (fTup (fCons (f2 gIx (fVar 4) (fC (.int 0))) (fCons (fC (.int 1)) fNil)))) dNext) (dIf (fAnd (fTst (f2 gNe (f2 gLt (f2 gIx (fVar 4) (fC (.int 1))) (fVar 1)) (f2 gLt (f2 gIx (fVar 5) (fC (.int 1))) (fVar 1)))) (fAnd (fTst (f2 gNe (f2 gIx (fVar 4) (fC (.int 1))) (fVar 1))) (fTst (f2 gNe (f2 gIx (fVar 5) (fC (.int 1))) (fVar 1))))) (dSeq (dSet 6 (f2 gSub (f2 gIx (fVar 5) (fC (.int 1))) (f2 gIx (fVar 4) (fC (.int 1))))) (dSeq (dApp 2 (fTup (fCons (f2 gAdd (f2 gMul (f2 gIx (fVar 4) (fC (.int 0))) (fVar 6)) (f2 gMul (f2 gSub (f2 gIx (fVar 5) (fC (.int 0))) (f2 gIx (fVar 4) (fC (.int 0)))) (f2 gSub (fVar 1) (f2 gIx (fVar 4) (fC (.int 1)))))) (fCons (fVar 6) fNil)))) (dSet 3 (f2 gMul (fVar 3) (fCall gAbs (fCons (fVar 6) fNil)))))) dNext))) (dRet (fTup (fCons (fL (fSortSet (fL (fLc [7, 6] (fIL (fVar 2)) (tgT [7, 6]) fYes (f2 gMul (fVar 7) (f2 gDiv (fVar 3) (fVar 6))))))) (fCons (fVar 3) fNil)))))))
noncomputable def g_spots : List PyData → Option PyData := runD 8 fb_spots
/-- row_counts(corners, y): 0 corners 1 y 2 told 3 tops 4 bottom 5 wide 6 within 7 rims 8 k 9 between 10 here 11 x 12 other 13 top -/
noncomputable def fb_row_counts : SFn := (dSeq (dDrop (fCallF 1 g_asked (fCons (fVar 0) fNil))) (dSeq (dSet 2 (fCallF 2 g_spots (fCons (fVar 0) (fCons (fVar 1) fNil)))) (dSeq (dSet 3 (f2 gIx (fVar 2) (fC (.int 0)))) (dSeq (dSet 4 (f2 gIx (fVar 2) (fC (.int 1)))) (dSeq (dSet 5 (fL (fLc [11, 12] (fIL (fVar 0)) (tgT [11, 12]) fYes (fTup (fCons (f2 gMul (f2 gMul (fC (.int 2)) (fVar 4)) (fVar 11)) (fCons (f2 gMul (f2 gMul (fC (.int 2)) (fVar 4)) (fVar 12)) fNil)))))) (dSeq (dSet 6 (fC (.int 0))) (dSeq (dSet 7 (fCall gLen (fCons (fL (fLc [13] (fIL (fVar 3)) (tgN 13) (fTst (f2 gEq (f2 gMod (fVar 13) (fVar 4)) (fC (.int 0)))) (fVar 13))) fNil))) (dSeq (dForO (fIR rng1 (fCons (f2 gSub (fCall gLen (fCons (fVar 3) fNil)) (fC (.int 1))) fNil)) (tgN 8) (dSeq (dSet 9 (f2 gSub (f2 gDiv (f2 gSub (f2 gIx (fVar 3) (f2 gAdd (fVar 8) (fC (.int 1)))) (fC (.int 1))) (fVar 4)) (f2 gDiv (f2 gIx (fVar 3) (fVar 8)) (fVar 4)))) (dSeq (dSet 10 (fCallF 2 g_place_of (fCons (fVar 5) (fCons (fTup (fCons (f2 gAdd (f2 gIx (fVar 3) (fVar 8)) (f2 gIx (fVar 3) (f2 gAdd (fVar 8) (fC (.int 1))))) (fCons (f2 gMul (f2 gMul (fC (.int 2)) (fVar 4)) (fVar 1)) fNil))) fNil)))) (dSeq (dIf (fTst (f2 gEq (fVar 10) (fC (.str "inside")))) (dSet 6 (f2 gAdd (fVar 6) (fVar 9))) dNext) (dIf (fTst (f2 gEq (fVar 10) (fC (.str "rim")))) (dSet 7 (f2 gAdd (fVar 7) (fVar 9))) dNext))))) (dRet (fTup (fCons (fVar 6) (fCons (fVar 7) fNil))))))))))))
noncomputable def g_row_counts : List PyData → Option PyData := runD 14 fb_row_counts
/-- _law_pair_is(found, due): 0 found 1 due -/
noncomputable def fb__law_pair_is : SFn := (dSeq (dIf (fOr (fNot (fTst (fIsi' "tuple" (fVar 0)))) (fOr (fTst (f2 gNe (fCall gLen (fCons (fVar 0) fNil)) (fC (.int 2)))) (fOr (fNot (fTst (fCallF 1 g__law_whole (fCons (f2 gIx (fVar 0) (fC (.int 0))) fNil)))) (fNot (fTst (fCallF 1 g__law_whole (fCons (f2 gIx (fVar 0) (fC (.int 1))) fNil))))))) (dRet (fC (.bool false))) dNext) (dRet (f2 gEq (fVar 0) (fVar 1))))
noncomputable def g__law_pair_is : List PyData → Option PyData := runD 2 fb__law_pair_is
/-- floor_sum(count, below, step, start): 0 count 1 below 2 step 3 start 4 total 5 top 6 later -/
noncomputable def fb_floor_sum : SFn := (dSeq (dSet 4 (fC (.int 0))) (dSeq (dWhile fuD (fTst (f2 gGt (fVar 0) (fC (.int 0)))) (dSeq (dSet 4 (f2 gAdd (f2 gAdd (fVar 4) (f2 gMul (f2 gDiv (fVar 2) (fVar 1)) (f2 gDiv (f2 gMul (fVar 0) (f2 gSub (fVar 0) (fC (.int 1)))) (fC (.int 2))))) (f2 gMul (f2 gDiv (fVar 3) (fVar 1)) (fVar 0)))) (dSeq (dSet 2 (f2 gMod (fVar 2) (fVar 1))) (dSeq (dSet 3 (f2 gMod (fVar 3) (fVar 1))) (dSeq (dSet 5 (f2 gAdd (f2 gMul (fVar 2) (fVar 0)) (fVar 3))) (dSeq (dIf (fTst (f2 gLt (fVar 5) (fVar 1))) (dRet (fVar 4)) dNext) (dSeq (dSet 0 (f2 gDiv (fVar 5) (fVar 1))) (dSeq (dSet 3 (f2 gMod (fVar 5) (fVar 1))) (dSeq (dSet 6 (fVar 1)) (dSeq (dSet 1 (fVar 2)) (dSet 2 (fVar 6)))))))))))) (dRet (fVar 4))))
noncomputable def g_floor_sum : List PyData → Option PyData := runD 7 fb_floor_sum
/-- _law_number(script, k): 0 script 1 k -/
noncomputable def fb__law_number : SFn := (dSeq (dIf (fTst (f2 gEq (f2 gMod (f2 gDiv (fCallF 2 g__law_cell_at (fCons (fVar 0) (fCons (fC (.int 8)) fNil))) (f2 gIx (fL (fLst (fCons (fC (.int 1)) (fCons (fC (.int 2)) (fCons (fC (.int 4)) (fCons (fC (.int 8)) (fCons (fC (.int 16)) fNil))))))) (f2 gMod (fVar 1) (fC (.int 5))))) (fC (.int 2))) (fC (.int 1)))) (dRet (f2 gSub (f2 gMod (fCallF 2 g__law_cell_at (fCons (fVar 0) (fCons (fVar 1) fNil))) (fC (.int 21))) (fC (.int 10)))) dNext) (dRet (f2 gSub (f2 gMod (fCallF 2 g__law_cell_at (fCons (fVar 0) (fCons (fVar 1) fNil))) (f2 gPow (fC (.int 10)) (fC (.int 18)))) (f2 gPow (fC (.int 10)) (fC (.int 17))))))
noncomputable def g__law_number : List PyData → Option PyData := runD 2 fb__law_number
/-- greater(corners, k): 0 corners 1 k 2 x 3 y -/
noncomputable def fb_greater : SFn := (dSeq (dDrop (fCallF 1 g_asked (fCons (fVar 0) fNil))) (dRet (fL (fLc [2, 3] (fIL (fVar 0)) (tgT [2, 3]) fYes (fTup (fCons (f2 gMul (fVar 1) (fVar 2)) (fCons (f2 gMul (fVar 1) (fVar 3)) fNil)))))))
noncomputable def g_greater : List PyData → Option PyData := runD 4 fb_greater
/-- greater_counts(corners, k): 0 corners 1 k 2 wide 3 edge -/
noncomputable def fb_greater_counts : SFn := (dSeq (dSet 2 (f2 gMul (f2 gMul (fVar 1) (fVar 1)) (fCallF 1 g_double_area (fCons (fVar 0) fNil)))) (dSeq (dSet 3 (f2 gMul (fVar 1) (fCallF 1 g_rim (fCons (fVar 0) fNil)))) (dRet (fTup (fCons (f2 gAdd (f2 gDiv (f2 gAdd (fVar 2) (fVar 3)) (fC (.int 2))) (fC (.int 1))) (fCons (f2 gAdd (f2 gDiv (f2 gSub (fVar 2) (fVar 3)) (fC (.int 2))) (fC (.int 1))) fNil))))))
noncomputable def g_greater_counts : List PyData → Option PyData := runD 4 fb_greater_counts
/-- _law_points_are(found, due): 0 found 1 due 2 point -/
noncomputable def fb__law_points_are : SFn := (dSeq (dIf (fOr (fNot (fTst (fIsi' "list" (fVar 0)))) (fTst (f2 gNe (fCall gLen (fCons (fVar 0) fNil)) (fCall gLen (fCons (fVar 1) fNil))))) (dRet (fC (.bool false))) dNext) (dSeq (dFor (fIL (fVar 0)) (tgN 2) (dIf (fOr (fNot (fTst (fIsi' "tuple" (fVar 2)))) (fOr (fTst (f2 gNe (fCall gLen (fCons (fVar 2) fNil)) (fC (.int 2)))) (fOr (fNot (fTst (fCallF 1 g__law_whole (fCons (f2 gIx (fVar 2) (fC (.int 0))) fNil)))) (fNot (fTst (fCallF 1 g__law_whole (fCons (f2 gIx (fVar 2) (fC (.int 1))) fNil))))))) (dRet (fC (.bool false))) dNext)) (dRet (f2 gEq (fVar 0) (fVar 1)))))
noncomputable def g__law_points_are : List PyData → Option PyData := runD 3 fb__law_points_are
/-- _law_told(corners, k): 0 corners 1 k 2 found -/
noncomputable def fb__law_told : SFn := (dSeq (dSet 2 (fCallF 2 g_greater_counts (fCons (fL (fCallN gListC (fCons (fVar 0) fNil))) (fCons (fVar 1) fNil)))) (dSeq (dIf (fOr (fNot (fTst (fIsi' "tuple" (fVar 2)))) (fOr (fTst (f2 gNe (fCall gLen (fCons (fVar 2) fNil)) (fC (.int 2)))) (fOr (fNot (fTst (fCallF 1 g__law_whole (fCons (f2 gIx (fVar 2) (fC (.int 0))) fNil)))) (fNot (fTst (fCallF 1 g__law_whole (fCons (f2 gIx (fVar 2) (fC (.int 1))) fNil))))))) (dRet (fC .none)) dNext) (dRet (fVar 2))))
noncomputable def g__law_told : List PyData → Option PyData := runD 3 fb__law_told
/-- _law_turned_by(script, first, corners): 0 script 1 first 2 corners 3 cell 4 at -/
noncomputable def fb__law_turned_by : SFn := (dSeq (dSet 3 (fCallF 2 g__law_cell_at (fCons (fVar 0) (fCons (fVar 1) fNil)))) (dSeq (dSet 4 (f2 gMod (fVar 3) (fCall gLen (fCons (fVar 2) fNil)))) (dSeq (dIf (fTst (f2 gEq (f2 gMod (f2 gDiv (fVar 3) (fC (.int 12))) (fC (.int 2))) (fC (.int 1)))) (dRet (fL (fRev (fL (fCat (fL (fSl (fVar 2) (fPs (fVar 4)) fPn)) (fL (fSl (fVar 2) fPn (fPs (fVar 4))))))))) dNext) (dRet (fL (fCat (fL (fSl (fVar 2) (fPs (fVar 4)) fPn)) (fL (fSl (fVar 2) fPn (fPs (fVar 4))))))))))
noncomputable def g__law_turned_by : List PyData → Option PyData := runD 5 fb__law_turned_by
/-- led(turning, point): 0 turning 1 point 2 x -/
noncomputable def fb_led : SFn := (dSeq (dSet 2 (f2 gAdd (f2 gAdd (f2 gMul (f2 gIx (fVar 0) (fC (.int 0))) (f2 gIx (fVar 1) (fC (.int 0)))) (f2 gMul (f2 gIx (fVar 0) (fC (.int 1))) (f2 gIx (fVar 1) (fC (.int 1))))) (f2 gIx (fVar 0) (fC (.int 4))))) (dRet (fTup (fCons (fVar 2) (fCons (f2 gAdd (f2 gAdd (f2 gMul (f2 gIx (fVar 0) (fC (.int 2))) (f2 gIx (fVar 1) (fC (.int 0)))) (f2 gMul (f2 gIx (fVar 0) (fC (.int 3))) (f2 gIx (fVar 1) (fC (.int 1))))) (f2 gIx (fVar 0) (fC (.int 5)))) fNil)))))
noncomputable def g_led : List PyData → Option PyData := runD 3 fb_led
/-- turned(corners, turning): 0 corners 1 turning 2 point -/
noncomputable def fb_turned : SFn := (dSeq (dDrop (fCallF 1 g_asked (fCons (fVar 0) fNil))) (dSeq (dIf (fTst (f2 gNe (fCall gAbs (fCons (f2 gSub (f2 gMul (f2 gIx (fVar 1) (fC (.int 0))) (f2 gIx (fVar 1) (fC (.int 3)))) (f2 gMul (f2 gIx (fVar 1) (fC (.int 1))) (f2 gIx (fVar 1) (fC (.int 2))))) fNil)) (fC (.int 1)))) dNever dNext) (dRet (fL (fLc [2] (fIL (fVar 0)) (tgN 2) fYes (fCallF 2 g_led (fCons (fVar 1) (fCons (fVar 2) fNil))))))))
noncomputable def g_turned : List PyData → Option PyData := runD 3 fb_turned
/-- straight_from(point, other): 0 point 1 other -/
noncomputable def fb_straight_from : SFn := (dRet (fTup (fCons (f2 gSub (f2 gIx (fVar 1) (fC (.int 0))) (f2 gIx (fVar 0) (fC (.int 0)))) (fCons (f2 gSub (f2 gIx (fVar 1) (fC (.int 1))) (f2 gIx (fVar 0) (fC (.int 1)))) fNil))))
noncomputable def g_straight_from : List PyData → Option PyData := runD 2 fb_straight_from
/-- turning_of(ones, others): 0 ones 1 others 2 area 3 u 4 v 5 p 6 q 7 parts 8 part 9 a 10 b 11 c 12 d 13 x 14 y -/
noncomputable def fb_turning_of : SFn := (dSeq (dSet 2 (fCallF 3 g_cross (fCons (f2 gIx (fVar 0) (fC (.int 0))) (fCons (f2 gIx (fVar 0) (fC (.int 1))) (fCons (f2 gIx (fVar 0) (fC (.int 2))) fNil))))) (dSeq (dSet 3 (fCallF 2 g_straight_from (fCons (f2 gIx (fVar 0) (fC (.int 0))) (fCons (f2 gIx (fVar 0) (fC (.int 1))) fNil)))) (dSeq (dSet 4 (fCallF 2 g_straight_from (fCons (f2 gIx (fVar 0) (fC (.int 0))) (fCons (f2 gIx (fVar 0) (fC (.int 2))) fNil)))) (dSeq (dSet 5 (fCallF 2 g_straight_from (fCons (f2 gIx (fVar 1) (fC (.int 0))) (fCons (f2 gIx (fVar 1) (fC (.int 1))) fNil)))) (dSeq (dSet 6 (fCallF 2 g_straight_from (fCons (f2 gIx (fVar 1) (fC (.int 0))) (fCons (f2 gIx (fVar 1) (fC (.int 2))) fNil)))) (dSeq (dSet 7 (fL (fLst (fCons (f2 gSub (f2 gMul (f2 gIx (fVar 5) (fC (.int 0))) (f2 gIx (fVar 4) (fC (.int 1)))) (f2 gMul (f2 gIx (fVar 6) (fC (.int 0))) (f2 gIx (fVar 3) (fC (.int 1))))) (fCons (f2 gSub (f2 gMul (f2 gIx (fVar 6) (fC (.int 0))) (f2 gIx (fVar 3) (fC (.int 0)))) (f2 gMul (f2 gIx (fVar 5) (fC (.int 0))) (f2 gIx (fVar 4) (fC (.int 0))))) fNil))))) (dSeq (dSet 7 (fL (fCat (fVar 7) (fL (fLst (fCons (f2 gSub (f2 gMul (f2 gIx (fVar 5) (fC (.int 1))) (f2 gIx (fVar 4) (fC (.int 1)))) (f2 gMul (f2 gIx (fVar 6) (fC (.int 1))) (f2 gIx (fVar 3) (fC (.int 1))))) (fCons (f2 gSub (f2 gMul (f2 gIx (fVar 6) (fC (.int 1))) (f2 gIx (fVar 3) (fC (.int 0)))) (f2 gMul (f2 gIx (fVar 5) (fC (.int 1))) (f2 gIx (fVar 4) (fC (.int 0))))) fNil))))))) (dSeq (dFor (fIL (fVar 7)) (tgN 8) (dIf (fTst (f2 gNe (f2 gMod (fVar 8) (fVar 2)) (fC (.int 0)))) (dRet (fC .none)) dNext)) (dSeq (dAsg (tgU [9, 10, 11, 12]) (fL (fLc [8] (fIL (fVar 7)) (tgN 8) fYes (f2 gDiv (fVar 8) (fVar 2))))) (dSeq (dIf (fTst (f2 gNe (fCall gAbs (fCons (f2 gSub (f2 gMul (fVar 9) (fVar 12)) (f2 gMul (fVar 10) (fVar 11))) fNil)) (fC (.int 1)))) (dRet (fC .none)) dNext) (dSeq (dAsg (tgT [13, 14]) (f2 gIx (fVar 0) (fC (.int 0)))) (dRet (fTup (fCons (fVar 9) (fCons (fVar 10) (fCons (fVar 11) (fCons (fVar 12) (fCons (f2 gSub (f2 gSub (f2 gIx (f2 gIx (fVar 1) (fC (.int 0))) (fC (.int 0))) (f2 gMul (fVar 9) (fVar 13))) (f2 gMul (fVar 10) (fVar 14))) (fCons (f2 gSub (f2 gSub (f2 gIx (f2 gIx (fVar 1) (fC (.int 0))) (fC (.int 1))) (f2 gMul (fVar 11) (fVar 13))) (f2 gMul (fVar 12) (fVar 14))) fNil)))))))))))))))))))
noncomputable def g_turning_of : List PyData → Option PyData := runD 15 fb_turning_of
/-- alike(one, other): 0 one 1 other 2 many 3 third 4 start 5 way 6 row 7 turning 8 k 9 point -/
noncomputable def fb_alike : SFn := (dSeq (dDrop (fCallF 1 g_asked (fCons (fVar 0) fNil))) (dSeq (dDrop (fCallF 1 g_asked (fCons (fVar 1) fNil))) (dSeq (dSet 2 (fCall gLen (fCons (fVar 0) fNil))) (dSeq (dIf (fTst (f2 gNe (fCall gLen (fCons (fVar 1) fNil)) (fVar 2))) (dRet (fC .none)) dNext) (dSeq (dSet 3 (fC (.int 2))) (dSeq (dWhile fuD (fTst (f2 gEq (fCallF 3 g_cross (fCons (f2 gIx (fVar 0) (fC (.int 0))) (fCons (f2 gIx (fVar 0) (fC (.int 1))) (fCons (f2 gIx (fVar 0) (fVar 3)) fNil)))) (fC (.int 0)))) (dSet 3 (f2 gAdd (fVar 3) (fC (.int 1))))) (dSeq (dForO (fIR rng1 (fCons (fVar 2) fNil)) (tgN 4) (dFor (fIT (fTup (fCons (fC (.int 1)) (fCons (f1 gNeg (fC (.int 1))) fNil)))) (tgN 5) (dSeq (dSet 6 (fL (fLc [8] (fIR rng1 (fCons (fVar 2) fNil)) (tgN 8) fYes (f2 gIx (fVar 1) (f2 gMod (f2 gAdd (fVar 4) (f2 gMul (fVar 5) (fVar 8))) (fVar 2)))))) (dSeq (dSet 7 (fCallF 2 g_turning_of (fCons (fL (fLst (fCons (f2 gIx (fVar 0) (fC (.int 0))) (fCons (f2 gIx (fVar 0) (fC (.int 1))) (fCons (f2 gIx (fVar 0) (fVar 3)) fNil))))) (fCons (fL (fLst (fCons (f2 gIx (fVar 6) (fC (.int 0))) (fCons (f2 gIx (fVar 6) (fC (.int 1))) (fCons (f2 gIx (fVar 6) (fVar 3)) fNil))))) fNil)))) (dIf (fAnd (fTst (f1 (fun d => some (gNotN d)) (fVar 7))) (fTst (f2 gEq (fL (fLc [9] (fIL (fVar 0)) (tgN 9) fYes (fCallF 2 g_led (fCons (fVar 7) (fCons (fVar 9) fNil))))) (fVar 6)))) (dRet (fVar 7)) dNext))))) (dRet (fC .none)))))))))
noncomputable def g_alike : List PyData → Option PyData := runD 10 fb_alike
/-- _law_rows_of(corners): 0 corners 1 found 2 k 3 row -/
noncomputable def fb__law_rows_of : SFn := (dSeq (dSetN 1 (fLst fNil)) (dSeq (dForO (fIR rng1 (fCons (fCall gLen (fCons (fVar 0) fNil)) fNil)) (tgN 2) (dSeq (dSet 3 (fL (fCat (fL (fSl (fVar 0) (fPs (fVar 2)) fPn)) (fL (fSl (fVar 0) fPn (fPs (fVar 2))))))) (dSeq (dApp 1 (fVar 3)) (dApp 1 (fL (fRev (fVar 3))))))) (dRet (fVar 1))))
noncomputable def g__law_rows_of : List PyData → Option PyData := runD 4 fb__law_rows_of
/-- _law_leads(one, row): 0 one 1 row 2 at 3 area 4 found 5 side 6 p 7 q 8 x 9 y 10 six 11 point -/
noncomputable def fb__law_leads : SFn := (dSeq (dSet 2 (fC (.int 2))) (dSeq (dWhile fuD (fTst (f2 gEq (fCallF 3 g__law_cross (fCons (f2 gIx (fVar 0) (fC (.int 0))) (fCons (f2 gIx (fVar 0) (fC (.int 1))) (fCons (f2 gIx (fVar 0) (fVar 2)) fNil)))) (fC (.int 0)))) (dSet 2 (f2 gAdd (fVar 2) (fC (.int 1))))) (dSeq (dSet 3 (fCallF 3 g__law_cross (fCons (f2 gIx (fVar 0) (fC (.int 0))) (fCons (f2 gIx (fVar 0) (fC (.int 1))) (fCons (f2 gIx (fVar 0) (fVar 2)) fNil))))) (dSeq (dSet 4 (fL (fLst fNil))) (dSeq (dForO (fIR rng1 (fCons (fC (.int 2)) fNil)) (tgN 5) (dSeq (dSet 6 (f2 gSub (f2 gIx (f2 gIx (fVar 1) (fC (.int 1))) (fVar 5)) (f2 gIx (f2 gIx (fVar 1) (fC (.int 0))) (fVar 5)))) (dSeq (dSet 7 (f2 gSub (f2 gIx (f2 gIx (fVar 1) (fVar 2)) (fVar 5)) (f2 gIx (f2 gIx (fVar 1) (fC (.int 0))) (fVar 5)))) (dSeq (dSet 8 (f2 gSub (f2 gMul (fVar 6) (f2 gSub (f2 gIx (f2 gIx (fVar 0) (fVar 2)) (fC (.int 1))) (f2 gIx (f2 gIx (fVar 0) (fC (.int 0))) (fC (.int 1))))) (f2 gMul (fVar 7) (f2 gSub (f2 gIx (f2 gIx (fVar 0) (fC (.int 1))) (fC (.int 1))) (f2 gIx (f2 gIx (fVar 0) (fC (.int 0))) (fC (.int 1))))))) (dSeq (dSet 9 (f2 gSub (f2 gMul (fVar 7) (f2 gSub (f2 gIx (f2 gIx (fVar 0) (fC (.int 1))) (fC (.int 0))) (f2 gIx (f2 gIx (fVar 0) (fC (.int 0))) (fC (.int 0))))) (f2 gMul (fVar 6) (f2 gSub (f2 gIx (f2 gIx (fVar 0) (fVar 2)) (fC (.int 0))) (f2 gIx (f2 gIx (fVar 0) (fC (.int 0))) (fC (.int 0))))))) (dSeq (dIf (fOr (fTst (f2 gNe (f2 gMod (fVar 8) (fVar 3)) (fC (.int 0)))) (fTst (f2 gNe (f2 gMod (fVar 9) (fVar 3)) (fC (.int 0))))) (dRet (fC (.bool false))) dNext) (dSet 4 (fL (fCat (fVar 4) (fL (fLst (fCons (f2 gDiv (fVar 8) (fVar 3)) (fCons (f2 gDiv (fVar 9) (fVar 3)) fNil))))))))))))) (dSeq (dIf (fTst (f2 gNe (fCall gAbs (fCons (f2 gSub (f2 gMul (f2 gIx (fVar 4) (fC (.int 0))) (f2 gIx (fVar 4) (fC (.int 3)))) (f2 gMul (f2 gIx (fVar 4) (fC (.int 1))) (f2 gIx (fVar 4) (fC (.int 2))))) fNil)) (fC (.int 1)))) (dRet (fC (.bool false))) dNext) (dSeq (dAsg (tgT [8, 9]) (f2 gIx (fVar 0) (fC (.int 0)))) (dSeq (dSet 10 (fL (fCat (fVar 4) (fL (fLst (fCons (f2 gSub (f2 gSub (f2 gIx (f2 gIx (fVar 1) (fC (.int 0))) (fC (.int 0))) (f2 gMul (f2 gIx (fVar 4) (fC (.int 0))) (fVar 8))) (f2 gMul (f2 gIx (fVar 4) (fC (.int 1))) (fVar 9))) (fCons (f2 gSub (f2 gSub (f2 gIx (f2 gIx (fVar 1) (fC (.int 0))) (fC (.int 1))) (f2 gMul (f2 gIx (fVar 4) (fC (.int 2))) (fVar 8))) (f2 gMul (f2 gIx (fVar 4) (fC (.int 3))) (fVar 9))) fNil))))))) (dRet (f2 gEq (fL (fLc [11] (fIL (fVar 0)) (tgN 11) fYes (fCallF 2 g__law_led (fCons (fVar 10) (fCons (fVar 11) fNil))))) (fVar 1)))))))))))
noncomputable def g__law_leads : List PyData → Option PyData := runD 12 fb__law_leads
/-- _law_right(one, other): 0 one 1 other 2 handed 3 found 4 rows 5 row 6 part 7 point -/
noncomputable def fb__law_right : SFn := (dSeq (dSet 2 (fL (fLst (fCons (fL (fCallN gListC (fCons (fVar 0) fNil))) (fCons (fL (fCallN gListC (fCons (fVar 1) fNil))) fNil))))) (dSeq (dSet 3 (fCallF 2 g_alike (fCons (f2 gIx (fVar 2) (fC (.int 0))) (fCons (f2 gIx (fVar 2) (fC (.int 1))) fNil)))) (dSeq (dIf (fTst (f2 gNe (fVar 2) (fL (fLst (fCons (fVar 0) (fCons (fVar 1) fNil)))))) (dRet (fC (.bool false))) dNext) (dSeq (dSet 4 (fL (fLst fNil))) (dSeq (dIf (fTst (f2 gEq (fCall gLen (fCons (fVar 0) fNil)) (fCall gLen (fCons (fVar 1) fNil)))) (dSet 4 (fCallF 1 g__law_rows_of (fCons (fVar 1) fNil))) dNext) (dSeq (dIf (fTst (f1 (fun d => some (gIsN d)) (fVar 3))) (dRet (f2 gEq (fCall gLen (fCons (fL (fLc [5] (fIL (fVar 4)) (tgN 5) (fTst (fCallF 2 g__law_leads (fCons (fVar 0) (fCons (fVar 5) fNil)))) (fVar 5))) fNil)) (fC (.int 0)))) dNext) (dSeq (dIf (fOr (fNot (fTst (fIsi' "tuple" (fVar 3)))) (fOr (fTst (f2 gNe (fCall gLen (fCons (fVar 3) fNil)) (fC (.int 6)))) (fNot (fTst (fCall gAll (fCons (fL (fLc [6] (fIL (fVar 3)) (tgN 6) fYes (fCallF 1 g__law_whole (fCons (fVar 6) fNil)))) fNil)))))) (dRet (fC (.bool false))) dNext) (dSeq (dIf (fTst (f2 gNe (fCall gAbs (fCons (f2 gSub (f2 gMul (f2 gIx (fVar 3) (fC (.int 0))) (f2 gIx (fVar 3) (fC (.int 3)))) (f2 gMul (f2 gIx (fVar 3) (fC (.int 1))) (f2 gIx (fVar 3) (fC (.int 2))))) fNil)) (fC (.int 1)))) (dRet (fC (.bool false))) dNext) (dRet (f2 gIn (fL (fLc [7] (fIL (fVar 0)) (tgN 7) fYes (fCallF 2 g__law_led (fCons (fVar 3) (fCons (fVar 7) fNil))))) (fVar 4)))))))))))
noncomputable def g__law_right : List PyData → Option PyData := runD 8 fb__law_right
/-- is_ear(left, k): 0 left 1 k 2 one 3 middle 4 other 5 point -/
noncomputable def fb_is_ear : SFn := (dSeq (dSet 2 (f2 gIx (fVar 0) (f2 gSub (fVar 1) (fC (.int 1))))) (dSeq (dSet 3 (f2 gIx (fVar 0) (fVar 1))) (dSeq (dSet 4 (f2 gIx (fVar 0) (f2 gMod (f2 gAdd (fVar 1) (fC (.int 1))) (fCall gLen (fCons (fVar 0) fNil))))) (dSeq (dIf (fTst (f2 gLe (fCallF 3 g_cross (fCons (fVar 2) (fCons (fVar 3) (fCons (fVar 4) fNil)))) (fC (.int 0)))) (dRet (fC (.bool false))) dNext) (dSeq (dFor (fIL (fVar 0)) (tgN 5) (dIf (fAnd (fTst (f2 gNotIn (fVar 5) (fTup (fCons (fVar 2) (fCons (fVar 3) (fCons (fVar 4) fNil)))))) (fTst (f2 gGe (fCallF 3 g_cross (fCons (fVar 2) (fCons (fVar 3) (fCons (fVar 5) fNil)))) (fC (.int 0))))) (dIf (fAnd (fTst (f2 gGe (fCallF 3 g_cross (fCons (fVar 3) (fCons (fVar 4) (fCons (fVar 5) fNil)))) (fC (.int 0)))) (fTst (f2 gGe (fCallF 3 g_cross (fCons (fVar 4) (fCons (fVar 2) (fCons (fVar 5) fNil)))) (fC (.int 0))))) (dRet (fC (.bool false))) dNext) dNext)) (dRet (fC (.bool true))))))))
noncomputable def g_is_ear : List PyData → Option PyData := runD 6 fb_is_ear
/-- ears(corners): 0 corners 1 left 2 found 3 k -/
noncomputable def fb_ears : SFn := (dSeq (dSetN 1 (fCallN gListC (fCons (fVar 0) fNil))) (dSeq (dSetN 2 (fLst fNil)) (dSeq (dWhile fuD (fTst (f2 gGt (fCall gLen (fCons (fVar 1) fNil)) (fC (.int 3)))) (dSeq (dSet 3 (fC (.int 0))) (dSeq (dWhile fuD (fNot (fTst (fCallF 2 g_is_ear (fCons (fVar 1) (fCons (fVar 3) fNil))))) (dSet 3 (f2 gAdd (fVar 3) (fC (.int 1))))) (dSeq (dAppO 2 (fTup (fCons (f2 gIx (fVar 1) (f2 gSub (fVar 3) (fC (.int 1)))) (fCons (f2 gIx (fVar 1) (fVar 3)) (fCons (f2 gIx (fVar 1) (f2 gMod (f2 gAdd (fVar 3) (fC (.int 1))) (fCall gLen (fCons (fVar 1) fNil)))) fNil))))) (dPopAt 1 (fVar 3)))))) (dSeq (dAppO 2 (fTup (fCons (f2 gIx (fVar 1) (fC (.int 0))) (fCons (f2 gIx (fVar 1) (fC (.int 1))) (fCons (f2 gIx (fVar 1) (fC (.int 2))) fNil))))) (dRet (fVar 2))))))
noncomputable def g_ears : List PyData → Option PyData := runD 4 fb_ears
/-- shares_of(one, other): 0 one 1 other 2 rest 3 later 4 times 5 after -/
noncomputable def fb_shares_of : SFn := (dSeq (dSet 2 (fTup (fCons (fVar 0) (fCons (fC (.int 1)) (fCons (fC (.int 0)) fNil))))) (dSeq (dSet 3 (fTup (fCons (fVar 1) (fCons (fC (.int 0)) (fCons (fC (.int 1)) fNil))))) (dSeq (dWhile fuD (fTst (f2 gNe (f2 gIx (fVar 3) (fC (.int 0))) (fC (.int 0)))) (dSeq (dSet 4 (f2 gDiv (f2 gIx (fVar 2) (fC (.int 0))) (f2 gIx (fVar 3) (fC (.int 0))))) (dSeq (dSet 5 (fTup (fCons (f2 gSub (f2 gIx (fVar 2) (fC (.int 0))) (f2 gMul (fVar 4) (f2 gIx (fVar 3) (fC (.int 0))))) (fCons (f2 gSub (f2 gIx (fVar 2) (fC (.int 1))) (f2 gMul (fVar 4) (f2 gIx (fVar 3) (fC (.int 1))))) (fCons (f2 gSub (f2 gIx (fVar 2) (fC (.int 2))) (f2 gMul (fVar 4) (f2 gIx (fVar 3) (fC (.int 2))))) fNil))))) (dSeq (dSet 2 (fVar 3)) (dSet 3 (fVar 5)))))) (dRet (fTup (fCons (f2 gMul (f2 gIx (fVar 2) (fC (.int 1))) (f2 gIx (fVar 2) (fC (.int 0)))) (fCons (f2 gMul (f2 gIx (fVar 2) (fC (.int 2))) (f2 gIx (fVar 2) (fC (.int 0)))) fNil)))))))
noncomputable def g_shares_of : List PyData → Option PyData := runD 6 fb_shares_of
/-- point_of(triangle): 0 triangle 1 k 2 one 3 x 4 y 5 parts 6 other 7 third 8 shares 9 over 10 along -/
noncomputable def fb_point_of : SFn := (dSeq (dForO (fIR rng1 (fCons (fC (.int 3)) fNil)) (tgN 1) (dSeq (dSet 2 (f2 gIx (fVar 0) (fVar 1))) (dSeq (dSet 3 (f2 gSub (f2 gIx (f2 gIx (fVar 0) (f2 gMod (f2 gAdd (fVar 1) (fC (.int 1))) (fC (.int 3)))) (fC (.int 0))) (f2 gIx (fVar 2) (fC (.int 0))))) (dSeq (dSet 4 (f2 gSub (f2 gIx (f2 gIx (fVar 0) (f2 gMod (f2 gAdd (fVar 1) (fC (.int 1))) (fC (.int 3)))) (fC (.int 1))) (f2 gIx (fVar 2) (fC (.int 1))))) (dSeq (dSet 5 (fCallF 2 g_common (fCons (fVar 3) (fCons (fVar 4) fNil)))) (dIf (fTst (f2 gGt (fVar 5) (fC (.int 1)))) (dRet (fTup (fCons (f2 gAdd (f2 gIx (fVar 2) (fC (.int 0))) (f2 gDiv (fVar 3) (fVar 5))) (fCons (f2 gAdd (f2 gIx (fVar 2) (fC (.int 1))) (f2 gDiv (fVar 4) (fVar 5))) fNil)))) dNext)))))) (dSeq (dAsg (tgT [2, 6, 7]) (fVar 0)) (dSeq (dSet 3 (f2 gSub (f2 gIx (fVar 6) (fC (.int 0))) (f2 gIx (fVar 2) (fC (.int 0))))) (dSeq (dSet 4 (f2 gSub (f2 gIx (fVar 6) (fC (.int 1))) (f2 gIx (fVar 2) (fC (.int 1))))) (dSeq (dSet 8 (fCallF 2 g_shares_of (fCons (fVar 3) (fCons (fVar 4) fNil)))) (dSeq (dSet 9 (f2 gAdd (f2 gMul (f2 gSub (f2 gIx (fVar 7) (fC (.int 0))) (f2 gIx (fVar 2) (fC (.int 0)))) (f2 gIx (fVar 8) (fC (.int 0)))) (f2 gMul (f2 gSub (f2 gIx (fVar 7) (fC (.int 1))) (f2 gIx (fVar 2) (fC (.int 1)))) (f2 gIx (fVar 8) (fC (.int 1)))))) (dSeq (dSet 10 (f2 gSub (fC (.int 0)) (f2 gDiv (f2 gSub (fC (.int 0)) (fVar 9)) (fCallF 3 g_cross (fCons (fVar 2) (fCons (fVar 6) (fCons (fVar 7) fNil))))))) (dRet (fTup (fCons (f2 gSub (f2 gAdd (f2 gIx (fVar 2) (fC (.int 0))) (f2 gMul (fVar 10) (fVar 3))) (f2 gIx (fVar 8) (fC (.int 1)))) (fCons (f2 gAdd (f2 gAdd (f2 gIx (fVar 2) (fC (.int 1))) (f2 gMul (fVar 10) (fVar 4))) (f2 gIx (fVar 8) (fC (.int 0)))) fNil)))))))))))
noncomputable def g_point_of : List PyData → Option PyData := runD 11 fb_point_of
/-- least_triangles(corners): 0 corners 1 wide 2 row 3 waiting 4 found 5 triangle 6 point 7 k 8 one 9 other -/
noncomputable def fb_least_triangles : SFn := (dSeq (dDrop (fCallF 1 g_asked (fCons (fVar 0) fNil))) (dSeq (dSet 1 (fCallF 1 g_turn_sum (fCons (fVar 0) fNil))) (dSeq (dIf (fTst (f2 gGt (fCall gAbs (fCons (fVar 1) fNil)) (fC (.int 60)))) dNever dNext) (dSeq (dSet 2 (fL (fCallN gListC (fCons (fVar 0) fNil)))) (dSeq (dIf (fTst (f2 gLt (fVar 1) (fC (.int 0)))) (dSet 2 (fL (fRev (fVar 2)))) dNext) (dSeq (dSet 3 (fCallF 1 g_ears (fCons (fVar 2) fNil))) (dSeq (dSetN 4 (fLst fNil)) (dSeq (dWhile fuD (fTst (f2 gGt (fCall gLen (fCons (fVar 3) fNil)) (fC (.int 0)))) (dSeq (dPopTo 5 3) (dIf (fTst (f2 gEq (fCallF 3 g_cross (fCons (f2 gIx (fVar 5) (fC (.int 0))) (fCons (f2 gIx (fVar 5) (fC (.int 1))) (fCons (f2 gIx (fVar 5) (fC (.int 2))) fNil)))) (fC (.int 1)))) (dApp 4 (fL (fCallN gListC (fCons (fVar 5) fNil)))) (dSeq (dSet 6 (fCallF 1 g_point_of (fCons (fVar 5) fNil))) (dForO (fIR rng1 (fCons (fC (.int 3)) fNil)) (tgN 7) (dSeq (dSet 8 (f2 gIx (fVar 5) (fVar 7))) (dSeq (dSet 9 (f2 gIx (fVar 5) (f2 gMod (f2 gAdd (fVar 7) (fC (.int 1))) (fC (.int 3))))) (dIf (fTst (f2 gGt (fCallF 3 g_cross (fCons (fVar 8) (fCons (fVar 9) (fCons (fVar 6) fNil)))) (fC (.int 0)))) (dApp 3 (fTup (fCons (fVar 8) (fCons (fVar 9) (fCons (fVar 6) fNil))))) dNext)))))))) (dRet (fVar 4))))))))))
noncomputable def g_least_triangles : List PyData → Option PyData := runD 10 fb_least_triangles
/-- _law_common(one, other): 0 one 1 other 2 rest -/
noncomputable def fb__law_common : SFn := (dSeq (dSet 0 (fCall gAbs (fCons (fVar 0) fNil))) (dSeq (dSet 1 (fCall gAbs (fCons (fVar 1) fNil))) (dSeq (dWhile fuD (fTst (f2 gGt (fVar 1) (fC (.int 0)))) (dSeq (dSet 2 (f2 gMod (fVar 0) (fVar 1))) (dSeq (dSet 0 (fVar 1)) (dSet 1 (fVar 2))))) (dRet (fVar 0)))))
noncomputable def g__law_common : List PyData → Option PyData := runD 3 fb__law_common
/-- _law_called(which, corners, good, six): 0 which 1 corners 2 good 3 six -/
noncomputable def fb__law_called : SFn := (dSeq (dIf (fTst (f2 gEq (fVar 0) (fC (.int 0)))) (dDrop (fCallF 1 g_double_area (fCons (fVar 1) fNil))) dNext) (dSeq (dIf (fTst (f2 gEq (fVar 0) (fC (.int 1)))) (dDrop (fCallF 1 g_goes_left (fCons (fVar 1) fNil))) dNext) (dSeq (dIf (fTst (f2 gEq (fVar 0) (fC (.int 2)))) (dDrop (fCallF 2 g_where (fCons (fVar 1) (fCons (fTup (fCons (fC (.int 0)) (fCons (fC (.int 0)) fNil))) fNil)))) dNext) (dSeq (dIf (fTst (f2 gEq (fVar 0) (fC (.int 3)))) (dDrop (fCallF 1 g_rim (fCons (fVar 1) fNil))) dNext) (dSeq (dIf (fTst (f2 gEq (fVar 0) (fC (.int 4)))) (dDrop (fCallF 1 g_inside (fCons (fVar 1) fNil))) dNext) (dSeq (dIf (fTst (f2 gEq (fVar 0) (fC (.int 5)))) (dDrop (fCallF 2 g_row_counts (fCons (fVar 1) (fCons (fC (.int 0)) fNil)))) dNext) (dSeq (dIf (fTst (f2 gEq (fVar 0) (fC (.int 6)))) (dDrop (fCallF 2 g_greater (fCons (fVar 1) (fCons (fC (.int 2)) fNil)))) dNext) (dSeq (dIf (fTst (f2 gEq (fVar 0) (fC (.int 7)))) (dDrop (fCallF 2 g_greater_counts (fCons (fVar 1) (fCons (fC (.int 2)) fNil)))) dNext) (dSeq (dIf (fTst (f2 gEq (fVar 0) (fC (.int 8)))) (dDrop (fCallF 2 g_alike (fCons (fVar 1) (fCons (fVar 2) fNil)))) dNext) (dSeq (dIf (fTst (f2 gEq (fVar 0) (fC (.int 9)))) (dDrop (fCallF 2 g_alike (fCons (fVar 2) (fCons (fVar 1) fNil)))) dNext) (dSeq (dIf (fTst (f2 gEq (fVar 0) (fC (.int 10)))) (dDrop (fCallF 2 g_turned (fCons (fVar 1) (fCons (fVar 3) fNil)))) dNext) (dIf (fTst (f2 gEq (fVar 0) (fC (.int 11)))) (dDrop (fCallF 1 g_least_triangles (fCons (fVar 1) fNil))) dNext))))))))))))
noncomputable def g__law_called : List PyData → Option PyData := runD 4 fb__law_called
/-- _law_spoilt(corners, way, at, to): 0 corners 1 way 2 at 3 to 4 x 5 y 6 k -/
noncomputable def fb__law_spoilt : SFn := (dSeq (dAsg (tgT [4, 5]) (f2 gIx (fVar 0) (fVar 2))) (dSeq (dIf (fTst (f2 gEq (fVar 1) (fC (.int 1)))) (dRet (fL (fSl (fVar 0) fPn (fPs (f2 gMod (fVar 3) (fC (.int 3))))))) dNext) (dSeq (dIf (fTst (f2 gEq (fVar 1) (fC (.int 2)))) (dRet (fL (fCat (fL (fCat (fL (fSl (fVar 0) fPn (fPs (fVar 2)))) (fL (fLc [6] (fIR rng1 (fCons (fC (.int 14)) fNil)) (tgN 6) fYes (fTup (fCons (f2 gAdd (f2 gAdd (fVar 4) (fC (.int 90))) (fVar 6)) (fCons (fVar 5) fNil))))))) (fL (fSl (fVar 0) (fPs (fVar 2)) fPn))))) dNext) (dSeq (dIf (fTst (f2 gEq (fVar 1) (fC (.int 3)))) (dRet (fL (fCat (fL (fCat (fL (fSl (fVar 0) fPn (fPs (fVar 3)))) (fL (fLst (fCons (f2 gIx (fVar 0) (fVar 2)) fNil))))) (fL (fSl (fVar 0) (fPs (fVar 3)) fPn))))) dNext) (dSeq (dIf (fAnd (fTst (f2 gEq (fVar 1) (fC (.int 4)))) (fTst (f2 gNe (fVar 2) (fVar 3)))) (dRet (fL (fCat (fL (fCat (fL (fSl (fVar 0) fPn (fPs (fVar 3)))) (fL (fLst (fCons (f2 gIx (fVar 0) (fVar 2)) fNil))))) (fL (fSl (fVar 0) (fPs (f2 gAdd (fVar 3) (fC (.int 1)))) fPn))))) dNext) (dSeq (dIf (fTst (f2 gEq (fVar 1) (fC (.int 5)))) (dRet (fL (fLc [6] (fIL (fL (fSl (fL (fLst (fCons (fC (.int 0)) (fCons (fC (.int 2)) (fCons (fC (.int 5)) (fCons (fC (.int 1)) fNil)))))) fPn (fPs (f2 gAdd (fC (.int 3)) (f2 gMod (fVar 3) (fC (.int 2)))))))) (tgN 6) fYes (fTup (fCons (f2 gAdd (fVar 4) (f2 gMul (fVar 6) (f2 gAdd (fC (.int 3)) (fVar 3)))) (fCons (f2 gAdd (fVar 5) (f2 gMul (fVar 6) (fVar 3))) fNil)))))) dNext) (dRet (fL (fLst (fCons (fTup (fCons (fVar 4) (fCons (fVar 5) fNil))) (fCons (fTup (fCons (f2 gAdd (f2 gAdd (fVar 4) (fC (.int 4))) (fVar 3)) (fCons (f2 gAdd (f2 gAdd (fVar 5) (fC (.int 4))) (fVar 2)) fNil))) (fCons (fTup (fCons (f2 gAdd (f2 gAdd (fVar 4) (fC (.int 4))) (fVar 3)) (fCons (fVar 5) fNil))) (fCons (fTup (fCons (fVar 4) (fCons (f2 gAdd (f2 gAdd (fVar 5) (fC (.int 4))) (fVar 2)) fNil))) fNil)))))))))))))
noncomputable def g__law_spoilt : List PyData → Option PyData := runD 7 fb__law_spoilt
end LW
/-! part EA -/
namespace LW
open PySem (PyData)
open DL
open L2 (atI ixN kitB)
/-! ### reckoning: the rows used again and again -/
theorem bind_some' {α β : Type} (a : α) (f : α → Option β) : (some a).bind f = f a := rfl
theorem gIx_list {ds : List PyData} {i : Int} : gIx (.list ds) (.int i) = atI ds i := rfl
theorem gIx_tup {ds : List PyData} {i : Int} : gIx (.tuple ds) (.int i) = atI ds i := rfl
theorem gIx_scr {ns : List Int} {i : Int} : gIx (scrD ns) (.int i) = (atI ns i).map .int := by
  show (atI (ns.map fun n => (PyData.none, PyData.int n)) i).map (fun p => p.2) = _
  rw [atI_map, Option.map_map]
  rfl
theorem gLen_scr {ns : List Int} : gLen [scrD ns] = some (.int ns.length) := by
  show some (PyData.int ((ns.map fun n => (PyData.none, PyData.int n)).length : Nat)) = _
  rw [List.length_map]
theorem atI_ge {α : Type} {xs : List α} {i : Int} (h : 0 ≤ i) : atI xs i = xs[i.toNat]? := by
  unfold atI ixN
  rw [if_pos h]
  by_cases c : i < xs.length
  · rw [if_pos c]; rfl
  · rw [if_neg c, List.getElem?_eq_none (by omega)]; rfl
theorem atI_neg {α : Type} {xs : List α} {i : Int} (h : i < 0) (h1 : -(xs.length : Int) ≤ i) : atI xs i = xs[(i + xs.length).toNat]? := by
  unfold atI ixN
  rw [if_neg (by omega), if_pos h1]; rfl
theorem pair0 {α : Type} {x y : α} : atI [x, y] 0 = some x := rfl
theorem pair1 {α : Type} {x y : α} : atI [x, y] 1 = some y := rfl
local macro_rules | `(tactic| walk_at "dl") => `(tactic| simp only [runD, runN, sto0, dSeq, dSet, dSetO, dRet, dRetN, dNext, dIf, dDrop, vS, vO, cS, cO, fVar, f2, f1, fC, fTst, asBool, fCallF, fCallFN, fCall, fCallN, fCons, fNil, fAnd, fOr, fNot, fB, fTup, fL,
  List.map_cons, List.map_nil, List.length_cons, List.length_nil, List.replicate_succ, List.replicate_zero, List.cons_append, List.nil_append, List.getElem?_cons_zero, List.getElem?_cons_succ, Option.join_some, bind_some', Option.map_some,
  List.set_cons_zero, List.set_cons_succ, gI0_ii, gIx_list, gIx_tup, gIx_scr, gLen_scr, pair0, pair1, gEq_int, gNe_int, Nat.reduceSub, Nat.reduceAdd, Nat.reduceEqDiff, Nat.reduceLeDiff, if_true, if_false, ite_true, ite_false, Bool.true_eq_false, Bool.false_eq_true, reduceIte])
def cell (ns : List Int) (k : Nat) : Int := ns.getD k 0
theorem e_cell (ns : List Int) (k : Int) (hk : 0 ≤ k) : g__law_cell_at [scrD ns, .int k] = some (.int (cell ns k.toNat)) := by
  unfold g__law_cell_at fb__law_cell_at cell
  by_cases c : k < ns.length
  · walk_at "dl"
    rw [decide_eq_true c, atI_ge hk, List.getD_eq_getElem?_getD, List.getElem?_eq_getElem (by omega)]
    rfl
  · walk_at "dl"
    rw [decide_eq_false c, List.getD_eq_getElem?_getD, List.getElem?_eq_none (by omega)]
    rfl
theorem kit_int : kitB "int" "int" = some true := by decide +kernel
theorem kit_int_b : kitB "int" "bool" = some false := by decide +kernel
theorem e_whole (k : Int) : g__law_whole [.int k] = some (.bool true) := by
  unfold g__law_whole fb__law_whole
  walk_at "dl"
  simp only [fIsi', fVar, List.getElem?_cons_zero, Option.join_some, bind_some', notScr, tyN, kit_int, kit_int_b, if_true, Option.map_some, asBool]
  rfl
theorem gPow10 {j : Int} (h0 : 0 ≤ j) (h1 : j ≤ 1000) : gI PowG (fun i j => .int (i ^ j.toNat)) (.int 10) (.int j) = some (.int (10 ^ j.toNat)) := gPow_ii ⟨h0, by omega, by decide⟩
theorem lcD_map {tg : TgF} {ft : DL.Env → Option Bool} {fe : DF} {ρ : DL.Env} (h : PyData → PyData) : ∀ ds : List PyData, (∀ d ∈ ds, ∃ asg, tg d = some asg ∧ ft (setE ρ asg) = some true ∧ fe (setE ρ asg) = some (h d)) → lcD tg ft fe ρ ds = some (ds.map h)
  | [], _ => rfl
  | d :: ds, H => by
    obtain ⟨asg, h1, h2, h3⟩ := H d List.mem_cons_self
    unfold lcD
    rw [h1, bind_some', h2, bind_some', if_pos rfl, h3, bind_some', lcD_map h ds fun e he => H e (List.mem_cons_of_mem _ he)]
    rfl
theorem lcD_filter {tg : TgF} {ft : DL.Env → Option Bool} {fe : DF} {ρ : DL.Env} (p : PyData → Bool) (h : PyData → PyData) : ∀ ds : List PyData, (∀ d ∈ ds, ∃ asg, tg d = some asg ∧ ft (setE ρ asg) = some (p d) ∧ (p d = true → fe (setE ρ asg) = some (h d))) → lcD tg ft fe ρ ds = some ((ds.filter p).map h)
  | [], _ => rfl
  | d :: ds, H => by
    obtain ⟨asg, h1, h2, h3⟩ := H d List.mem_cons_self
    have ih := lcD_filter p h ds fun e he => H e (List.mem_cons_of_mem _ he)
    unfold lcD
    rw [h1, bind_some', h2, bind_some']
    cases hp : p d with
    | true =>
      rw [if_pos rfl, h3 hp, bind_some', ih, List.filter_cons, hp]
      rfl
    | false =>
      rw [if_neg (by decide), ih, List.filter_cons, hp]
      rfl
theorem rng1_ok {j : Int} (h0 : 0 ≤ j) (h1 : j < 1000000) : rng1 [.int j] = some (rngD 0 j.toNat) := by
  show (if j < 2 ^ 62 ∧ -(2 ^ 62) ≤ j then some (rngD 0 j.toNat) else none) = _
  rw [if_pos (by omega)]
theorem rng2_ok {i j : Int} (h0 : -1000000 ≤ i ∧ i < 1000000) (h1 : -1000000 ≤ j ∧ j < 1000000) : rng2 [.int i, .int j] = some (rngD i (j - i).toNat) := by
  show (if (i < 2 ^ 62 ∧ -(2 ^ 62) ≤ i) ∧ (j < 2 ^ 62 ∧ -(2 ^ 62) ≤ j) then some (rngD i (j - i).toNat) else none) = _
  rw [if_pos (by omega)]
theorem dSeq_step {F G : SFn} {ρ ρ' : Sto} {r : Res} (h : F ρ = .next ρ') (h2 : G ρ' = r) : dSeq F G ρ = r := by
  unfold dSeq; rw [h]; exact h2
theorem dSeq_ret {F G : SFn} {ρ : Sto} {d : PyData} (h : F ρ = .ret d) : dSeq F G ρ = .ret d := by
  unfold dSeq; rw [h]
theorem set_same {α : Type} {l : List α} {i : Nat} {x : α} (h : l[i]? = some x) : l.set i x = l := by
  apply List.ext_getElem?
  intro j
  by_cases e : i = j
  · subst e
    rw [List.getElem?_set_self (List.getElem?_eq_some_iff.mp h).1, h]
  · rw [List.getElem?_set_ne e]
theorem dIf_int {c : DL.Env → Option Bool} {f : DF} {ρ : Sto} {i : Nat} {v0 v1 : Int} {p : Prop} [Decidable p] (hc : c (vO ρ) = some (decide p)) (hi : ρ[i]? = some (some (.sh (.int v0)))) (hf : f (vS ρ) = some (.int v1)) :
    dIf c (dSet i f) dNext ρ = .next (ρ.set i (some (.sh (.int (if p then v1 else v0))))) := by
  unfold dIf
  rw [hc]
  by_cases h : p
  · rw [decide_eq_true h, if_pos h]
    unfold dSet
    rw [hf]
  · rw [decide_eq_false h, if_neg h, set_same hi]
    rfl
theorem dIf_t {c : DL.Env → Option Bool} {F G : SFn} {ρ : Sto} (hc : c (vO ρ) = some true) : dIf c F G ρ = F ρ := by unfold dIf; rw [hc]
theorem dIf_f {c : DL.Env → Option Bool} {F G : SFn} {ρ : Sto} (hc : c (vO ρ) = some false) : dIf c F G ρ = G ρ := by unfold dIf; rw [hc]
theorem dIf_p {c : DL.Env → Option Bool} {F G : SFn} {ρ : Sto} {p : Prop} [Decidable p] (hc : c (vO ρ) = some (decide p)) : dIf c F G ρ = if p then F ρ else G ρ := by
  unfold dIf; rw [hc]
  by_cases h : p
  · rw [decide_eq_true h, if_pos h]
  · rw [decide_eq_false h, if_neg h]
theorem runD_ret {n : Nat} {F : SFn} {ds : List PyData} {d : PyData} (h : F (sto0 n ds) = .ret d) : runD n F ds = some d := by unfold runD; rw [h]
theorem toNat_nn (x : Int) (h : 0 ≤ x) : ((x.toNat : Nat) : Int) = x := by omega
theorem gSum_ints (ns : List Int) : gSum [.list (ns.map .int)] = some (.int ns.sum) := by
  show (intsOf (ns.map .int)).map _ = _
  rw [intsOf_map]; rfl
theorem gAbs_int (i : Int) : gAbs [.int i] = some (.int (if i < 0 then -i else i)) := rfl
end LW
/-! part MFloor -/
/-! floor sums, plain -/
namespace LW
def triZ : Nat → Int
  | 0 => 0
  | n + 1 => triZ n + n
theorem triZ_two : ∀ n : Nat, 2 * triZ n = (n : Int) * ((n : Int) - 1)
  | 0 => rfl
  | n + 1 => by
    have ih := triZ_two n
    have e : ((n + 1 : Nat) : Int) * (((n + 1 : Nat) : Int) - 1) = (n : Int) * ((n : Int) - 1) + 2 * n := by
      have h1 : ((n + 1 : Nat) : Int) = (n : Int) + 1 := by omega
      rw [h1, Int.add_sub_cancel, Int.add_mul, Int.mul_sub]
      omega
    rw [e, triZ, Int.mul_add, ih]
theorem triZ_div (n : Nat) : (n : Int) * ((n : Int) - 1) / 2 = triZ n := by
  rw [← triZ_two n]; omega
/-- the sum of (a i + b) / m for i below n -/
def FS (n : Nat) (m a b : Int) : Int := match n with
  | 0 => 0
  | n + 1 => FS n m a b + (a * n + b) / m
theorem div_split {m : Int} (hm : 0 < m) (a b n : Int) : (a * n + b) / m = (a / m) * n + b / m + ((a % m) * n + b % m) / m := by
  have ha := Int.mul_ediv_add_emod a m
  have hb := Int.mul_ediv_add_emod b m
  have e : a * n + b = ((a % m) * n + b % m) + ((a / m) * n + b / m) * m := by
    have e1 : a * n = (m * (a / m) + a % m) * n := by rw [ha]
    rw [e1, Int.add_mul, Int.add_mul]
    have e2 : m * (a / m) * n = a / m * n * m := by rw [Int.mul_comm m, Int.mul_assoc, Int.mul_comm m n, ← Int.mul_assoc]
    have e3 : b / m * m = m * (b / m) := Int.mul_comm _ _
    rw [e2, e3]
    omega
  rw [e, Int.add_mul_ediv_right _ _ (by omega)]
  omega
theorem FS_split {m : Int} (hm : 0 < m) (a b : Int) : ∀ n : Nat, FS n m a b = (a / m) * triZ n + (b / m) * n + FS n m (a % m) (b % m)
  | 0 => by simp [FS, triZ]
  | n + 1 => by
    rw [FS, FS, FS_split hm a b n, div_split hm a b n, triZ, Int.mul_add]
    have h1 : ((n + 1 : Nat) : Int) = (n : Int) + 1 := by omega
    rw [h1, Int.mul_add]
    omega
/-- shifting the start by the divisor -/
theorem FS_up {m a b : Int} (hm : 0 < m) : ∀ n : Nat, FS n m a (b + m) = FS n m a b + n
  | 0 => rfl
  | n + 1 => by
    rw [FS, FS, FS_up hm n]
    have e : a * n + (b + m) = (a * n + b) + 1 * m := by omega
    rw [e, Int.add_mul_ediv_right _ _ (by omega)]
    omega
/-- taking the first off -/
theorem FS_first {m a b : Int} : ∀ n : Nat, FS (n + 1) m a b = b / m + FS n m a (a + b)
  | 0 => by simp [FS]
  | n + 1 => by
    rw [FS, FS_first n, FS]
    have e : a * ((n + 1 : Nat) : Int) + b = a * n + (a + b) := by
      have h1 : ((n + 1 : Nat) : Int) = (n : Int) + 1 := by omega
      rw [h1, Int.mul_add]; omega
    rw [e]; omega
theorem flip_step {m a t : Int} (ha : 0 < a) (ham : a < m) (ht : 0 ≤ t) : FS ((t + a) / m).toNat a m ((t + a) % m) = FS (t / m).toNat a m (t % m) + t / m := by
  have hm : 0 < m := by omega
  have h1 := Int.mul_ediv_add_emod t m
  have h2 := Int.emod_nonneg t (show m ≠ 0 by omega)
  have h3 := Int.emod_lt_of_pos t hm
  have h4 : 0 ≤ t / m := Int.ediv_nonneg ht (by omega)
  by_cases c : t % m + a < m
  · have e1 : (t + a) / m = t / m := by
      have e : t + a = (t % m + a) + (t / m) * m := by rw [Int.mul_comm (t / m)]; omega
      rw [e, Int.add_mul_ediv_right _ _ (by omega), Int.ediv_eq_zero_of_lt (by omega) c]; omega
    have e2 : (t + a) % m = t % m + a := by
      have := Int.mul_ediv_add_emod (t + a) m
      rw [e1] at this; omega
    rw [e1, e2, FS_up ha]
    omega
  · have e1 : (t + a) / m = t / m + 1 := by
      have e : t + a = (t % m + a - m) + (t / m + 1) * m := by rw [Int.add_mul, Int.mul_comm (t / m)]; omega
      rw [e, Int.add_mul_ediv_right _ _ (by omega), Int.ediv_eq_zero_of_lt (by omega) (by omega)]; omega
    have e2 : (t + a) % m = t % m + a - m := by
      have := Int.mul_ediv_add_emod (t + a) m
      rw [e1, Int.mul_add] at this; omega
    have e3 : (t / m + 1).toNat = (t / m).toNat + 1 := by omega
    rw [e1, e2, e3, FS_first, Int.ediv_eq_zero_of_lt (by omega) (by omega)]
    have e4 : m + (t % m + a - m) = t % m + a := by omega
    rw [e4, FS_up ha]
    omega
/-- the sum, the two ways changed about -/
theorem FS_flip {m a b : Int} (ha : 0 < a) (ham : a < m) (hb : 0 ≤ b) (hbm : b < m) : ∀ n : Nat, FS n m a b = FS ((a * n + b) / m).toNat a m ((a * n + b) % m)
  | 0 => by
    have e : a * ((0 : Nat) : Int) + b = b := by simp
    rw [e, Int.ediv_eq_zero_of_lt hb hbm]
    rfl
  | n + 1 => by
    have e : a * ((n + 1 : Nat) : Int) + b = (a * n + b) + a := by
      have h1 : ((n + 1 : Nat) : Int) = (n : Int) + 1 := by omega
      rw [h1, Int.mul_add]; omega
    have h0 : 0 ≤ a * (n : Int) := Int.mul_nonneg (by omega) (by omega)
    rw [e, flip_step ha ham (by omega), FS, FS_flip ha ham hb hbm n]
/-- nothing where the top lies below -/
theorem FS_small {m a b : Int} (ha : 0 ≤ a) (hb : 0 ≤ b) : ∀ n : Nat, a * n + b < m → FS n m a b = 0
  | 0, _ => rfl
  | n + 1, h => by
    have h1 : ((n + 1 : Nat) : Int) = (n : Int) + 1 := by omega
    rw [h1, Int.mul_add] at h
    have h0 : 0 ≤ a * (n : Int) := Int.mul_nonneg ha (by omega)
    rw [FS, FS_small ha hb n (by omega), Int.ediv_eq_zero_of_lt (by omega) (by omega)]
    rfl
theorem FS_sum (m a b : Int) : ∀ n : Nat, ((List.range n).map fun i : Nat => (a * (i : Int) + b) / m).sum = FS n m a b
  | 0 => rfl
  | n + 1 => by
    rw [List.range_succ, List.map_append, List.sum_append, FS_sum m a b n, FS]
    simp
/-- two counts, one behind the other -/
theorem FS_add (m a b : Int) (n : Nat) : ∀ k : Nat, FS (n + k) m a b = FS n m a b + FS k m a (b + a * n)
  | 0 => by simp [FS]
  | k + 1 => by
    rw [show n + (k + 1) = (n + k) + 1 from rfl, FS, FS_add m a b n k, FS]
    have e : a * ((n + k : Nat) : Int) + b = a * k + (b + a * n) := by
      have h1 : ((n + k : Nat) : Int) = (n : Int) + k := by omega
      rw [h1, Int.mul_add]; omega
    rw [e]; omega
end LW
/-! part EFloor -/
namespace LW
open PySem (PyData)
open DL
open L2 (atI ixN kitB)
local macro_rules | `(tactic| walk_at "bd") => `(tactic| (apply bd_mono; (focus (repeat' (first | assumption | apply bd_sub | apply bd_add | apply bd_mul | apply bd_neg | apply bd_ediv | (apply bd_emod <;> first | assumption | decide | omega | exact bd_lit (n := 200) (by decide)) | exact bd_lit (n := 200) (by decide)))); decide))
local macro_rules | `(tactic| walk_at "dis") => `(tactic| first | assumption | omega | decide | walk_at "bd")
local macro_rules | `(tactic| walk_at "dl") => `(tactic| simp (disch := walk_at "dis") only [runD, DL.runN, sto0, dSeq, dSet, dSetO, dRet, dRetN, dNext, dIf, dDrop, vS, vO, cS, cO, fVar, f2, f1, fC, fTst, asBool, fCallF, fCallFN, fCall, fCallN, fCons, fNil, fAnd, fOr, fNot, fB, fTup, fL,
  List.map_cons, List.map_nil, List.length_cons, List.length_nil, List.replicate_succ, List.replicate_zero, List.cons_append, List.nil_append, List.getElem?_cons_zero, List.getElem?_cons_succ, Option.join_some, bind_some', Option.map_some,
  List.set_cons_zero, List.set_cons_succ, gI0_ii, gMul_ii, gDiv_pos, gMod_pos, gPow10, e_cell, e_whole, gAbs_int, Bool.not_true, Bool.not_false, Int.reduceToNat, gIx_list, gIx_tup, gIx_scr, gLen_scr, pair0, pair1, gEq_int, gNe_int, Nat.reduceSub, Nat.reduceAdd, Nat.reduceEqDiff, Nat.reduceLeDiff, if_true, if_false, ite_true, ite_false, Bool.true_eq_false, Bool.false_eq_true, reduceIte])
/-- one turn of floor_sum's loop -/
noncomputable def fsB : SFn := (dSeq (dSet 4 (f2 gAdd (f2 gAdd (fVar 4) (f2 gMul (f2 gDiv (fVar 2) (fVar 1)) (f2 gDiv (f2 gMul (fVar 0) (f2 gSub (fVar 0) (fC (.int 1)))) (fC (.int 2))))) (f2 gMul (f2 gDiv (fVar 3) (fVar 1)) (fVar 0)))) (dSeq (dSet 2 (f2 gMod (fVar 2) (fVar 1))) (dSeq (dSet 3 (f2 gMod (fVar 3) (fVar 1))) (dSeq (dSet 5 (f2 gAdd (f2 gMul (fVar 2) (fVar 0)) (fVar 3))) (dSeq (dIf (fTst (f2 gLt (fVar 5) (fVar 1))) (dRet (fVar 4)) dNext) (dSeq (dSet 0 (f2 gDiv (fVar 5) (fVar 1))) (dSeq (dSet 3 (f2 gMod (fVar 5) (fVar 1))) (dSeq (dSet 6 (fVar 1)) (dSeq (dSet 1 (fVar 2)) (dSet 2 (fVar 6)))))))))))
noncomputable def fsC : DL.Env → Option Bool := fTst (f2 gGt (fVar 0) (fC (.int 0)))
def fsSt (count below step start total : Int) (c5 c6 : Option Cell) : Sto := [some (.sh (.int count)), some (.sh (.int below)), some (.sh (.int step)), some (.sh (.int start)), some (.sh (.int total)), c5, c6]
theorem fs_turn (count below step start total : Int) (c5 c6 : Option Cell) (hb : 0 < below) (b1 : Bd 1000 count) (b2 : Bd 1000 below) (b3 : Bd 1000 step) (b4 : Bd 1000 start) :
    fsB (fsSt count below step start total c5 c6) =
      if step % below * count + start % below < below then .ret (.int (total + step / below * (count * (count - 1) / 2) + start / below * count))
      else .next (fsSt ((step % below * count + start % below) / below) (step % below) below ((step % below * count + start % below) % below) (total + step / below * (count * (count - 1) / 2) + start / below * count) (some (.sh (.int (step % below * count + start % below)))) (some (.sh (.int below)))) := by
  unfold fsB fsSt
  by_cases c : step % below * count + start % below < below
  · rw [if_pos c]
    walk_at "dl"
    rw [decide_eq_true c]
  · rw [if_neg c]
    walk_at "dl"
    rw [decide_eq_false c]
    walk_at "dl"
/-- the loop -/
theorem fs_loop : ∀ (n : Nat) (count below step start total : Int) (c5 c6 : Option Cell), 0 ≤ count → 0 < below → below < n → Bd 1000 count → Bd 1000 below → Bd 1000 step → Bd 1000 start →
    (∃ r, whileF fsC fsB n (fsSt count below step start total c5 c6) = .ret (.int r) ∧ r = total + FS count.toNat below step start) ∨ (∃ ρ r, whileF fsC fsB n (fsSt count below step start total c5 c6) = .next ρ ∧ r = total + FS count.toNat below step start ∧ dRet (fVar 4) ρ = .ret (.int r))
  | 0, _, _, _, _, _, _, _, _, _, h, _, _, _, _ => by omega
  | n + 1, count, below, step, start, total, c5, c6, h0, hb, hn, b1, b2, b3, b4 => by
    unfold whileF
    have ht : fsC (vO (fsSt count below step start total c5 c6)) = some (decide (0 < count)) := by
      unfold fsC fsSt
      walk_at "dl"
    rw [ht]
    by_cases hc : 0 < count
    · rw [decide_eq_true hc, fs_turn count below step start total c5 c6 hb b1 b2 b3 b4]
      have hcn : ((count.toNat : Nat) : Int) = count := by omega
      have hS := FS_split hb step start count.toNat
      have hT := triZ_div count.toNat
      rw [hcn] at hS hT
      have m1 := Int.emod_nonneg step (show below ≠ 0 by omega)
      have m2 := Int.emod_lt_of_pos step hb
      have m3 := Int.emod_nonneg start (show below ≠ 0 by omega)
      have m4 := Int.emod_lt_of_pos start hb
      have m5 : 0 ≤ step % below * count := Int.mul_nonneg m1 h0
      by_cases c : step % below * count + start % below < below
      · rw [if_pos c]
        left
        refine ⟨_, rfl, ?_⟩
        rw [hT, hS, FS_small m1 m3 count.toNat (by rw [hcn]; exact c)]
        omega
      · rw [if_neg c]
        have s0 : 0 < step % below := by
          rcases Int.lt_or_eq_of_le m1 with h | h
          · exact h
          · rw [← h, Int.zero_mul] at c; omega
        have hF := FS_flip s0 m2 m3 m4 count.toNat
        rw [hcn] at hF
        have q0 : 0 ≤ (step % below * count + start % below) / below := Int.ediv_nonneg (by omega) (by omega)
        have q1 : (step % below * count + start % below) / below ≤ count := by
          have : (step % below * count + start % below) / below < count + 1 := by
            refine Int.ediv_lt_of_lt_mul hb ?_
            have e1 : step % below * count ≤ (below - 1) * count := Int.mul_le_mul_of_nonneg_right (by omega) h0
            rw [Int.sub_mul, Int.one_mul] at e1
            rw [Int.add_mul, Int.one_mul, Int.mul_comm count]
            omega
          omega
        have r1 := Int.emod_nonneg (step % below * count + start % below) (show below ≠ 0 by omega)
        have r2 := Int.emod_lt_of_pos (step % below * count + start % below) hb
        have ih := fs_loop n ((step % below * count + start % below) / below) (step % below) below ((step % below * count + start % below) % below) (total + step / below * (count * (count - 1) / 2) + start / below * count) (some (.sh (.int (step % below * count + start % below)))) (some (.sh (.int below)))
          q0 s0 (by omega) (bd_le b1 q0 q1) (bd_le b2 m1 (by omega)) b2 (bd_le b2 r1 (by omega))
        have eR : total + step / below * (count * (count - 1) / 2) + start / below * count + FS ((step % below * count + start % below) / below).toNat (step % below) below ((step % below * count + start % below) % below) = total + FS count.toNat below step start := by
          rw [hT, hS, hF]; omega
        rw [eR] at ih
        exact ih
    · rw [decide_eq_false hc]
      right
      have e0 : count = 0 := by omega
      subst e0
      refine ⟨_, _, rfl, rfl, ?_⟩
      unfold fsSt
      walk_at "dl"
      simp [FS]
theorem sumsz_mem {l : List Nat} {x : Nat} (h : x ∈ l) : x ≤ l.sum := by
  induction l with
  | nil => cases h
  | cons y l ih =>
    rw [List.sum_cons]
    rcases List.mem_cons.mp h with e | e
    · omega
    · have := ih e; omega
theorem e_floor (count below step start : Int) (h0 : 0 ≤ count) (hb : 0 < below) (b1 : Bd 1000 count) (b2 : Bd 1000 below) (b3 : Bd 1000 step) (b4 : Bd 1000 start) :
    g_floor_sum [.int count, .int below, .int step, .int start] = some (.int (FS count.toNat below step start)) := by
  have e1 : g_floor_sum [.int count, .int below, .int step, .int start] = runD 7 (dSeq (dSet 4 (fC (.int 0))) (dSeq (dWhile fuD fsC fsB) (dRet (fVar 4)))) [.int count, .int below, .int step, .int start] := rfl
  have e2 : dSet 4 (fC (.int 0)) (sto0 7 [.int count, .int below, .int step, .int start]) = .next (fsSt count below step start 0 none none) := rfl
  have hf : below < fuD (fsSt count below step start 0 none none) := by
    have := sumsz_mem (l := (fsSt count below step start 0 none none).map szC) (x := below.natAbs) (by simp [fsSt, szC, szD])
    unfold fuD
    omega
  rw [e1]
  rcases fs_loop _ count below step start 0 none none h0 hb hf b1 b2 b3 b4 with ⟨r, h1, h2⟩ | ⟨ρ, r, h1, h2, h3⟩
  · unfold runD dSeq
    simp only [e2, dWhile, h1]
    rw [h2, Int.zero_add]
  · unfold runD dSeq
    simp only [e2, dWhile, h1, h3]
    rw [h2, Int.zero_add]
end LW
/-! part law -/
namespace LW
open PySem (PyData)
open DL
open L2 (atI ixN kitB)
local macro_rules | `(tactic| walk_at "bd") => `(tactic| (apply bd_mono; (focus (repeat' (first | assumption | apply bd_sub | apply bd_add | apply bd_mul | apply bd_neg | apply bd_ediv | (apply bd_emod <;> first | assumption | decide | omega | exact bd_lit (n := 200) (by decide)) | exact bd_lit (n := 200) (by decide)))); decide))
local macro_rules | `(tactic| walk_at "dis") => `(tactic| first | assumption | omega | decide | walk_at "bd")
local macro_rules | `(tactic| walk_at "dl") => `(tactic| simp (disch := walk_at "dis") only [runD, DL.runN, sto0, dSeq, dSet, dSetO, dRet, dRetN, dNext, dIf, dDrop, vS, vO, cS, cO, fVar, f2, f1, fC, fTst, asBool, fCallF, fCallFN, fCall, fCallN, fCons, fNil, fAnd, fOr, fNot, fB, fTup, fL,
  List.map_cons, List.map_nil, List.length_cons, List.length_nil, List.replicate_succ, List.replicate_zero, List.cons_append, List.nil_append, List.getElem?_cons_zero, List.getElem?_cons_succ, Option.join_some, bind_some', Option.map_some,
  List.set_cons_zero, List.set_cons_succ, gI0_ii, gMul_ii, gDiv_pos, gMod_pos, gPow10, e_cell, e_whole, gAbs_int, Bool.not_true, Bool.not_false, Int.reduceToNat, gIx_list, gIx_tup, gIx_scr, gLen_scr, pair0, pair1, gEq_int, gNe_int, Nat.reduceSub, Nat.reduceAdd, Nat.reduceEqDiff, Nat.reduceLeDiff, if_true, if_false, ite_true, ite_false, Bool.true_eq_false, Bool.false_eq_true, reduceIte])
/-- law(script): 0 script 1 one 2 other 3 below 4 step 5 start 6 u 7 v 8 whole 9 later 10 rest 11 moved 12 both 13 more -/
noncomputable def fb_law : SFn := (dSeq (dSet 1 (f2 gMod (fCallF 2 g__law_cell_at (fCons (fVar 0) (fCons (fC (.int 0)) fNil))) (f2 gPow (fC (.int 10)) (fC (.int 30))))) (dSeq (dSet 2 (f2 gMod (fCallF 2 g__law_cell_at (fCons (fVar 0) (fCons (fC (.int 1)) fNil))) (f2 gPow (fC (.int 10)) (fC (.int 30))))) (dSeq (dSet 3 (f2 gAdd (fC (.int 1)) (fCall gAbs (fCons (fCallF 2 g__law_number (fCons (fVar 0) (fCons (fC (.int 2)) fNil))) fNil)))) (dSeq (dSet 4 (fCallF 2 g__law_number (fCons (fVar 0) (fCons (fC (.int 3)) fNil)))) (dSeq (dSet 5 (fCallF 2 g__law_number (fCons (fVar 0) (fCons (fC (.int 4)) fNil)))) (dSeq (dSet 6 (fCallF 2 g__law_number (fCons (fVar 0) (fCons (fC (.int 5)) fNil)))) (dSeq (dSet 7 (fCallF 2 g__law_number (fCons (fVar 0) (fCons (fC (.int 6)) fNil)))) (dSeq (dSet 8 (fCallF 4 g_floor_sum (fCons (fVar 1) (fCons (fVar 3) (fCons (fVar 4) (fCons (fVar 5) fNil)))))) (dSeq (dSet 9 (f2 gAdd (f2 gMod (fVar 5) (fVar 3)) (f2 gMod (f2 gMul (f2 gMod (fVar 4) (fVar 3)) (fVar 1)) (fVar 3)))) (dSeq (dSet 10 (fCallF 4 g_floor_sum (fCons (fVar 2) (fCons (fVar 3) (fCons (fVar 4) (fCons (fVar 9) fNil)))))) (dSeq (dIf (fOr (fNot (fTst (fCallF 1 g__law_whole (fCons (fVar 8) fNil)))) (fNot (fTst (fCallF 1 g__law_whole (fCons (fVar 10) fNil))))) (dRet (fC (.bool false))) dNext) (dSeq (dSet 11 (f2 gDiv (f2 gSub (f2 gSub (fVar 9) (fVar 5)) (f2 gMul (fVar 4) (fVar 1))) (fVar 3))) (dSeq (dSet 12 (fCallF 4 g_floor_sum (fCons (f2 gAdd (fVar 1) (fVar 2)) (fCons (fVar 3) (fCons (fVar 4) (fCons (fVar 5) fNil)))))) (dSeq (dIf (fOr (fNot (fTst (fCallF 1 g__law_whole (fCons (fVar 12) fNil)))) (fTst (f2 gNe (fVar 12) (f2 gSub (f2 gAdd (fVar 8) (fVar 10)) (f2 gMul (fVar 11) (fVar 2)))))) (dRet (fC (.bool false))) dNext) (dSeq (dSet 13 (fCallF 4 g_floor_sum (fCons (fVar 1) (fCons (fVar 3) (fCons (f2 gAdd (fVar 4) (f2 gMul (fVar 6) (fVar 3))) (fCons (f2 gAdd (fVar 5) (f2 gMul (fVar 7) (fVar 3))) fNil)))))) (dSeq (dIf (fOr (fNot (fTst (fCallF 1 g__law_whole (fCons (fVar 13) fNil)))) (fTst (f2 gNe (fVar 13) (f2 gAdd (f2 gAdd (fVar 8) (f2 gMul (fVar 6) (f2 gDiv (f2 gMul (fVar 1) (f2 gSub (fVar 1) (fC (.int 1)))) (fC (.int 2))))) (f2 gMul (fVar 7) (fVar 1)))))) (dRet (fC (.bool false))) dNext) (dRet (fB (fAnd (fTst (f2 gEq (fCallF 4 g_floor_sum (fCons (fC (.int 1)) (fCons (fVar 3) (fCons (fVar 4) (fCons (fVar 5) fNil))))) (f2 gDiv (fVar 5) (fVar 3)))) (fTst (f2 gEq (fCallF 4 g_floor_sum (fCons (fC (.int 0)) (fCons (fVar 3) (fCons (fVar 4) (fCons (fVar 5) fNil))))) (fC (.int 0)))))))))))))))))))))))
noncomputable def g_law : List PyData → Option PyData := runD 14 fb_law
theorem gLst5 (a b c d e : PyData) : fLst (fCons (fC a) (fCons (fC b) (fCons (fC c) (fCons (fC d) (fCons (fC e) fNil))))) = fun _ => some [a, b, c, d, e] := rfl
theorem e_num (ns : List Int) (k : Int) (hk : 0 ≤ k ∧ k < 7) : ∃ x : Int, g__law_number [scrD ns, .int k] = some (.int x) ∧ Bd 300 x := by
  have hm : ∃ p : Int, (f2 gIx (fL (fLst (fCons (fC (.int 1)) (fCons (fC (.int 2)) (fCons (fC (.int 4)) (fCons (fC (.int 8)) (fCons (fC (.int 16)) fNil))))))) (f2 gMod (fVar 1) (fC (.int 5)))) [some (scrD ns), some (.int k)] = some (.int p) ∧ 0 < p ∧ Bd 10 p := by
    rw [gLst5]
    walk_at "dl"
    have h5 : k % 5 = 0 ∨ k % 5 = 1 ∨ k % 5 = 2 ∨ k % 5 = 3 ∨ k % 5 = 4 := by omega
    rcases h5 with h | h | h | h | h <;> rw [h] <;> exact ⟨_, rfl, by decide, bd_lit (by decide)⟩
  obtain ⟨p, hp, p0, bp⟩ := hm
  have hc : fTst (f2 gEq (f2 gMod (f2 gDiv (fCallF 2 g__law_cell_at (fCons (fVar 0) (fCons (fC (.int 8)) fNil))) (f2 gIx (fL (fLst (fCons (fC (.int 1)) (fCons (fC (.int 2)) (fCons (fC (.int 4)) (fCons (fC (.int 8)) (fCons (fC (.int 16)) fNil))))))) (f2 gMod (fVar 1) (fC (.int 5))))) (fC (.int 2))) (fC (.int 1))) [some (scrD ns), some (.int k)] = some (decide (cell ns 8 / p % 2 = 1)) := by
    unfold fTst
    unfold f2 at hp ⊢
    rw [hp]
    have := bd_mono bp (show 10 ≤ 8999 by decide)
    walk_at "dl"
  have hk0 : 0 ≤ k := hk.1
  have e := e_cell ns k hk0
  refine Exists.elim (p := fun r => fb__law_number (sto0 2 [scrD ns, .int k]) = .ret (.int r) ∧ Bd 300 r) ?_ fun r h => ⟨r, runD_ret h.1, h.2⟩
  unfold fb__law_number
  by_cases c : cell ns 8 / p % 2 = 1
  · refine ⟨cell ns k.toNat % 21 - 10, dSeq_ret ?_, by walk_at "bd"⟩
    rw [dIf_p (p := cell ns 8 / p % 2 = 1) hc, if_pos c]
    walk_at "dl"
  · refine ⟨cell ns k.toNat % 10 ^ 18 - 10 ^ 17, dSeq_step (ρ' := sto0 2 [scrD ns, .int k]) ?_ ?_, by walk_at "bd"⟩
    · rw [dIf_p (p := cell ns 8 / p % 2 = 1) hc, if_neg c]; rfl
    · walk_at "dl"
/-- floor sums of steps and starts that part by whole times the divisor -/
theorem FS_more {m : Int} (hm : 0 < m) (a b u v : Int) : ∀ n : Nat, FS n m (a + u * m) (b + v * m) = FS n m a b + u * triZ n + v * n
  | 0 => by simp [FS, triZ]
  | n + 1 => by
    rw [FS, FS, FS_more hm a b u v n, triZ]
    have e : (a + u * m) * n + (b + v * m) = (a * n + b) + (u * n + v) * m := by
      rw [Int.add_mul, Int.add_mul, Int.mul_assoc, Int.mul_comm m, ← Int.mul_assoc]; omega
    rw [e, Int.add_mul_ediv_right _ _ (by omega), Int.mul_add]
    have h1 : ((n + 1 : Nat) : Int) = (n : Int) + 1 := by omega
    rw [h1, Int.mul_add]; omega
theorem later_div {m a b n : Int} (hm : 0 < m) : ∃ q, b % m + a % m * n % m = b + a * n + q * m := by
  have h1 := Int.mul_ediv_add_emod b m
  have h2 := Int.mul_ediv_add_emod a m
  have h3 := Int.mul_ediv_add_emod (a % m * n) m
  refine ⟨-(b / m) - (a / m) * n - (a % m * n / m), ?_⟩
  have e1 : a * n = m * (a / m) * n + a % m * n := by rw [← Int.add_mul, h2]
  rw [Int.sub_mul, Int.sub_mul, Int.neg_mul, e1, Int.mul_comm (b / m), Int.mul_comm (a % m * n / m)]
  have e2 : a / m * n * m = m * (a / m) * n := by rw [Int.mul_assoc, Int.mul_comm n, ← Int.mul_assoc, Int.mul_comm (a / m)]
  rw [e2]; omega
theorem law_true (ns : List Int) (hl : ns.length ≤ 63) : g_law [scrD ns] = some (.bool true) := by
  obtain ⟨x2, e2, y2⟩ := e_num ns 2 (by omega)
  obtain ⟨step, e3, y3⟩ := e_num ns 3 (by omega)
  obtain ⟨start, e4, y4⟩ := e_num ns 4 (by omega)
  obtain ⟨u, e5, y5⟩ := e_num ns 5 (by omega)
  obtain ⟨v, e6, y6⟩ := e_num ns 6 (by omega)
  refine runD_ret ?_
  unfold fb_law
  have hp : (0 : Int) < 10 ^ 30 := by decide
  have i0 := Int.emod_nonneg (cell ns 0) (show (10 ^ 30 : Int) ≠ 0 by omega)
  have i1 := Int.emod_nonneg (cell ns 1) (show (10 ^ 30 : Int) ≠ 0 by omega)
  have b0 : Bd 300 (cell ns 0 % 10 ^ 30) := by walk_at "bd"
  have b1 : Bd 300 (cell ns 1 % 10 ^ 30) := by walk_at "bd"
  refine dSeq_step (by walk_at "dl"; exact rfl) ?_
  refine dSeq_step (by walk_at "dl"; exact rfl) ?_
  generalize cell ns 0 % 10 ^ 30 = one at i0 b0
  generalize cell ns 1 % 10 ^ 30 = other at i1 b1
  refine dSeq_step (by walk_at "dl"; simp only [e2, bind_some', gAbs_int, gI0_ii]; exact rfl) ?_
  refine dSeq_step (by walk_at "dl"; simp only [e3]; exact rfl) ?_
  refine dSeq_step (by walk_at "dl"; simp only [e4]; exact rfl) ?_
  refine dSeq_step (by walk_at "dl"; simp only [e5]; exact rfl) ?_
  refine dSeq_step (by walk_at "dl"; simp only [e6]; exact rfl) ?_
  have hb : 0 < 1 + (if x2 < 0 then -x2 else x2) := by split <;> omega
  have bb : Bd 302 (1 + (if x2 < 0 then -x2 else x2)) := by split <;> walk_at "bd"
  generalize 1 + (if x2 < 0 then -x2 else x2) = below at hb bb
  have f1 := e_floor one below step start i0 hb (by walk_at "bd") (by walk_at "bd") (by walk_at "bd") (by walk_at "bd")
  refine dSeq_step (by walk_at "dl"; simp only [f1]; exact rfl) ?_
  refine dSeq_step (by walk_at "dl"; exact rfl) ?_
  obtain ⟨q, hq⟩ := later_div (a := step) (b := start) (n := one) hb
  have bl : Bd 400 (start % below + step % below * one % below) := by walk_at "bd"
  generalize hlat : start % below + step % below * one % below = later at bl
  have f2 := e_floor other below step later i1 hb (by walk_at "bd") (by walk_at "bd") (by walk_at "bd") (by walk_at "bd")
  refine dSeq_step (by walk_at "dl"; simp only [f2]; exact rfl) ?_
  refine dSeq_step (ρ' := _) ((dIf_f (by walk_at "dl")).trans rfl) ?_
  refine dSeq_step (by walk_at "dl"; exact rfl) ?_
  have f3 := e_floor (one + other) below step start (by omega) hb (by walk_at "bd") (by walk_at "bd") (by walk_at "bd") (by walk_at "bd")
  refine dSeq_step (by walk_at "dl"; simp only [f3]; exact rfl) ?_
  have hlat2 : later = start + step * one + q * below := by omega
  have hmv : (later - start - step * one) / below = q := by
    rw [hlat2]
    have e : start + step * one + q * below - start - step * one = 0 + q * below := by omega
    rw [e, Int.add_mul_ediv_right _ _ (by omega)]; simp
  have hone := toNat_nn one i0
  have hoth := toNat_nn other i1
  have g1 : FS (one + other).toNat below step start = FS one.toNat below step start + FS other.toNat below step later - (later - start - step * one) / below * other := by
    have h1 : (one + other).toNat = one.toNat + other.toNat := by omega
    rw [h1, FS_add, hmv, hlat2, hone]
    have h2 := FS_more hb step (start + step * one) 0 q other.toNat
    rw [Int.zero_mul, Int.zero_mul, Int.add_zero, hoth] at h2
    rw [h2]; omega
  have bq : Bd 1000 ((later - start - step * one) / below) := by walk_at "bd"
  refine dSeq_step (ρ' := _) ((dIf_f (by walk_at "dl"; rw [decide_eq_true g1]; rfl)).trans rfl) ?_
  have f4 := e_floor one below (step + u * below) (start + v * below) i0 hb (by walk_at "bd") (by walk_at "bd") (by walk_at "bd") (by walk_at "bd")
  refine dSeq_step (by walk_at "dl"; simp only [f4]; exact rfl) ?_
  have g2 : FS one.toNat below (step + u * below) (start + v * below) = FS one.toNat below step start + u * (one * (one - 1) / 2) + v * one := by
    have h3 := triZ_div one.toNat
    rw [hone] at h3
    rw [FS_more hb, h3, hone]
  refine dSeq_step (ρ' := _) ((dIf_f (by walk_at "dl"; rw [decide_eq_true g2]; rfl)).trans rfl) ?_
  have f5 := e_floor 1 below step start (by omega) hb (bd_mono (n := 10) (bd_lit (by decide)) (by decide)) (by walk_at "bd") (by walk_at "bd") (by walk_at "bd")
  have f6 := e_floor 0 below step start (by omega) hb (bd_mono (n := 10) (bd_lit (by decide)) (by decide)) (by walk_at "bd") (by walk_at "bd") (by walk_at "bd")
  have g3 : FS (1 : Int).toNat below step start = start / below := by simp [FS]
  rw [g3] at f5
  have g4 : FS (0 : Int).toNat below step start = 0 := rfl
  rw [g4] at f6
  walk_at "dl"
  simp only [f5, f6]
  walk_at "dl"
  simp

end LW

/-! part walk -/
namespace LW
open PySem PySem.Spec PyProof.Rows L2 DL
def topS (i : Nat) : Stmt := PySem.Challenge.pw_fencefield_k08_floor_sums_far.main.body.getD i (.Pass ⟨0, 0, 0, 0⟩)
abbrev s_floor_sum : Stmt := topS 1
abbrev nm_floor_sum : List Str := ["count", "below", "step", "start", "total", "top", "later"]
theorem sc_floor_sum : FnScope nm_floor_sum ["count", "below", "step", "start"] (defScope s_floor_sum) := ⟨rfl, rfl, rfl, by decide +kernel, rfl, by decide +kernel, by decide +kernel⟩
abbrev s__law_cell_at : Stmt := topS 3
abbrev nm__law_cell_at : List Str := ["script", "k"]
theorem sc__law_cell_at : FnScope nm__law_cell_at ["script", "k"] (defScope s__law_cell_at) := ⟨rfl, rfl, rfl, by decide +kernel, rfl, by decide +kernel, by decide +kernel⟩
abbrev s__law_whole : Stmt := topS 4
abbrev nm__law_whole : List Str := ["found"]
theorem sc__law_whole : FnScope nm__law_whole ["found"] (defScope s__law_whole) := ⟨rfl, rfl, rfl, by decide +kernel, rfl, by decide +kernel, by decide +kernel⟩
abbrev s__law_number : Stmt := topS 5
abbrev nm__law_number : List Str := ["script", "k"]
theorem sc__law_number : FnScope nm__law_number ["script", "k"] (defScope s__law_number) := ⟨rfl, rfl, rfl, by decide +kernel, rfl, by decide +kernel, by decide +kernel⟩
abbrev s_law : Stmt := topS 6
abbrev nm_law : List Str := ["script", "one", "other", "below", "step", "start", "u", "v", "whole", "later", "rest", "moved", "both", "more"]
theorem sc_law : FnScope nm_law ["script"] (defScope s_law) := ⟨rfl, rfl, rfl, by decide +kernel, rfl, by decide +kernel, by decide +kernel⟩
section
variable {P : Program} {w : World} {K : PySem.W.Frag} {mg : Str → Option Value} {base : Heap}
theorem ok_floor_sum {f : Addr} {fd : FuncData} (Fn : Fun K "floor_sum" "floor_sum" s_floor_sum f fd) (B : Blts mg) : FnOk P w K mg base CX0 1 f fd ["count", "below", "step", "start"] (spD K 4 g_floor_sum) :=
  def_D (k := 0) (n := 4) (m := 7) (F := fb_floor_sum) Fn sc_floor_sum rfl rfl fun cdv A outer s H E hr =>
  (dss_cons (ds_set (i := 4) sc_floor_sum.nd de_int)
 (dss_cons (ds_while fuD PassesOwn.never (dt_gt (de_var 0) de_int)
 (dss_cons (ds_set (i := 4) sc_floor_sum.nd (de_add (de_add (de_var 4) (de_mul (de_div (de_var 2) (de_var 1)) (de_div (de_mul (de_var 0) (de_sub (de_var 0) de_int)) de_int))) (de_mul (de_div (de_var 3) (de_var 1)) (de_var 0))))
 (dss_cons (ds_set (i := 2) sc_floor_sum.nd (de_mod (de_var 2) (de_var 1)))
 (dss_cons (ds_set (i := 3) sc_floor_sum.nd (de_mod (de_var 3) (de_var 1)))
 (dss_cons (ds_set (i := 5) sc_floor_sum.nd (de_add (de_mul (de_var 2) (de_var 0)) (de_var 3)))
 (dss_cons (ds_if (dt_lt (de_var 5) (de_var 1))
 (dss_one (ds_ret (de_var 4)))
 dss_nil)
 (dss_cons (ds_set (i := 0) sc_floor_sum.nd (de_div (de_var 5) (de_var 1)))
 (dss_cons (ds_set (i := 3) sc_floor_sum.nd (de_mod (de_var 5) (de_var 1)))
 (dss_cons (ds_set (i := 6) sc_floor_sum.nd (de_var 1))
 (dss_cons (ds_set (i := 1) sc_floor_sum.nd (de_var 2))
 (dss_one (ds_set (i := 2) sc_floor_sum.nd (de_var 6)))))))))))))
 (dss_one (ds_ret (de_var 4)))))
theorem ok__law_cell_at {f : Addr} {fd : FuncData} (Fn : Fun K "_law_cell_at" "_law_cell_at" s__law_cell_at f fd) (B : Blts mg) : FnOk P w K mg base CX0 1 f fd ["script", "k"] (spD K 2 g__law_cell_at) :=
  def_D (k := 0) (n := 2) (m := 2) (F := fb__law_cell_at) Fn sc__law_cell_at rfl rfl fun cdv A outer s H E hr =>
  (dss_cons (ds_if (dt_lt (de_var 1) (de_len B.len (ha := (da_cons (de_var 0) da_nil))))
 (dss_one (ds_ret (de_ix rfl (de_var 0) (de_var 1))))
 dss_nil)
 (dss_one (ds_ret de_int)))
theorem ok__law_whole {f : Addr} {fd : FuncData} (Fn : Fun K "_law_whole" "_law_whole" s__law_whole f fd) (B : Blts mg) : FnOk P w K mg base CX0 1 f fd ["found"] (spD K 1 g__law_whole) :=
  def_D (k := 0) (n := 1) (m := 1) (F := fb__law_whole) Fn sc__law_whole rfl rfl fun cdv A outer s H E hr =>
  (dss_one (ds_ret (de_and (de_fB (de_isi (T := "int") B.isinstance B.int rfl (ha := (de_var 0)))) (de_one (de_not (de_fB (de_isi (T := "bool") B.isinstance B.bool rfl (ha := (de_var 0)))))))))
theorem ok__law_number {f : Addr} {fd : FuncData} (Fn : Fun K "_law_number" "_law_number" s__law_number f fd) (B : Blts mg) (h__law_cell_at : Has P w K mg base "_law_cell_at" 1 ["script", "k"] (spD K 2 g__law_cell_at)) : FnOk P w K mg base CX0 2 f fd ["script", "k"] (spD K 2 g__law_number) :=
  def_D (k := 1) (n := 2) (m := 2) (F := fb__law_number) Fn sc__law_number rfl rfl fun cdv A outer s H E hr =>
  (dss_cons (ds_if (dt_eq hr rfl (de_mod (de_div (de_user h__law_cell_at hr (da_cons (de_var 0) (da_cons de_int da_nil))) (de_ix rfl (dn_de (dn_lst (da_cons de_int (da_cons de_int (da_cons de_int (da_cons de_int (da_cons de_int da_nil))))))) (de_mod (de_var 1) de_int))) de_int) de_int)
 (dss_one (ds_ret (de_sub (de_mod (de_user h__law_cell_at hr (da_cons (de_var 0) (da_cons (de_var 1) da_nil))) de_int) de_int)))
 dss_nil)
 (dss_one (ds_ret (de_sub (de_mod (de_user h__law_cell_at hr (da_cons (de_var 0) (da_cons (de_var 1) da_nil))) (de_pow de_int de_int)) (de_pow de_int de_int)))))
theorem ok_law {f : Addr} {fd : FuncData} (Fn : Fun K "law" "law" s_law f fd) (B : Blts mg) (h__law_cell_at : Has P w K mg base "_law_cell_at" 1 ["script", "k"] (spD K 2 g__law_cell_at)) (h__law_number : Has P w K mg base "_law_number" 2 ["script", "k"] (spD K 2 g__law_number)) (h_floor_sum : Has P w K mg base "floor_sum" 1 ["count", "below", "step", "start"] (spD K 4 g_floor_sum)) (h__law_whole : Has P w K mg base "_law_whole" 1 ["found"] (spD K 1 g__law_whole)) : FnOk P w K mg base CX0 3 f fd ["script"] (spD K 1 g_law) :=
  def_D (k := 2) (n := 1) (m := 14) (F := fb_law) Fn sc_law rfl rfl fun cdv A outer s H E hr =>
  (dss_cons (ds_set (i := 1) sc_law.nd (de_mod (de_user h__law_cell_at hr (da_cons (de_var 0) (da_cons de_int da_nil))) (de_pow de_int de_int)))
 (dss_cons (ds_set (i := 2) sc_law.nd (de_mod (de_user h__law_cell_at hr (da_cons (de_var 0) (da_cons de_int da_nil))) (de_pow de_int de_int)))
 (dss_cons (ds_set (i := 3) sc_law.nd (de_add de_int (de_abs B.abs (ha := (da_cons (de_user h__law_number hr (da_cons (de_var 0) (da_cons de_int da_nil))) da_nil)))))
 (dss_cons (ds_set (i := 4) sc_law.nd (de_user h__law_number hr (da_cons (de_var 0) (da_cons de_int da_nil))))
 (dss_cons (ds_set (i := 5) sc_law.nd (de_user h__law_number hr (da_cons (de_var 0) (da_cons de_int da_nil))))
 (dss_cons (ds_set (i := 6) sc_law.nd (de_user h__law_number hr (da_cons (de_var 0) (da_cons de_int da_nil))))
 (dss_cons (ds_set (i := 7) sc_law.nd (de_user h__law_number hr (da_cons (de_var 0) (da_cons de_int da_nil))))
 (dss_cons (ds_set (i := 8) sc_law.nd (de_user h_floor_sum hr (da_cons (de_var 1) (da_cons (de_var 3) (da_cons (de_var 4) (da_cons (de_var 5) da_nil))))))
 (dss_cons (ds_set (i := 9) sc_law.nd (de_add (de_mod (de_var 5) (de_var 3)) (de_mod (de_mul (de_mod (de_var 4) (de_var 3)) (de_var 1)) (de_var 3))))
 (dss_cons (ds_set (i := 10) sc_law.nd (de_user h_floor_sum hr (da_cons (de_var 2) (da_cons (de_var 3) (da_cons (de_var 4) (da_cons (de_var 9) da_nil))))))
 (dss_cons (ds_if (dw_dt (dw_or (dt_not (dt_val (de_user h__law_whole hr (da_cons (de_var 8) da_nil)))) (dw_or1 (dt_not (dt_val (de_user h__law_whole hr (da_cons (de_var 10) da_nil)))))))
 (dss_one (ds_ret de_bl))
 dss_nil)
 (dss_cons (ds_set (i := 11) sc_law.nd (de_div (de_sub (de_sub (de_var 9) (de_var 5)) (de_mul (de_var 4) (de_var 1))) (de_var 3)))
 (dss_cons (ds_set (i := 12) sc_law.nd (de_user h_floor_sum hr (da_cons (de_add (de_var 1) (de_var 2)) (da_cons (de_var 3) (da_cons (de_var 4) (da_cons (de_var 5) da_nil))))))
 (dss_cons (ds_if (dw_dt (dw_or (dt_not (dt_val (de_user h__law_whole hr (da_cons (de_var 12) da_nil)))) (dw_or1 (dt_ne hr rfl (de_var 12) (de_sub (de_add (de_var 8) (de_var 10)) (de_mul (de_var 11) (de_var 2)))))))
 (dss_one (ds_ret de_bl))
 dss_nil)
 (dss_cons (ds_set (i := 13) sc_law.nd (de_user h_floor_sum hr (da_cons (de_var 1) (da_cons (de_var 3) (da_cons (de_add (de_var 4) (de_mul (de_var 6) (de_var 3))) (da_cons (de_add (de_var 5) (de_mul (de_var 7) (de_var 3))) da_nil))))))
 (dss_cons (ds_if (dw_dt (dw_or (dt_not (dt_val (de_user h__law_whole hr (da_cons (de_var 13) da_nil)))) (dw_or1 (dt_ne hr rfl (de_var 13) (de_add (de_add (de_var 8) (de_mul (de_var 6) (de_div (de_mul (de_var 1) (de_sub (de_var 1) de_int)) de_int))) (de_mul (de_var 7) (de_var 1)))))))
 (dss_one (ds_ret de_bl))
 dss_nil)
 (dss_one (ds_ret (de_and (de_fB (de_eq hr rfl (de_user h_floor_sum hr (da_cons de_int (da_cons (de_var 3) (da_cons (de_var 4) (da_cons (de_var 5) da_nil))))) (de_div (de_var 5) (de_var 3)))) (de_one (de_fB (de_eq hr rfl (de_user h_floor_sum hr (da_cons de_int (da_cons (de_var 3) (da_cons (de_var 4) (da_cons (de_var 5) da_nil))))) de_int))))))))))))))))))))))
end
theorem all_mk {l : PySem.W.OpenLaw} {w : World} {K : PySem.W.Frag} {h : Heap} {mg : Str → Option Value} {fa : Addr} (X : K.In h) (G : h.Ns mainGlobals mg) (hfa : mg "law" = some (.ref fa))
    {f1 f2 f3 f4 f5 : Addr}
    {od1 an1 od2 an2 od3 an3 od4 an4 od5 an5 : Option Addr} {sl1 sl2 sl3 sl4 sl5 : Array (Option Value)} {oc1 kV1 dc1 pm1 cd1 ct1 oc2 kV2 dc2 pm2 cd2 ct2 oc3 kV3 dc3 pm3 cd3 ct3 oc4 kV4 dc4 pm4 cd4 ct4 oc5 kV5 dc5 pm5 cd5 ct5 : Value}
    (a1 : PySem.W.nsIn K mainGlobals "floor_sum" = some (some (.ref f1))) (l1 : K.lookup f1 = some ⟨oc1, od1, .func (PySem.W.fnOf "floor_sum" "floor_sum" (defArgs s_floor_sum) (defBody s_floor_sum) (defScope s_floor_sum) .none kV1 dc1 pm1 an1 cd1 ct1), sl1⟩) (k1 : PySem.W.codeIn K cd1 "floor_sum" = true) (q1 : PySem.W.keepIn K (.ref f1) = true)
    (a2 : PySem.W.nsIn K mainGlobals "_law_cell_at" = some (some (.ref f2))) (l2 : K.lookup f2 = some ⟨oc2, od2, .func (PySem.W.fnOf "_law_cell_at" "_law_cell_at" (defArgs s__law_cell_at) (defBody s__law_cell_at) (defScope s__law_cell_at) .none kV2 dc2 pm2 an2 cd2 ct2), sl2⟩) (k2 : PySem.W.codeIn K cd2 "_law_cell_at" = true) (q2 : PySem.W.keepIn K (.ref f2) = true)
    (a3 : PySem.W.nsIn K mainGlobals "_law_whole" = some (some (.ref f3))) (l3 : K.lookup f3 = some ⟨oc3, od3, .func (PySem.W.fnOf "_law_whole" "_law_whole" (defArgs s__law_whole) (defBody s__law_whole) (defScope s__law_whole) .none kV3 dc3 pm3 an3 cd3 ct3), sl3⟩) (k3 : PySem.W.codeIn K cd3 "_law_whole" = true) (q3 : PySem.W.keepIn K (.ref f3) = true)
    (a4 : PySem.W.nsIn K mainGlobals "_law_number" = some (some (.ref f4))) (l4 : K.lookup f4 = some ⟨oc4, od4, .func (PySem.W.fnOf "_law_number" "_law_number" (defArgs s__law_number) (defBody s__law_number) (defScope s__law_number) .none kV4 dc4 pm4 an4 cd4 ct4), sl4⟩) (k4 : PySem.W.codeIn K cd4 "_law_number" = true) (q4 : PySem.W.keepIn K (.ref f4) = true)
    (a5 : PySem.W.nsIn K mainGlobals "law" = some (some (.ref f5))) (l5 : K.lookup f5 = some ⟨oc5, od5, .func (PySem.W.fnOf "law" "law" (defArgs s_law) (defBody s_law) (defScope s_law) .none kV5 dc5 pm5 an5 cd5 ct5), sl5⟩) (k5 : PySem.W.codeIn K cd5 "law" = true) (q5 : PySem.W.keepIn K (.ref f5) = true)
    (z_len : PySem.W.nsIn K mainGlobals "len" = some none)
    (z_abs : PySem.W.nsIn K mainGlobals "abs" = some none)
    (z_max : PySem.W.nsIn K mainGlobals "max" = some none)
    (z_min : PySem.W.nsIn K mainGlobals "min" = some none)
    (z_sum : PySem.W.nsIn K mainGlobals "sum" = some none)
    (z_int : PySem.W.nsIn K mainGlobals "int" = some none)
    (z_bool : PySem.W.nsIn K mainGlobals "bool" = some none)
    (z_str : PySem.W.nsIn K mainGlobals "str" = some none)
    (z_list : PySem.W.nsIn K mainGlobals "list" = some none)
    (z_tuple : PySem.W.nsIn K mainGlobals "tuple" = some none)
    (z_range : PySem.W.nsIn K mainGlobals "range" = some none)
    (z_isinstance : PySem.W.nsIn K mainGlobals "isinstance" = some none)
    (z_all : PySem.W.nsIn K mainGlobals "all" = some none)
    (z_sorted : PySem.W.nsIn K mainGlobals "sorted" = some none)
    (z_set : PySem.W.nsIn K mainGlobals "set" = some none)
    (z_reversed : PySem.W.nsIn K mainGlobals "reversed" = some none)
    : ∃ fd : FuncData, (∀ (s : Shared) (v : Value), BindsTo s fd ⟨[v], []⟩ [("script", v)]) ∧ ∀ base : Heap, K.In base → base.Ns mainGlobals mg → FnOk l.prog w K mg base CX0 3 fa fd ["script"] (spD K 1 g_law) := by
  have e := hfa.symm.trans (PySem.W.mg_of X G a5)
  cases e
  have B : Blts mg := ⟨PySem.W.mg_none_of X G z_len, PySem.W.mg_none_of X G z_abs, PySem.W.mg_none_of X G z_max, PySem.W.mg_none_of X G z_min, PySem.W.mg_none_of X G z_sum, PySem.W.mg_none_of X G z_int, PySem.W.mg_none_of X G z_bool, PySem.W.mg_none_of X G z_str, PySem.W.mg_none_of X G z_list, PySem.W.mg_none_of X G z_tuple, PySem.W.mg_none_of X G z_range, PySem.W.mg_none_of X G z_isinstance, PySem.W.mg_none_of X G z_all, PySem.W.mg_none_of X G z_sorted, PySem.W.mg_none_of X G z_set, PySem.W.mg_none_of X G z_reversed⟩
  have F1 := fun_mk (st := s_floor_sum) l1 k1 q1
  have b1 := F1.binds (ps := ["count", "below", "step", "start"]) fun _ _ _ _ _ _ us hl => match us, hl with | [_, _, _, _], _ => rfl
  have F2 := fun_mk (st := s__law_cell_at) l2 k2 q2
  have b2 := F2.binds (ps := ["script", "k"]) fun _ _ _ _ _ _ us hl => match us, hl with | [_, _], _ => rfl
  have F3 := fun_mk (st := s__law_whole) l3 k3 q3
  have b3 := F3.binds (ps := ["found"]) fun _ _ _ _ _ _ us hl => match us, hl with | [_], _ => rfl
  have F4 := fun_mk (st := s__law_number) l4 k4 q4
  have b4 := F4.binds (ps := ["script", "k"]) fun _ _ _ _ _ _ us hl => match us, hl with | [_, _], _ => rfl
  have F5 := fun_mk (st := s_law) l5 k5 q5
  refine ⟨PySem.W.fnOf "law" "law" (defArgs s_law) (defBody s_law) (defScope s_law) .none kV5 dc5 pm5 an5 cd5 ct5, fun s v => .of_eq rfl, fun base _ _ => ?_⟩
  have h_floor_sum : Has l.prog w K mg base "floor_sum" 1 ["count", "below", "step", "start"] (spD K 4 g_floor_sum) := ⟨_, _, ok_floor_sum F1 B, PySem.W.mg_of X G a1, q1, b1⟩
  have h__law_cell_at : Has l.prog w K mg base "_law_cell_at" 1 ["script", "k"] (spD K 2 g__law_cell_at) := ⟨_, _, ok__law_cell_at F2 B, PySem.W.mg_of X G a2, q2, b2⟩
  have h__law_whole : Has l.prog w K mg base "_law_whole" 1 ["found"] (spD K 1 g__law_whole) := ⟨_, _, ok__law_whole F3 B, PySem.W.mg_of X G a3, q3, b3⟩
  have h__law_number : Has l.prog w K mg base "_law_number" 2 ["script", "k"] (spD K 2 g__law_number) := ⟨_, _, ok__law_number F4 B h__law_cell_at, PySem.W.mg_of X G a4, q4, b4⟩
  exact ok_law F5 B h__law_cell_at h__law_number h_floor_sum h__law_whole
end LW

/-! part end -/
open PySem PySem.W PyProof.Rows
set_option maxHeartbeats 0 in
theorem PySem.Challenge.cw_fencefield_k08_floor_sums_far_holds : PySem.Challenge.rw_fencefield_k08_floor_sums_far.Holds := by
  w_on; o_law; k_head; (case hw => w_witness2)
  k_fill
  refine L2.walk_of (l := PySem.Challenge.rw_fencefield_k08_floor_sums_far) (n := 63) (k := 3) (x := "script") (CX := fun _ => L2.CX0) (sp := fun w => DL.spD _ 1 LW.g_law) rfl (by decide) rfl ⟨rfl, by decide, by decide⟩ (fun w h Y => PySem.W.kIn_of Y) ?F (fun _ H a ns hl _ hS => ⟨rfl, H, [DL.scrD ns], .bool true, L2.Same.refl H, .cons (.scr hS) .nil, LW.law_true ns hl, fun v H' Z' _ r => by cases r; rfl⟩) (fun _ _ _ _ _ h => h)
  case F =>
    intro w mg fa h KX G hmg
    refine' LW.all_mk KX G hmg ?a1 ?l1 ?k1 ?q1 ?a2 ?l2 ?k2 ?q2 ?a3 ?l3 ?k3 ?q3 ?a4 ?l4 ?k4 ?q4 ?a5 ?l5 ?k5 ?q5 ?z_len ?z_abs ?z_max ?z_min ?z_sum ?z_int ?z_bool ?z_str ?z_list ?z_tuple ?z_range ?z_isinstance ?z_all ?z_sorted ?z_set ?z_reversed
    (case a1 => k_is); (case l1 => k_is); (case k1 => k_is); (case q1 => k_is); (case a2 => k_is); (case l2 => k_is); (case k2 => k_is); (case q2 => k_is); (case a3 => k_is); (case l3 => k_is); (case k3 => k_is); (case q3 => k_is); (case a4 => k_is); (case l4 => k_is); (case k4 => k_is); (case q4 => k_is); (case a5 => k_is); (case l5 => k_is); (case k5 => k_is); (case q5 => k_is); (case z_len => k_is); (case z_abs => k_is); (case z_max => k_is); (case z_min => k_is); (case z_sum => k_is); (case z_int => k_is); (case z_bool => k_is); (case z_str => k_is); (case z_list => k_is); (case z_tuple => k_is); (case z_range => k_is); (case z_isinstance => k_is); (case z_all => k_is); (case z_sorted => k_is); (case z_set => k_is); (case z_reversed => k_is)
